import PyProof.Rows.All
import Wide.All
import OpenK.AllK
import Wide.FinOn
import HandS.ForMost
import HandS.ForExc
import HandS.Property
import HandS.ClsMeth
import HandS.Star
import HandS.Defaults
import HandS.IsInst
import HandS.Deep
import HandS.Sort
import HandS.SortRule
import HandS.Conv
import HandS.Flow
import HandS.Lambda
import HandS.EndTab
import KE.KNestM
import HandS.TupAny
import HandS.TupLe
import HandS.SortInts
import KE.GoesEnum
import KE.GoesMore
import HandS.Codes
import KE.KDictKeyed
import KE.KeyNested
import HandS.Style
import HandS.TryOnly
import HandS.GenList
import HandS.GenYield
import HandS.Iter
import KE.KLam
import HandS.CallLocal
import HandS.TupMul
import PyProof.StrBlock2
import HandS.SortOrd
import KE.SortData
import KE.DataMinMax
import PyProof.Rows.RowBridgeK
import HandS.ExcInit
import HandS.ExcField
import HandS.ExcIs
import HandS.WordsExc
import PyProof.Rows.CountFlat
import KE.KExcIs
import KE.KIsAll
import HandS.ExcOwn
import PySem.Challenge.RW_doorkeys_k08_invalid_houses
set_option Elab.async false
set_option autoImplicit false
set_option linter.all false
set_option maxRecDepth 100000
set_option maxHeartbeats 4000000
/-! MirA -/
/-! Mir: values as plain data, what represents them on the abstract heap, and judgements "this reading does what this mirror says". -/
namespace Mir
open PySem PySem.Spec PyProof.Rows L2
/-- the tables of code objects that may grow, each with the name of what is made there -/
class Tbl where
  T : List (Addr × Str)
instance (priority := low) noTbl : Tbl := ⟨[]⟩
variable [Tbl]
inductive D where
  | non | bl (b : Bool) | int (i : Int) | str (x : Str) | tup (ds : List D) | lst (ds : List D) | ins (c : Nat) (ds : List D) | dic (ks vs : List D)
abbrev Env := List (Option D)
structure Exn where
  c : Nat
  ds : List D
inductive Out (α : Type) where
  | ok (a : α) (e : Env) | exc (x : Exn) (e : Env) | bad
def Out.bind {α β : Type} (o : Out α) (f : α → Env → Out β) : Out β := match o with
  | .ok a e => f a e
  | .exc x e => .exc x e
  | .bad => .bad
@[simp] theorem Out.bind_ok {α β : Type} (a : α) (e : Env) (f : α → Env → Out β) : (Out.ok a e).bind f = f a e := rfl
@[simp] theorem Out.bind_exc {α β : Type} (x : Exn) (e : Env) (f : α → Env → Out β) : (Out.exc x e : Out α).bind f = .exc x e := rfl
@[simp] theorem Out.bind_bad {α β : Type} (f : α → Env → Out β) : (Out.bad : Out α).bind f = .bad := rfl
/-- what a pure partial function gives -/
def Out.opt {α : Type} (o : Option α) (e : Env) : Out α := match o with
  | some a => .ok a e
  | none => .bad
@[simp] theorem Out.opt_some {α : Type} (a : α) (e : Env) : Out.opt (some a) e = .ok a e := rfl
@[simp] theorem Out.opt_none {α : Type} (e : Env) : (Out.opt none e : Out α) = .bad := rfl
inductive Fl where
  | next (e : Env) | brk (e : Env) | cont (e : Env) | ret (d : D) (e : Env) | exc (x : Exn) (e : Env) | bad
abbrev EM := Env → Out D
abbrev TM := Env → Out Bool
abbrev AM := Env → Out (List D)
abbrev SM := Env → Fl
/-! ### what represents a value -/
structure Sc where
  K : PySem.W.Frag
  ca : Nat → Addr
  fn : Nat → List Str
  Hb : Hp := fun _ => none
  lf : Nat → Addr := fun _ => 0
/-- no code object's table -/
def NT : HO → Prop
  | .tbl _ => False
  | _ => True
/-- what may not change stays as it is; the tables of code objects may grow -/
structure Ext (M : Addr → Prop) (H H' : Hp) : Prop where
  k : ∀ a o, H a = some o → (¬ M a ∨ ¬ Mut (some o)) → NT o → H' a = some o
  t : ∀ p ∈ Tbl.T, LamX.TabS H p.1 p.2 → LamX.TabS H' p.1 p.2
  d : ∀ a ps, H a = some (.tbl ps) → ∃ ps', H' a = some (.tbl ps')
theorem nt_mut {o : HO} (h : Mut (some o)) : NT o := by cases o <;> first | exact True.intro | exact h.elim
theorem tabS_keep {H H' : Hp} {P : Addr} {q : Str} (t : LamX.TabS H P q) (e : ∀ b o, H b = some o → ((∃ ps, o = .tbl ps) ∨ ∃ φ, o = .ext φ) → H' b = some o) : LamX.TabS H' P q := by
  obtain ⟨ps, h1, h2, h3⟩ := t
  refine ⟨ps, e _ _ h1 (.inl ⟨_, rfl⟩), h2, fun pos cv hc => ?_⟩
  obtain ⟨c, e1, e2⟩ := h3 pos cv hc
  exact ⟨c, e1, e _ _ e2 (.inr ⟨_, rfl⟩)⟩
/-- what is neither a table nor any other thing is written -/
def NX : HO → Prop
  | .tbl _ => False
  | .ext _ => False
  | _ => True
/-- the same, told of an address -/
def NY (a : Addr) (o : HO) : Prop := NT o ∧ ∀ q, o ≠ LamX.CodeO a q
theorem NX.y {a : Addr} {o : HO} (n : NX o) : NY a o := by
  refine ⟨?_, fun q z => ?_⟩
  · cases o <;> first | exact True.intro | exact n.elim
  · subst z
    exact n
theorem tabS_keep2 {H H' : Hp} {P : Addr} {q : Str} (t : LamX.TabS H P q) (e : ∀ b o, H b = some o → ((∃ ps, o = .tbl ps) ∨ ∃ q, o = LamX.CodeO b q) → H' b = some o) : LamX.TabS H' P q := by
  obtain ⟨ps, h1, h2, h3⟩ := t
  refine ⟨ps, e _ _ h1 (.inl ⟨_, rfl⟩), h2, fun pos cv hc => ?_⟩
  obtain ⟨c, e1, e2⟩ := h3 pos cv hc
  exact ⟨c, e1, e _ _ e2 (.inr ⟨_, rfl⟩)⟩
theorem tabS_updY {H : Hp} {a : Addr} {o o' : HO} (h : H a = some o) (n : NY a o) : ∀ P q, LamX.TabS H P q → LamX.TabS (L2.upd H a o') P q := fun P q t => tabS_keep2 t fun b u e c => by
  have ne : b ≠ a := fun z => by
    subst z
    rw [h] at e
    cases e
    rcases c with ⟨_, rfl⟩ | ⟨q, rfl⟩
    · exact n.1
    · exact n.2 q rfl
  rw [upd_ne ne]
  exact e
theorem tabS_upd {H : Hp} {a : Addr} {o o' : HO} (h : H a = some o) (n : NX o) : ∀ P q, LamX.TabS H P q → LamX.TabS (L2.upd H a o') P q := tabS_updY h n.y
def Nil : Addr → Prop := fun _ => False
def Fwd (F : Addr → Prop) (H : Hp) (F' : Addr → Prop) (H' : Hp) : Prop := Ext F H H' ∧ (∀ a, F' a → F a ∨ H a = none) ∧ (∀ a, H a ≠ none → H' a ≠ none)
mutual
def Rep (S : Sc) (F : Addr → Prop) (H : Hp) : D → V → Prop
  | .non, v => v = .non
  | .bl b, v => v = .bl b
  | .int i, v => v = .int i
  | .str x, v => v = .str x
  | .tup ds, v => ∃ a vs, v = .ref a ∧ SqT S.K H a vs ∧ RepL S F H ds vs
  | .lst ds, v => ∃ a vs, v = .ref a ∧ ¬ F a ∧ H a = some (.lst vs) ∧ RepL S F H ds vs
  | .ins c ds, v => ∃ a dx fs, v = .ref a ∧ ¬ F a ∧ H a = some (.ins (S.ca c) dx fs) ∧ fs.map (·.1) = (S.fn c).take ds.length ∧ RepL S F H ds (fs.map (·.2))
  | .dic ks _, v => (∃ c : Nat, ks = [.int (c : Int)] ∧ v = .ref (S.ca c)) ∨ ∃ k : Nat, ks = [.int 0, .int (k : Int)] ∧ v = .ref (S.lf k)
def RepL (S : Sc) (F : Addr → Prop) (H : Hp) : List D → List V → Prop
  | [], vs => vs = []
  | d :: ds, vs => ∃ v r, vs = v :: r ∧ Rep S F H d v ∧ RepL S F H ds r
end
theorem Ext.refl (M : Addr → Prop) (H : Hp) : Ext M H H := ⟨fun _ _ h _ _ => h, fun _ _ h => h, fun _ ps h => ⟨ps, h⟩⟩
theorem Ext.trans {M : Addr → Prop} {H H1 H2 : Hp} (a : Ext M H H1) (b : Ext M H1 H2) : Ext M H H2 := ⟨fun x o h c n => b.k x o (a.k x o h c n) c n, fun p hp h => b.t p hp (a.t p hp h), fun x ps h => let ⟨ps', e⟩ := a.d x ps h; b.d x ps' e⟩
theorem Ext.mono {M M' : Addr → Prop} {H H' : Hp} (e : Ext M H H') (h : ∀ a, M a → M' a) : Ext M' H H' := ⟨fun x o q c n => e.k x o q (c.imp (fun z y => z (h _ y)) id) n, e.t, e.d⟩
theorem Ext.nil {H H' : Hp} (e : Ext Nil H H') (a : Addr) (o : HO) (h : H a = some o) (n : NT o := by trivial) : H' a = some o := e.k a o h (.inl fun z => z) n
theorem Ext.of {M : Addr → Prop} {H H' : Hp} (e : ∀ a o, H a = some o → H' a = some o) : Ext M H H' := ⟨fun a o h _ _ => e a o h, fun p _ h => h.ext e, fun a ps h => ⟨ps, e a _ h⟩⟩
theorem Ext.new {M : Addr → Prop} {H : Hp} {p : Addr} {o : HO} (h : H p = none) : Ext M H (upd H p o) := Ext.of fun a u e => by
  rw [upd_ne (ne_of_none e h)]; exact e
theorem ext_againY {M : Addr → Prop} {H0 H : Hp} {a : Addr} {o o' : HO} (e : Ext M H0 H) (h3 : H a = some o) (m : M a ∨ H0 a = none) (mu : Mut (some o)) (nx : NY a o) : Ext M H0 (upd H a o') := ⟨fun b u h c n => by
  have ob := e.k b u h c n
  by_cases eb : b = a
  · subst eb
    rcases m with m | m
    · rw [h3] at ob
      cases ob
      exact (c.elim (fun z => z m) fun z => z mu).elim
    · rw [m] at h; cases h
  · rw [upd_ne eb]
    exact ob, fun p hp t => tabS_updY h3 nx p.1 p.2 (e.t p hp t), fun b ps h => by
  obtain ⟨ps', h'⟩ := e.d b ps h
  have ne : b ≠ a := fun z => by
    subst z
    rw [h3] at h'
    cases h'
    exact nx.1
  exact ⟨ps', by rw [upd_ne ne]; exact h'⟩⟩
theorem ext_again {M : Addr → Prop} {H0 H : Hp} {a : Addr} {o o' : HO} (e : Ext M H0 H) (h3 : H a = some o) (m : M a ∨ H0 a = none) (mu : Mut (some o)) (nx : NX o) : Ext M H0 (upd H a o') := ext_againY e h3 m mu nx.y
theorem ext_upd {M : Addr → Prop} {H : Hp} {a : Addr} {o o' : HO} (h3 : H a = some o) (m : M a) (mu : Mut (some o)) (nx : NX o) : Ext M H (upd H a o') := ext_again ⟨fun _ _ h _ _ => h, fun _ _ h => h, fun _ ps h => ⟨ps, h⟩⟩ h3 (.inl m) mu nx
theorem tabS_back {H : Hp} {a : Addr} {o : HO} (n : NX o) {P : Addr} {q : Str} (t : LamX.TabS (upd H a o) P q) : LamX.TabS H P q := tabS_keep t fun b u e c => by
  have ne : b ≠ a := fun z => by
    subst z
    rw [upd_same] at e
    cases e
    rcases c with ⟨_, rfl⟩ | ⟨_, rfl⟩ <;> exact n
  rw [upd_ne ne] at e
  exact e
/-- from behind a new thing's making -/
theorem ext_from {M M' : Addr → Prop} {H H' : Hp} {a : Addr} {o : HO} (e : Ext M H H') (m : M' a) (mm : ∀ x, M x → M' x) (mu : Mut (some o)) (n : NX o) : Ext M' (upd H a o) H' := ⟨fun b u h c nt => by
  by_cases eb : b = a
  · subst eb
    rw [upd_same] at h
    cases h
    exact (c.elim (fun z => z m) fun z => z mu).elim
  · rw [upd_ne eb] at h
    exact e.k b u h (c.imp (fun z y => z (mm _ y)) id) nt, fun p hp t => e.t p hp (tabS_back n t), fun b ps h => by
  have ne : b ≠ a := fun z => by
    subst z
    rw [upd_same] at h
    cases h
    exact n
  rw [upd_ne ne] at h
  exact e.d b ps h⟩
theorem Ext.seq {M M2 : Addr → Prop} {H0 H H2 : Hp} (a : Ext M H0 H) (b : Ext M2 H H2) (m : ∀ x, M2 x → M x ∨ H0 x = none) : Ext M H0 H2 := ⟨fun x o h c n => b.k x o (a.k x o h c n) (c.imp (fun z y => (m x y).elim z fun q => by rw [q] at h; cases h) id) n,
  fun p hp h => b.t p hp (a.t p hp h), fun x ps h => let ⟨ps', e⟩ := a.d x ps h; b.d x ps' e⟩
theorem tb_ext {M : Addr → Prop} {H H' : Hp} (e : Ext M H H') (t : LamX.Tabs Tbl.T H) : LamX.Tabs Tbl.T H' := fun p hp => e.t p hp (t p hp)
theorem Ext.dom {H H' : Hp} (e : Ext Nil H H') {a : Addr} (h : H a ≠ none) : H' a ≠ none := by
  cases q : H a with
  | none => exact absurd q h
  | some o =>
    cases o with
    | tbl ps =>
      obtain ⟨ps', e'⟩ := e.d a ps q
      rw [e']; exact fun z => nomatch z
    | _ => rw [e.nil a _ q]; exact fun z => nomatch z
theorem Fwd.refl (F : Addr → Prop) (H : Hp) : Fwd F H F H := ⟨Ext.refl _ _, fun _ h => .inl h, fun _ h => h⟩
theorem Fwd.grow {F : Addr → Prop} {H H' : Hp} (e : Ext Nil H H') : Fwd F H F H' := ⟨e.mono fun _ z => z.elim, fun _ h => .inl h, fun _ h => e.dom h⟩
theorem Fwd.trans {F F1 F2 : Addr → Prop} {H H1 H2 : Hp} (x : Fwd F H F1 H1) (y : Fwd F1 H1 F2 H2) : Fwd F H F2 H2 := by
  obtain ⟨x1, x2, x3⟩ := x
  obtain ⟨y1, y2, y3⟩ := y
  have key : ∀ a, F2 a → F a ∨ H a = none := fun a h => by
    rcases y2 a h with h | h
    · exact x2 a h
    · cases q : H a with
      | none => exact .inr rfl
      | some o => exact absurd h (x3 a (by rw [q]; exact fun z => nomatch z))
  refine ⟨⟨fun a o h c n => ?_, fun p hp h => y1.t p hp (x1.t p hp h), fun a ps h => let ⟨ps', e⟩ := x1.d a ps h; y1.d a ps' e⟩, key, fun a h => y3 a (x3 a h)⟩
  have h1 := x1.k a o h c n
  refine y1.k a o h1 (c.imp (fun z y => ?_) id) n
  rcases x2 a y with w | w
  · exact z w
  · rw [h] at w; cases w
theorem rd_ext {F : Addr → Prop} {H H' : Hp} {a : Addr} {u : HO} (e : Ext F H H') (n : ¬ F a) (h : Rd H a u) (nt : NT u := by trivial) : Rd H' a u := by
  rcases h with h | ⟨o, h⟩
  · exact .inl (e.k a _ h (.inl n) nt)
  · exact .inr ⟨o, e.k a _ h (.inl n) trivial⟩
theorem rd_some {H : Hp} {a : Addr} {u : HO} (h : Rd H a u) : H a ≠ none := by
  rcases h with h | ⟨o, h⟩ <;> (rw [h]; exact fun z => nomatch z)
theorem sqt_ext {K : PySem.W.Frag} {F : Addr → Prop} {H H' : Hp} {a : Addr} {xs : List V} (e : Ext F H H') (h : SqT K H a xs) : SqT K H' a xs := by
  rcases h with (h | ⟨o, h⟩) | h
  · exact .inl (.inl (e.k a _ h (.inr fun z => z) trivial))
  · exact .inl (.inr ⟨o, e.k a _ h (.inr fun z => z) trivial⟩)
  · exact .inr h
mutual
theorem Rep.fwd {S : Sc} {F F' : Addr → Prop} {H H' : Hp} (e : Fwd F H F' H') : ∀ (d : D) (v : V), Rep S F H d v → Rep S F' H' d v
  | .non, _, h => h
  | .bl _, _, h => h
  | .int _, _, h => h
  | .str _, _, h => h
  | .tup ds, v, h => by
    obtain ⟨a, vs, rfl, h1, h2⟩ := h
    exact ⟨a, vs, rfl, sqt_ext e.1 h1, RepL.fwd e ds vs h2⟩
  | .lst ds, v, h => by
    obtain ⟨a, vs, rfl, n, h1, h2⟩ := h
    exact ⟨a, vs, rfl, fun z => (e.2.1 a z).elim n (by rw [h1]; exact fun z => nomatch z), e.1.k a _ h1 (.inl n) trivial, RepL.fwd e ds vs h2⟩
  | .ins c ds, v, h => by
    obtain ⟨a, dx, fs, rfl, n, h1, h2, h3⟩ := h
    exact ⟨a, dx, fs, rfl, fun z => (e.2.1 a z).elim n (by rw [h1]; exact fun z => nomatch z), e.1.k a _ h1 (.inl n) trivial, h2, RepL.fwd e ds _ h3⟩
  | .dic _ _, _, h => h
theorem RepL.fwd {S : Sc} {F F' : Addr → Prop} {H H' : Hp} (e : Fwd F H F' H') : ∀ (ds : List D) (vs : List V), RepL S F H ds vs → RepL S F' H' ds vs
  | [], _, h => h
  | d :: ds, vs, h => by
    obtain ⟨v, r, rfl, h1, h2⟩ := h
    exact ⟨v, r, rfl, Rep.fwd e d v h1, RepL.fwd e ds r h2⟩
end
theorem Rep.grow {S : Sc} {F : Addr → Prop} {H H' : Hp} {d : D} {v : V} (h : Rep S F H d v) (e : Ext Nil H H') : Rep S F H' d v := Rep.fwd (.grow e) d v h
theorem RepL.grow {S : Sc} {F : Addr → Prop} {H H' : Hp} {d : List D} {v : List V} (h : RepL S F H d v) (e : Ext Nil H H') : RepL S F H' d v := RepL.fwd (.grow e) d v h
/-- fewer are forbidden, or such as are not there -/
theorem Rep.less {S : Sc} {F F' : Addr → Prop} {H : Hp} {d : D} {v : V} (h : Rep S F H d v) (m : ∀ a, F' a → F a ∨ H a = none) : Rep S F' H d v := Rep.fwd ⟨.refl _ _, m, fun _ h => h⟩ d v h
theorem RepL.less {S : Sc} {F F' : Addr → Prop} {H : Hp} {d : List D} {v : List V} (h : RepL S F H d v) (m : ∀ a, F' a → F a ∨ H a = none) : RepL S F' H d v := RepL.fwd ⟨.refl _ _, m, fun _ h => h⟩ d v h
section
variable {S : Sc} {F : Addr → Prop} {H : Hp}
theorem RepL.nil : RepL S F H [] [] := rfl
theorem RepL.cons {d : D} {ds : List D} {v : V} {vs : List V} (a : Rep S F H d v) (b : RepL S F H ds vs) : RepL S F H (d :: ds) (v :: vs) := ⟨v, vs, rfl, a, b⟩
theorem RepL.length : ∀ {ds : List D} {vs : List V}, RepL S F H ds vs → vs.length = ds.length
  | [], _, h => by cases (show _ = [] from h); rfl
  | d :: ds, vs, h => by
    obtain ⟨v, r, rfl, _, h2⟩ := h
    rw [List.length_cons, List.length_cons, RepL.length h2]
theorem RepL.get : ∀ {ds : List D} {vs : List V} {i : Nat} {d : D}, RepL S F H ds vs → ds[i]? = some d → ∃ v, vs[i]? = some v ∧ Rep S F H d v
  | [], _, _, _, _, e => by simp at e
  | d :: ds, _, 0, _, h, e => by
    obtain ⟨v, r, rfl, h1, _⟩ := h
    cases (show d = _ from by simpa using e)
    exact ⟨v, rfl, h1⟩
  | d :: ds, _, i + 1, _, h, e => by
    obtain ⟨v, r, rfl, _, h2⟩ := h
    obtain ⟨u, e1, e2⟩ := RepL.get h2 (show ds[i]? = some _ by simpa using e)
    exact ⟨u, by simpa using e1, e2⟩
theorem RepL.getV {ds : List D} {vs : List V} {i : Nat} {v : V} (h : RepL S F H ds vs) (e : vs[i]? = some v) : ∃ d, ds[i]? = some d ∧ Rep S F H d v := by
  have hi : i < ds.length := by
    rw [← h.length]
    exact (List.getElem?_eq_some_iff.mp e).1
  obtain ⟨u, e1, e2⟩ := h.get (List.getElem?_eq_getElem hi)
  rw [e] at e1
  cases e1
  exact ⟨_, List.getElem?_eq_getElem hi, e2⟩
theorem RepL.append : ∀ {ds es : List D} {vs us : List V}, RepL S F H ds vs → RepL S F H es us → RepL S F H (ds ++ es) (vs ++ us)
  | [], _, _, _, h, k => by cases (show _ = [] from h); exact k
  | d :: ds, _, _, _, h, k => by
    obtain ⟨v, r, rfl, h1, h2⟩ := h
    exact ⟨v, _, rfl, h1, RepL.append h2 k⟩
theorem RepL.snoc {ds : List D} {vs : List V} {d : D} {v : V} (h : RepL S F H ds vs) (k : Rep S F H d v) : RepL S F H (ds ++ [d]) (vs ++ [v]) := h.append (.cons k .nil)
theorem RepL.take : ∀ {ds : List D} {vs : List V} (n : Nat), RepL S F H ds vs → RepL S F H (ds.take n) (vs.take n)
  | _, _, 0, _ => rfl
  | [], _, n + 1, h => by cases (show _ = [] from h); exact rfl
  | d :: ds, _, n + 1, h => by
    obtain ⟨v, r, rfl, h1, h2⟩ := h
    exact ⟨v, _, rfl, h1, RepL.take n h2⟩
theorem RepL.drop : ∀ {ds : List D} {vs : List V} (n : Nat), RepL S F H ds vs → RepL S F H (ds.drop n) (vs.drop n)
  | _, _, 0, h => h
  | [], _, n + 1, h => by cases (show _ = [] from h); exact rfl
  | d :: ds, _, n + 1, h => by
    obtain ⟨v, r, rfl, h1, h2⟩ := h
    exact RepL.drop n h2
theorem RepL.set : ∀ {ds : List D} {vs : List V} {d : D} {v : V} (n : Nat), RepL S F H ds vs → Rep S F H d v → RepL S F H (ds.set n d) (vs.set n v)
  | [], _, _, _, n, h, _ => by cases (show _ = [] from h); exact rfl
  | d :: ds, _, _, _, 0, h, k => by
    obtain ⟨v, r, rfl, h1, h2⟩ := h
    exact ⟨_, _, rfl, k, h2⟩
  | d :: ds, _, _, _, n + 1, h, k => by
    obtain ⟨v, r, rfl, h1, h2⟩ := h
    exact ⟨_, _, rfl, h1, RepL.set n h2 k⟩
theorem RepL.erase : ∀ {ds : List D} {vs : List V} (n : Nat), RepL S F H ds vs → RepL S F H (ds.eraseIdx n) (vs.eraseIdx n)
  | [], _, n, h => by cases (show _ = [] from h); exact rfl
  | d :: ds, _, 0, h => by
    obtain ⟨v, r, rfl, h1, h2⟩ := h
    exact h2
  | d :: ds, _, n + 1, h => by
    obtain ⟨v, r, rfl, h1, h2⟩ := h
    exact ⟨_, _, rfl, h1, RepL.erase n h2⟩
theorem RepL.ints : ∀ {ns : List Int} {vs : List V}, RepL S F H (ns.map D.int) vs → vs = ns.map V.int
  | [], _, h => h
  | n :: ns, _, h => by
    obtain ⟨v, r, rfl, h1, h2⟩ := h
    cases (show v = _ from h1)
    rw [RepL.ints h2]; rfl
theorem RepL.ofInts : ∀ {ns : List Int}, RepL S F H (ns.map D.int) (ns.map V.int)
  | [] => rfl
  | n :: ns => ⟨_, _, rfl, rfl, RepL.ofInts⟩
theorem RepL.strs : ∀ {ns : List Str} {vs : List V}, RepL S F H (ns.map D.str) vs → vs = ns.map V.str
  | [], _, h => h
  | n :: ns, _, h => by
    obtain ⟨v, r, rfl, h1, h2⟩ := h
    cases (show v = _ from h1)
    rw [RepL.strs h2]; rfl
theorem RepL.ofStrs : ∀ {ns : List Str}, RepL S F H (ns.map D.str) (ns.map V.str)
  | [] => rfl
  | n :: ns => ⟨_, _, rfl, rfl, RepL.ofStrs⟩
theorem RepL.bls : ∀ {ns : List Bool} {vs : List V}, RepL S F H (ns.map D.bl) vs → vs = ns.map V.bl
  | [], _, h => h
  | n :: ns, _, h => by
    obtain ⟨v, r, rfl, h1, h2⟩ := h
    cases (show v = _ from h1)
    rw [RepL.bls h2]; rfl
end
/-! ### states -/
structure Rx where
  G : Addr → Prop
  M : Addr → Prop
  H0 : Hp
abbrev Fp := Nat → List Addr
abbrev Rx.plus (R : Rx) (a : Addr) : Rx := { R with G := fun x => R.G x ∨ x = a }
def Fs (R : Rx) (fp : Fp) : Addr → Prop := fun a => R.G a ∨ ∃ i, a ∈ fp i
def Lv (fp : Fp) : Addr → Prop := fun a => ∃ i, a ∈ fp i
/-- what may not be met: strong, or weak (the slots in U may be met) -/
abbrev Mo := Option (List Nat)
def FM (R : Rx) (fp : Fp) : Mo → Addr → Prop
  | none => Fs R fp
  | some U => fun a => Fs R fp a ∧ ¬ ∃ i, i ∈ U ∧ a ∈ fp i
def Own (S : Sc) (F : Addr → Prop) (H : Hp) (d : D) (a : Addr) (fp : List Addr) : Prop := match d with
  | .lst ds => fp = [a] ∧ ∃ vs, H a = some (.lst vs) ∧ RepL S F H ds vs
  | .ins c ds => fp = [a] ∧ ∃ dx fs, H a = some (.ins (S.ca c) dx fs) ∧ fs.map (·.1) = (S.fn c).take ds.length ∧ RepL S F H ds (fs.map (·.2))
  | _ => False
/-- what stood when the def got its closures stands still -/
structure HbOk (S : Sc) (R : Rx) : Prop where
  e : Ext Nil S.Hb R.H0
  m : ∀ a, R.M a → S.Hb a = none
structure Rel (S : Sc) (O P : List Nat) (R : Rx) (σ : L2.St) (H : Hp) (fp : Fp) (env : Env) : Prop where
  len : env.length = σ.length
  val : ∀ i d, env[i]? = some (some d) → i ∉ O → ∃ v, σ[i]? = some (some v) ∧ Rep S (Fs R fp) H d v
  own : ∀ i d, env[i]? = some (some d) → i ∈ O → ∃ a, σ[i]? = some (some (.ref a)) ∧ Own S (Fs R fp) H d a (fp i)
  non : ∀ i, (i ∉ O ∨ ∀ d, env[i]? ≠ some (some d)) → fp i = []
  dist : ∀ i j a, a ∈ fp i → a ∈ fp j → i = j
  nd : ∀ i, (fp i).Nodup
  src : ∀ i a, a ∈ fp i → (i ∈ P → R.M a) ∧ (i ∉ P → R.H0 a = none ∧ ¬ R.G a)
  ext : Ext R.M R.H0 H
  gl : ∀ a, R.G a → H a ≠ none
  live : ∀ i a, a ∈ fp i → H a ≠ none
  dom : ∀ a, R.H0 a ≠ none → H a ≠ none
  mh : ∀ a, R.M a → R.H0 a ≠ none
  tb : LamX.Tabs Tbl.T H
  hb : HbOk S R
section
variable {S : Sc} {O P : List Nat} {R : Rx} {σ : L2.St} {H H' : Hp} {fp : Fp} {env : Env}
theorem Own.fwd {F F' : Addr → Prop} {d : D} {a : Addr} {l : List Addr} (e : Ext Nil H H') (m : ∀ a, F' a → F a ∨ H a = none) (h : Own S F H d a l) : Own S F' H' d a l := by
  have w : Fwd F H F' H' := ⟨e.mono fun _ z => z.elim, m, fun _ h => e.dom h⟩
  cases d with
  | lst ds =>
    obtain ⟨e1, vs, h1, h2⟩ := h
    exact ⟨e1, vs, e.nil _ _ h1, RepL.fwd w _ _ h2⟩
  | ins c ds =>
    obtain ⟨e1, dx, fs, h1, h2, h3⟩ := h
    exact ⟨e1, dx, fs, e.nil _ _ h1, h2, RepL.fwd w _ _ h3⟩
  | _ => exact h.elim
theorem Rel.grow (I : Rel S O P R σ H fp env) (e : Ext Nil H H') : Rel S O P R σ H' fp env where
  len := I.len
  val := fun i d h1 h2 => let ⟨v, a, b⟩ := I.val i d h1 h2; ⟨v, a, b.grow e⟩
  own := fun i d h1 h2 => let ⟨v, a, b⟩ := I.own i d h1 h2; ⟨v, a, b.fwd e fun _ z => .inl z⟩
  non := I.non
  dist := I.dist
  nd := I.nd
  src := I.src
  ext := I.ext.trans (e.mono fun _ z => z.elim)
  gl := fun a h => e.dom (I.gl a h)
  live := fun i a h => e.dom (I.live i a h)
  dom := fun a h => e.dom (I.dom a h)
  mh := I.mh
  tb := tb_ext e I.tb
  hb := I.hb
theorem Rel.hbH (I : Rel S O P R σ H fp env) : Ext Nil S.Hb H := I.hb.e.seq I.ext fun x m => .inr (I.hb.m x m)
theorem hb_new {Hb : Hp} (e : Ext Nil Hb H) {a : Addr} (h : H a = none) : Hb a = none := by
  cases q : Hb a with
  | none => rfl
  | some o => exact absurd h (e.dom (by rw [q]; exact fun z => nomatch z))
theorem Rel.hbfp (I : Rel S O P R σ H fp env) {i : Nat} {a : Addr} (h : a ∈ fp i) : S.Hb a = none := by
  by_cases hp : i ∈ P
  · exact I.hb.m a ((I.src i a h).1 hp)
  · exact hb_new I.hb.e ((I.src i a h).2 hp).1
theorem ext_none : Ext Nil (fun _ => none) H := by
  refine ⟨fun _ _ h _ _ => ?_, fun p _ h => ?_, fun _ _ h => ?_⟩
  · cases h
  · obtain ⟨_, h, _⟩ := h
    cases h
  · cases h
theorem Rel.fs (I : Rel S O P R σ H fp env) {a : Addr} (h : Fs R fp a) : H a ≠ none := by
  rcases h with h | ⟨i, h⟩
  · exact I.gl a h
  · exact I.live i a h
theorem FM.sub {μ : Mo} {a : Addr} (h : FM R fp μ a) : Fs R fp a := by
  cases μ with
  | none => exact h
  | some U => exact h.1
theorem Rel.fm (I : Rel S O P R σ H fp env) {μ : Mo} {a : Addr} (h : FM R fp μ a) : H a ≠ none := I.fs h.sub
def Stp (μ : Mo) (R : Rx) (H : Hp) (fp : Fp) (env : Env) (H' : Hp) (fp' : Fp) (env' : Env) : Prop := match μ with
  | none => Fwd (Lv fp) H (Lv fp') H'
  | some _ => Ext Nil H H' ∧ fp' = fp ∧ env' = env
theorem adv_fs {f1 : Fp} (w : Fwd (Lv fp) H (Lv f1) H') : Fwd (Fs R fp) H (Fs R f1) H' :=
  ⟨w.1.mono fun _ z => .inr z, fun a z => z.elim (fun z => .inl (.inl z)) fun z => (w.2.1 a z).imp .inr id, w.2.2⟩
theorem Stp.refl {μ : Mo} : Stp μ R H fp env H fp env := by
  cases μ with
  | none => exact Fwd.refl _ _
  | some U => exact ⟨Ext.refl _ _, rfl, rfl⟩
theorem Stp.grow {μ : Mo} (e : Ext Nil H H') : Stp μ R H fp env H' fp env := by
  cases μ with
  | none => exact Fwd.grow e
  | some U => exact ⟨e, rfl, rfl⟩
theorem Stp.trans {μ : Mo} {H1 H2 : Hp} {f1 f2 : Fp} {e1 e2 : Env} (a : Stp μ R H fp env H1 f1 e1) (b : Stp μ R H1 f1 e1 H2 f2 e2) : Stp μ R H fp env H2 f2 e2 := by
  cases μ with
  | none => exact Fwd.trans a b
  | some U =>
    obtain ⟨a1, a2, a3⟩ := a
    obtain ⟨b1, b2, b3⟩ := b
    exact ⟨a1.trans b1, b2.trans a2, b3.trans a3⟩
theorem Stp.fwd {μ : Mo} {H1 : Hp} {f1 : Fp} {e1 : Env} (a : Stp μ R H fp env H1 f1 e1) : Fwd (FM R fp μ) H (FM R f1 μ) H1 := by
  cases μ with
  | none => exact adv_fs a
  | some U =>
    obtain ⟨a1, rfl, _⟩ := a
    exact Fwd.grow a1
theorem Stp.strong {μ : Mo} {H1 : Hp} {f1 : Fp} {e1 : Env} (a : Stp μ R H fp env H1 f1 e1) : Fwd (Lv fp) H (Lv f1) H1 := by
  cases μ with
  | none => exact a
  | some U =>
    obtain ⟨a1, rfl, _⟩ := a
    exact Fwd.grow a1
theorem Stp.dom {μ : Mo} {H1 : Hp} {f1 : Fp} {e1 : Env} (s : Stp μ R H fp env H1 f1 e1) {a : Addr} (h : H1 a = none) : H a = none := by
  cases q : H a with
  | none => rfl
  | some o => exact absurd h (s.strong.2.2 a (by rw [q]; exact fun z => nomatch z))
end
/-- a value's representation; fresh: a new list, met by nobody -/
def RepK (S : Sc) (F : Addr → Prop) (fr : Bool) (H H' : Hp) (d : D) (v : V) : Prop := match fr with
  | false => Rep S F H' d v
  | true => ∃ a vs ds, v = .ref a ∧ H a = none ∧ d = .lst ds ∧ H' a = some (.lst vs) ∧ ¬ F a ∧ RepL S (fun x => F x ∨ x = a) H' ds vs
theorem RepK.rep {S : Sc} {F : Addr → Prop} {fr : Bool} {H H' : Hp} {d : D} {v : V} (h : RepK S F fr H H' d v) : Rep S F H' d v := by
  cases fr with
  | false => exact h
  | true =>
    obtain ⟨a, vs, ds, rfl, _, rfl, h1, h2, h3⟩ := h
    exact ⟨a, vs, rfl, h2, h1, h3.less fun _ z => .inl (.inl z)⟩
/-- how an exception lies: its class, its own dict with the attributes -/
def ExcR (S : Sc) (H : Hp) (x : Exn) (cls : Value) (dd : Option Addr) : Prop :=
  cls = .ref (S.ca x.c) ∧ ((x.ds = [] ∧ dd = none) ∨ ∃ b fs, dd = some b ∧ H b = some (.xd fs) ∧ fs.map (·.1) = S.fn x.c ∧ RepL S Nil H x.ds (fs.map (·.2)))
/-- what is wanted behind a mirror's outcome -/
def Want (S : Sc) (O P : List Nat) (E : XK) (μ : Mo) (R : Rx) (σ : L2.St) (H : Hp) (fp : Fp) (env : Env) {α : Type} (o : Out α) (Post : α → Env → Hp → Fp → Prop) : Prop := match o with
  | .ok a env' => ∀ H' fp', Rel S O P R σ H' fp' env' → Stp μ R H fp env H' fp' env' → Post a env' H' fp'
  | .exc x env' => ∀ cls dd H' fp', Rel S O P R σ H' fp' env' → Stp μ R H fp env H' fp' env' → ExcR S H' x cls dd → E cls dd H'
  | .bad => False
section
variable {S : Sc} {O P : List Nat} {R : Rx} {σ : L2.St} {H H' : Hp} {fp : Fp} {env : Env} {E : XK} {μ : Mo}
theorem Want.bind {α β : Type} {o : Out α} {f : α → Env → Out β} {Post : β → Env → Hp → Fp → Prop} (h : Want S O P E μ R σ H fp env (o.bind f) Post) :
    Want S O P E μ R σ H fp env o (fun a e1 H1 f1 => Want S O P E μ R σ H1 f1 e1 (f a e1) Post) := by
  cases o with
  | bad => exact h
  | exc x e => exact h
  | ok a e1 =>
    intro H1 f1 I1 s1
    have h : Want S O P E μ R σ H fp env (f a e1) Post := h
    cases q : f a e1 with
    | bad => rw [q] at h; exact h
    | exc x e =>
      rw [q] at h
      exact fun cls dd H2 f2 I2 s2 x2 => h cls dd H2 f2 I2 (s1.trans s2) x2
    | ok b e2 =>
      rw [q] at h
      exact fun H2 f2 I2 s2 => h H2 f2 I2 (s1.trans s2)
theorem Want.mono {α : Type} {o : Out α} {Po Po' : α → Env → Hp → Fp → Prop} (h : Want S O P E μ R σ H fp env o Po) (k : ∀ a e H1 f1, Rel S O P R σ H1 f1 e → Stp μ R H fp env H1 f1 e → Po a e H1 f1 → Po' a e H1 f1) : Want S O P E μ R σ H fp env o Po' := by
  cases o with
  | bad => exact h
  | exc x e => exact h
  | ok a e1 => exact fun H1 f1 I1 s1 => k a e1 H1 f1 I1 s1 (h H1 f1 I1 s1)
end
/-! ### the judgements -/
theorem fs_plus {R : Rx} {fp : Fp} {a x : Addr} : Fs (R.plus a) fp x ↔ (Fs R fp x ∨ x = a) :=
  ⟨fun z => z.elim (fun z => z.elim (fun z => .inl (.inl z)) .inr) fun z => .inl (.inr z), fun z => z.elim (fun z => z.elim (fun z => .inl (.inl z)) .inr) fun z => .inl (.inr z)⟩
/-- one more address is forbidden, one that is not there yet -/
theorem Rel.plus {S : Sc} {O P : List Nat} {R : Rx} {σ : L2.St} {H H' : Hp} {fp : Fp} {env : Env} {a : Addr} (I : Rel S O P R σ H fp env) (n : H a = none) (e : Ext Nil H H') (h : H' a ≠ none) : Rel S O P (R.plus a) σ H' fp env := by
  have w : Fwd (Fs R fp) H (Fs (R.plus a) fp) H' := ⟨e.mono fun _ z => z.elim, fun x z => (fs_plus.mp z).elim .inl fun q => .inr (by rw [q]; exact n), fun x z => e.dom z⟩
  exact ⟨I.len, fun i d h1 h2 => let ⟨v, q, r⟩ := I.val i d h1 h2; ⟨v, q, Rep.fwd w _ _ r⟩, fun i d h1 h2 => let ⟨v, q, r⟩ := I.own i d h1 h2; ⟨v, q, r.fwd e fun x z => (fs_plus.mp z).elim .inl fun q => .inr (by rw [q]; exact n)⟩, I.non, I.dist, I.nd,
    fun i b hb => ⟨(I.src i b hb).1, fun hp => ⟨((I.src i b hb).2 hp).1, fun z => z.elim ((I.src i b hb).2 hp).2 fun q => absurd n (by rw [← q]; exact I.live i b hb)⟩⟩,
    I.ext.trans (e.mono fun _ z => z.elim), fun b z => z.elim (fun z => e.dom (I.gl b z)) fun q => by rw [q]; exact h, fun i b hb => e.dom (I.live i b hb), fun b hb => e.dom (I.dom b hb), I.mh, tb_ext e I.tb, ⟨I.hb.e, I.hb.m⟩⟩
/-- a new list is met by no slot -/
def Sep (S : Sc) (O P : List Nat) (R : Rx) (σ : L2.St) (fr : Bool) (fp' : Fp) (env' : Env) (H' : Hp) (v : V) : Prop := fr = true → ∀ a, v = .ref a → Rel S O P (R.plus a) σ H' fp' env'
theorem sep0 {S : Sc} {O P : List Nat} {R : Rx} {σ : L2.St} {fp' : Fp} {env' : Env} {H' : Hp} {v : V} : Sep S O P R σ false fp' env' H' v := fun z => nomatch z
def PostE (S : Sc) (O P : List Nat) (R : Rx) (σ : L2.St) (μ : Mo) (fr : Bool) (H : Hp) (Q : VK) : D → Env → Hp → Fp → Prop := fun d env' H' fp' => ∀ v, RepK S (FM R fp' μ) fr H H' d v → Sep S O P R σ fr fp' env' H' v → Q v H'
def RefE (S : Sc) (O P : List Nat) (E : XK) (μ : Mo) (fr : Bool) (t : TE) (m : EM) : Prop :=
  ∀ (R : Rx) (σ : L2.St) (H : Hp) (fp : Fp) (env : Env), Rel S O P R σ H fp env → ∀ Q : VK, Want S O P E μ R σ H fp env (m env) (PostE S O P R σ μ fr H Q) → t σ H Q
def RefT (S : Sc) (O P : List Nat) (E : XK) (μ : Mo) (t : TT) (m : TM) : Prop :=
  ∀ (R : Rx) (σ : L2.St) (H : Hp) (fp : Fp) (env : Env), Rel S O P R σ H fp env → ∀ Q : Bool → Hp → Prop, Want S O P E μ R σ H fp env (m env) (fun b _ H' _ => Q b H') → t σ H Q
def RefA (S : Sc) (O P : List Nat) (E : XK) (μ : Mo) (t : TA) (m : AM) : Prop :=
  ∀ (R : Rx) (σ : L2.St) (H : Hp) (fp : Fp) (env : Env), Rel S O P R σ H fp env → ∀ Q : List V → Hp → Prop, Want S O P E μ R σ H fp env (m env) (fun ds _ H' fp' => ∀ vs, RepL S (FM R fp' μ) H' ds vs → Q vs H') → t σ H Q
end Mir
/-! MirB -/
namespace Mir
open PySem PySem.Spec PyProof.Rows L2
variable [Tbl]
/-! ### mirrors of expressions -/
def eVar (i : Nat) : EM := fun env => match env[i]? with
  | some (some d) => .ok d env
  | _ => .bad
def eC (d : D) : EM := fun env => .ok d env
def e1 (f : D → Option D) (a : EM) : EM := fun env => (a env).bind fun x e => .opt (f x) e
def e2 (f : D → D → Option D) (a b : EM) : EM := fun env => (a env).bind fun x e => (b e).bind fun y e' => .opt (f x y) e'
def eA (f : List D → Option D) (a : AM) : EM := fun env => (a env).bind fun xs e => .opt (f xs) e
def D.boo : D → Option Bool
  | .bl b => some b
  | _ => none
def mTest (a : EM) : TM := fun env => (a env).bind fun x e => .opt x.boo e
def mAnd (a b : TM) : TM := fun env => (a env).bind fun c e => if c then b e else .ok false e
def mOr (a b : TM) : TM := fun env => (a env).bind fun c e => if c then .ok true e else b e
def mNot (a : TM) : TM := fun env => (a env).bind fun c e => .ok (!c) e
def eAndV (a b : EM) : EM := fun env => (a env).bind fun x e => (Out.opt x.boo e).bind fun c e' => if c then b e' else .ok (.bl false) e'
def eOrV (a b : EM) : EM := fun env => (a env).bind fun x e => (Out.opt x.boo e).bind fun c e' => if c then .ok (.bl true) e' else b e'
def eNotV (a : EM) : EM := fun env => (a env).bind fun x e => (Out.opt x.boo e).bind fun c e' => .ok (.bl (!c)) e'
def eIf (t : TM) (a b : EM) : EM := fun env => (t env).bind fun c e => if c then a e else b e
def aNil : AM := fun env => .ok [] env
def aCons (a : EM) (r : AM) : AM := fun env => (a env).bind fun x e => (r e).bind fun xs e' => .ok (x :: xs) e'
def D.seq : D → Option (List D)
  | .tup ds => some ds
  | .lst ds => some ds
  | _ => none
def aStar (a : EM) (r : AM) : AM := fun env => (a env).bind fun x e => (Out.opt x.seq e).bind fun ys e1 => (r e1).bind fun xs e' => .ok (ys ++ xs) e'
def eTup (a : AM) : EM := eA (fun xs => if xs.length ≤ 100000 then some (.tup xs) else none) a
def eLst (a : AM) : EM := eA (fun xs => if xs.length ≤ 100000 then some (.lst xs) else none) a
mutual
/-- no list, no object in it -/
def D.pure : D → Bool
  | .non => true
  | .bl _ => true
  | .int _ => true
  | .str _ => true
  | .tup ds => D.pureL ds
  | _ => false
def D.pureL : List D → Bool
  | [] => true
  | d :: ds => d.pure && D.pureL ds
end
def eUp (a : EM) : EM := fun env => (a env).bind fun x e => if x.pure then .ok x e else .bad
/-! ### rules of values -/
def Op1 (S : Sc) (fr : Bool) (r : V → Hp → VK → Prop) (f : D → Option D) : Prop :=
  ∀ (F : Addr → Prop) (H : Hp) (x : D) (v : V) (z : D) (Q : VK), (∀ a, F a → H a ≠ none) → Rep S F H x v → f x = some z → (∀ w H', Ext Nil H H' → RepK S F fr H H' z w → Q w H') → r v H Q
def Op2 (S : Sc) (fr : Bool) (r : V → V → Hp → VK → Prop) (f : D → D → Option D) : Prop :=
  ∀ (F : Addr → Prop) (H : Hp) (x y : D) (v u : V) (z : D) (Q : VK), (∀ a, F a → H a ≠ none) → Rep S F H x v → Rep S F H y u → f x y = some z → (∀ w H', Ext Nil H H' → RepK S F fr H H' z w → Q w H') → r v u H Q
def OpA (S : Sc) (fr : Bool) (r : List V → Hp → VK → Prop) (f : List D → Option D) : Prop :=
  ∀ (F : Addr → Prop) (H : Hp) (xs : List D) (vs : List V) (z : D) (Q : VK), (∀ a, F a → H a ≠ none) → RepL S F H xs vs → f xs = some z → (∀ w H', Ext Nil H H' → RepK S F fr H H' z w → Q w H') → r vs H Q
section
variable {S : Sc} {O P : List Nat} {E : XK} {μ : Mo} {fr fa fb : Bool} {ta tb te : TE} {ma mb : EM} {t u : TT} {m n : TM}
theorem RepK.back {F : Addr → Prop} {H H1 H' : Hp} {d : D} {v : V} (h : RepK S F fr H1 H' d v) (k : ∀ a, H1 a = none → H a = none) : RepK S F fr H H' d v := by
  cases fr with
  | false => exact h
  | true =>
    obtain ⟨a, vs, ds, e1, e2, e3⟩ := h
    exact ⟨a, vs, ds, e1, k a e2, e3⟩
theorem RefE.loose (h : RefE S O P E μ fr te ma) : RefE S O P E μ false te ma := fun R σ H fp env I Q w =>
  h R σ H fp env I Q (w.mono fun d e H1 f1 _ _ p v hv _ => p v hv.rep sep0)
theorem ref_var {i : Nat} (hO : i ∉ O) : RefE S O P E μ false (tVar i) (eVar i) := by
  intro R σ H fp env I Q h
  unfold eVar at h
  split at h
  · rename_i d e
    obtain ⟨v, h1, h2⟩ := I.val i d e hO
    exact ⟨v, h1, h H fp I Stp.refl v (h2.less fun a z => .inl z.sub) sep0⟩
  · exact h.elim
/-- an own list (object) read where it is only looked at -/
theorem ref_own {i : Nat} {U : List Nat} (hO : i ∈ O) (hU : i ∈ U) : RefE S O P E (some U) false (tVar i) (eVar i) := by
  intro R σ H fp env I Q h
  unfold eVar at h
  split at h
  · rename_i d e
    obtain ⟨a, h1, h2⟩ := I.own i d e hO
    refine ⟨_, h1, h H fp I Stp.refl _ ?_ sep0⟩
    cases d with
    | lst ds =>
      obtain ⟨e1, vs, e2, e3⟩ := h2
      exact ⟨a, vs, rfl, fun z => z.2 ⟨i, hU, by rw [e1]; exact List.mem_cons_self⟩, e2, e3.less fun _ z => .inl z.sub⟩
    | ins c ds =>
      obtain ⟨e1, dx, fs, e2, e3, e4⟩ := h2
      exact ⟨a, dx, fs, rfl, fun z => z.2 ⟨i, hU, by rw [e1]; exact List.mem_cons_self⟩, e2, e3, e4.less fun _ z => .inl z.sub⟩
    | _ => exact h2.elim
  · exact h.elim
theorem ref_c {d : D} {v : V} (h : ∀ F H, Rep S F H d v) : RefE S O P E μ false (tC v) (eC d) := by
  intro R σ H fp env I Q w
  exact w H fp I Stp.refl v (h _ _) sep0
theorem ref_int {i : Int} : RefE S O P E μ false (tC (.int i)) (eC (.int i)) := ref_c fun _ _ => rfl
theorem ref_str {i : Str} : RefE S O P E μ false (tC (.str i)) (eC (.str i)) := ref_c fun _ _ => rfl
theorem ref_bl {i : Bool} : RefE S O P E μ false (tC (.bl i)) (eC (.bl i)) := ref_c fun _ _ => rfl
theorem ref_non : RefE S O P E μ false (tC .non) (eC .non) := ref_c fun _ _ => rfl
theorem want_opt {R : Rx} {σ : L2.St} {H H1 : Hp} {f1 : Fp} {e1 : Env} {o : Option D} {Q : VK} {z : D} {w : V} {H2 : Hp} (h : Want S O P E μ R σ H1 f1 e1 (Out.opt o e1) (PostE S O P R σ μ fr H Q))
    (e : o = some z) (I : Rel S O P R σ H1 f1 e1) (k : ∀ a, H1 a = none → H a = none) (x : Ext Nil H1 H2) (r : RepK S (FM R f1 μ) fr H1 H2 z w) : Q w H2 := by
  subst e
  refine h H2 f1 (I.grow x) (Stp.grow x) w (r.back k) fun hf a ea => ?_
  subst hf
  obtain ⟨a', vs, ds, e1, e2, _, e3, _⟩ := r
  rw [ea] at e1
  cases e1
  exact I.plus e2 x (by rw [e3]; exact fun z => nomatch z)
theorem want_some {R : Rx} {σ : L2.St} {H1 : Hp} {f1 : Fp} {e1 : Env} {α : Type} {o : Option α} {Po : α → Env → Hp → Fp → Prop} (h : Want S O P E μ R σ H1 f1 e1 (Out.opt o e1) Po) : ∃ z, o = some z := by
  cases o with
  | none => exact h.elim
  | some z => exact ⟨z, rfl⟩
theorem ref_op2 {r : R2} {f : D → D → Option D} (hr : Op2 S fr r f) (ha : RefE S O P E μ fa ta ma) (hb : RefE S O P E μ fb tb mb) : RefE S O P E μ fr (tOp r ta tb) (e2 f ma mb) := by
  intro R σ H fp env I Q h
  refine ha R σ H fp env I _ ((Want.bind h).mono fun x e1 H1 f1 I1 s1 h1 v hv _ => ?_)
  refine hb R σ H1 f1 e1 I1 _ ((Want.bind h1).mono fun y e2 H2 f2 I2 s2 h2 u hu _ => ?_)
  obtain ⟨z, hz⟩ := want_some h2
  exact hr (FM R f2 μ) H2 x y v u z Q (fun a q => I2.fm q) (Rep.fwd s2.fwd _ _ hv.rep) hu.rep hz fun w H' ex hk => want_opt h2 hz I2 (fun a q => (s1.trans s2).dom q) ex hk
theorem ref_op1 {r : V → Hp → VK → Prop} {f : D → Option D} (hr : Op1 S fr r f) (ha : RefE S O P E μ fa ta ma) : RefE S O P E μ fr (tUn r ta) (e1 f ma) := by
  intro R σ H fp env I Q h
  refine ha R σ H fp env I _ ((Want.bind h).mono fun x e1 H1 f1 I1 s1 h1 v hv _ => ?_)
  obtain ⟨z, hz⟩ := want_some h1
  exact hr (FM R f1 μ) H1 x v z Q (fun a q => I1.fm q) hv.rep hz fun w H' ex hk => want_opt h1 hz I1 (fun a q => s1.dom q) ex hk
/-! arguments -/
theorem ref_anil : RefA S O P E μ tNil aNil := fun R σ H fp env I Q h => h H fp I Stp.refl [] .nil
theorem ref_acons {tr : TA} {mr : AM} (ha : RefE S O P E μ fa ta ma) (hr : RefA S O P E μ tr mr) : RefA S O P E μ (tCons ta tr) (aCons ma mr) := by
  intro R σ H fp env I Q h
  refine ha R σ H fp env I _ ((Want.bind h).mono fun x e1 H1 f1 I1 s1 h1 v hv _ => ?_)
  refine hr R σ H1 f1 e1 I1 _ ((Want.bind h1).mono fun xs e2 H2 f2 I2 s2 h2 vs hvs => ?_)
  exact h2 H2 f2 I2 Stp.refl _ (.cons (Rep.fwd s2.fwd _ _ hv.rep) hvs)
theorem ref_astar {tr : TA} {mr : AM} (ha : RefE S O P E μ fa ta ma) (hr : RefA S O P E μ tr mr) : RefA S O P E μ (StX.tStar S.K ta tr) (aStar ma mr) := by
  intro R σ H fp env I Q h
  refine ha R σ H fp env I _ ((Want.bind h).mono fun x e1 H1 f1 I1 s1 h1 v hv _ => ?_)
  have h5 := Want.bind h1
  obtain ⟨ys, hy⟩ := want_some h5
  rw [hy] at h5
  have h6 := h5 H1 f1 I1 Stp.refl
  have hv := hv.rep
  cases x with
  | tup ds =>
    cases hy
    obtain ⟨a, us, rfl, q1, q2⟩ := hv
    refine ⟨a, us, rfl, .inl q1, ?_⟩
    refine hr R σ H1 f1 e1 I1 _ ((Want.bind h6).mono fun xs e2 H2 f2 I2 s2 h2 vs hvs => ?_)
    exact h2 H2 f2 I2 Stp.refl _ ((RepL.fwd s2.fwd _ _ q2).append hvs)
  | lst ds =>
    cases hy
    obtain ⟨a, us, rfl, _, q1, q2⟩ := hv
    refine ⟨a, us, rfl, .inr (.inl (.inl q1)), ?_⟩
    refine hr R σ H1 f1 e1 I1 _ ((Want.bind h6).mono fun xs e2 H2 f2 I2 s2 h2 vs hvs => ?_)
    exact h2 H2 f2 I2 Stp.refl _ ((RepL.fwd s2.fwd _ _ q2).append hvs)
  | _ => cases hy
theorem ref_opA {tA : TA} {mA : AM} {r : List V → Hp → VK → Prop} {f : List D → Option D} (hr : OpA S fr r f) (ha : RefA S O P E μ tA mA) : RefE S O P E μ fr (tCB r tA) (eA f mA) := by
  intro R σ H fp env I Q h
  refine ha R σ H fp env I _ ((Want.bind h).mono fun xs e1 H1 f1 I1 s1 h1 vs hv => ?_)
  obtain ⟨z, hz⟩ := want_some h1
  exact hr (FM R f1 μ) H1 xs vs z Q (fun a q => I1.fm q) hv hz fun w H' ex hk => want_opt h1 hz I1 (fun a q => s1.dom q) ex hk
theorem sz_of {n : Nat} (h : n ≤ 100000) : n ≤ sizeLine := Nat.le_trans h (by decide)
theorem ref_tup {tA : TA} {mA : AM} (ha : RefA S O P E μ tA mA) : RefE S O P E μ false (tTup tA) (eTup mA) := by
  refine ref_opA (r := fun xs H1 Q => xs.length ≤ sizeLine ∧ ∀ p, H1 p = none → Q (.ref p) (upd H1 p (.tup xs))) (fun F H xs vs z Q hF hx hz k => ?_) ha
  split at hz
  · cases hz
    refine ⟨by rw [hx.length]; exact sz_of (by assumption), fun p hp => k _ _ (Ext.new hp) ?_⟩
    exact ⟨p, vs, rfl, .inl (.inl upd_same), hx.grow (Ext.new hp)⟩
  · cases hz
theorem ref_lst {tA : TA} {mA : AM} (ha : RefA S O P E μ tA mA) : RefE S O P E μ true (tLst tA) (eLst mA) := by
  refine ref_opA (r := fun xs H1 Q => xs.length ≤ sizeLine ∧ ∀ p, H1 p = none → Q (.ref p) (upd H1 p (.lst xs))) (fun F H xs vs z Q hF hx hz k => ?_) ha
  split at hz
  · cases hz
    refine ⟨by rw [hx.length]; exact sz_of (by assumption), fun p hp => k _ _ (Ext.new hp) ?_⟩
    refine ⟨p, vs, xs, rfl, hp, rfl, upd_same, fun z => hF p z hp, ?_⟩
    exact (hx.less (F' := fun x => F x ∨ x = p) fun a z => z.elim .inl fun e => .inr (by rw [e]; exact hp)).grow (Ext.new hp)
  · cases hz
/-! tests -/
theorem ref_test (ha : RefE S O P E μ fa ta ma) : RefT S O P E μ (tTest ta) (mTest ma) := by
  intro R σ H fp env I Q h
  refine ha R σ H fp env I _ ((Want.bind h).mono fun x e1 H1 f1 I1 s1 h1 v hv _ => ?_)
  obtain ⟨b, hb⟩ := want_some h1
  rw [hb] at h1
  have hv := hv.rep
  cases x with
  | bl c =>
    cases hb
    exact ⟨_, hv, h1 H1 f1 I1 Stp.refl⟩
  | _ => cases hb
theorem ref_testB (ha : RefE S O P E μ fa ta ma) : RefT S O P E μ (tB ta) (mTest ma) := ref_test ha
theorem ref_and (h1 : RefT S O P E μ t m) (h2 : RefT S O P E μ u n) : RefT S O P E μ (tAnd t u) (mAnd m n) := by
  intro R σ H fp env I Q h
  refine h1 R σ H fp env I _ ((Want.bind h).mono fun c e1 H1 f1 I1 s1 hp => ?_)
  cases c with
  | true => exact h2 R σ H1 f1 e1 I1 Q hp
  | false => exact hp H1 f1 I1 Stp.refl
theorem ref_or (h1 : RefT S O P E μ t m) (h2 : RefT S O P E μ u n) : RefT S O P E μ (tOr t u) (mOr m n) := by
  intro R σ H fp env I Q h
  refine h1 R σ H fp env I _ ((Want.bind h).mono fun c e1 H1 f1 I1 s1 hp => ?_)
  cases c with
  | false => exact h2 R σ H1 f1 e1 I1 Q hp
  | true => exact hp H1 f1 I1 Stp.refl
theorem ref_not (h1 : RefT S O P E μ t m) : RefT S O P E μ (tNot t) (mNot m) := by
  intro R σ H fp env I Q h
  exact h1 R σ H fp env I _ ((Want.bind h).mono fun c e1 H1 f1 I1 s1 hp => hp H1 f1 I1 Stp.refl)
theorem ref_andV (ha : RefE S O P E μ fa ta ma) (hb : RefE S O P E μ fb tb mb) : RefE S O P E μ false (tAndV ta tb) (eAndV ma mb) := by
  intro R σ H fp env I Q h
  refine ha R σ H fp env I _ ((Want.bind h).mono fun x e1 H1 f1 I1 s1 h1 v hv _ => ?_)
  have h5 := Want.bind h1
  obtain ⟨b, hb'⟩ := want_some h5
  rw [hb'] at h5
  have hw := hv.rep
  cases x with
  | bl c =>
    cases hb'
    refine ⟨_, hw, ?_⟩
    have h6 := h5 H1 f1 I1 Stp.refl
    cases b with
    | true => exact hb R σ H1 f1 e1 I1 Q (Want.mono h6 fun d e H2 f2 I2 s2 q v hv _ => q v hv.rep sep0)
    | false => exact h6 H1 f1 I1 Stp.refl _ rfl sep0
  | _ => cases hb'
theorem ref_orV (ha : RefE S O P E μ fa ta ma) (hb : RefE S O P E μ fb tb mb) : RefE S O P E μ false (tOrV ta tb) (eOrV ma mb) := by
  intro R σ H fp env I Q h
  refine ha R σ H fp env I _ ((Want.bind h).mono fun x e1 H1 f1 I1 s1 h1 v hv _ => ?_)
  have h5 := Want.bind h1
  obtain ⟨b, hb'⟩ := want_some h5
  rw [hb'] at h5
  have hw := hv.rep
  cases x with
  | bl c =>
    cases hb'
    refine ⟨_, hw, ?_⟩
    have h6 := h5 H1 f1 I1 Stp.refl
    cases b with
    | false => exact hb R σ H1 f1 e1 I1 Q (Want.mono h6 fun d e H2 f2 I2 s2 q v hv _ => q v hv.rep sep0)
    | true => exact h6 H1 f1 I1 Stp.refl _ rfl sep0
  | _ => cases hb'
theorem ref_notV (ha : RefE S O P E μ fa ta ma) : RefE S O P E μ false (tNotV ta) (eNotV ma) := by
  intro R σ H fp env I Q h
  refine ha R σ H fp env I _ ((Want.bind h).mono fun x e1 H1 f1 I1 s1 h1 v hv _ => ?_)
  have h5 := Want.bind h1
  obtain ⟨b, hb'⟩ := want_some h5
  rw [hb'] at h5
  have hw := hv.rep
  cases x with
  | bl c =>
    cases hb'
    exact ⟨_, hw, (h5 H1 f1 I1 Stp.refl) H1 f1 I1 Stp.refl _ rfl sep0⟩
  | _ => cases hb'
theorem ref_if (ht : RefT S O P E μ t m) (ha : RefE S O P E μ fr ta ma) (hb : RefE S O P E μ fr tb mb) : RefE S O P E μ fr (tIf t ta tb) (eIf m ma mb) := by
  intro R σ H fp env I Q h
  refine ht R σ H fp env I _ ((Want.bind h).mono fun c e1 H1 f1 I1 s1 hp => ?_)
  cases c with
  | true => exact ha R σ H1 f1 e1 I1 Q (Want.mono hp fun d e H2 f2 I2 s2 q v hv sp => q v (hv.back fun a z => s1.dom z) sp)
  | false => exact hb R σ H1 f1 e1 I1 Q (Want.mono hp fun d e H2 f2 I2 s2 q v hv sp => q v (hv.back fun a z => s1.dom z) sp)
/-! pure data need no care -/
mutual
theorem rep_pure {F F' : Addr → Prop} {H : Hp} : ∀ (d : D) (v : V), d.pure = true → Rep S F H d v → Rep S F' H d v
  | .non, _, _, h => h
  | .bl _, _, _, h => h
  | .int _, _, _, h => h
  | .str _, _, _, h => h
  | .tup ds, v, p, h => by
    obtain ⟨a, vs, rfl, h1, h2⟩ := h
    exact ⟨a, vs, rfl, h1, repL_pure ds vs p h2⟩
  | .lst _, _, p, _ => by cases p
  | .ins _ _, _, p, _ => by cases p
  | .dic _ _, _, p, _ => by cases p
theorem repL_pure {F F' : Addr → Prop} {H : Hp} : ∀ (ds : List D) (vs : List V), D.pureL ds = true → RepL S F H ds vs → RepL S F' H ds vs
  | [], _, _, h => h
  | d :: ds, vs, p, h => by
    obtain ⟨v, r, rfl, h1, h2⟩ := h
    have p := (Bool.and_eq_true_iff.mp p)
    exact ⟨v, r, rfl, rep_pure d v p.1 h1, repL_pure ds r p.2 h2⟩
end
theorem Rel.stp {R : Rx} {σ : L2.St} {H H' : Hp} {fp fp' : Fp} {env env' : Env} {U : List Nat} (s : Stp (some U) R H fp env H' fp' env') : Stp none R H fp env H' fp' env' := s.strong
theorem ref_up {U : List Nat} (ha : RefE S O P E (some U) fa ta ma) : RefE S O P E none false ta (eUp ma) := by
  intro R σ H fp env I Q h
  have key : Want S O P E (some U) R σ H fp env (ma env) (PostE S O P R σ (some U) fa H Q) := by
    have h : Want S O P E none R σ H fp env ((ma env).bind _) _ := h
    cases q : ma env with
    | bad => rw [q] at h; exact h
    | exc x e => rw [q] at h; exact fun cls dd H' fp' I' s' => h cls dd H' fp' I' s'.strong
    | ok d e =>
      rw [q] at h
      intro H' fp' I' s' v hv _
      have h : Want S O P E none R σ H fp env (if d.pure then Out.ok d e else Out.bad) _ := h
      by_cases c : d.pure = true
      · rw [if_pos c] at h
        exact h H' fp' I' s'.strong v (rep_pure d v c hv.rep) sep0
      · rw [if_neg c] at h
        exact h.elim
  exact ha R σ H fp env I Q key
theorem ref_upT {U : List Nat} (ha : RefT S O P E (some U) t m) : RefT S O P E none t m := by
  intro R σ H fp env I Q h
  refine ha R σ H fp env I Q ?_
  cases q : m env with
  | bad => rw [q] at h; exact h
  | exc x e => rw [q] at h; exact fun cls dd H' fp' I' s' => h cls dd H' fp' I' s'.strong
  | ok d e => rw [q] at h; exact fun H' fp' I' s' => h H' fp' I' s'.strong
end
end Mir
/-! MirC -/
namespace Mir
open PySem PySem.Spec PyProof.Rows L2
variable [Tbl]
/-! ### statements -/
/-- how a def's value lies for its caller -/
def RetR (S : Sc) (fr : Bool) (R : Rx) (H' : Hp) (d : D) (v : V) : Prop := RepK S R.G fr R.H0 H' d v
def WantS (S : Sc) (O P : List Nat) (E : XK) (fr : Bool) (R : Rx) (H : Hp) (fp : Fp) (o : Fl) (D : Ends) (σ : L2.St) : Prop := match o with
  | .next env' => ∀ σ' H' fp', Rel S O P R σ' H' fp' env' → Fwd (Lv fp) H (Lv fp') H' → D.nx σ' H'
  | .brk env' => ∀ σ' H' fp', Rel S O P R σ' H' fp' env' → Fwd (Lv fp) H (Lv fp') H' → D.bk σ' H'
  | .cont env' => ∀ σ' H' fp', Rel S O P R σ' H' fp' env' → Fwd (Lv fp) H (Lv fp') H' → D.ct σ' H'
  | .ret d env' => ∀ σ' v H' fp', Rel S O P R σ' H' fp' env' → Fwd (Lv fp) H (Lv fp') H' → RetR S fr R H' d v → D.rt v H'
  | .exc x env' => ∀ cls dd σ' H' fp', Rel S O P R σ' H' fp' env' → Fwd (Lv fp) H (Lv fp') H' → ExcR S H' x cls dd → E cls dd H'
  | .bad => False
def RefS (S : Sc) (O P : List Nat) (E : XK) (fr : Bool) (t : TS) (m : SM) : Prop :=
  ∀ (R : Rx) (σ : L2.St) (H : Hp) (fp : Fp) (env : Env), Rel S O P R σ H fp env → ∀ D : Ends, WantS S O P E fr R H fp (m env) D σ → t D σ H
/-- the mirrors of statements -/
def Fl.bind (o : Fl) (f : SM) : Fl := match o with
  | .next e => f e
  | o => o
@[simp] theorem Fl.bind_next (e : Env) (f : SM) : (Fl.next e).bind f = f e := rfl
@[simp] theorem Fl.bind_ret (d : D) (e : Env) (f : SM) : (Fl.ret d e).bind f = .ret d e := rfl
@[simp] theorem Fl.bind_brk (e : Env) (f : SM) : (Fl.brk e).bind f = .brk e := rfl
@[simp] theorem Fl.bind_cont (e : Env) (f : SM) : (Fl.cont e).bind f = .cont e := rfl
@[simp] theorem Fl.bind_exc (d : Exn) (e : Env) (f : SM) : (Fl.exc d e).bind f = .exc d e := rfl
@[simp] theorem Fl.bind_bad (f : SM) : Fl.bad.bind f = .bad := rfl
def sNext : SM := fun e => .next e
def sSeq (a b : SM) : SM := fun env => (a env).bind b
def Out.fl {α : Type} (o : Out α) (f : α → Env → Fl) : Fl := match o with
  | .ok a e => f a e
  | .exc x e => .exc x e
  | .bad => .bad
@[simp] theorem Out.fl_ok {α : Type} (a : α) (e : Env) (f : α → Env → Fl) : (Out.ok a e).fl f = f a e := rfl
@[simp] theorem Out.fl_exc {α : Type} (x : Exn) (e : Env) (f : α → Env → Fl) : (Out.exc x e : Out α).fl f = .exc x e := rfl
@[simp] theorem Out.fl_bad {α : Type} (f : α → Env → Fl) : (Out.bad : Out α).fl f = .bad := rfl
def sIf (t : TM) (a b : SM) : SM := fun env => (t env).fl fun c e => if c then a e else b e
abbrev GM := D → Env → Option Env
def gSet (i : Nat) : GM := fun d env => some (env.set i (some d))
def gTupM : List GM → List D → Env → Option Env
  | [], [], env => some env
  | g :: gs, d :: ds, env => (g d env).bind (gTupM gs ds)
  | _, _, _ => none
def gTupleM (gs : List GM) : GM := fun d env => match d with
  | .tup ds => gTupM gs ds env
  | _ => none
def gListM (gs : List GM) : GM := fun d env => match d with
  | .lst ds => gTupM gs ds env
  | _ => none
def sAsg (a : EM) (g : GM) : SM := fun env => (a env).fl fun d e => match g d e with
  | some e' => .next e'
  | none => .bad
def sDrop (a : EM) : SM := fun env => (a env).fl fun _ e => .next e
def sRet (a : EM) : SM := fun env => (a env).fl fun d e => .ret d e
def sRetN : SM := fun env => .ret .non env
def sBrk : SM := fun env => .brk env
def sCont : SM := fun env => .cont env
def sBad : SM := fun _ => .bad
section
variable {S : Sc} {O P : List Nat} {E : XK} {μ : Mo} {fr fa : Bool} {ta : TE} {ma : EM} {t u : TS} {m n : SM} {tt : TT} {mt : TM}
theorem WantS.bind {R : Rx} {H : Hp} {fp : Fp} {o : Fl} {f : SM} {D : Ends} {σ : L2.St} {tu : TS} (h : WantS S O P E fr R H fp (o.bind f) D σ) (k : RefS S O P E fr tu f) : WantS S O P E fr R H fp o { D with nx := tu D } σ := by
  cases o with
  | next e1 =>
    intro σ1 H1 f1 I1 w1
    refine k R σ1 H1 f1 e1 I1 D ?_
    have h : WantS S O P E fr R H fp (f e1) D σ := h
    cases q : f e1 with
    | next e => rw [q] at h; exact fun σ2 H2 f2 I2 w2 => h σ2 H2 f2 I2 (w1.trans w2)
    | brk e => rw [q] at h; exact fun σ2 H2 f2 I2 w2 => h σ2 H2 f2 I2 (w1.trans w2)
    | cont e => rw [q] at h; exact fun σ2 H2 f2 I2 w2 => h σ2 H2 f2 I2 (w1.trans w2)
    | ret d e => rw [q] at h; exact fun σ2 v H2 f2 I2 w2 r => h σ2 v H2 f2 I2 (w1.trans w2) r
    | exc d e => rw [q] at h; exact fun cls dd σ2 H2 f2 I2 w2 r => h cls dd σ2 H2 f2 I2 (w1.trans w2) r
    | bad => rw [q] at h; exact h
  | brk e => exact h
  | cont e => exact h
  | ret d e => exact h
  | exc d e => exact h
  | bad => exact h
theorem rs_seq (h1 : RefS S O P E fr t m) (h2 : RefS S O P E fr u n) : RefS S O P E fr (tSeq t u) (sSeq m n) := fun R σ H fp env I D h => h1 R σ H fp env I _ (WantS.bind h h2)
theorem rs_next : RefS S O P E fr tNext sNext := fun R σ H fp env I D h => h σ H fp I (Fwd.refl _ _)
theorem rs_brk : RefS S O P E fr tBreak sBrk := fun R σ H fp env I D h => h σ H fp I (Fwd.refl _ _)
theorem rs_cont : RefS S O P E fr tCont sCont := fun R σ H fp env I D h => h σ H fp I (Fwd.refl _ _)
theorem rs_bad : RefS S O P E fr tNever sBad := fun R σ H fp env I D h => h
/-- from an expression's outcome to a statement's -/
theorem want_fl {R : Rx} {σ : L2.St} {H : Hp} {fp : Fp} {env : Env} {α : Type} {o : Out α} {f : α → Env → Fl} {D : Ends} (h : WantS S O P E fr R H fp (o.fl f) D σ) :
    Want S O P E μ R σ H fp env o (fun a e1 H1 f1 => WantS S O P E fr R H1 f1 (f a e1) D σ) := by
  cases o with
  | bad => exact h
  | exc x e => exact fun cls dd H' fp' I' s' r => h cls dd σ H' fp' I' s'.strong r
  | ok a e1 =>
    intro H1 f1 I1 s1
    have h : WantS S O P E fr R H fp (f a e1) D σ := h
    have w1 := s1.strong
    cases q : f a e1 with
    | next e => rw [q] at h; exact fun σ2 H2 f2 I2 w2 => h σ2 H2 f2 I2 (w1.trans w2)
    | brk e => rw [q] at h; exact fun σ2 H2 f2 I2 w2 => h σ2 H2 f2 I2 (w1.trans w2)
    | cont e => rw [q] at h; exact fun σ2 H2 f2 I2 w2 => h σ2 H2 f2 I2 (w1.trans w2)
    | ret d e => rw [q] at h; exact fun σ2 v H2 f2 I2 w2 r => h σ2 v H2 f2 I2 (w1.trans w2) r
    | exc d e => rw [q] at h; exact fun cls dd σ2 H2 f2 I2 w2 r => h cls dd σ2 H2 f2 I2 (w1.trans w2) r
    | bad => rw [q] at h; exact h
theorem rs_if (ht : RefT S O P E μ tt mt) (h1 : RefS S O P E fr t m) (h2 : RefS S O P E fr u n) : RefS S O P E fr (tIfS tt t u) (sIf mt m n) := by
  intro R σ H fp env I D h
  refine ht R σ H fp env I _ ((want_fl h).mono fun c e1 H1 f1 I1 s1 hp => ?_)
  cases c with
  | true => exact h1 R σ H1 f1 e1 I1 D hp
  | false => exact h2 R σ H1 f1 e1 I1 D hp
theorem rs_drop (ha : RefE S O P E μ fa ta ma) : RefS S O P E fr (tDrop ta) (sDrop ma) := by
  intro R σ H fp env I D h
  exact ha R σ H fp env I _ ((want_fl h).mono fun d e1 H1 f1 I1 s1 hp v hv _ => hp σ H1 f1 I1 (Fwd.refl _ _))
/-! targets -/
structure RefG (S : Sc) (O P : List Nat) (ws : List Nat) (tg : TG) (g : GM) : Prop where
  loc : ∀ d env e, g d env = some e → e.length = env.length ∧ ∀ i, i ∉ ws → e[i]? = env[i]?
  run : ∀ (R : Rx) (σ : L2.St) (H : Hp) (fp : Fp) (env : Env) (d : D) (v : V) (e : Env), Rel S O P R σ H fp env → Rep S (Fs R fp) H d v → g d env = some e → ∀ Q : L2.St → Hp → Prop, (∀ σ', Rel S O P R σ' H fp e → (∀ i, i ∉ ws → σ'[i]? = σ[i]?) → Q σ' H) → tg v σ H Q
theorem Rel.set {R : Rx} {σ : L2.St} {H : Hp} {fp : Fp} {env : Env} {i : Nat} {d : D} {v : V} (I : Rel S O P R σ H fp env) (hO : i ∉ O) (r : Rep S (Fs R fp) H d v) : Rel S O P R (σ.set i (some v)) H fp (env.set i (some d)) where
  len := by rw [List.length_set, List.length_set, I.len]
  val := fun j d' h1 h2 => by
    by_cases e : i = j
    · subst e
      have hl : i < env.length := by
        have q := (List.getElem?_eq_some_iff.mp h1).1
        rwa [List.length_set] at q
      rw [List.getElem?_set_self hl] at h1
      cases h1
      exact ⟨v, List.getElem?_set_self (by rw [← I.len]; exact hl), r⟩
    · rw [List.getElem?_set_ne e] at h1 ⊢
      exact I.val j d' h1 h2
  own := fun j d' h1 h2 => by
    have e : i ≠ j := fun z => hO (z ▸ h2)
    rw [List.getElem?_set_ne e] at h1 ⊢
    exact I.own j d' h1 h2
  non := fun j h => I.non j (by
    rcases h with h | h
    · exact .inl h
    · by_cases e : i = j
      · exact .inl (e ▸ hO)
      · exact .inr fun d' q => h d' (by rw [List.getElem?_set_ne e]; exact q))
  dist := I.dist
  nd := I.nd
  src := I.src
  ext := I.ext
  gl := I.gl
  live := I.live
  dom := I.dom
  mh := I.mh
  tb := I.tb
  hb := I.hb
theorem rg_set {i : Nat} (hO : i ∉ O) : RefG S O P [i] (gName i) (gSet i) := ⟨fun d env e h => by
  cases h
  exact ⟨List.length_set, fun j hj => List.getElem?_set_ne fun z => hj (by rw [z]; exact List.mem_cons_self)⟩, fun R σ H fp env d v e I r h Q k => by
  cases h
  exact k _ (I.set hO r) fun j hj => List.getElem?_set_ne fun z => hj (by rw [z]; exact List.mem_cons_self)⟩
structure RefGs (S : Sc) (O P : List Nat) (ws : List Nat) (tg : TGs) (gs : List GM) : Prop where
  loc : ∀ ds env e, gTupM gs ds env = some e → e.length = env.length ∧ ∀ i, i ∉ ws → e[i]? = env[i]?
  run : ∀ (R : Rx) (σ : L2.St) (H : Hp) (fp : Fp) (env : Env) (ds : List D) (vs : List V) (e : Env), Rel S O P R σ H fp env → RepL S (Fs R fp) H ds vs → gTupM gs ds env = some e → ∀ Q : L2.St → Hp → Prop, (∀ σ', Rel S O P R σ' H fp e → (∀ i, i ∉ ws → σ'[i]? = σ[i]?) → Q σ' H) → tg vs σ H Q
theorem rgs_nil : RefGs S O P [] gNil [] := ⟨fun ds env e h => by
  cases ds with
  | nil => cases h; exact ⟨rfl, fun _ _ => rfl⟩
  | cons d ds => (cases h), fun R σ H fp env ds vs e I r h Q k => by
  cases ds with
  | nil =>
    cases h
    exact ⟨r, k _ I fun _ _ => rfl⟩
  | cons d ds => cases h⟩
theorem rgs_cons {w1 w2 : List Nat} {tg : TG} {g : GM} {ts : TGs} {gs : List GM} (h1 : RefG S O P w1 tg g) (h2 : RefGs S O P w2 ts gs) : RefGs S O P (w1 ++ w2) (gCons tg ts) (g :: gs) := ⟨fun ds env e h => by
  cases ds with
  | nil => cases h
  | cons d ds =>
    have h : (g d env).bind (gTupM gs ds) = some e := h
    cases q : g d env with
    | none => rw [q] at h; cases h
    | some e1 =>
      rw [q] at h
      obtain ⟨a1, a2⟩ := h1.loc d env e1 q
      obtain ⟨b1, b2⟩ := h2.loc ds e1 e h
      exact ⟨b1.trans a1, fun i hi => (b2 i fun z => hi (List.mem_append_right _ z)).trans (a2 i fun z => hi (List.mem_append_left _ z))⟩, fun R σ H fp env ds vs e I r h Q k => by
  cases ds with
  | nil => cases h
  | cons d ds =>
    obtain ⟨v, us, rfl, r1, r2⟩ := r
    have h : (g d env).bind (gTupM gs ds) = some e := h
    cases q : g d env with
    | none => rw [q] at h; cases h
    | some e1 =>
      rw [q] at h
      exact ⟨v, us, rfl, h1.run R σ H fp env d v e1 I r1 q _ fun σ1 I1 s1 => h2.run R σ1 H fp e1 ds us e I1 r2 h Q fun σ2 I2 s2 => k σ2 I2 fun i hi => (s2 i fun z => hi (List.mem_append_right _ z)).trans (s1 i fun z => hi (List.mem_append_left _ z))⟩⟩
theorem gTupM_len : ∀ {gs : List GM} {ds : List D} {env e : Env}, gTupM gs ds env = some e → ds.length = gs.length
  | [], [], _, _, _ => rfl
  | [], _ :: _, _, _, h => by cases h
  | _ :: _, [], _, _, h => by cases h
  | g :: gs, d :: ds, env, e, h => by
    have h : (g d env).bind (gTupM gs ds) = some e := h
    cases q : g d env with
    | none => rw [q] at h; cases h
    | some e1 =>
      rw [q] at h
      rw [List.length_cons, List.length_cons, gTupM_len (gs := gs) h]
theorem rg_tup {ws : List Nat} {n : Nat} {ts : TGs} {gs : List GM} (h : RefGs S O P ws ts gs) (hn : gs.length = n) : RefG S O P ws (gTup S.K n ts) (gTupleM gs) := ⟨fun d env e q => by
  cases d with
  | tup ds => exact h.loc ds env e q
  | _ => (cases q), fun R σ H fp env d v e I r hg Q k => by
  cases d with
  | tup ds =>
    obtain ⟨a, vs, rfl, r1, r2⟩ := r
    exact ⟨a, vs, rfl, r1, by rw [r2.length, gTupM_len hg, hn], h.run R σ H fp env ds vs e I r2 hg Q k⟩
  | _ => cases hg⟩
theorem rg_lst {ws : List Nat} {n : Nat} {ts : TGs} {gs : List GM} (h : RefGs S O P ws ts gs) (hn : gs.length = n) : RefG S O P ws (gLst S.K n ts) (gListM gs) := ⟨fun d env e q => by
  cases d with
  | lst ds => exact h.loc ds env e q
  | _ => (cases q), fun R σ H fp env d v e I r hg Q k => by
  cases d with
  | lst ds =>
    obtain ⟨a, vs, rfl, _, r1, r2⟩ := r
    exact ⟨a, vs, rfl, .inl (.inl r1), by rw [r2.length, gTupM_len hg, hn], h.run R σ H fp env ds vs e I r2 hg Q k⟩
  | _ => cases hg⟩
theorem rs_asg {ws : List Nat} {tg : TG} {g : GM} (ha : RefE S O P E none fa ta ma) (hg : RefG S O P ws tg g) : RefS S O P E fr (tAsg ta tg) (sAsg ma g) := by
  intro R σ H fp env I D h
  refine ha R σ H fp env I _ ((want_fl h).mono fun d e1 H1 f1 I1 s1 hp v hv _ => ?_)
  cases q : g d e1 with
  | none => rw [q] at hp; exact hp.elim
  | some e2 =>
    rw [q] at hp
    exact hg.run R σ H1 f1 e1 d v e2 I1 hv.rep q _ fun σ' I' _ => hp σ' H1 f1 I' (Fwd.refl _ _)
theorem rs_set {i : Nat} (hO : i ∉ O) (ha : RefE S O P E none fa ta ma) : RefS S O P E fr (tAsg ta (gName i)) (sAsg ma (gSet i)) := rs_asg ha (rg_set hO)
/-- an own slot gets a new list -/
def fpSet (fp : Fp) (i : Nat) (l : List Addr) : Fp := fun j => if j = i then l else fp j
theorem Rel.setOwn {R : Rx} {σ : L2.St} {H : Hp} {fp : Fp} {env : Env} {i : Nat} {ds : List D} {vs : List V} {a : Addr} (I : Rel S O P R σ H fp env) (hO : i ∈ O) (hP : i ∉ P) (hi : i < env.length) (new : R.H0 a = none) (nf : ¬ Fs R fp a) (ha : H a = some (.lst vs))
    (r : RepL S (fun x => Fs R fp x ∨ x = a) H ds vs) (old : ∀ j d, env[j]? = some (some d) → j ≠ i → (j ∉ O → ∃ v, σ[j]? = some (some v) ∧ Rep S (fun x => Fs R fp x ∨ x = a) H d v) ∧ (j ∈ O → ∃ b, σ[j]? = some (some (.ref b)) ∧ Own S (fun x => Fs R fp x ∨ x = a) H d b (fp j))) :
    Rel S O P R (σ.set i (some (.ref a))) H (fpSet fp i [a]) (env.set i (some (.lst ds))) := by
  have sub : ∀ x, Fs R (fpSet fp i [a]) x → (Fs R fp x ∨ x = a) := fun x h => by
    rcases h with h | ⟨j, h⟩
    · exact .inl (.inl h)
    · unfold fpSet at h
      split at h
      · exact .inr (List.mem_singleton.mp h)
      · exact .inl (.inr ⟨j, h⟩)
  refine ⟨by rw [List.length_set, List.length_set, I.len], fun j d h1 h2 => ?_, fun j d h1 h2 => ?_, fun j h => ?_, fun j k b h1 h2 => ?_, fun j => ?_, fun j b h => ?_, I.ext, I.gl, fun j b h => ?_, I.dom, I.mh, I.tb, ⟨I.hb.e, I.hb.m⟩⟩
  · have e : i ≠ j := fun z => h2 (z ▸ hO)
    rw [List.getElem?_set_ne e] at h1 ⊢
    obtain ⟨v, q1, q2⟩ := (old j d h1 (Ne.symm e)).1 h2
    exact ⟨v, q1, q2.less fun x z => .inl (sub x z)⟩
  · by_cases e : i = j
    · subst e
      rw [List.getElem?_set_self hi] at h1
      cases h1
      refine ⟨a, List.getElem?_set_self (by rw [← I.len]; exact hi), ?_, vs, ha, r.less fun x z => .inl (sub x z)⟩
      unfold fpSet
      rw [if_pos rfl]
    · rw [List.getElem?_set_ne e] at h1 ⊢
      obtain ⟨b, q1, q2⟩ := (old j d h1 (Ne.symm e)).2 h2
      refine ⟨b, q1, ?_⟩
      unfold fpSet
      rw [if_neg (Ne.symm e)]
      exact q2.fwd (Ext.refl _ _) fun x z => .inl (sub x z)
  · unfold fpSet
    by_cases e : j = i
    · subst e
      rcases h with h | h
      · exact absurd hO h
      · exact absurd (List.getElem?_set_self hi) (h _)
    · rw [if_neg e]
      refine I.non j (h.imp id fun h d q => h d ?_)
      rw [List.getElem?_set_ne (Ne.symm e)]
      exact q
  · unfold fpSet at h1 h2
    split at h1
    · rename_i e1
      split at h2
      · rename_i e2
        rw [e1, e2]
      · exact absurd (.inr ⟨k, by rw [← List.mem_singleton.mp h1]; exact h2⟩) nf
    · split at h2
      · exact absurd (.inr ⟨j, by rw [← List.mem_singleton.mp h2]; exact h1⟩) nf
      · exact I.dist j k b h1 h2
  · unfold fpSet
    split
    · simp
    · exact I.nd j
  · unfold fpSet at h
    split at h
    · rename_i e
      cases List.mem_singleton.mp h
      exact ⟨fun z => absurd (e ▸ z) hP, fun _ => ⟨new, fun z => nf (.inl z)⟩⟩
    · exact I.src j b h
  · unfold fpSet at h
    split at h
    · cases List.mem_singleton.mp h
      rw [ha]
      exact fun z => nomatch z
    · exact I.live j b h
end
end Mir
/-! MirD -/
namespace Mir
open PySem PySem.Spec PyProof.Rows L2
variable [Tbl]
/-! ### own lists -/
def sOwn (a : EM) (i : Nat) : SM := fun env => (a env).fl fun d e => if i < e.length then .next (e.set i (some d)) else .bad
def sApp (i : Nat) (a : EM) : SM := fun env => match env[i]? with
  | some (some (.lst _)) => (a env).fl fun d e => match e[i]? with
    | some (some (.lst ds)) => if ds.length < 100000 then .next (e.set i (some (.lst (ds ++ [d])))) else .bad
    | _ => .bad
  | _ => .bad
def sExt (i : Nat) (a : EM) : SM := fun env => match env[i]? with
  | some (some (.lst _)) => (a env).fl fun d e => match e[i]?, d with
    | some (some (.lst ds)), .lst xs => if ds.length + xs.length ≤ 100000 then .next (e.set i (some (.lst (ds ++ xs)))) else .bad
    | _, _ => .bad
  | _ => .bad
def sRetOwn (i : Nat) : SM := fun env => match env[i]? with
  | some (some (.lst ds)) => .ret (.lst ds) env
  | _ => .bad
section
variable {S : Sc} {O P : List Nat} {E : XK} {μ : Mo} {fr fa : Bool} {ta : TE} {ma : EM} {t u : TS} {m n : SM} {tt : TT} {mt : TM}
/-- the outcome told from where the statement began -/
theorem want_fl0 {R : Rx} {σ : L2.St} {H : Hp} {fp : Fp} {env : Env} {α : Type} {o : Out α} {f : α → Env → Fl} {D : Ends} (h : WantS S O P E fr R H fp (o.fl f) D σ) :
    Want S O P E μ R σ H fp env o (fun a e1 H1 f1 => WantS S O P E fr R H fp (f a e1) D σ) := by
  cases o with
  | bad => exact h
  | exc x e => exact fun cls dd H' fp' I' s' r => h cls dd σ H' fp' I' s'.strong r
  | ok a e1 => exact fun H1 f1 I1 s1 => h
theorem rs_setOwn {i : Nat} (hO : i ∈ O) (hP : i ∉ P) (ha : RefE S O P E none true ta ma) : RefS S O P E fr (tAsg ta (gName i)) (sOwn ma i) := by
  intro R σ H fp env I D h
  refine ha R σ H fp env I _ ((want_fl0 h).mono fun d e1 H1 f1 I1 s1 hp v hv sp => ?_)
  by_cases c : i < e1.length
  · rw [if_pos c] at hp
    obtain ⟨a, vs, ds, rfl, new, rfl, ha1, nf, r⟩ := hv
    have Ib := sp rfl a rfl
    have w : ∀ x, (Fs R f1 x ∨ x = a) → Fs (R.plus a) f1 x ∨ H1 x = none := fun x z => .inl (fs_plus.mpr z)
    have n0 : R.H0 a = none := by
      cases q : R.H0 a with
      | none => rfl
      | some o => exact absurd new (I.dom a (by rw [q]; exact fun z => nomatch z))
    have I2 : Rel S O P R (σ.set i (some (.ref a))) H1 (fpSet f1 i [a]) (e1.set i (some (.lst ds))) := I1.setOwn hO hP c n0 nf ha1 r fun j d h1 hj =>
      ⟨fun h2 => let ⟨v, q1, q2⟩ := Ib.val j d h1 h2; ⟨v, q1, q2.less w⟩,
       fun h2 => let ⟨v, q1, q2⟩ := Ib.own j d h1 h2; ⟨v, q1, q2.fwd (Ext.refl _ _) w⟩⟩
    refine hp _ H1 _ I2 ⟨s1.strong.1, fun x z => ?_, s1.strong.2.2⟩
    obtain ⟨j, z⟩ := z
    unfold fpSet at z
    split at z
    · cases List.mem_singleton.mp z
      exact .inr new
    · exact s1.strong.2.1 x ⟨j, z⟩
  · rw [if_neg c] at hp
    exact hp.elim
/-- an own thing is changed in place -/
theorem Rel.updO {R : Rx} {σ : L2.St} {H : Hp} {fp : Fp} {env : Env} {i : Nat} {d d' : D} {a : Addr} {o o' : HO} (I : Rel S O P R σ H fp env) (hO : i ∈ O) (hi : env[i]? = some (some d)) (hs : σ[i]? = some (some (.ref a))) (h2 : fp i = [a]) (h3 : H a = some o) (mu : Mut (some o))
    (nw : Fwd (Fs R fp) H (Fs R fp) (L2.upd H a o') → Own S (Fs R fp) (L2.upd H a o') d' a [a]) (nx : NX o := by trivial) : Rel S O P R σ (upd H a o') fp (env.set i (some d')) ∧ Fwd (Lv fp) H (Lv fp) (upd H a o') := by
  have hl : i < env.length := (List.getElem?_eq_some_iff.mp hi).1
  have fa : Lv fp a := ⟨i, by rw [h2]; exact List.mem_cons_self⟩
  have dm : ∀ b, H b ≠ none → L2.upd H a o' b ≠ none := fun b hb => by
    unfold L2.upd
    split
    · exact fun z => nomatch z
    · exact hb
  have w0 : Fwd (Lv fp) H (Lv fp) (L2.upd H a o') := ⟨ext_upd h3 fa mu nx, fun _ z => .inl z, dm⟩
  have w : Fwd (Fs R fp) H (Fs R fp) (L2.upd H a o') := adv_fs w0
  refine ⟨⟨by rw [List.length_set, I.len], fun j e q1 q2 => ?_, fun j e q1 q2 => ?_, fun j q => ?_, I.dist, I.nd, I.src, ?_, fun b q => dm b (I.gl b q), fun j b q => dm b (I.live j b q), fun b q => dm b (I.dom b q), I.mh, tb_ext w0.1 I.tb, ⟨I.hb.e, I.hb.m⟩⟩, w0⟩
  · have ne : i ≠ j := fun z => q2 (z ▸ hO)
    rw [List.getElem?_set_ne ne] at q1
    obtain ⟨v, x1, x2⟩ := I.val j e q1 q2
    exact ⟨v, x1, Rep.fwd w _ _ x2⟩
  · by_cases ne : i = j
    · subst ne
      rw [List.getElem?_set_self hl] at q1
      cases q1
      exact ⟨a, hs, by rw [h2]; exact nw w⟩
    · rw [List.getElem?_set_ne ne] at q1
      obtain ⟨b, x1, x2⟩ := I.own j e q1 q2
      refine ⟨b, x1, ?_⟩
      have nb : ∀ c, c ∈ fp j → c ≠ a := fun c hc z => ne (I.dist i j a (by rw [h2]; exact List.mem_cons_self) (z ▸ hc))
      cases e with
      | lst es =>
        obtain ⟨y1, us, y2, y3⟩ := x2
        exact ⟨y1, us, by rw [upd_ne (nb b (by rw [y1]; exact List.mem_cons_self))]; exact y2, RepL.fwd w _ _ y3⟩
      | ins k es =>
        obtain ⟨y1, dx, us, y2, y3, y4⟩ := x2
        exact ⟨y1, dx, us, by rw [upd_ne (nb b (by rw [y1]; exact List.mem_cons_self))]; exact y2, y3, RepL.fwd w _ _ y4⟩
      | _ => exact x2.elim
  · refine I.non j (q.imp id fun q e z => ?_)
    by_cases ne : i = j
    · subst ne
      exact q _ (List.getElem?_set_self hl)
    · exact q e (by rw [List.getElem?_set_ne ne]; exact z)
  · refine ext_again I.ext h3 ?_ mu nx
    by_cases hp : i ∈ P
    · exact .inl ((I.src i a (by rw [h2]; exact List.mem_cons_self)).1 hp)
    · exact .inr ((I.src i a (by rw [h2]; exact List.mem_cons_self)).2 hp).1
theorem Rel.upd {R : Rx} {σ : L2.St} {H : Hp} {fp : Fp} {env : Env} {i : Nat} {ds ds' : List D} {a : Addr} {vs' : List V} (I : Rel S O P R σ H fp env) (hO : i ∈ O) (hi : env[i]? = some (some (.lst ds))) (hs : σ[i]? = some (some (.ref a)))
    (r : RepL S (Fs R fp) H ds' vs') : Rel S O P R σ (upd H a (.lst vs')) fp (env.set i (some (.lst ds'))) ∧ Fwd (Lv fp) H (Lv fp) (upd H a (.lst vs')) := by
  obtain ⟨a', h1, h2, vs, h3, h4⟩ := I.own i _ hi hO
  rw [hs] at h1
  cases h1
  exact I.updO hO hi hs h2 h3 trivial fun w => ⟨rfl, vs', upd_same, RepL.fwd w _ _ r⟩
theorem own_lst {R : Rx} {σ : L2.St} {H : Hp} {fp : Fp} {env : Env} {i : Nat} {ds : List D} (I : Rel S O P R σ H fp env) (hO : i ∈ O) (h : env[i]? = some (some (.lst ds))) : ∃ a vs, σ[i]? = some (some (.ref a)) ∧ fp i = [a] ∧ H a = some (.lst vs) ∧ RepL S (Fs R fp) H ds vs := by
  obtain ⟨a, h1, h2, vs, h3, h4⟩ := I.own i _ h hO
  exact ⟨a, vs, h1, h2, h3, h4⟩
theorem lt_line {n : Nat} (h : n < 100000) : n < sizeLine := Nat.lt_of_lt_of_le h (by decide)
/-- x.append(e) -/
theorem rs_app {i : Nat} (hO : i ∈ O) (ha : RefE S O P E none fa ta ma) : RefS S O P E fr (tDrop (tBM S.K "list" rAppend (tVar i) (tCons ta tNil))) (sApp i ma) := by
  intro R σ H fp env I D h
  unfold sApp at h
  split at h
  · rename_i ds0 e0
    obtain ⟨a, vs0, q1, q2, q3, q4⟩ := own_lst I hO e0
    refine ⟨_, q1, .inl ⟨rfl, vs0, .inl (.inl q3)⟩, ?_⟩
    refine ha R σ H fp env I _ ((want_fl h).mono fun d e1 H1 f1 I1 s1 hp v hv _ => ?_)
    split at hp
    · rename_i ds e2
      obtain ⟨b, vs, x1, x2, x3, x4⟩ := own_lst I1 hO e2
      rw [q1] at x1
      cases x1
      split at hp
      · rename_i hz
        obtain ⟨I2, w2⟩ := I1.upd hO e2 q1 (x4.snoc hv.rep)
        exact ⟨a, vs, v, rfl, rfl, x3, by rw [x4.length]; exact lt_line hz, hp _ _ _ I2 w2⟩
      · exact hp.elim
    · exact hp.elim
  · exact h.elim
/-- x.extend(e), e another list -/
theorem rs_ext {i : Nat} (hO : i ∈ O) (ha : RefE S O P E none true ta ma) : RefS S O P E fr (tDrop (tBM S.K "list" rExtend (tVar i) (tCons ta tNil))) (sExt i ma) := by
  intro R σ H fp env I D h
  unfold sExt at h
  split at h
  · rename_i ds0 e0
    obtain ⟨a, vs0, q1, q2, q3, q4⟩ := own_lst I hO e0
    refine ⟨_, q1, .inl ⟨rfl, vs0, .inl (.inl q3)⟩, ?_⟩
    refine ha R σ H fp env I _ ((want_fl h).mono fun d e1 H1 f1 I1 s1 hp v hv _ => ?_)
    split at hp
    · rename_i ds xs e2
      obtain ⟨b, vs, x1, x2, x3, x4⟩ := own_lst I1 hO e2
      rw [q1] at x1
      cases x1
      split at hp
      · rename_i hz
        obtain ⟨c, us, xs', rfl, _, ex, y1, _, y2⟩ := hv
        cases ex
        have y2 := y2.less (F' := Fs R f1) fun _ z => .inl (.inl z)
        obtain ⟨I2, w2⟩ := I1.upd hO e2 q1 (x4.append y2)
        exact ⟨a, c, vs, us, rfl, rfl, x3, y1, by rw [x4.length, y2.length]; exact sz_of hz, hp _ _ _ I2 w2⟩
      · exact hp.elim
    · exact hp.elim
  · exact h.elim
/-! returns -/
theorem rs_ret (hf : fr = true → fa = true) (hU : ∀ U, μ = some U → ∀ i ∈ U, i ∉ P) (ha : RefE S O P E μ fa ta ma) : RefS S O P E fr (tRet ta) (sRet ma) := by
  intro R σ H fp env I D h
  refine ha R σ H fp env I _ ((want_fl h).mono fun d e1 H1 f1 I1 s1 hp v hv _ => ?_)
  refine hp σ v H1 f1 I1 (Fwd.refl _ _) ?_
  have sub : ∀ a, R.G a → FM R f1 μ a := fun a z => by
    cases μ with
    | none => exact .inl z
    | some U => exact ⟨.inl z, fun ⟨i, y1, y2⟩ => ((I1.src i a y2).2 (hU U rfl i y1)).2 z⟩
  cases fr with
  | false => exact hv.rep.less fun a z => .inl (sub a z)
  | true =>
    have hf := hf rfl
    subst hf
    obtain ⟨a, vs, ds, rfl, new, rfl, x1, x2, x3⟩ := hv
    refine ⟨a, vs, ds, rfl, ?_, rfl, x1, fun z => x2 (sub a z), x3.less fun b z => .inl (z.imp (sub b) id)⟩
    cases q : R.H0 a with
    | none => rfl
    | some o => exact absurd new (I.dom a (by rw [q]; exact fun z => nomatch z))
theorem rs_retN : RefS S O P E false tRetN sRetN := fun R σ H fp env I D h => h σ _ H fp I (Fwd.refl _ _) rfl
/-- return x, x an own list: new for the caller -/
theorem rs_retOwn {i : Nat} (hO : i ∈ O) (hP : i ∉ P) : RefS S O P E fr (tRet (tVar i)) (sRetOwn i) := by
  intro R σ H fp env I D h
  unfold sRetOwn at h
  split at h
  · rename_i ds e
    obtain ⟨a, vs, h1, e1, e2, e3⟩ := own_lst I hO e
    refine ⟨_, h1, h σ _ H fp I (Fwd.refl _ _) ?_⟩
    have hs := (I.src i a (by rw [e1]; exact List.mem_cons_self)).2 hP
    cases fr with
    | false => exact ⟨a, vs, rfl, hs.2, e2, e3.less fun _ z => .inl (.inl z)⟩
    | true => exact ⟨a, vs, ds, rfl, hs.1, rfl, e2, hs.2, e3.less fun b z => .inl (z.elim .inl fun e => .inr ⟨i, by rw [e1, e]; exact List.mem_cons_self⟩)⟩
  · exact h.elim
end
end Mir
/-! MirE -/
namespace Mir
open PySem PySem.Spec PyProof.Rows L2
variable [Tbl]
/-! ### what is walked -/
abbrev IM := Env → Out (List D)
/-- the iterator J yields what ds says, whatever may have happened meanwhile to what may change -/
def Stq (μ : Mo) (F : Addr → Prop) (H : Hp) (F' : Addr → Prop) (H' : Hp) : Prop := match μ with
  | none => Fwd F H F' H'
  | some _ => Ext Nil H H' ∧ ∀ x, F' x → F x ∨ H x = none
theorem Stq.fwd {μ : Mo} {F F' : Addr → Prop} {H H' : Hp} (s : Stq μ F H F' H') : Fwd F H F' H' := by
  cases μ with
  | none => exact s
  | some U => exact ⟨s.1.mono fun _ z => z.elim, s.2, fun _ z => s.1.dom z⟩
def ItOk (S : Sc) (μ : Mo) (F : Addr → Prop) (H : Hp) (J : It) (ds : List D) : Prop := ∀ (F' : Addr → Prop) (H' : Hp), Stq μ F H F' H' → (∀ a, F' a → H' a ≠ none) →
  (∀ n, n < ds.length → J.go n H') ∧ (∀ n x H3 d, J.yld n H' x H3 → ds[n]? = some d → Ext Nil H' H3 ∧ Rep S F' H3 d x) ∧ (∀ n, ds.length ≤ n → J.stop n H')
def RefI (S : Sc) (O P : List Nat) (E : XK) (μ : Mo) (wi : TI) (m : IM) : Prop :=
  ∀ (R : Rx) (σ : L2.St) (H : Hp) (fp : Fp) (env : Env), Rel S O P R σ H fp env → ∀ Q : It → Hp → Prop, Want S O P E μ R σ H fp env (m env) (fun ds _ H' fp' => ∀ J, ItOk S μ (Fs R fp') H' J ds → Q J H') → wi σ H Q
def D.isL : D → Option (List D)
  | .lst ds => some ds
  | _ => none
def D.isT : D → Option (List D)
  | .tup ds => some ds
  | _ => none
def iLst (a : EM) : IM := fun env => (a env).bind fun x e => .opt x.isL e
def iTupM (a : EM) : IM := fun env => (a env).bind fun x e => .opt x.isT e
def rangeL (lo : Int) (n : Nat) : List D := (List.range n).map fun i => D.int (lo + (i : Nat))
def rng1 : List D → Option (List D)
  | [.int j] => if -(2 ^ 62) ≤ j ∧ j < 2 ^ 62 then some (rangeL 0 j.toNat) else none
  | _ => none
def rng2 : List D → Option (List D)
  | [.int i, .int j] => if -(2 ^ 62) ≤ i ∧ i < 2 ^ 62 ∧ -(2 ^ 62) ≤ j ∧ j < 2 ^ 62 then some (rangeL i (j - i).toNat) else none
  | _ => none
def iRng1M (a : AM) : IM := fun env => (a env).bind fun xs e => .opt (rng1 xs) e
def iRng2M (a : AM) : IM := fun env => (a env).bind fun xs e => .opt (rng2 xs) e
def enumL (i : Nat) : List D → List D
  | [] => []
  | d :: ds => .tup [.int (i : Nat), d] :: enumL (i + 1) ds
theorem enumL_get : ∀ {ds : List D} {i n : Nat} {d : D}, (enumL i ds)[n]? = some d → ∃ x, ds[n]? = some x ∧ d = .tup [.int ((i + n : Nat)), x]
  | [], _, _, _, h => by simp [enumL] at h
  | x :: ds, i, 0, d, h => by
    cases (show some _ = some d from h)
    exact ⟨x, rfl, rfl⟩
  | x :: ds, i, n + 1, d, h => by
    obtain ⟨y, h1, h2⟩ := enumL_get (show (enumL (i + 1) ds)[n]? = some d from h)
    exact ⟨y, h1, by rw [h2, show i + 1 + n = i + (n + 1) by omega]⟩
theorem enumL_len : ∀ (ds : List D) (i : Nat), (enumL i ds).length = ds.length
  | [], _ => rfl
  | _ :: ds, i => by show (enumL (i + 1) ds).length + 1 = _; rw [enumL_len ds]; rfl
def iEnumL (a : EM) : IM := fun env => (a env).bind fun x e => (Out.opt x.isL e).bind fun ds e => .ok (enumL 0 ds) e
def iEnumT (a : EM) : IM := fun env => (a env).bind fun x e => (Out.opt x.isT e).bind fun ds e => .ok (enumL 0 ds) e
section
variable {S : Sc} {O P : List Nat} {E : XK} {μ : Mo} {fr fa : Bool} {ta : TE} {ma : EM} {t u : TS} {m n : SM} {tt : TT} {mt : TM}
theorem stq_rd {F F' : Addr → Prop} {H H' : Hp} {a : Addr} {u : HO} (nf : μ = none → ¬ F a) (w : Stq μ F H F' H') (h : Rd H a u) (nt : NT u := by trivial) : Rd H' a u := by
  cases μ with
  | none => exact rd_ext w.1 (nf rfl) h nt
  | some U => exact rd_ext w.1 (fun z => z) h nt
theorem itok_list {F : Addr → Prop} {H : Hp} {a : Addr} {vs : List V} {ds : List D} (nf : μ = none → ¬ F a) (h1 : Rd H a (.lst vs)) (h2 : RepL S F H ds vs) : ItOk S μ F H (Itl S.K a) ds := fun F' H' w al => by
  have r := stq_rd nf w h1
  have w := w.fwd
  refine ⟨fun n hn => ?_, fun n x H3 d y hd => ?_, fun n hn => ⟨vs, .inl r, by rw [h2.length]; exact hn⟩⟩
  · obtain ⟨v, e, _⟩ := h2.get (List.getElem?_eq_getElem hn)
    exact ⟨vs, v, .inl r, e⟩
  · obtain ⟨rfl, k⟩ := y
    obtain ⟨v, e, q⟩ := h2.get hd
    have := (k vs (.inl r)).symm.trans e
    cases this
    exact ⟨Ext.refl _ _, Rep.fwd w _ _ q⟩
theorem itok_tup {F : Addr → Prop} {H : Hp} {a : Addr} {vs : List V} {ds : List D} (h1 : SqT S.K H a vs) (h2 : RepL S F H ds vs) : ItOk S μ F H (Itt S.K a) ds := fun F' H' w al => by
  have w := w.fwd
  have r := sqt_ext w.1 h1
  refine ⟨fun n hn => ?_, fun n x H3 d y hd => ?_, fun n hn => ⟨vs, r, by rw [h2.length]; exact hn⟩⟩
  · obtain ⟨v, e, _⟩ := h2.get (List.getElem?_eq_getElem hn)
    exact ⟨vs, v, r, e⟩
  · obtain ⟨rfl, k⟩ := y
    obtain ⟨v, e, q⟩ := h2.get hd
    have := (k vs r).symm.trans e
    cases this
    exact ⟨Ext.refl _ _, Rep.fwd w _ _ q⟩
theorem itok_range {F : Addr → Prop} {H : Hp} {lo : Int} {n : Nat} : ItOk S μ F H (Itr lo n) (rangeL lo n) := fun F' H' w al => by
  refine ⟨fun k hk => ?_, fun k x H3 d y hd => ?_, fun k hk => ?_⟩
  · unfold rangeL at hk
    rw [List.length_map, List.length_range] at hk
    exact hk
  · obtain ⟨rfl, rfl⟩ := y
    unfold rangeL at hd
    rw [List.getElem?_map] at hd
    cases q : (List.range n)[k]? with
    | none => rw [q] at hd; cases hd
    | some j =>
      rw [q] at hd
      cases hd
      obtain ⟨h1, h2⟩ := List.getElem?_eq_some_iff.mp q
      rw [List.getElem_range] at h2
      subst h2
      exact ⟨Ext.refl _ _, rfl⟩
  · unfold rangeL at hk
    rw [List.length_map, List.length_range] at hk
    exact hk
theorem itok_enum {F : Addr → Prop} {H : Hp} {a : Addr} {vs : List V} {ds : List D} (nf : μ = none → ¬ F a) (h1 : Rd H a (.lst vs)) (h2 : RepL S F H ds vs) : ItOk S μ F H (Ite S.K a) (enumL 0 ds) := fun F' H' w al => by
  have r := stq_rd nf w h1
  have w := w.fwd
  refine ⟨fun n hn => ?_, fun n x H3 d y hd => ?_, fun n hn => ⟨vs, .inl r, by rw [h2.length]; rw [enumL_len] at hn; exact hn⟩⟩
  · rw [enumL_len] at hn
    obtain ⟨v, e, _⟩ := h2.get (List.getElem?_eq_getElem hn)
    exact ⟨vs, v, .inl r, e⟩
  · obtain ⟨T, z, rfl, nT, rfl, k⟩ := y
    obtain ⟨d0, e0, rfl⟩ := enumL_get hd
    obtain ⟨v, e, q⟩ := h2.get e0
    have := (k vs (.inl r)).symm.trans e
    cases this
    refine ⟨Ext.new nT, T, _, rfl, .inl (.inl upd_same), ?_⟩
    rw [Nat.zero_add]
    exact .cons rfl (.cons ((Rep.fwd w _ _ q).grow (Ext.new nT)) .nil)
theorem ri_list (ha : RefE S O P E none fa ta ma) : RefI S O P E none (iList S.K ta) (iLst ma) := by
  intro R σ H fp env I Q h
  refine ha R σ H fp env I _ ((Want.bind h).mono fun x e1 H1 f1 I1 s1 h1 v hv _ => ?_)
  obtain ⟨ds, hd⟩ := want_some h1
  rw [hd] at h1
  have hv := hv.rep
  cases x with
  | lst es =>
    cases hd
    obtain ⟨a, vs, rfl, nf, r1, r2⟩ := hv
    exact ⟨a, rfl, ⟨vs, .inl (.inl r1)⟩, h1 H1 f1 I1 Stp.refl _ (itok_list (fun _ => nf) (.inl r1) r2)⟩
  | _ => cases hd
theorem ri_tup (ha : RefE S O P E none fa ta ma) : RefI S O P E none (iTup S.K ta) (iTupM ma) := by
  intro R σ H fp env I Q h
  refine ha R σ H fp env I _ ((Want.bind h).mono fun x e1 H1 f1 I1 s1 h1 v hv _ => ?_)
  obtain ⟨ds, hd⟩ := want_some h1
  rw [hd] at h1
  have hv := hv.rep
  cases x with
  | tup es =>
    cases hd
    obtain ⟨a, vs, rfl, r1, r2⟩ := hv
    exact ⟨a, rfl, ⟨vs, r1⟩, h1 H1 f1 I1 Stp.refl _ (itok_tup r1 r2)⟩
  | _ => cases hd
theorem ri_range1 {tA : TA} {mA : AM} (ha : RefA S O P E μ tA mA) : RefI S O P E μ (iRng1 tA) (iRng1M mA) := by
  intro R σ H fp env I Q h
  refine ha R σ H fp env I _ ((Want.bind h).mono fun xs e1 H1 f1 I1 s1 h1 vs hv => ?_)
  obtain ⟨ds, hd⟩ := want_some h1
  rw [hd] at h1
  unfold rng1 at hd
  split at hd
  · rename_i j
    split at hd
    · rename_i c
      cases hd
      obtain ⟨v, r, rfl, e1, e2⟩ := hv
      cases (show v = _ from e1)
      cases (show r = _ from e2)
      exact ⟨j, rfl, c.1, c.2, h1 H1 f1 I1 Stp.refl _ itok_range⟩
    · cases hd
  · cases hd
theorem ri_range2 {tA : TA} {mA : AM} (ha : RefA S O P E μ tA mA) : RefI S O P E μ (iRng2 tA) (iRng2M mA) := by
  intro R σ H fp env I Q h
  refine ha R σ H fp env I _ ((Want.bind h).mono fun xs e1 H1 f1 I1 s1 h1 vs hv => ?_)
  obtain ⟨ds, hd⟩ := want_some h1
  rw [hd] at h1
  unfold rng2 at hd
  split at hd
  · rename_i i j
    split at hd
    · rename_i c
      cases hd
      obtain ⟨v, r, rfl, e1, v2, r2, rfl, e2, e3⟩ := hv
      cases (show v = _ from e1)
      cases (show v2 = _ from e2)
      cases (show r2 = _ from e3)
      exact ⟨i, j, rfl, c, h1 H1 f1 I1 Stp.refl _ itok_range⟩
    · cases hd
  · cases hd
theorem ri_enum (ha : RefE S O P E none fa ta ma) : RefI S O P E none (iEnum S.K (tCons ta tNil)) (iEnumL ma) := by
  intro R σ H fp env I Q h
  refine ha R σ H fp env I _ ((Want.bind h).mono fun x e1 H1 f1 I1 s1 h1 v hv _ => ?_)
  have h5 := Want.bind h1
  obtain ⟨ds, hd⟩ := want_some h5
  rw [hd] at h5
  have hw := hv.rep
  cases x with
  | lst es =>
    cases hd
    obtain ⟨a, vs, rfl, nf, r1, r2⟩ := hw
    exact ⟨a, vs, rfl, .inl (.inl r1), (h5 H1 f1 I1 Stp.refl) H1 f1 I1 Stp.refl _ (itok_enum (fun _ => nf) (.inl r1) r2)⟩
  | _ => cases hd
/-- weak: what is walked are pure data -/
def iLstP (a : EM) : IM := fun env => (a env).bind fun x e => (Out.opt x.isL e).bind fun ds e => if D.pureL ds then .ok ds e else .bad
def iTupP (a : EM) : IM := fun env => (a env).bind fun x e => (Out.opt x.isT e).bind fun ds e => if D.pureL ds then .ok ds e else .bad
theorem ri_listP {U : List Nat} (ha : RefE S O P E (some U) fa ta ma) : RefI S O P E (some U) (iList S.K ta) (iLstP ma) := by
  intro R σ H fp env I Q h
  refine ha R σ H fp env I _ ((Want.bind h).mono fun x e1 H1 f1 I1 s1 h1 v hv _ => ?_)
  have h5 := Want.bind h1
  obtain ⟨ds, hd⟩ := want_some h5
  rw [hd] at h5
  have hw := hv.rep
  cases x with
  | lst es =>
    cases hd
    have h6 := h5 H1 f1 I1 Stp.refl
    dsimp only at h6
    obtain ⟨a, vs, rfl, nf, r1, r2⟩ := hw
    by_cases c : D.pureL ds = true
    · rw [if_pos c] at h6
      exact ⟨a, rfl, ⟨vs, .inl (.inl r1)⟩, h6 H1 f1 I1 Stp.refl _ (itok_list (fun z => nomatch z) (.inl r1) (repL_pure _ _ c r2))⟩
    · rw [if_neg c] at h6
      exact h6.elim
  | _ => cases hd
theorem ri_tupP {U : List Nat} (ha : RefE S O P E (some U) fa ta ma) : RefI S O P E (some U) (iTup S.K ta) (iTupP ma) := by
  intro R σ H fp env I Q h
  refine ha R σ H fp env I _ ((Want.bind h).mono fun x e1 H1 f1 I1 s1 h1 v hv _ => ?_)
  have h5 := Want.bind h1
  obtain ⟨ds, hd⟩ := want_some h5
  rw [hd] at h5
  have hw := hv.rep
  cases x with
  | tup es =>
    cases hd
    have h6 := h5 H1 f1 I1 Stp.refl
    dsimp only at h6
    obtain ⟨a, vs, rfl, r1, r2⟩ := hw
    by_cases c : D.pureL ds = true
    · rw [if_pos c] at h6
      exact ⟨a, rfl, ⟨vs, r1⟩, h6 H1 f1 I1 Stp.refl _ (itok_tup r1 (repL_pure _ _ c r2))⟩
    · rw [if_neg c] at h6
      exact h6.elim
  | _ => cases hd
/-- weak: an own list is walked -/
theorem ri_own {U : List Nat} {i : Nat} (hO : i ∈ O) : RefI S O P E (some U) (iList S.K (tVar i)) (iLst (eVar i)) := by
  intro R σ H fp env I Q h
  have h1 := Want.bind h
  unfold eVar at h1
  split at h1
  · rename_i d e
    have h2 := h1 H fp I Stp.refl
    dsimp only at h2
    obtain ⟨ds, hd⟩ := want_some h2
    rw [hd] at h2
    cases d with
    | lst es =>
      cases hd
      obtain ⟨a, vs, q1, q2, q3, q4⟩ := own_lst I hO e
      exact ⟨_, q1, a, rfl, ⟨vs, .inl (.inl q3)⟩, h2 H fp I Stp.refl _ (itok_list (fun z => nomatch z) (.inl q3) q4)⟩
    | _ => cases hd
  · exact h1.elim
/-! ### for -/
def forGo (g : GM) (b : SM) : List D → Env → Fl
  | [], env => .next env
  | d :: ds, env => match g d env with
    | none => .bad
    | some e => match b e with
      | .next e' => forGo g b ds e'
      | .cont e' => forGo g b ds e'
      | .brk e' => .next e'
      | .ret x e' => .ret x e'
      | .exc x e' => .exc x e'
      | .bad => .bad
def sFor (it : IM) (g : GM) (b : SM) : SM := fun env => (it env).fl fun ds e => forGo g b ds e
theorem WantS.at {R : Rx} {H H1 : Hp} {fp f1 : Fp} {o : Fl} {D : Ends} {σ σ1 : L2.St} (h : WantS S O P E fr R H fp o D σ) (w1 : Fwd (Lv fp) H (Lv f1) H1) : WantS S O P E fr R H1 f1 o D σ1 := by
  cases o with
  | next e => exact fun σ2 H2 f2 I2 w2 => h σ2 H2 f2 I2 (w1.trans w2)
  | brk e => exact fun σ2 H2 f2 I2 w2 => h σ2 H2 f2 I2 (w1.trans w2)
  | cont e => exact fun σ2 H2 f2 I2 w2 => h σ2 H2 f2 I2 (w1.trans w2)
  | ret d e => exact fun σ2 v H2 f2 I2 w2 r => h σ2 v H2 f2 I2 (w1.trans w2) r
  | exc d e => exact fun cls dd σ2 H2 f2 I2 w2 r => h cls dd σ2 H2 f2 I2 (w1.trans w2) r
  | bad => exact h
theorem rs_for {ws : List Nat} {wi : TI} {it : IM} {tg : TG} {g : GM} (hi : RefI S O P E none wi it) (hg : RefG S O P ws tg g) (hb : RefS S O P E fr t m) : RefS S O P E fr (tFor wi tg t) (sFor it g m) := by
  intro R σ H fp env I D h
  refine hi R σ H fp env I _ ((want_fl h).mono fun ds e1 H1 f1 I1 s1 hp J hJ => ?_)
  refine ⟨fun i k σ' H' => i + k = ds.length ∧ ∃ fp' env', Rel S O P R σ' H' fp' env' ∧ Fwd (Lv f1) H1 (Lv fp') H' ∧ WantS S O P E fr R H' fp' (forGo g m (ds.drop i) env') D σ',
    ⟨ds.length, by omega, f1, e1, I1, Fwd.refl _ _, hp⟩, fun i k σ' H' hW => ?_⟩
  obtain ⟨hk, f2, e2, I2, w2, hp2⟩ := hW
  obtain ⟨j1, j2, j3⟩ := hJ (Fs R f2) H' (adv_fs w2) fun a q => I2.fs q
  by_cases c : i < ds.length
  · refine .inr ⟨j1 i c, fun σ3 H3 => ∃ k', k' < k ∧ (i + 1 + k' = ds.length ∧ ∃ fp' env', Rel S O P R σ3 H3 fp' env' ∧ Fwd (Lv f1) H1 (Lv fp') H3 ∧ WantS S O P E fr R H3 fp' (forGo g m (ds.drop (i + 1)) env') D σ3), fun _ _ z => z, fun x H3 hy => ?_⟩
    have hd : ds[i]? = some ds[i] := List.getElem?_eq_getElem c
    obtain ⟨x3, r3⟩ := j2 i x H3 _ hy hd
    have I3 := I2.grow x3
    have w3 : Fwd (Lv f1) H1 (Lv f2) H3 := w2.trans (Fwd.grow x3)
    rw [List.drop_eq_getElem_cons c] at hp2
    unfold forGo at hp2
    split at hp2
    · exact hp2.elim
    · rename_i e3 q3
      refine hg.run R σ' H3 f2 e2 _ x e3 I3 r3 q3 _ fun σ4 I4 _ => hb R σ4 H3 f2 e3 I4 _ ?_
      have hp3 : WantS S O P E fr R H3 f2 _ D σ' := hp2.at (f1 := f2) (Fwd.grow x3)
      cases q : m e3 with
      | next e =>
        rw [q] at hp3
        exact fun σ5 H5 f5 I5 w5 => ⟨k - 1, by omega, by omega, f5, e, I5, w3.trans w5, hp3.at w5⟩
      | cont e =>
        rw [q] at hp3
        exact fun σ5 H5 f5 I5 w5 => ⟨k - 1, by omega, by omega, f5, e, I5, w3.trans w5, hp3.at w5⟩
      | brk e => rw [q] at hp3; exact hp3
      | ret d e => rw [q] at hp3; exact hp3
      | exc d e => rw [q] at hp3; exact hp3
      | bad => rw [q] at hp3; exact hp3
  · refine .inl ⟨j3 i (by omega), ?_⟩
    rw [List.drop_eq_nil_of_le (by omega)] at hp2
    exact hp2 σ' H' f2 I2 (Fwd.refl _ _)
/-! ### while -/
/-- one more turn at most n times; none: not yet through -/
def whileN (c : TM) (b : SM) : Nat → Env → Option Fl
  | 0, _ => none
  | n + 1, env => match c env with
    | .bad => some .bad
    | .exc x e => some (.exc x e)
    | .ok false e => some (.next e)
    | .ok true e => match b e with
      | .next e' => whileN c b n e'
      | .cont e' => whileN c b n e'
      | .brk e' => some (.next e')
      | .ret x e' => some (.ret x e')
      | .exc x e' => some (.exc x e')
      | .bad => some .bad
open Classical in
noncomputable def sWhile (c : TM) (b : SM) : SM := fun env => if h : ∃ n r, whileN c b n env = some r then (Classical.choose (Classical.choose_spec h)) else .bad
theorem whileN_mono {c : TM} {b : SM} : ∀ {n k : Nat} {env : Env} {r : Fl}, whileN c b n env = some r → n ≤ k → whileN c b k env = some r
  | 0, _, _, _, h, _ => by cases h
  | n + 1, 0, _, _, _, hk => by omega
  | n + 1, k + 1, env, r, h, hk => by
    unfold whileN at h ⊢
    split at h
    · exact h
    · exact h
    · exact h
    · split at h
      · exact whileN_mono h (by omega)
      · exact whileN_mono h (by omega)
      · exact h
      · exact h
      · exact h
      · exact h
theorem sWhile_of {c : TM} {b : SM} {n : Nat} {env : Env} {r : Fl} (h : whileN c b n env = some r) : sWhile c b env = r := by
  have e : ∃ n r, whileN c b n env = some r := ⟨n, r, h⟩
  unfold sWhile
  rw [dif_pos e]
  have q := Classical.choose_spec (Classical.choose_spec e)
  rcases Nat.le_total n (Classical.choose e) with z | z
  · exact Option.some.inj (q.symm.trans (whileN_mono h z))
  · exact Option.some.inj ((whileN_mono q z).symm.trans h)
theorem sWhile_bad {c : TM} {b : SM} {env : Env} (h : ∀ n, whileN c b n env = none) : sWhile c b env = .bad := by
  unfold sWhile
  rw [dif_neg]
  intro ⟨n, r, q⟩
  rw [h n] at q
  cases q
theorem rs_while (hc : RefT S O P E none tt mt) (hb : RefS S O P E fr t m) : RefS S O P E fr (tWhile tt t) (sWhile mt m) := by
  intro R σ H fp env I D h
  have hx : ∃ n r, whileN mt m n env = some r := by
    apply Classical.byContradiction
    intro z
    have q : sWhile mt m env = .bad := by
      unfold sWhile
      rw [dif_neg z]
    rw [q] at h
    exact h
  obtain ⟨n0, r0, h0⟩ := hx
  rw [sWhile_of h0] at h
  refine ⟨fun k σ' H' => ∃ fp' env' r, Rel S O P R σ' H' fp' env' ∧ whileN mt m k env' = some r ∧ WantS S O P E fr R H' fp' r D σ', ⟨n0, fp, env, r0, I, h0, h⟩, fun k σ' H' hW => ?_⟩
  obtain ⟨f1, e1, r, I1, hr, h1⟩ := hW
  cases k with
  | zero => cases hr
  | succ k =>
    refine hc R σ' H' f1 e1 I1 _ ?_
    unfold whileN at hr
    cases q : mt e1 with
    | bad => rw [q] at hr; cases hr; exact h1
    | exc x e => rw [q] at hr; cases hr; exact fun cls dd H2 f2 I2 s2 x2 => h1 cls dd σ' H2 f2 I2 s2 x2
    | ok b e =>
      rw [q] at hr
      intro H2 f2 I2 s2
      cases b with
      | false =>
        cases hr
        exact h1 σ' H2 f2 I2 s2
      | true =>
        show ∃ N : L2.St → Hp → Prop, (∀ σ' H', N σ' H' → ∃ m', m' < k + 1 ∧ _) ∧ _
        refine ⟨fun σ5 H5 => ∃ fp' env' r, Rel S O P R σ5 H5 fp' env' ∧ whileN mt m k env' = some r ∧ WantS S O P E fr R H5 fp' r D σ5, fun σ5 H5 z => ⟨k, Nat.lt_succ_self _, z⟩, hb R σ' H2 f2 e I2 _ ?_⟩
        have s2 : Fwd (Lv f1) H' (Lv f2) H2 := s2
        dsimp only at hr
        cases q2 : m e with
        | next e' => rw [q2] at hr; exact fun σ5 H5 f5 I5 w5 => ⟨f5, e', r, I5, hr, h1.at (s2.trans w5)⟩
        | cont e' => rw [q2] at hr; exact fun σ5 H5 f5 I5 w5 => ⟨f5, e', r, I5, hr, h1.at (s2.trans w5)⟩
        | brk e' => rw [q2] at hr; cases hr; exact h1.at (σ1 := σ') s2
        | ret d e' => rw [q2] at hr; cases hr; exact h1.at (σ1 := σ') s2
        | exc d e' => rw [q2] at hr; cases hr; exact h1.at (σ1 := σ') s2
        | bad => rw [q2] at hr; cases hr; exact h1
/-! ### comprehensions -/
def wipeE (env : Env) : List Nat → Env
  | [] => env
  | v :: vs => (wipeE env vs).set v none
/-- behind a comprehension: its own names as they were -/
def resE (env env0 : Env) : List Nat → Env
  | [] => env
  | v :: vs => (resE env env0 vs).set v (env0.getD v none)
def Out.noX {α : Type} (o : Out α) : Out α := match o with
  | .exc _ _ => .bad
  | o => o
@[simp] theorem Out.noX_ok {α : Type} (a : α) (e : Env) : (Out.ok a e).noX = .ok a e := rfl
@[simp] theorem Out.noX_bad {α : Type} : (Out.bad : Out α).noX = .bad := rfl
@[simp] theorem Out.noX_exc {α : Type} (x : Exn) (e : Env) : (Out.exc x e : Out α).noX = .bad := rfl
def lcGo (vs : List Nat) (g : GM) (c : TM) (e : EM) : List D → List D → Env → Out (List D)
  | [], acc, env => .ok acc env
  | d :: ds, acc, env => match g d env with
    | none => .bad
    | some e1 => (c e1).noX.bind fun b e2 => if b then (e e2).noX.bind fun x e3 => if acc.length < 100000 then lcGo vs g c e ds (acc ++ [x]) (wipeE e3 vs) else .bad else lcGo vs g c e ds acc (wipeE e2 vs)
def eLc (vs : List Nat) (it : IM) (g : GM) (c : TM) (e : EM) : EM := fun env => (it env).bind fun ds e0 => (lcGo vs g c e ds [] (wipeE e0 vs)).bind fun xs e1 => .ok (.lst xs) (resE e1 e0 vs)
def mYes : TM := fun env => .ok true env
theorem rt_yes : RefT S O P E μ tYes mYes := fun R σ H fp env I Q h => h H fp I Stp.refl
theorem wipeE_get (env : Env) : ∀ (vs : List Nat) (i : Nat), i ∉ vs → (wipeE env vs)[i]? = env[i]?
  | [], _, _ => rfl
  | v :: vs, i, h => by
    unfold wipeE
    rw [List.getElem?_set_ne (fun z => h (by rw [z]; exact List.mem_cons_self)), wipeE_get env vs i fun z => h (List.mem_cons_of_mem _ z)]
theorem wipeE_no (env : Env) : ∀ (vs : List Nat) (i : Nat) (d : D), i ∈ vs → (wipeE env vs)[i]? ≠ some (some d)
  | v :: vs, i, d, h => by
    unfold wipeE
    by_cases e : v = i
    · subst e
      intro q
      have hl := (List.getElem?_eq_some_iff.mp q).1
      rw [List.length_set] at hl
      rw [List.getElem?_set_self hl] at q
      cases q
    · rw [List.getElem?_set_ne e]
      rcases List.mem_cons.mp h with z | z
      · exact absurd z.symm e
      · exact wipeE_no env vs i d z
theorem wipeE_len (env : Env) : ∀ vs : List Nat, (wipeE env vs).length = env.length
  | [] => rfl
  | v :: vs => by unfold wipeE; rw [List.length_set, wipeE_len env vs]
theorem resE_len (env env0 : Env) : ∀ vs : List Nat, (resE env env0 vs).length = env.length
  | [] => rfl
  | v :: vs => by unfold resE; rw [List.length_set, resE_len env env0 vs]
theorem resE_get (env env0 : Env) : ∀ (vs : List Nat) (i : Nat), i ∉ vs → (resE env env0 vs)[i]? = env[i]?
  | [], _, _ => rfl
  | v :: vs, i, h => by
    unfold resE
    rw [List.getElem?_set_ne (fun z => h (by rw [z]; exact List.mem_cons_self)), resE_get env env0 vs i fun z => h (List.mem_cons_of_mem _ z)]
theorem resE_in (env env0 : Env) : ∀ (vs : List Nat) (i : Nat) (d : D), i ∈ vs → (resE env env0 vs)[i]? = some (some d) → env0[i]? = some (some d)
  | v :: vs, i, d, h, q => by
    unfold resE at q
    by_cases e : v = i
    · subst e
      have hl := (List.getElem?_eq_some_iff.mp q).1
      rw [List.length_set] at hl
      rw [List.getElem?_set_self hl] at q
      have q := Option.some.inj q
      unfold List.getD at q
      cases z : env0[v]? with
      | none => rw [z] at q; cases q
      | some o => rw [z] at q; exact congrArg some q
    · rw [List.getElem?_set_ne e] at q
      rcases List.mem_cons.mp h with z | z
      · exact absurd z.symm e
      · exact resE_in env env0 vs i d z q
theorem wipe_get (σ : L2.St) : ∀ (vs : List Nat) (i : Nat), i ∉ vs → (wipe σ vs)[i]? = σ[i]?
  | [], _, _ => rfl
  | v :: vs, i, h => by
    unfold wipe
    rw [List.getElem?_set_ne (fun z => h (by rw [z]; exact List.mem_cons_self)), wipe_get σ vs i fun z => h (List.mem_cons_of_mem _ z)]
theorem wipe_in (σ : L2.St) : ∀ (vs : List Nat) (i : Nat), i ∈ vs → i < σ.length → (wipe σ vs)[i]? = some none
  | v :: vs, i, h, hl => by
    unfold wipe
    by_cases e : v = i
    · subst e
      exact List.getElem?_set_self (by rw [wipe_length]; exact hl)
    · rw [List.getElem?_set_ne e]
      rcases List.mem_cons.mp h with z | z
      · exact absurd z.symm e
      · exact wipe_in σ vs i z hl
theorem wipe_same {σ τ : L2.St} {vs : List Nat} (hl : σ.length = τ.length) (h : ∀ i, i ∉ vs → σ[i]? = τ[i]?) : wipe σ vs = wipe τ vs := by
  apply List.ext_getElem?
  intro i
  by_cases c : i ∈ vs
  · by_cases d : i < σ.length
    · rw [wipe_in σ vs i c d, wipe_in τ vs i c (by omega)]
    · rw [List.getElem?_eq_none (by rw [wipe_length]; omega), List.getElem?_eq_none (by rw [wipe_length]; omega)]
  · rw [wipe_get σ vs i c, wipe_get τ vs i c, h i c]
theorem wipe_wipe (σ : L2.St) (vs : List Nat) : wipe (wipe σ vs) vs = wipe σ vs := wipe_same (wipe_length σ vs) fun i hi => wipe_get σ vs i hi
theorem Rel.wipe {R : Rx} {σ : L2.St} {H : Hp} {fp : Fp} {env : Env} {vs : List Nat} (I : Rel S O P R σ H fp env) (hv : ∀ v ∈ vs, v ∉ O) : Rel S O P R (L2.wipe σ vs) H fp (wipeE env vs) where
  len := by rw [wipe_length, wipeE_len, I.len]
  val := fun i d h1 h2 => by
    by_cases c : i ∈ vs
    · exact absurd h1 (wipeE_no env vs i d c)
    · rw [wipeE_get env vs i c] at h1
      rw [wipe_get σ vs i c]
      exact I.val i d h1 h2
  own := fun i d h1 h2 => by
    have c : i ∉ vs := fun z => hv i z h2
    rw [wipeE_get env vs i c] at h1
    rw [wipe_get σ vs i c]
    exact I.own i d h1 h2
  non := fun i h => I.non i (by
    rcases h with h | h
    · exact .inl h
    · by_cases c : i ∈ O
      · exact .inr fun d q => h d (by rw [wipeE_get env vs i fun z => hv i z c]; exact q)
      · exact .inl c)
  dist := I.dist
  nd := I.nd
  src := I.src
  ext := I.ext
  gl := I.gl
  live := I.live
  dom := I.dom
  mh := I.mh
  tb := I.tb
  hb := I.hb
theorem Rel.unplus {R : Rx} {σ : L2.St} {H : Hp} {fp : Fp} {env : Env} {a : Addr} (I : Rel S O P (R.plus a) σ H fp env) : Rel S O P R σ H fp env := by
  have m : ∀ x, Fs R fp x → Fs (R.plus a) fp x ∨ H x = none := fun x z => .inl (fs_plus.mpr (.inl z))
  exact ⟨I.len, fun i d h1 h2 => let ⟨v, q, r⟩ := I.val i d h1 h2; ⟨v, q, r.less m⟩, fun i d h1 h2 => let ⟨v, q, r⟩ := I.own i d h1 h2; ⟨v, q, r.fwd (Ext.refl _ _) m⟩, I.non, I.dist, I.nd,
    fun i b hb => ⟨(I.src i b hb).1, fun hp => ⟨((I.src i b hb).2 hp).1, fun z => ((I.src i b hb).2 hp).2 (.inl z)⟩⟩, I.ext, fun b z => I.gl b (.inl z), I.live, I.dom, I.mh, I.tb, ⟨I.hb.e, I.hb.m⟩⟩
/-- behind a comprehension: the frame's own names again -/
theorem Rel.res {R : Rx} {σ : L2.St} {H H0 : Hp} {fp f0 : Fp} {env env0 : Env} {vs : List Nat} (I : Rel S O P R (L2.wipe σ vs) H fp env) (I0 : Rel S O P R σ H0 f0 env0) (w : Fwd (Fs R f0) H0 (Fs R fp) H) (hv : ∀ v ∈ vs, v ∉ O) : Rel S O P R σ H fp (resE env env0 vs) where
  len := by rw [resE_len, I.len, wipe_length]
  val := fun i d h1 h2 => by
    by_cases c : i ∈ vs
    · obtain ⟨v, q, r⟩ := I0.val i d (resE_in env env0 vs i d c h1) h2
      exact ⟨v, q, Rep.fwd w _ _ r⟩
    · rw [resE_get env env0 vs i c] at h1
      obtain ⟨v, q, r⟩ := I.val i d h1 h2
      rw [wipe_get σ vs i c] at q
      exact ⟨v, q, r⟩
  own := fun i d h1 h2 => by
    have c : i ∉ vs := fun z => hv i z h2
    rw [resE_get env env0 vs i c] at h1
    obtain ⟨v, q, r⟩ := I.own i d h1 h2
    rw [wipe_get σ vs i c] at q
    exact ⟨v, q, r⟩
  non := fun i h => I.non i (by
    rcases h with h | h
    · exact .inl h
    · by_cases c : i ∈ O
      · exact .inr fun d q => h d (by rw [resE_get env env0 vs i fun z => hv i z c]; exact q)
      · exact .inl c)
  dist := I.dist
  nd := I.nd
  src := I.src
  ext := I.ext
  gl := I.gl
  live := I.live
  dom := I.dom
  mh := I.mh
  tb := I.tb
  hb := I.hb
theorem FM.plus {R : Rx} {fp : Fp} {a x : Addr} (nl : ∀ i, a ∉ fp i) : FM (R.plus a) fp μ x ↔ (FM R fp μ x ∨ x = a) := by
  cases μ with
  | none => exact fs_plus
  | some U =>
    constructor
    · rintro ⟨z1, z2⟩
      rcases fs_plus.mp z1 with z | z
      · exact .inl ⟨z, z2⟩
      · exact .inr z
    · rintro (⟨z1, z2⟩ | z)
      · exact ⟨fs_plus.mpr (.inl z1), z2⟩
      · exact ⟨fs_plus.mpr (.inr z), fun ⟨i, _, hi⟩ => nl i (z ▸ hi)⟩
theorem upd_dom {H : Hp} {a b : Addr} {o : HO} (h : H b ≠ none) : upd H a o b ≠ none := by
  unfold L2.upd
  split
  · exact fun z => nomatch z
  · exact h
/-- a list that is forbidden, but nobody's, is changed -/
theorem Rel.updG {R : Rx} {σ : L2.St} {H : Hp} {fp : Fp} {env : Env} {a : Addr} {vs vs' : List V} (I : Rel S O P R σ H fp env) (g : R.G a) (nl : ∀ i, a ∉ fp i) (h0 : R.H0 a = none) (h : H a = some (.lst vs)) :
    Rel S O P R σ (L2.upd H a (.lst vs')) fp env ∧ ∀ F : Addr → Prop, F a → Fwd F H F (L2.upd H a (.lst vs')) := by
  have w : ∀ F : Addr → Prop, F a → Fwd F H F (L2.upd H a (.lst vs')) := fun F fa => ⟨ext_upd h fa trivial trivial, fun _ z => .inl z, fun _ z => upd_dom z⟩
  refine ⟨⟨I.len, fun i d q1 q2 => let ⟨v, x1, x2⟩ := I.val i d q1 q2; ⟨v, x1, Rep.fwd (w _ (.inl g)) _ _ x2⟩, fun i d q1 q2 => ?_, I.non, I.dist, I.nd, I.src, ext_again I.ext h (.inr h0) trivial trivial, fun b q => upd_dom (I.gl b q), fun i b q => upd_dom (I.live i b q), fun b q => upd_dom (I.dom b q), I.mh, tb_ext (w _ g).1 I.tb, ⟨I.hb.e, I.hb.m⟩⟩, w⟩
  · obtain ⟨b, x1, x2⟩ := I.own i d q1 q2
    refine ⟨b, x1, ?_⟩
    have nb : ∀ c, c ∈ fp i → c ≠ a := fun c hc z => nl i (z ▸ hc)
    cases d with
    | lst es =>
      obtain ⟨y1, us, y2, y3⟩ := x2
      exact ⟨y1, us, by rw [upd_ne (nb b (by rw [y1]; exact List.mem_cons_self))]; exact y2, RepL.fwd (w _ (.inl g)) _ _ y3⟩
    | ins k es =>
      obtain ⟨y1, dx, us, y2, y3, y4⟩ := x2
      exact ⟨y1, dx, us, by rw [upd_ne (nb b (by rw [y1]; exact List.mem_cons_self))]; exact y2, y3, RepL.fwd (w _ (.inl g)) _ _ y4⟩
    | _ => exact x2.elim
theorem want_noX {E' : XK} {R : Rx} {σ : L2.St} {H : Hp} {fp : Fp} {env : Env} {α : Type} {o : Out α} {Po : α → Env → Hp → Fp → Prop} (h : Want S O P E μ R σ H fp env o.noX Po) : Want S O P E' μ R σ H fp env o Po := by
  cases o with
  | ok a e => exact h
  | exc x e => exact h.elim
  | bad => exact h
theorem resE_wipe {env : Env} {vs : List Nat} : resE (wipeE env vs) env vs = env := by
  apply List.ext_getElem?
  intro i
  by_cases c : i ∈ vs
  · by_cases d : i < env.length
    · have key : ∀ ws : List Nat, i ∈ ws → ∀ e : Env, e.length = env.length → (resE e env ws)[i]? = env[i]? := by
        intro ws
        induction ws with
        | nil => intro z; cases z
        | cons v ws ih =>
          intro z e he
          unfold resE
          by_cases q : v = i
          · subst q
            rw [List.getElem?_set_self (by rw [resE_len, he]; exact d), List.getElem?_eq_getElem d]
            show some (env.getD v none) = _
            unfold List.getD
            rw [List.getElem?_eq_getElem d]
            rfl
          · rw [List.getElem?_set_ne q]
            exact ih ((List.mem_cons.mp z).resolve_left fun w => q w.symm) e he
      exact key vs c _ (wipeE_len env vs)
    · rw [List.getElem?_eq_none (by rw [resE_len, wipeE_len]; omega), List.getElem?_eq_none (by omega)]
  · rw [resE_get _ _ vs i c, wipeE_get env vs i c]
theorem wipeE_same {e f : Env} {vs : List Nat} (hl : e.length = f.length) (h : ∀ i, i ∉ vs → e[i]? = f[i]?) : wipeE e vs = wipeE f vs := by
  have key : ∀ (ws : List Nat) (g : Env) (i : Nat), i ∈ ws → i < g.length → (wipeE g ws)[i]? = some none := by
    intro ws
    induction ws with
    | nil => intro g i z; cases z
    | cons v ws ih =>
      intro g i z hg
      unfold wipeE
      by_cases q : v = i
      · subst q
        exact List.getElem?_set_self (by rw [wipeE_len]; exact hg)
      · rw [List.getElem?_set_ne q]
        exact ih g i ((List.mem_cons.mp z).resolve_left fun w => q w.symm) hg
  apply List.ext_getElem?
  intro i
  by_cases c : i ∈ vs
  · by_cases d : i < e.length
    · rw [key vs e i c d, key vs f i c (by omega)]
    · rw [List.getElem?_eq_none (by rw [wipeE_len]; omega), List.getElem?_eq_none (by rw [wipeE_len]; omega)]
  · rw [wipeE_get e vs i c, wipeE_get f vs i c, h i c]
theorem lcGo_ok {vs : List Nat} {g : GM} {c : TM} {e : EM} : ∀ {ds acc : List D} {env : Env}, (∃ xs e', lcGo vs g c e ds acc env = .ok xs e') ∨ lcGo vs g c e ds acc env = .bad
  | [], acc, env => .inl ⟨_, _, rfl⟩
  | d :: ds, acc, env => by
    unfold lcGo
    split
    · exact .inr rfl
    · rename_i e1 _
      cases c e1 with
      | bad => exact .inr rfl
      | exc x e => exact .inr rfl
      | ok b e2 =>
        simp only [Out.noX_ok, Out.bind_ok]
        split
        · cases e e2 with
          | bad => exact .inr rfl
          | exc x e => exact .inr rfl
          | ok x e3 =>
            simp only [Out.noX_ok, Out.bind_ok]
            split
            · exact lcGo_ok
            · exact .inr rfl
        · exact lcGo_ok
theorem stq_of {R : Rx} {H1 H' : Hp} {f1 f2 : Fp} {a : Addr} (hD : H1 a = none) (w : Fwd (Lv f1) H1 (Lv f2) H') (p : μ ≠ none → Ext Nil H1 H' ∧ f2 = f1) : Stq μ (Fs R f1) H1 (Fs (R.plus a) f2) H' := by
  have z : ∀ x, Fs (R.plus a) f2 x → Fs R f1 x ∨ H1 x = none := fun x z => by
    rcases fs_plus.mp z with (z | z) | z
    · exact .inl (.inl z)
    · exact (w.2.1 x z).imp .inr id
    · exact .inr (by rw [z]; exact hD)
  cases μ with
  | none => exact ⟨w.1.mono fun _ z => .inr z, z, w.2.2⟩
  | some U => exact ⟨(p fun z => nomatch z).1, z⟩
theorem ref_lc {E1 E2 : XK} {fe : Bool} {vs ws : List Nat} {wi : TI} {it : IM} {tg : TG} {g : GM} {te : TE} {me : EM} (hi : RefI S O P E μ wi it) (hg : RefG S O P ws tg g) (ht : RefT S O P E1 μ tt mt) (he : RefE S O P E2 μ fe te me) (hw : ∀ i ∈ ws, i ∈ vs) (hv : ∀ v ∈ vs, v ∉ O) :
    RefE S O P E μ true (tLc wi tg tt te vs) (eLc vs it g mt me) := by
  intro R σ H fp env I Q h
  refine hi R σ H fp env I _ ((Want.bind h).mono fun ds e1 H1 f1 I1 s1 hp J hJ => ?_)
  intro Dl hD
  have I2 : Rel S O P (R.plus Dl) σ (upd H1 Dl (.lst [])) f1 e1 := I1.plus hD (Ext.new hD) (by rw [upd_same]; exact fun z => nomatch z)
  have I3 := I2.wipe hv
  have h0D : R.H0 Dl = none := by
    cases q : R.H0 Dl with
    | none => rfl
    | some o => exact absurd hD (I1.dom Dl (by rw [q]; exact fun z => nomatch z))
  obtain ⟨xs, e3, hx⟩ : ∃ xs e3, lcGo vs g mt me ds [] (wipeE e1 vs) = .ok xs e3 := by
    rcases lcGo_ok (vs := vs) (g := g) (c := mt) (e := me) (ds := ds) (acc := []) (env := wipeE e1 vs) with z | z
    · exact z
    · rw [z] at hp
      exact hp.elim
  rw [hx] at hp
  have hp : ∀ H' fp', Rel S O P R σ H' fp' (resE e3 e1 vs) → Stp μ R H1 f1 e1 H' fp' (resE e3 e1 vs) → PostE S O P R σ μ true H Q (.lst xs) (resE e3 e1 vs) H' fp' := hp
  have nlv : ∀ {τ : L2.St} {H' : Hp} {f2 : Fp} {env2 : Env}, Rel S O P (R.plus Dl) τ H' f2 env2 → ¬ Lv f2 Dl := fun J2 ⟨i, z⟩ => by
    have q := J2.src i Dl z
    by_cases c : i ∈ P
    · exact J2.mh Dl (q.1 c) h0D
    · exact (q.2 c).2 (.inr rfl)
  refine ⟨fun i k H' => i + k = ds.length ∧ ∃ f2 env2 acc vacc, Rel S O P (R.plus Dl) (wipe σ vs) H' f2 env2 ∧ H' Dl = some (.lst vacc) ∧ RepL S (FM (R.plus Dl) f2 μ) H' acc vacc ∧ lcGo vs g mt me (ds.drop i) acc env2 = .ok xs e3 ∧
      Fwd (Lv f1) H1 (Lv f2) H' ∧ (μ ≠ none → (Ext Nil H1 H' ∧ f2 = f1) ∧ env2 = wipeE e1 vs),
    ⟨ds.length, by omega, f1, wipeE e1 vs, [], [], I3, upd_same, .nil, hx, Fwd.grow (Ext.new hD), fun _ => ⟨⟨Ext.new hD, rfl⟩, rfl⟩⟩, fun i k H' hW => ?_⟩
  obtain ⟨hk, f2, env2, acc, vacc, J2, a2, r2, l2, w2, p2⟩ := hW
  have nl2 := nlv J2
  obtain ⟨j1, j2, j3⟩ := hJ (Fs (R.plus Dl) f2) H' (stq_of hD w2 fun z => (p2 z).1) fun a q => J2.fs q
  by_cases c : i < ds.length
  · refine .inr ⟨j1 i c, fun H3 => ∃ k', k' < k ∧ (i + 1 + k' = ds.length ∧ ∃ f2 env2 acc vacc, Rel S O P (R.plus Dl) (wipe σ vs) H3 f2 env2 ∧ H3 Dl = some (.lst vacc) ∧ RepL S (FM (R.plus Dl) f2 μ) H3 acc vacc ∧ lcGo vs g mt me (ds.drop (i + 1)) acc env2 = .ok xs e3 ∧
      Fwd (Lv f1) H1 (Lv f2) H3 ∧ (μ ≠ none → (Ext Nil H1 H3 ∧ f2 = f1) ∧ env2 = wipeE e1 vs)), fun _ z => z, fun x H3 hy => ?_⟩
    have hd : ds[i]? = some ds[i] := List.getElem?_eq_getElem c
    obtain ⟨x3, r3⟩ := j2 i x H3 _ hy hd
    have I4 := J2.grow x3
    rw [List.drop_eq_getElem_cons c] at l2
    unfold lcGo at l2
    split at l2
    · cases l2
    · rename_i e4 q4
      obtain ⟨lo1, lo2⟩ := hg.loc _ _ _ q4
      refine hg.run (R.plus Dl) (wipe σ vs) H3 f2 env2 _ x e4 I4 r3 q4 _ fun σ5 I5 s5 => ?_
      have sg : wipe σ5 vs = wipe σ vs := by
        rw [wipe_same (σ := σ5) (τ := wipe σ vs) (by rw [← I5.len, ← I4.len, lo1]) (fun j hj => s5 j fun z => hj (hw j z)), wipe_wipe]
      refine ⟨sg, ?_⟩
      have a3 : H3 Dl = some (.lst vacc) := x3.nil _ _ a2
      have r4 := r2.grow x3
      have w3 : Fwd (Lv f1) H1 (Lv f2) H3 := w2.trans (Fwd.grow x3)
      have fin : ∀ (H6 : Hp) (f6 : Fp) (e6 : Env), Rel S O P (R.plus Dl) σ5 H6 f6 e6 → Stp μ (R.plus Dl) H3 f2 e4 H6 f6 e6 → Rel S O P (R.plus Dl) (wipe σ vs) H6 f6 (wipeE e6 vs) ∧ Fwd (Lv f1) H1 (Lv f6) H6 ∧ (μ ≠ none → (Ext Nil H1 H6 ∧ f6 = f1) ∧ wipeE e6 vs = wipeE e1 vs) := fun H6 f6 e6 I6 s6 => by
        refine ⟨by rw [← sg]; exact I6.wipe hv, w3.trans s6.strong, fun nm => ?_⟩
        cases μ with
        | none => exact absurd rfl nm
        | some U =>
          obtain ⟨y1, rfl, rfl⟩ := s6
          obtain ⟨⟨z0, z1⟩, z2⟩ := p2 nm
          refine ⟨⟨(z0.trans x3).trans y1, z1⟩, ?_⟩
          rw [wipeE_same (f := env2) lo1 (fun j hj => lo2 j fun z => hj (hw j z)), z2, wipeE_same (e := wipeE e1 vs) (f := e1) (wipeE_len _ _) (fun j hj => wipeE_get e1 vs j hj)]
      refine ht (R.plus Dl) σ5 H3 f2 e4 I5 _ ?_
      cases qc : mt e4 with
      | bad => rw [qc] at l2; cases l2
      | exc y e => rw [qc] at l2; cases l2
      | ok b e5 =>
        rw [qc] at l2
        simp only [Out.noX_ok, Out.bind_ok] at l2
        intro H5 f5 I6 s6
        cases b with
        | false =>
          obtain ⟨y1, y2, y3⟩ := fin H5 f5 e5 I6 s6
          exact ⟨k - 1, by omega, by omega, f5, wipeE e5 vs, acc, vacc, y1, s6.strong.1.k Dl _ a3 (.inl nl2) trivial, RepL.fwd s6.fwd _ _ r4, l2, y2, y3⟩
        | true =>
          show te σ5 H5 _
          refine he (R.plus Dl) σ5 H5 f5 e5 I6 _ ?_
          cases qe : me e5 with
          | bad => rw [qe] at l2; simp only [if_true, Out.noX_bad, Out.bind_bad] at l2; cases l2
          | exc y e => rw [qe] at l2; simp only [if_true, Out.noX_exc, Out.bind_bad] at l2; cases l2
          | ok y e6 =>
            rw [qe] at l2
            simp only [if_true, Out.noX_ok, Out.bind_ok] at l2
            intro H6 f6 I7 s7 v hv7 _
            have s67 := s6.trans s7
            obtain ⟨y1, y2, y3⟩ := fin H6 f6 e6 I7 s67
            split at l2
            · rename_i hz
              have a6 : H6 Dl = some (.lst vacc) := s67.strong.1.k Dl _ a3 (.inl nl2) trivial
              have r6 := RepL.fwd s67.fwd _ _ r4
              have nl6 := nlv I7
              obtain ⟨u1, u2⟩ := y1.updG (a := Dl) (vs' := vacc ++ [v]) (.inr rfl) (fun i z => nl6 ⟨i, z⟩) h0D a6
              refine ⟨vacc, a6, by rw [r6.length]; exact lt_line hz, k - 1, by omega, by omega, f6, wipeE e6 vs, acc ++ [y], vacc ++ [v], u1, upd_same, RepL.fwd (u2 (FM (R.plus Dl) f6 μ) ((FM.plus fun i z => nl6 ⟨i, z⟩).mpr (.inr rfl))) _ _ (r6.snoc hv7.rep), l2, ?_, fun nm => ?_⟩
              · exact ⟨ext_again y2.1 a6 (.inr hD) trivial trivial, y2.2.1, fun b q => upd_dom (y2.2.2 b q)⟩
              · obtain ⟨⟨g1, g2⟩, g3⟩ := y3 nm
                exact ⟨⟨ext_again g1 a6 (.inr hD) trivial trivial, g2⟩, g3⟩
            · cases l2
  · refine .inl ⟨j3 i (by omega), ?_⟩
    rw [List.drop_eq_nil_of_le (by omega)] at l2
    cases l2
    have I8 := J2.unplus.res I1 (adv_fs w2) hv
    have I9 : Rel S O P (R.plus Dl) σ H' f2 (resE e3 e1 vs) := J2.res I2 (by
      refine ⟨ext_from w2.1 (fs_plus.mpr (.inr rfl)) (fun x y => fs_plus.mpr (.inl (.inr y))) trivial trivial, fun x z => ?_, fun b q => ?_⟩
      · rcases fs_plus.mp z with (z | z) | z
        · exact .inl (fs_plus.mpr (.inl (.inl z)))
        · rcases w2.2.1 x z with z | z
          · exact .inl (fs_plus.mpr (.inl (.inr z)))
          · by_cases e : x = Dl
            · exact .inl (fs_plus.mpr (.inr e))
            · exact .inr (by rw [upd_ne e]; exact z)
        · exact .inl (fs_plus.mpr (.inr z))
      · by_cases e : b = Dl
        · rw [e, a2]
          exact fun z => nomatch z
        · rw [upd_ne e] at q
          exact w2.2.2 b q) hv
    refine hp H' f2 I8 ?_ _ ⟨Dl, vacc, _, rfl, s1.dom hD, rfl, a2, fun z => ?_, r2.less fun x z => ?_⟩ fun _ a ea => ?_
    · cases μ with
      | none => exact w2
      | some U =>
        obtain ⟨⟨g1, g2⟩, g3⟩ := p2 fun z => nomatch z
        exact ⟨g1, g2, by rw [g3]; exact resE_wipe⟩
    · rcases z.sub with q | ⟨j, q⟩
      · exact I1.gl Dl q hD
      · exact nl2 ⟨j, q⟩
    · exact .inl ((FM.plus fun j q => nl2 ⟨j, q⟩).mpr z)
    · cases ea
      exact I9
end
end Mir
/-! MirF -/
namespace Mir
open PySem PySem.Spec PyProof.Rows L2
variable [Tbl]
/-! ### defs -/
inductive FO where
  | ok (d : D) | exc (x : Exn) | bad
abbrev DM := List D → FO
def FO.out (o : FO) (e : Env) : Out D := match o with
  | .ok d => .ok d e
  | .exc x => .exc x e
  | .bad => .bad
@[simp] theorem FO.out_ok (d : D) (e : Env) : (FO.ok d).out e = .ok d e := rfl
@[simp] theorem FO.out_exc (d : Exn) (e : Env) : (FO.exc d).out e = .exc d e := rfl
@[simp] theorem FO.out_bad (e : Env) : FO.bad.out e = .bad := rfl
/-- of a def whose parameter 0 is an own thing of the caller's: what it is behind the call -/
inductive FO0 where
  | ok (d : D) (o : D) | exc (x : Exn) (o : D) | bad
abbrev DM0 := D → List D → FO0
def runF (fr : Bool) (k n : Nat) (m : SM) : DM := fun ds => if ds.length = k then match m (ds.map some ++ List.replicate (n - ds.length) none) with
  | .ret d _ => .ok d
  | .next _ => if fr then .bad else .ok .non
  | .exc x _ => .exc x
  | _ => .bad
  else .bad
def runF0 (k n : Nat) (m : SM) : DM0 := fun d0 ds => if ds.length + 1 = k then match m ((d0 :: ds).map some ++ List.replicate (n - (ds.length + 1)) none) with
  | .ret d e => match e[0]? with
    | some (some o) => .ok d o
    | _ => .bad
  | .next e => match e[0]? with
    | some (some o) => .ok .non o
    | _ => .bad
  | .exc x e => match e[0]? with
    | some (some o) => .exc x o
    | _ => .bad
  | _ => .bad
  else .bad
theorem runF_ar {fr : Bool} {k n : Nat} {m : SM} {ds : List D} (h : runF fr k n m ds ≠ .bad) : ds.length = k := by
  unfold runF at h
  split at h
  · assumption
  · exact absurd rfl h
theorem runF0_ar {k n : Nat} {m : SM} {d : D} {ds : List D} (h : runF0 k n m d ds ≠ .bad) : ds.length + 1 = k := by
  unfold runF0 at h
  split at h
  · assumption
  · exact absurd rfl h
/-- what is wanted of a def's outcome -/
def WantF (S : Sc) (E : XK) (fr : Bool) (G : Addr → Prop) (H : Hp) (Q : VK) : FO → Prop
  | .ok d => ∀ v H', Ext Nil H H' → RepK S G fr H H' d v → Q v H'
  | .exc x => ∀ cls dd H', Ext Nil H H' → ExcR S H' x cls dd → E cls dd H'
  | .bad => False
def Ls (l : List Addr) : Addr → Prop := fun a => a ∈ l
def WantF0 (S : Sc) (E : XK) (G : Addr → Prop) (H : Hp) (a : Addr) (l : List Addr) (Q : VK) : FO0 → Prop
  | .ok d o => ∀ v H' l', Fwd (Ls l) H (Ls l') H' → Own S (fun x => G x ∨ x ∈ l') H' o a l' → l'.Nodup → (∀ a ∈ l', H' a ≠ none) → Rep S (fun x => G x ∨ x ∈ l') H' d v → Q v H'
  | .exc x o => ∀ cls dd H' l', Fwd (Ls l) H (Ls l') H' → Own S (fun x => G x ∨ x ∈ l') H' o a l' → l'.Nodup → (∀ a ∈ l', H' a ≠ none) → ExcR S H' x cls dd → E cls dd H'
  | .bad => False
/-- the promise of a def that changes nothing that stood -/
def spM (S : Sc) (fr : Bool) (n : Nat) (m : DM) : Sp := fun vs H Q E => ∃ (G : Addr → Prop) (ds : List D), vs.length = n ∧ (∀ a, G a → H a ≠ none) ∧ RepL S G H ds vs ∧ WantF S E fr G H Q (m ds) ∧ LamX.Tabs Tbl.T H ∧ Ext Nil S.Hb H
def spM0 (S : Sc) (n : Nat) (m : DM0) : Sp := fun vs H Q E => ∃ (G : Addr → Prop) (d0 : D) (ds : List D) (a : Addr) (us : List V) (l : List Addr), vs = .ref a :: us ∧ vs.length = n ∧ (∀ a, G a → H a ≠ none) ∧ (∀ a ∈ l, H a ≠ none) ∧ l.Nodup ∧ Own S (fun x => G x ∨ x ∈ l) H d0 a l ∧ RepL S (fun x => G x ∨ x ∈ l) H ds us ∧ WantF0 S E G H a l Q (m d0 ds) ∧ LamX.Tabs Tbl.T H ∧ Ext Nil S.Hb H ∧ ∀ x ∈ l, S.Hb x = none
section
variable {S : Sc}
theorem start_get {N : List Str} {vs : List V} {i : Nat} {v : V} (h : vs[i]? = some v) : (L2.start N vs)[i]? = some (some v) := by
  unfold L2.start
  rw [List.getElem?_append_left (by rw [List.length_map]; exact (List.getElem?_eq_some_iff.mp h).1), List.getElem?_map, h]
  rfl
theorem env_get {ds : List D} {k i : Nat} {d : D} (h : (ds.map some ++ List.replicate k none)[i]? = some (some d)) : ds[i]? = some d := by
  rcases Nat.lt_or_ge i ds.length with c | c
  · rw [List.getElem?_append_left (by rw [List.length_map]; exact c), List.getElem?_map] at h
    cases q : ds[i]? with
    | none => rw [q] at h; cases h
    | some x => rw [q] at h; cases h; rfl
  · rw [List.getElem?_append_right (by rw [List.length_map]; exact c), List.getElem?_replicate] at h
    split at h <;> cases h
/-- a def's body from its entry -/
theorem body_ok {O : List Nat} {E : XK} {fr : Bool} {N : List Str} {t : TS} {m : SM} {k : Nat} (hr : RefS S O [] E fr t m) (hN : k ≤ N.length) (hO : ∀ i ∈ O, k ≤ i) {vs : List V} {H : Hp} {Q : VK} (h : spM S fr k (runF fr k N.length m) vs H Q E) : t { nx := fun _ H' => Q .non H', rt := Q } (L2.start N vs) H := by
  obtain ⟨G, ds, hl, hG, hR, hw, htb⟩ := h
  have hl2 := hR.length
  refine hr ⟨G, Nil, H⟩ (L2.start N vs) H (fun _ => []) (ds.map some ++ List.replicate (N.length - ds.length) none) ?_ _ ?_
  · refine ⟨?_, fun i d h1 h2 => ?_, fun i d h1 h2 => ?_, fun _ _ => rfl, fun i j a h => (by cases h), fun i => List.nodup_nil, fun i a h => (by cases h), Ext.refl _ _, hG, fun i a h => (by cases h), fun _ h => h, fun a h => h.elim, htb.1, ⟨htb.2, fun a h => h.elim⟩⟩
    · unfold L2.start
      rw [List.length_append, List.length_append, List.length_map, List.length_map, List.length_replicate, List.length_replicate]
      omega
    · obtain ⟨v, e1, e2⟩ := hR.get (env_get h1)
      exact ⟨v, start_get e1, e2.less fun a z => z.elim .inl fun ⟨j, q⟩ => by cases q⟩
    · have := env_get h1
      have := (List.getElem?_eq_some_iff.mp this).1
      have := hO i h2
      omega
  · have e0 : ∀ {H' : Hp} {fp' : Fp}, Fwd (Lv fun _ => []) H (Lv fp') H' → Ext Nil H H' := fun w => w.1.mono fun a ⟨i, z⟩ => by cases z
    unfold runF at hw
    rw [if_pos (show ds.length = k by omega)] at hw
    cases q : m (ds.map some ++ List.replicate (N.length - ds.length) none) with
    | next e =>
      rw [q] at hw
      intro σ' H' fp' I' w
      cases fr with
      | false => exact hw _ H' (e0 w) rfl
      | true => exact hw.elim
    | ret d e =>
      rw [q] at hw
      intro σ' v H' fp' I' w r
      exact hw v H' (e0 w) r
    | exc x e =>
      rw [q] at hw
      intro cls dd σ' H' fp' I' w r
      exact hw cls dd H' (e0 w) r
    | brk e => rw [q] at hw; exact hw.elim
    | cont e => rw [q] at hw; exact hw.elim
    | bad => rw [q] at hw; exact hw.elim
theorem own_self {F : Addr → Prop} {H : Hp} {d : D} {a : Addr} {l : List Addr} (h : Own S F H d a l) : ∀ b ∈ l, H b ≠ none := fun b hb => by
  cases d with
  | lst ds =>
    obtain ⟨e, vs, q, _⟩ := h
    rw [e] at hb
    rw [List.mem_singleton.mp hb, q]
    exact fun z => nomatch z
  | ins c ds =>
    obtain ⟨e, dx, fs, q, _⟩ := h
    rw [e] at hb
    rw [List.mem_singleton.mp hb, q]
    exact fun z => nomatch z
  | _ => exact h.elim
def fp0 (l : List Addr) : Fp := fun i => if i = 0 then l else []
theorem fp0_mem {l : List Addr} {i : Nat} {a : Addr} (h : a ∈ fp0 l i) : i = 0 ∧ a ∈ l := by
  unfold fp0 at h
  split at h
  · rename_i z
    exact ⟨z, h⟩
  · cases h
theorem fp0_0 (l : List Addr) : fp0 l 0 = l := rfl
/-- the same where parameter 0 is an own thing of the caller's -/
theorem body_ok0 {O : List Nat} {E : XK} {N : List Str} {t : TS} {m : SM} {k : Nat} (hr : RefS S (0 :: O) [0] E false t m) (hN : k ≤ N.length) (hO : ∀ i ∈ O, k ≤ i) {vs : List V} {H : Hp} {Q : VK} (h : spM0 S k (runF0 k N.length m) vs H Q E) : t { nx := fun _ H' => Q .non H', rt := Q } (L2.start N vs) H := by
  obtain ⟨G, d0, ds, a, us, l, rfl, hl, hG, hL, hnd, hOw, hR, hw, htb⟩ := h
  have hl2 := hR.length
  have hl : us.length + 1 = k := hl
  have e1 : ((d0 :: ds).map some ++ List.replicate (N.length - (ds.length + 1)) none : Env)[0]? = some (some d0) := rfl
  have e2 : (L2.start N (V.ref a :: us))[0]? = some (some (.ref a)) := rfl
  have hb : ∀ {i : Nat} {d : D}, i ∈ O → ((d0 :: ds).map some ++ List.replicate (N.length - (ds.length + 1)) none : Env)[i]? = some (some d) → False := fun {i d} h1 h2 => by
    have q := (List.getElem?_eq_some_iff.mp (env_get h2)).1
    have := hO i h1
    rw [List.length_cons] at q
    omega
  refine hr ⟨fun x => G x ∨ x ∈ l, Ls l, H⟩ (L2.start N (V.ref a :: us)) H (fp0 l) ((d0 :: ds).map some ++ List.replicate (N.length - (ds.length + 1)) none) ?_ _ ?_
  · have hF : ∀ x, Fs ⟨fun x => G x ∨ x ∈ l, Ls l, H⟩ (fp0 l) x → (G x ∨ x ∈ l) ∨ H x = none := fun x z => z.elim .inl fun ⟨i, z⟩ => .inl (.inr (fp0_mem z).2)
    refine ⟨?_, fun i d h1 h2 => ?_, fun i d h1 h2 => ?_, fun i h => ?_, fun i j b h1 h2 => (fp0_mem h1).1.trans (fp0_mem h2).1.symm, fun i => ?_, fun i b h => ?_, Ext.refl _ _, fun b z => z.elim (hG b) (hL b), fun i b h => hL b (fp0_mem h).2, fun _ h => h, fun b h => hL b h, htb.1, ⟨htb.2.1, fun b h => htb.2.2 b h⟩⟩
    · unfold L2.start
      rw [List.length_append, List.length_append, List.length_map, List.length_map, List.length_replicate, List.length_replicate, List.length_cons, List.length_cons, hl2]
    · have q := env_get h1
      cases i with
      | zero => exact absurd List.mem_cons_self h2
      | succ i =>
        obtain ⟨v, x1, x2⟩ := hR.get (show ds[i]? = some d from q)
        exact ⟨v, start_get (i := i + 1) x1, x2.less hF⟩
    · rcases List.mem_cons.mp h2 with z | z
      · subst z
        rw [e1] at h1
        cases h1
        exact ⟨a, e2, by rw [fp0_0]; exact hOw.fwd (Ext.refl _ _) hF⟩
      · exact (hb z h1).elim
    · unfold fp0
      split
      · rename_i z
        subst z
        rcases h with h | h
        · exact absurd List.mem_cons_self h
        · exact absurd e1 (h d0)
      · rfl
    · unfold fp0
      split
      · exact hnd
      · exact List.nodup_nil
    · obtain ⟨z, h⟩ := fp0_mem h
      exact ⟨fun _ => h, fun q => absurd (by rw [z]; exact List.mem_cons_self) q⟩
  · have l1 : l = [a] := by
      cases d0 with
      | lst ds => exact hOw.1
      | ins c ds => exact hOw.1
      | _ => exact hOw.elim
    subst l1
    have key : ∀ {σ' : L2.St} {H' : Hp} {fp' : Fp} {e : Env} {o : D}, Rel S (0 :: O) [0] ⟨fun x => G x ∨ x ∈ [a], Ls [a], H⟩ σ' H' fp' e → Fwd (Lv (fp0 [a])) H (Lv fp') H' → e[0]? = some (some o) →
        Fwd (Ls [a]) H (Ls [a]) H' ∧ Own S (fun x => G x ∨ x ∈ [a]) H' o a [a] := fun {σ' H' fp' e o} I' w q => by
      obtain ⟨a', y1, y2⟩ := I'.own 0 o q List.mem_cons_self
      have l2 : fp' 0 = [a'] := by
        cases o with
        | lst ds => exact y2.1
        | ins c ds => exact y2.1
        | _ => exact y2.elim
      have ea : a' = a := List.mem_singleton.mp ((I'.src 0 a' (by rw [l2]; exact List.mem_cons_self)).1 List.mem_cons_self)
      subst ea
      rw [l2] at y2
      exact ⟨⟨w.1.mono fun b ⟨i, z⟩ => (fp0_mem z).2, fun b z => .inl z, w.2.2⟩, y2.fwd (Ext.refl _ _) fun x z => .inl (.inl z)⟩
    unfold runF0 at hw
    rw [if_pos (show ds.length + 1 = k by omega)] at hw
    cases q : m ((d0 :: ds).map some ++ List.replicate (N.length - (ds.length + 1)) none) with
    | next e =>
      rw [q] at hw
      dsimp only at hw
      intro σ' H' fp' I' w
      cases q0 : e[0]? with
      | none => rw [q0] at hw; exact hw.elim
      | some o =>
        cases o with
        | none => rw [q0] at hw; exact hw.elim
        | some o =>
          rw [q0] at hw
          obtain ⟨k1, k2⟩ := key I' w q0
          exact hw _ H' [a] k1 k2 hnd (own_self k2) rfl
    | ret d e =>
      rw [q] at hw
      dsimp only at hw
      intro σ' v H' fp' I' w r
      cases q0 : e[0]? with
      | none => rw [q0] at hw; exact hw.elim
      | some o =>
        cases o with
        | none => rw [q0] at hw; exact hw.elim
        | some o =>
          rw [q0] at hw
          obtain ⟨k1, k2⟩ := key I' w q0
          exact hw v H' [a] k1 k2 hnd (own_self k2) r
    | exc x e =>
      rw [q] at hw
      dsimp only at hw
      intro cls dd σ' H' fp' I' w r
      cases q0 : e[0]? with
      | none => rw [q0] at hw; exact hw.elim
      | some o =>
        cases o with
        | none => rw [q0] at hw; exact hw.elim
        | some o =>
          rw [q0] at hw
          obtain ⟨k1, k2⟩ := key I' w q0
          exact hw cls dd H' [a] k1 k2 hnd (own_self k2) r
    | brk e => rw [q] at hw; exact hw.elim
    | cont e => rw [q] at hw; exact hw.elim
    | bad => rw [q] at hw; exact hw.elim
end
end Mir
/-! MirG -/
namespace Mir
open PySem PySem.Spec PyProof.Rows L2
variable [Tbl]
/-! ### a def keeps its promise -/
section
variable {P : Program} {w : World} {K : PySem.W.Frag} {mg : Str → Option Value} {base : Heap} {S : Sc}
theorem fn_ok {x qual : Str} {st : Stmt} {f : Addr} {fd : FuncData} {N ps : List Str} {k : Nat} {fr : Bool} {O : List Nat} {m : SM} (F : Fun K x qual st f fd) (sc : FnScope N ps (defScope st)) (hN : ps.length ≤ N.length) (hO : ∀ i ∈ O, ps.length ≤ i)
    (hb : ∀ (cdv : Value) (A : Around) (outer : List PySem.Env) (s : Shared) (H : Hp) (E : XK), Room k (A.deeper (envOfC qual (defScope st) s.heap.objs.size f cdv)) →
      ∃ t, PSs (cxOf (L2.CX P w) P w K mg base N qual (defScope st) f cdv A outer s H E) (defBody st) t ∧ RefS S O [] E fr t m) :
    FnOk P w K mg base (L2.CX P w) (k + 1) f fd ps (spM S fr ps.length (runF fr ps.length N.length m)) :=
  F.okX sc (fun vs H Q E h => h.choose_spec.choose_spec.1) (fun cdv A outer s H vs Q E hr h => let ⟨t, h1, h2⟩ := hb cdv A outer s H E hr; ⟨t, h1, body_ok h2 hN hO h⟩)
theorem fn_ok0 {x qual : Str} {st : Stmt} {f : Addr} {fd : FuncData} {N ps : List Str} {k : Nat} {O : List Nat} {m : SM} (F : Fun K x qual st f fd) (sc : FnScope N ps (defScope st)) (hN : ps.length ≤ N.length) (hO : ∀ i ∈ O, ps.length ≤ i)
    (hb : ∀ (cdv : Value) (A : Around) (outer : List PySem.Env) (s : Shared) (H : Hp) (E : XK), Room k (A.deeper (envOfC qual (defScope st) s.heap.objs.size f cdv)) →
      ∃ t, PSs (cxOf (L2.CX P w) P w K mg base N qual (defScope st) f cdv A outer s H E) (defBody st) t ∧ RefS S (0 :: O) [0] E false t m) :
    FnOk P w K mg base (L2.CX P w) (k + 1) f fd ps (spM0 S ps.length (runF0 ps.length N.length m)) :=
  F.okX sc (fun vs H Q E h => by
    obtain ⟨G, d0, ds, a, us, l, _, h, _⟩ := h
    exact h) (fun cdv A outer s H vs Q E hr h => let ⟨t, h1, h2⟩ := hb cdv A outer s H E hr; ⟨t, h1, body_ok0 h2 hN hO h⟩)
end
/-! ### calls -/
def eCall (f : DM) (dds : List D) (a : AM) : EM := fun env => (a env).bind fun ds e => (f (ds ++ dds)).out e
def eMeth (c : Nat) (f : DM) (dds : List D) (o : EM) (a : AM) : EM := fun env => (o env).bind fun x e => match x with
  | .ins c' _ => if c' = c then (a e).bind fun ds e' => (f (x :: (ds ++ dds))).out e' else .bad
  | _ => .bad
def D.fld (c i : Nat) : D → Option D
  | .ins c' ds => if c' = c then ds[i]? else none
  | _ => none
def eFld (c i : Nat) (a : EM) : EM := e1 (D.fld c i) a
def eMake (c : Nat) (f : DM0) (dds : List D) (a : AM) : EM := fun env => (a env).bind fun ds e => match f (.ins c []) (ds ++ dds) with
  | .ok d o => match d, o with
    | .non, .ins c' es => if c' = c then .ok (.ins c es) e else .bad
    | _, _ => .bad
  | .exc x _ => .exc x e
  | .bad => .bad
/-- f(x, ..), x an own thing -/
def eCallO (f : DM0) (j : Nat) (a : AM) : EM := fun env => match env[j]? with
  | some (some _) => (a env).bind fun ds e => match e[j]? with
    | some (some d0) => match f d0 ds with
      | .ok d o => .ok d (e.set j (some o))
      | .exc x o => .exc x (e.set j (some o))
      | .bad => .bad
    | _ => .bad
  | _ => .bad
section
variable {S : Sc} {O P : List Nat} {E : XK} {μ : Mo} {fr fa fb : Bool} {ta tb te : TE} {ma mb : EM} {t u : TT} {m n : TM} {tA : TA} {mA : AM}
theorem want_fo {R : Rx} {σ : L2.St} {H H1 : Hp} {f1 : Fp} {e1 : Env} {o : FO} {Q : VK} (h : Want S O P E μ R σ H1 f1 e1 (o.out e1) (PostE S O P R σ μ fr H Q)) (I : Rel S O P R σ H1 f1 e1) (k : ∀ a, H1 a = none → H a = none) : WantF S E fr (FM R f1 μ) H1 Q o := by
  cases o with
  | ok d => exact fun v H' x r => want_opt (o := some d) h rfl I k x r
  | exc x => exact fun cls dd H' x r => h cls dd H' f1 (I.grow x) (Stp.grow x) r
  | bad => exact h
theorem ref_call {n : Nat} {f : DM} {dds : List D} {dvs : List V} (hd : ∀ F H, RepL S F H dds dvs) (har : ∀ ds, f ds ≠ .bad → ds.length = n) (ha : RefA S O P E μ tA mA) : RefE S O P E μ fr (tCall (spM S fr n f) dvs E tA) (eCall f dds mA) := by
  intro R σ H fp env I Q h
  refine ha R σ H fp env I _ ((Want.bind h).mono fun ds e1 H1 f1 I1 s1 h1 vs hv => ?_)
  refine ⟨FM R f1 μ, ds ++ dds, ?_, fun a q => I1.fm q, hv.append (hd _ _), want_fo h1 I1 fun a q => s1.dom q, I1.tb, I1.hbH⟩
  have nb : f (ds ++ dds) ≠ .bad := fun z => by rw [z] at h1; exact h1
  rw [(hv.append (hd _ _)).length, har _ nb]
theorem lookup_none {fs : List (Str × V)} {f : Str} (h : f ∉ fs.map (·.1)) : fs.lookup f = none := by
  induction fs with
  | nil => rfl
  | cons p r ih =>
    obtain ⟨g, v⟩ := p
    rw [List.map_cons] at h
    have h1 : (f == g) = false := beq_eq_false_iff_ne.mpr fun z => h (by rw [z]; exact List.mem_cons_self)
    rw [List.lookup_cons, h1]
    exact ih fun z => h (List.mem_cons_of_mem _ z)
theorem lookup_at : ∀ {fs : List (Str × V)} {f : Str} {i : Nat} {v : V}, (fs.map (·.1)).Nodup → (fs.map (·.1))[i]? = some f → (fs.map (·.2))[i]? = some v → fs.lookup f = some v
  | [], _, _, _, _, h, _ => by simp at h
  | (g, x) :: r, f, 0, v, nd, h1, h2 => by
    cases (show g = f from by simpa using h1)
    cases (show x = v from by simpa using h2)
    rw [List.lookup_cons, beq_self_eq_true]
  | (g, x) :: r, f, i + 1, v, nd, h1, h2 => by
    have nd : ((g :: r.map (·.1)) : List Str).Nodup := nd
    have h1 : (r.map (·.1))[i]? = some f := h1
    have h2 : (r.map (·.2))[i]? = some v := h2
    have ne : (f == g) = false := beq_eq_false_iff_ne.mpr fun z => (List.nodup_cons.mp nd).1 (by rw [← z]; exact List.mem_of_getElem? h1)
    rw [List.lookup_cons, ne]
    exact lookup_at (List.nodup_cons.mp nd).2 h1 h2
theorem ref_fld {c i : Nat} {f : Str} (hC : Cls S.K (S.ca c)) (hN : NoAttr S.K (S.ca c) f) (hf : (S.fn c)[i]? = some f) (nd : (S.fn c).Nodup) (ha : RefE S O P E μ fa ta ma) : RefE S O P E μ false (tFld S.K ta f) (eFld c i ma) := by
  refine ref_op1 (r := fun x H1 Q => ∃ a C dx fs v, x = .ref a ∧ H1 a = some (.ins C dx fs) ∧ Cls S.K C ∧ NoAttr S.K C f ∧ fs.lookup f = some v ∧ Q v H1) (f := D.fld c i) (fun F H x v z Q hF hx hz k => ?_) ha
  cases x with
  | ins c' ds =>
    unfold D.fld at hz
    dsimp only at hz
    split at hz
    · rename_i ec
      subst ec
      obtain ⟨a, dx, fs, rfl, nf, h1, h2, h3⟩ := hx
      obtain ⟨u, q1, q2⟩ := h3.get hz
      refine ⟨a, _, dx, fs, u, rfl, h1, hC, hN, lookup_at ?_ ?_ q1, k u H (Ext.refl _ _) q2⟩
      · rw [h2]
        exact nd.sublist (List.take_sublist _ _)
      · rw [h2, List.getElem?_take_of_lt (List.getElem?_eq_some_iff.mp hz).1]
        exact hf
    · cases hz
  | _ => cases hz
theorem ref_meth {c n : Nat} {mth : Str} {f : DM} {dds : List D} {dvs : List V} (hd : ∀ F H, RepL S F H dds dvs) (har : ∀ ds, f ds ≠ .bad → ds.length = n) (hm : mth ∉ S.fn c) (ho : RefE S O P E μ fa ta ma) (ha : RefA S O P E μ tA mA) :
    RefE S O P E μ fr (tMeth (S.ca c) mth (spM S fr n f) dvs E ta tA) (eMeth c f dds ma mA) := by
  intro R σ H fp env I Q h
  refine ho R σ H fp env I _ ((Want.bind h).mono fun x e1 H1 f1 I1 s1 h1 v hv _ => ?_)
  have hw := hv.rep
  cases x with
  | ins c' es =>
    dsimp only at h1
    split at h1
    · rename_i ec
      subst ec
      obtain ⟨a, dx, fs, rfl, nf, q1, q2, q3⟩ := hw
      refine ⟨a, dx, fs, rfl, q1, lookup_none (by rw [q2]; exact fun z => hm (List.mem_of_mem_take z)), ?_⟩
      refine ha R σ H1 f1 e1 I1 _ ((Want.bind h1).mono fun ds e2 H2 f2 I2 s2 h2 vs hvs => ?_)
      have hx : Rep S (FM R f2 μ) H2 (.ins c' es) (.ref a) := Rep.fwd s2.fwd _ _ ⟨a, dx, fs, rfl, nf, q1, q2, q3⟩
      have hall : RepL S (FM R f2 μ) H2 (.ins c' es :: (ds ++ dds)) (.ref a :: (vs ++ dvs)) := .cons hx (hvs.append (hd _ _))
      refine ⟨FM R f2 μ, _, ?_, fun a q => I2.fm q, hall, want_fo h2 I2 fun a q => (s1.trans s2).dom q, I2.tb, I2.hbH⟩
      have nb : f (.ins c' es :: (ds ++ dds)) ≠ .bad := fun z => by rw [z] at h2; exact h2
      rw [hall.length, har _ nb]
    · exact h1.elim
  | _ => exact h1.elim
/-- a property -/
def eProp (c : Nat) (f : DM) (o : EM) : EM := fun env => (o env).bind fun x e => match x with
  | .ins c' _ => if c' = c then (match f [x] with
    | .ok d => .ok d e
    | _ => .bad) else .bad
  | _ => .bad
theorem ref_prop {E' : XK} {c n : Nat} {f : DM} (har : ∀ ds, f ds ≠ .bad → ds.length = n) (ho : RefE S O P E μ fa ta ma) : RefE S O P E μ fr (tProp (S.ca c) (spM S fr n f) [] E' ta) (eProp c f ma) := by
  intro R σ H fp env I Q h
  refine ho R σ H fp env I _ ((Want.bind h).mono fun x e1 H1 f1 I1 s1 h1 v hv _ => ?_)
  have hw := hv.rep
  cases x with
  | ins c' es =>
    dsimp only at h1
    split at h1
    · rename_i ec
      subst ec
      have hw' := hw
      obtain ⟨a, dx, fs, rfl, nf, q1, q2, q3⟩ := hw
      refine ⟨a, dx, fs, rfl, q1, FM R f1 μ, [.ins c' es], ?_, fun a q => I1.fm q, .cons hw' .nil, ?_, I1.tb, I1.hbH⟩
      · have nb : f [.ins c' es] ≠ .bad := fun z => by rw [z] at h1; exact h1
        have := har _ nb
        exact this
      · cases q : f [.ins c' es] with
        | ok d => rw [q] at h1; exact fun v H' x r => want_opt (o := some d) h1 rfl I1 (fun a q => s1.dom q) x r
        | exc x => rw [q] at h1; exact h1.elim
        | bad => rw [q] at h1; exact h1.elim
    · exact h1.elim
  | _ => exact h1.elim
theorem ref_make {c n : Nat} {f : DM0} {dds : List D} {dvs : List V} (hd : ∀ F H, RepL S F H dds dvs) (har : ∀ d ds, f d ds ≠ .bad → ds.length + 1 = n) (ha : RefA S O P E μ tA mA) : RefE S O P E μ false (tMake (S.ca c) (spM0 S n f) dvs E tA) (eMake c f dds mA) := by
  intro R σ H fp env I Q h
  refine ha R σ H fp env I _ ((Want.bind h).mono fun ds e1 H1 f1 I1 s1 h1 vs hv => ?_)
  intro x dx hx hdx ne
  have g1 : Ext Nil H1 (upd H1 dx (.own x)) := Ext.new hdx
  have g2 : Ext Nil (upd H1 dx (.own x)) (upd (upd H1 dx (.own x)) x (.ins (S.ca c) dx [])) := Ext.new (by rw [upd_ne (Ne.symm ne)]; exact hx)
  have g := g1.trans g2
  have hn : vs.length + dvs.length + 1 = n := by
    have nb : f (.ins c []) (ds ++ dds) ≠ .bad := fun z => by rw [z] at h1; exact h1
    have q := har _ _ nb
    rw [List.length_append] at q
    rw [hv.length, (hd (fun _ => False) H1).length]
    exact q
  refine ⟨FM R f1 μ, .ins c [], ds ++ dds, x, vs ++ dvs, [x], rfl, by rw [List.length_cons, List.length_append]; omega, fun a q => g.dom (I1.fm q), fun a q => ?_, by simp, ⟨rfl, dx, [], upd_same, rfl, rfl⟩, ?_, ?_, tb_ext g I1.tb, I1.hbH.trans g, fun y z => by rw [List.mem_singleton.mp z]; exact hb_new I1.hbH hx⟩
  · rw [List.mem_singleton.mp q, upd_same]
    exact fun z => nomatch z
  · exact (((hv.append (hd _ _)).less (F' := fun y => FM R f1 μ y ∨ y ∈ [x]) fun a z => z.imp id fun q => by rw [List.mem_singleton.mp q]; exact hx)).grow g
  · have ex : ∀ {H' : Hp} {l' : List Addr}, Fwd (Ls [x]) (upd (upd H1 dx (.own x)) x (.ins (S.ca c) dx [])) (Ls l') H' → Ext Nil H1 H' := fun w =>
      g.seq w.1 fun y z => .inr (by rw [List.mem_singleton.mp z]; exact hx)
    cases q : f (.ins c []) (ds ++ dds) with
    | bad => rw [q] at h1; exact h1
    | exc y o => rw [q] at h1; exact fun cls dd H' l' w _ _ _ r => h1 cls dd H' f1 (I1.grow (ex w)) (Stp.grow (ex w)) r
    | ok d o =>
      rw [q] at h1
      dsimp only at h1
      intro v H' l' w hO hnd hal hr
      split at h1
      · rename_i c' es
        split at h1
        · rename_i ec
          subst ec
          obtain ⟨el, dx', fs, q1, q2, q3⟩ := hO
          have hl : (Out.ok (D.ins c' es) e1 : Out D) = Out.opt (some (D.ins c' es)) e1 := rfl
          rw [hl] at h1
          refine ⟨hr, want_opt (o := some (.ins c' es)) h1 rfl I1 (fun a q => s1.dom q) (ex w) ⟨x, dx', fs, rfl, fun z => I1.fm z hx, q1, q2, q3.less fun a z => .inl (.inl z)⟩⟩
        · exact h1.elim
      · exact h1.elim
theorem fpSet_mem {fp : Fp} {i j : Nat} {l : List Addr} {x : Addr} (z : x ∈ fpSet fp j l i) : (i = j ∧ x ∈ l) ∨ (i ≠ j ∧ x ∈ fp i) := by
  unfold fpSet at z
  split at z
  · rename_i e
    exact .inl ⟨e, z⟩
  · rename_i e
    exact .inr ⟨e, z⟩
/-- own things at two slots stand apart; after a call with one of them handed over -/
theorem Rel.called {R : Rx} {σ : L2.St} {H H' : Hp} {fp : Fp} {env : Env} {j : Nat} {a : Addr} {d0 o : D} {l' : List Addr} (I : Rel S O P R σ H fp env) (hO : j ∈ O) (hj : env[j]? = some (some d0)) (hs : σ[j]? = some (some (.ref a)))
    (w : Fwd (Ls (fp j)) H (Ls l') H') (ho : Own S (fun x => (Fs R fp x ∧ x ∉ fp j) ∨ x ∈ l') H' o a l') (nd : l'.Nodup) (hl' : ∀ x ∈ l', x = a) (ha : a ∈ fp j) :
    Rel S O P R σ H' (fpSet fp j l') (env.set j (some o)) ∧ Fwd (Lv fp) H (Lv (fpSet fp j l')) H' := by
  have hjl : j < env.length := (List.getElem?_eq_some_iff.mp hj).1
  have sub : ∀ x, Lv (fpSet fp j l') x → Lv fp x := fun x ⟨i, z⟩ => by
    unfold fpSet at z
    split at z
    · exact ⟨j, by rw [hl' x z]; exact ha⟩
    · exact ⟨i, z⟩
  have w0 : Fwd (Lv fp) H (Lv (fpSet fp j l')) H' := ⟨w.1.mono fun x z => ⟨j, z⟩, fun x z => .inl (sub x z), w.2.2⟩
  have wf := adv_fs (R := R) w0
  have oth : ∀ i, i ≠ j → ∀ x, x ∈ fp i → x ∉ fp j := fun i ne x z1 z2 => ne (I.dist i j x z1 z2)
  refine ⟨⟨by rw [List.length_set, I.len], fun i d q1 q2 => ?_, fun i d q1 q2 => ?_, fun i q => ?_, fun i k b h1 h2 => ?_, fun i => ?_, fun i b h => ?_, ?_, fun b q => w.2.2 b (I.gl b q), fun i b h => ?_, fun b q => w.2.2 b (I.dom b q), I.mh, tb_ext w.1 I.tb, ⟨I.hb.e, I.hb.m⟩⟩, w0⟩
  · have ne : j ≠ i := fun z => q2 (z ▸ hO)
    rw [List.getElem?_set_ne ne] at q1
    obtain ⟨v, x1, x2⟩ := I.val i d q1 q2
    exact ⟨v, x1, Rep.fwd wf _ _ x2⟩
  · by_cases ne : j = i
    · subst ne
      rw [List.getElem?_set_self hjl] at q1
      cases q1
      refine ⟨a, hs, ?_⟩
      unfold fpSet
      rw [if_pos rfl]
      refine ho.fwd (Ext.refl _ _) fun x z => .inl ?_
      rcases z with z | ⟨i, z⟩
      · by_cases c : x ∈ fp j
        · have hne : Own S (fun x => (Fs R fp x ∧ x ∉ fp j) ∨ x ∈ l') H' o a l' := ho
          have el : x = a := by
            have h1 := I.own j d0 hj hO
            obtain ⟨a', y1, y2⟩ := h1
            rw [hs] at y1
            cases y1
            cases d0 with
            | lst ds => rw [y2.1] at c; exact List.mem_singleton.mp c
            | ins k ds => rw [y2.1] at c; exact List.mem_singleton.mp c
            | _ => exact y2.elim
          have al : a ∈ l' := by
            cases o with
            | lst ds => rw [ho.1]; exact List.mem_cons_self
            | ins k ds => rw [ho.1]; exact List.mem_cons_self
            | _ => exact ho.elim
          exact .inr (by rw [el]; exact al)
        · exact .inl ⟨.inl z, c⟩
      · rcases fpSet_mem (show x ∈ fpSet fp j l' i from z) with ⟨_, z⟩ | ⟨ne, z⟩
        · exact .inr z
        · exact .inl ⟨.inr ⟨i, z⟩, oth i ne x z⟩
    · rw [List.getElem?_set_ne ne] at q1
      obtain ⟨b, x1, x2⟩ := I.own i d q1 q2
      refine ⟨b, x1, ?_⟩
      unfold fpSet
      rw [if_neg (Ne.symm ne)]
      have kp : ∀ c u, c ∈ fp i → H c = some u → NT u → H' c = some u := fun c u hc q n => w.1.k c u q (.inl fun z => oth i (Ne.symm ne) c hc z) n
      cases d with
      | lst es =>
        obtain ⟨y1, us, y2, y3⟩ := x2
        exact ⟨y1, us, kp b _ (by rw [y1]; exact List.mem_cons_self) y2 trivial, RepL.fwd wf _ _ y3⟩
      | ins k es =>
        obtain ⟨y1, dx, us, y2, y3, y4⟩ := x2
        exact ⟨y1, dx, us, kp b _ (by rw [y1]; exact List.mem_cons_self) y2 trivial, y3, RepL.fwd wf _ _ y4⟩
      | _ => exact x2.elim
  · unfold fpSet
    by_cases ne : i = j
    · subst ne
      rcases q with q | q
      · exact absurd hO q
      · exact absurd (List.getElem?_set_self hjl) (q _)
    · rw [if_neg ne]
      exact I.non i (q.imp id fun q d z => q d (by rw [List.getElem?_set_ne (Ne.symm ne)]; exact z))
  · have h1' : b ∈ fp i := by
      unfold fpSet at h1
      split at h1
      · rename_i z
        rw [hl' b h1, z]
        exact ha
      · exact h1
    have h2' : b ∈ fp k := by
      unfold fpSet at h2
      split at h2
      · rename_i z
        rw [hl' b h2, z]
        exact ha
      · exact h2
    exact I.dist i k b h1' h2'
  · unfold fpSet
    split
    · exact nd
    · exact I.nd i
  · unfold fpSet at h
    split at h
    · rename_i z
      rw [hl' b h, z]
      exact I.src j a ha
    · exact I.src i b h
  · refine I.ext.seq w.1 fun b e => ?_
    by_cases hp : j ∈ P
    · exact .inl ((I.src j b e).1 hp)
    · exact .inr ((I.src j b e).2 hp).1
  · unfold fpSet at h
    split at h
    · rw [hl' b h]
      exact w.2.2 a (I.live j a ha)
    · exact w.2.2 b (I.live i b h)
/-- f(x, e, ..), x an own thing that f may change -/
theorem ref_callO {n j : Nat} {f : DM0} (hO : j ∈ O) (har : ∀ d ds, f d ds ≠ .bad → ds.length + 1 = n) (ha : RefA S O P E none tA mA) : RefE S O P E none false (tCall (spM0 S n f) [] E (tCons (tVar j) tA)) (eCallO f j mA) := by
  intro R σ H fp env I Q h
  unfold eCallO at h
  split at h
  · rename_i dj ej
    obtain ⟨a, q1, q2⟩ := I.own j dj ej hO
    refine ⟨.ref a, q1, ?_⟩
    refine ha R σ H fp env I _ ((Want.bind h).mono fun ds e1 H1 f1 I1 s1 h1 vs hv => ?_)
    cases e0 : e1[j]? with
    | none => rw [e0] at h1; exact h1.elim
    | some o0 =>
      cases o0 with
      | none => rw [e0] at h1; exact h1.elim
      | some d0 =>
        rw [e0] at h1
        dsimp only at h1
        obtain ⟨b, x1, x2⟩ := I1.own j d0 e0 hO
        rw [q1] at x1
        cases x1
        have fj : f1 j = [a] := by
          cases d0 with
          | lst ds => exact x2.1
          | ins c ds => exact x2.1
          | _ => exact x2.elim
        have nb : f d0 ds ≠ .bad := fun z => by rw [z] at h1; exact h1
        have eqF : ∀ x, ((fun x => Fs R f1 x ∧ x ∉ f1 j) x ∨ x ∈ f1 j) → Fs R f1 x ∨ H1 x = none := fun x z => z.elim (fun z => .inl z.1) fun z => .inl (.inr ⟨j, z⟩)
        refine ⟨fun x => Fs R f1 x ∧ x ∉ f1 j, d0, ds, a, vs, f1 j, by rw [List.append_nil], ?_, fun x z => I1.fs z.1, fun x z => I1.live j x z, I1.nd j, x2.fwd (Ext.refl _ _) eqF, hv.less eqF, ?_, I1.tb, I1.hbH, fun x z => I1.hbfp z⟩
        · rw [List.append_nil, List.length_cons, hv.length]
          exact har _ _ nb
        · have one : ∀ {o : D} {H' : Hp} {l' : List Addr} {F : Addr → Prop}, Own S F H' o a l' → ∀ x ∈ l', x = a := fun {o H' l' F} hh x hx => by
            cases o with
            | lst ds => rw [hh.1] at hx; exact List.mem_singleton.mp hx
            | ins c ds => rw [hh.1] at hx; exact List.mem_singleton.mp hx
            | _ => exact hh.elim
          have aj : a ∈ f1 j := by rw [fj]; exact List.mem_cons_self
          cases q : f d0 ds with
          | bad => exact absurd q nb
          | exc y o =>
            rw [q] at h1
            intro cls dd H' l' w hO' hnd hal r
            obtain ⟨I2, w2⟩ := I1.called hO e0 q1 w hO' hnd (one hO') aj
            exact h1 cls dd H' _ I2 w2 r
          | ok d o =>
            rw [q] at h1
            intro v H' l' w hO' hnd hal hr
            obtain ⟨I2, w2⟩ := I1.called hO e0 q1 w hO' hnd (one hO') aj
            refine h1 H' _ I2 w2 v (hr.less fun x z => .inl ?_) sep0
            have z : Fs R (fpSet f1 j l') x := z
            rcases z with z | ⟨i, z⟩
            · by_cases c : x ∈ f1 j
              · rw [fj] at c
                refine .inr ?_
                have al : a ∈ l' := by
                  cases o with
                  | lst ds => rw [hO'.1]; exact List.mem_cons_self
                  | ins k ds => rw [hO'.1]; exact List.mem_cons_self
                  | _ => exact hO'.elim
                rw [List.mem_singleton.mp c]
                exact al
              · exact .inl ⟨.inl z, c⟩
            · rcases fpSet_mem z with ⟨_, z⟩ | ⟨ne, z⟩
              · exact .inr z
              · exact .inl ⟨.inr ⟨i, z⟩, fun z2 => ne (I1.dist i j x z z2)⟩
  · exact h.elim
end
end Mir
/-! MirH -/
namespace Mir
open PySem PySem.Spec PyProof.Rows L2
variable [Tbl]
/-! ### operators, told by data -/
/-- either rule -/
theorem opr_or {X : Cx} {f : Value → Value → Sem Value} {r1 r2 : R2} (h1 : OpR X f r1) (h2 : OpR X f r2) : OpR X f (fun x y H Q => r1 x y H Q ∨ r2 x y H Q) := by
  intro pins s σ H x y v u Q I rx ry h
  rcases h with h | h
  · exact h1 pins s σ H x y v u Q I rx ry h
  · exact h2 pins s σ H x y v u Q I rx ry h
section
variable {S : Sc}
theorem Op2.or {r1 r2 : R2} {f g h : D → D → Option D} (h1 : Op2 S false r1 f) (h2 : Op2 S false r2 g) (hh : ∀ x y z, h x y = some z → f x y = some z ∨ g x y = some z) : Op2 S false (fun x y H Q => r1 x y H Q ∨ r2 x y H Q) h := fun F H x y v u z Q hF hx hy hz k => by
  rcases hh x y z hz with e | e
  · exact .inl (h1 F H x y v u z Q hF hx hy e k)
  · exact .inr (h2 F H x y v u z Q hF hx hy e k)
/-! ints -/
def oI (f : Int → Int → Option D) : D → D → Option D
  | .int i, .int j => f i j
  | _, _ => none
theorem op_I0 {g : Int → Int → V} {f : Int → Int → Option D} (h : ∀ i j z, f i j = some z → ∀ F H, Rep S F H z (g i j)) : Op2 S false (rI0 g) (oI f) := fun F H x y v u z Q hF hx hy hz k => by
  cases x with
  | int i =>
    cases y with
    | int j =>
      cases (show v = _ from hx)
      cases (show u = _ from hy)
      exact ⟨i, j, rfl, rfl, k _ H (Ext.refl _ _) (h i j z hz F H)⟩
    | _ => cases hz
  | _ => cases hz
theorem op_I {C : Int → Int → Prop} {g : Int → Int → V} {f : Int → Int → Option D} (h : ∀ i j z, f i j = some z → C i j ∧ ∀ F H, Rep S F H z (g i j)) : Op2 S false (rI C g) (oI f) := fun F H x y v u z Q hF hx hy hz k => by
  cases x with
  | int i =>
    cases y with
    | int j =>
      cases (show v = _ from hx)
      cases (show u = _ from hy)
      exact ⟨i, j, rfl, rfl, (h i j z hz).1, k _ H (Ext.refl _ _) ((h i j z hz).2 F H)⟩
    | _ => cases hz
  | _ => cases hz
def oSub := oI fun i j => some (.int (i - j))
def oMul := oI fun i j => if (-(2 ^ 64) < i ∧ i < 2 ^ 64) ∨ (-(2 ^ 64) < j ∧ j < 2 ^ 64) then some (.int (i * j)) else none
def oFdiv := oI fun i j => if j ≠ 0 ∧ j.natAbs < 1073741824 then some (.int (i.fdiv j)) else none
def oMod := oI fun i j => if j ≠ 0 then some (.int (i.fmod j)) else none
def oPow := oI fun i j => if 0 ≤ j ∧ j ≤ 1000000 ∧ i.natAbs < 2 ^ 64 then some (.int (i ^ j.toNat)) else none
def oNeg : D → Option D
  | .int i => some (.int (-i))
  | _ => none
def rSubX : R2 := rI0 fun i j => .int (i - j)
def rMulX : R2 := rI CMul fun i j => .int (i * j)
def rFdivX : R2 := rI CDivN fun i j => .int (i.fdiv j)
def rModX : R2 := rI (fun _ j => j ≠ 0) fun i j => .int (i.fmod j)
def rPowX : R2 := rI CPow fun i j => .int (i ^ j.toNat)
def rNegX : V → Hp → VK → Prop := rU fun i => .int (-i)
theorem o2_sub : Op2 S false rSubX oSub := op_I0 fun i j z h F H => by cases h; rfl
theorem o2_mul : Op2 S false rMulX oMul := op_I fun i j z h => by
  split at h
  · cases h
    exact ⟨by assumption, fun _ _ => rfl⟩
  · cases h
theorem o2_fdiv : Op2 S false rFdivX oFdiv := op_I fun i j z h => by
  split at h
  · cases h
    exact ⟨by assumption, fun _ _ => rfl⟩
  · cases h
theorem o2_mod : Op2 S false rModX oMod := op_I fun i j z h => by
  split at h
  · cases h
    exact ⟨by assumption, fun _ _ => rfl⟩
  · cases h
theorem o2_pow : Op2 S false rPowX oPow := op_I fun i j z h => by
  split at h
  · cases h
    exact ⟨by assumption, fun _ _ => rfl⟩
  · cases h
theorem o1_neg : Op1 S false rNegX oNeg := fun F H x v z Q hF hx hz k => by
  cases x with
  | int i =>
    cases (show v = _ from hx)
    cases hz
    exact ⟨i, rfl, k _ H (Ext.refl _ _) rfl⟩
  | _ => cases hz
/-! + -/
def oAdd : D → D → Option D
  | .int i, .int j => some (.int (i + j))
  | .str a, .str b => if a.length + b.length ≤ 100000 then some (.str (a ++ b)) else none
  | .lst xs, .lst ys => if xs.length + ys.length ≤ 100000 then some (.lst (xs ++ ys)) else none
  | .tup xs, .tup ys => if xs.length + ys.length ≤ 100000 then some (.tup (xs ++ ys)) else none
  | _, _ => none
def rAddS : R2 := fun x y H Q => ∃ i j, x = .str i ∧ y = .str j ∧ i.length + j.length ≤ sizeLine ∧ Q (.str (i ++ j)) H
def rAddX (K : PySem.W.Frag) : R2 := fun x y H Q => (rI0 fun i j => .int (i + j)) x y H Q ∨ (rAddS x y H Q ∨ (rCat x y H Q ∨ rCatA K x y H Q))
theorem op_addX {X : Cx} : OpR X (binaryOp .Add) (rAddX X.K) := opr_or op_add (opr_or op_add_str (opr_or op_cat op_catA))
theorem RepL.nil_iff {F : Addr → Prop} {H : Hp} {vs : List V} (h : RepL S F H [] vs) : vs = [] := h
theorem o2_add : Op2 S false (rAddX S.K) oAdd := fun F H x y v u z Q hF hx hy hz k => by
  unfold oAdd at hz
  split at hz
  · cases hz
    cases (show v = _ from hx)
    cases (show u = _ from hy)
    exact .inl ⟨_, _, rfl, rfl, k _ H (Ext.refl _ _) rfl⟩
  · split at hz
    · cases hz
      cases (show v = _ from hx)
      cases (show u = _ from hy)
      exact .inr (.inl ⟨_, _, rfl, rfl, sz_of (by assumption), k _ H (Ext.refl _ _) rfl⟩)
    · cases hz
  · split at hz
    · rename_i hl
      cases hz
      obtain ⟨a, vs, rfl, n1, h1, h2⟩ := hx
      obtain ⟨b, us, rfl, n2, h3, h4⟩ := hy
      refine .inr (.inr (.inl ⟨a, b, vs, us, rfl, rfl, h1, h3, by rw [h2.length, h4.length]; exact sz_of hl, fun p hp => k _ _ (Ext.new hp) ?_⟩))
      exact ⟨p, _, rfl, fun z => hF p z hp, upd_same, (h2.append h4).grow (Ext.new hp)⟩
    · cases hz
  · split at hz
    · rename_i xs ys hl
      cases hz
      obtain ⟨a, vs, rfl, h1, h2⟩ := hx
      obtain ⟨b, us, rfl, h3, h4⟩ := hy
      refine .inr (.inr (.inr ⟨a, b, vs, us, rfl, rfl, h1, h3, by rw [h2.length, h4.length]; exact sz_of hl, fun e => ?_, fun _ e => ?_, fun _ _ p hp => k _ _ (Ext.new hp) ?_⟩))
      · subst e
        have : xs = [] := List.eq_nil_of_length_eq_zero h2.length.symm
        subst this
        exact k _ H (Ext.refl _ _) ⟨b, us, rfl, h3, h4⟩
      · subst e
        have : ys = [] := List.eq_nil_of_length_eq_zero h4.length.symm
        subst this
        exact k _ H (Ext.refl _ _) ⟨a, vs, rfl, h1, by rw [List.append_nil]; exact h2⟩
      · exact ⟨p, _, rfl, .inl (.inl upd_same), (h2.append h4).grow (Ext.new hp)⟩
    · cases hz
  · cases hz
/-- a new list: [..] + [..] -/
def oCat : D → D → Option D
  | .lst xs, .lst ys => if xs.length + ys.length ≤ 100000 then some (.lst (xs ++ ys)) else none
  | _, _ => none
theorem o2_cat : Op2 S true rCat oCat := fun F H x y v u z Q hF hx hy hz k => by
  unfold oCat at hz
  split at hz
  · split at hz
    · rename_i hl
      cases hz
      obtain ⟨a, vs, rfl, n1, h1, h2⟩ := hx
      obtain ⟨b, us, rfl, n2, h3, h4⟩ := hy
      refine ⟨a, b, vs, us, rfl, rfl, h1, h3, by rw [h2.length, h4.length]; exact sz_of hl, fun p hp => k _ _ (Ext.new hp) ?_⟩
      refine ⟨p, _, _, rfl, hp, rfl, upd_same, fun z => hF p z hp, ?_⟩
      exact ((h2.append h4).less fun x z => z.imp id fun e => by rw [e]; exact hp).grow (Ext.new hp)
    · cases hz
  · cases hz
/-! * of a list or a tuple of.. (lists by an int): only where the laws use it -/
/-! comparisons of ints -/
def oLtI := oI fun i j => some (.bl (decide (i < j)))
def oLeI := oI fun i j => some (.bl (decide (i ≤ j)))
def oGtI := oI fun i j => some (.bl (decide (j < i)))
def oGeI := oI fun i j => some (.bl (decide (j ≤ i)))
def rLtI : R2 := rI0 fun i j => .bl (decide (i < j))
def rLeI : R2 := rI0 fun i j => .bl (decide (i ≤ j))
def rGtI : R2 := rI0 fun i j => .bl (decide (j < i))
def rGeI : R2 := rI0 fun i j => .bl (decide (j ≤ i))
theorem o2_ltI : Op2 S false rLtI oLtI := op_I0 fun i j z h F H => by cases h; rfl
theorem o2_leI : Op2 S false rLeI oLeI := op_I0 fun i j z h F H => by cases h; rfl
theorem o2_gtI : Op2 S false rGtI oGtI := op_I0 fun i j z h F H => by cases h; rfl
theorem o2_geI : Op2 S false rGeI oGeI := op_I0 fun i j z h F H => by cases h; rfl
def intsOf : List D → Option (List Int)
  | [] => some []
  | .int i :: r => (intsOf r).map (i :: ·)
  | _ :: _ => none
theorem intsOf_some : ∀ {ds : List D} {ns : List Int}, intsOf ds = some ns → ds = ns.map D.int
  | [], ns, h => by cases h; rfl
  | d :: ds, ns, h => by
    cases d with
    | int i =>
      have h : (intsOf ds).map (i :: ·) = some ns := h
      cases q : intsOf ds with
      | none => rw [q] at h; cases h
      | some ms =>
        rw [q] at h
        cases h
        rw [intsOf_some q]
        rfl
    | _ => cases h
@[simp] theorem intsOf_map (ns : List Int) : intsOf (ns.map D.int) = some ns := by
  induction ns with
  | nil => rfl
  | cons n ns ih =>
    show (intsOf (ns.map D.int)).map (n :: ·) = _
    rw [ih]; rfl
def strsOf : List D → Option (List Str)
  | [] => some []
  | .str i :: r => (strsOf r).map (i :: ·)
  | _ :: _ => none
theorem strsOf_some : ∀ {ds : List D} {ns : List Str}, strsOf ds = some ns → ds = ns.map D.str
  | [], ns, h => by cases h; rfl
  | d :: ds, ns, h => by
    cases d with
    | str i =>
      have h : (strsOf ds).map (i :: ·) = some ns := h
      cases q : strsOf ds with
      | none => rw [q] at h; cases h
      | some ms =>
        rw [q] at h
        cases h
        rw [strsOf_some q]
        rfl
    | _ => cases h
@[simp] theorem strsOf_map (ns : List Str) : strsOf (ns.map D.str) = some ns := by
  induction ns with
  | nil => rfl
  | cons n ns ih =>
    show (strsOf (ns.map D.str)).map (n :: ·) = _
    rw [ih]; rfl
def blsOf : List D → Option (List Bool)
  | [] => some []
  | .bl i :: r => (blsOf r).map (i :: ·)
  | _ :: _ => none
theorem blsOf_some : ∀ {ds : List D} {ns : List Bool}, blsOf ds = some ns → ds = ns.map D.bl
  | [], ns, h => by cases h; rfl
  | d :: ds, ns, h => by
    cases d with
    | bl i =>
      have h : (blsOf ds).map (i :: ·) = some ns := h
      cases q : blsOf ds with
      | none => rw [q] at h; cases h
      | some ms =>
        rw [q] at h
        cases h
        rw [blsOf_some q]
        rfl
    | _ => cases h
@[simp] theorem blsOf_map (ns : List Bool) : blsOf (ns.map D.bl) = some ns := by
  induction ns with
  | nil => rfl
  | cons n ns ih =>
    show (blsOf (ns.map D.bl)).map (n :: ·) = _
    rw [ih]; rfl
/-- ≤ of tuples of ints -/
def leInts (ns ms : List Int) : Bool := Ob.lexAt (fun j => decide (ns.getD j 0 = ms.getD j 0)) (fun j => decide (ns.getD j 0 ≤ ms.getD j 0)) (decide (ns.length ≤ ms.length)) 0 (min ns.length ms.length)
def oLe : D → D → Option D
  | .int i, .int j => some (.bl (decide (i ≤ j)))
  | .tup xs, .tup ys => (intsOf xs).bind fun ns => (intsOf ys).bind fun ms => some (.bl (leInts ns ms))
  | _, _ => none
def rLeX (K : PySem.W.Frag) : R2 := fun x y H Q => rLeI x y H Q ∨ rLeT K x y H Q
theorem op_leX {X : Cx} (hu : X.A.units < cLine) : OpR X (compareOp .LtE) (rLeX X.K) := opr_or op_le (op_leT hu)
theorem o2_le : Op2 S false (rLeX S.K) oLe := fun F H x y v u z Q hF hx hy hz k => by
  unfold oLe at hz
  split at hz
  · cases hz
    cases (show v = _ from hx)
    cases (show u = _ from hy)
    exact .inl ⟨_, _, rfl, rfl, k _ H (Ext.refl _ _) rfl⟩
  · rename_i xs ys
    obtain ⟨ns, e1, e2⟩ := Option.bind_eq_some_iff.mp hz
    obtain ⟨ms, e3, e4⟩ := Option.bind_eq_some_iff.mp e2
    cases e4
    obtain ⟨a, vs, rfl, h1, h2⟩ := hx
    obtain ⟨b, us, rfl, h3, h4⟩ := hy
    have f1 := intsOf_some e1
    have f2 := intsOf_some e3
    subst f1 f2
    rw [h2.ints] at h1
    rw [h4.ints] at h3
    exact .inr ⟨a, b, ns, ms, rfl, rfl, h1, h3, k _ H (Ext.refl _ _) rfl⟩
  · cases hz
/-! is None -/
def D.isN : D → Bool
  | .non => true
  | _ => false
def oIsN : D → D → Option D
  | x, .non => some (.bl x.isN)
  | _, _ => none
def oNotN : D → D → Option D
  | x, .non => some (.bl (!x.isN))
  | _, _ => none
def rIsNX : R2 := fun x y H Q => y = .non ∧ Q (.bl (decide (x = .non))) H
def rNotNX : R2 := fun x y H Q => y = .non ∧ Q (.bl (!decide (x = .non))) H
theorem rep_isN {F : Addr → Prop} {H : Hp} {d : D} {v : V} (h : Rep S F H d v) : decide (v = .non) = d.isN := by
  cases d with
  | non => cases (show v = _ from h); rfl
  | bl b => cases (show v = _ from h); rfl
  | int b => cases (show v = _ from h); rfl
  | str b => cases (show v = _ from h); rfl
  | tup ds => obtain ⟨a, vs, rfl, _⟩ := h; rfl
  | lst ds => obtain ⟨a, vs, rfl, _⟩ := h; rfl
  | ins c ds => obtain ⟨a, dx, vs, rfl, _⟩ := h; rfl
  | dic ks vs => rcases h with ⟨c, _, rfl⟩ | ⟨c, _, rfl⟩ <;> rfl
theorem o2_isN : Op2 S false rIsNX oIsN := fun F H x y v u z Q hF hx hy hz k => by
  cases y with
  | non =>
    cases (show u = _ from hy)
    cases hz
    exact ⟨rfl, k _ H (Ext.refl _ _) (by rw [rep_isN hx]; exact rfl)⟩
  | _ => cases hz
theorem o2_notN : Op2 S false rNotNX oNotN := fun F H x y v u z Q hF hx hy hz k => by
  cases y with
  | non =>
    cases (show u = _ from hy)
    cases hz
    exact ⟨rfl, k _ H (Ext.refl _ _) (by rw [rep_isN hx]; exact rfl)⟩
  | _ => cases hz
/-! == -/
mutual
def D.py : D → Option PyData
  | .non => some .none
  | .bl b => some (.bool b)
  | .int i => some (.int i)
  | .str x => some (.str x)
  | .tup ds => (D.pyL ds).map .tuple
  | .lst ds => (D.pyL ds).map .list
  | _ => none
def D.pyL : List D → Option (List PyData)
  | [] => some []
  | d :: ds => d.py.bind fun p => (D.pyL ds).map (p :: ·)
end
mutual
theorem rep_dp {F : Addr → Prop} {H : Hp} : ∀ {d : D} {v : V} {p : PyData}, Rep S F H d v → d.py = some p → Dp S.K H v p
  | .non, _, _, h, e => by cases (show _ = _ from h); cases e; exact .non
  | .bl b, _, _, h, e => by cases (show _ = _ from h); cases e; exact .bl b
  | .int b, _, _, h, e => by cases (show _ = _ from h); cases e; exact .int b
  | .str b, _, _, h, e => by cases (show _ = _ from h); cases e; exact .str b
  | .tup ds, _, p, h, e => by
    obtain ⟨a, vs, rfl, h1, h2⟩ := h
    have e : (D.pyL ds).map PyData.tuple = some p := e
    cases q : D.pyL ds with
    | none => rw [q] at e; cases e
    | some ps =>
      rw [q] at e
      cases e
      exact .tup h1 (repL_dp h2 q)
  | .lst ds, _, p, h, e => by
    obtain ⟨a, vs, rfl, _, h1, h2⟩ := h
    have e : (D.pyL ds).map PyData.list = some p := e
    cases q : D.pyL ds with
    | none => rw [q] at e; cases e
    | some ps =>
      rw [q] at e
      cases e
      exact .lst (.inl (.inl h1)) (repL_dp h2 q)
  | .ins _ _, _, _, _, e => by cases e
  | .dic _ _, _, _, _, e => by cases e
theorem repL_dp {F : Addr → Prop} {H : Hp} : ∀ {ds : List D} {vs : List V} {ps : List PyData}, RepL S F H ds vs → D.pyL ds = some ps → DpAll S.K H vs ps
  | [], _, _, h, e => by cases (show _ = _ from h); cases e; exact .nil
  | d :: ds, _, ps, h, e => by
    obtain ⟨v, r, rfl, h1, h2⟩ := h
    have e : (d.py.bind fun p => (D.pyL ds).map (p :: ·)) = some ps := e
    obtain ⟨p, e1, e2⟩ := Option.bind_eq_some_iff.mp e
    cases q : D.pyL ds with
    | none => rw [q] at e2; cases e2
    | some qs =>
      rw [q] at e2
      cases e2
      exact .cons (rep_dp h1 e1) (repL_dp h2 q)
end
mutual
/-- == of data -/
def D.eqb : D → D → Bool
  | .non, .non => true
  | .bl a, .bl b => a == b
  | .bl a, .int j => (if a then 1 else 0) == j
  | .int i, .bl b => i == (if b then 1 else 0)
  | .int i, .int j => i == j
  | .str a, .str b => a == b
  | .lst xs, .lst ys => D.eqbL xs ys
  | .tup xs, .tup ys => D.eqbL xs ys
  | _, _ => false
def D.eqbL : List D → List D → Bool
  | [], [] => true
  | x :: xs, y :: ys => x.eqb y && D.eqbL xs ys
  | _, _ => false
/-- what == may be asked of: its texts are texts -/
def D.lay : D → Bool
  | .non => true
  | .bl _ => true
  | .int _ => true
  | .str x => PyData.strOk x
  | .tup ds => D.layL ds
  | .lst ds => D.layL ds
  | _ => false
def D.layL : List D → Bool
  | [] => true
  | d :: ds => d.lay && D.layL ds
def D.dep : D → Nat
  | .tup ds => D.depL ds + 1
  | .lst ds => D.depL ds + 1
  | _ => 0
def D.depL : List D → Nat
  | [] => 0
  | d :: ds => max d.dep (D.depL ds)
end
def D.fit (d : D) : Bool := d.lay && decide (d.dep ≤ 64)
mutual
theorem py_some : ∀ d : D, d.lay = true → ∃ p, d.py = some p ∧ p.canLay0 = true ∧ p.depth = d.dep
  | .non, _ => ⟨_, rfl, rfl, rfl⟩
  | .bl _, _ => ⟨_, rfl, rfl, rfl⟩
  | .int _, _ => ⟨_, rfl, rfl, rfl⟩
  | .str x, h => ⟨_, rfl, by simp only [PyData.canLay0]; exact h, by simp only [PyData.depth]; rfl⟩
  | .tup ds, h => by
    obtain ⟨ps, e, l, d⟩ := pyL_some ds h
    exact ⟨.tuple ps, by show (D.pyL ds).map _ = _; rw [e]; rfl, by simp only [PyData.canLay0]; exact l, by simp only [PyData.depth]; rw [d]; rfl⟩
  | .lst ds, h => by
    obtain ⟨ps, e, l, d⟩ := pyL_some ds h
    exact ⟨.list ps, by show (D.pyL ds).map _ = _; rw [e]; rfl, by simp only [PyData.canLay0]; exact l, by simp only [PyData.depth]; rw [d]; rfl⟩
  | .ins _ _, h => by cases h
  | .dic _ _, h => by cases h
theorem pyL_some : ∀ ds : List D, D.layL ds = true → ∃ ps, D.pyL ds = some ps ∧ PyData.canLayAll0 ps = true ∧ PyData.depthAll ps = D.depL ds
  | [], _ => ⟨[], rfl, by simp only [PyData.canLayAll0], by simp only [PyData.depthAll]; rfl⟩
  | d :: ds, h => by
    have h := Bool.and_eq_true_iff.mp (show (d.lay && D.layL ds) = true from h)
    obtain ⟨p, e1, l1, d1⟩ := py_some d h.1
    obtain ⟨ps, e2, l2, d2⟩ := pyL_some ds h.2
    refine ⟨p :: ps, ?_, by simp only [PyData.canLayAll0]; rw [l1, l2]; rfl, by simp only [PyData.depthAll]; rw [d1, d2]; rfl⟩
    show (d.py.bind fun p => (D.pyL ds).map (p :: ·)) = _
    rw [e1, e2]; rfl
end
theorem fit_py {d : D} (h : d.fit = true) : ∃ p, d.py = some p ∧ SeqAt.shaped p = true := by
  have h := Bool.and_eq_true_iff.mp h
  obtain ⟨p, e, l, d⟩ := py_some d h.1
  refine ⟨p, e, ?_⟩
  show (p.canLay0 && decide (p.depth ≤ 64)) = true
  rw [l, d, h.2]; rfl
mutual
theorem eqv_py : ∀ (x y : D) (p q : PyData), x.py = some p → y.py = some q → PyData.eqv p q = x.eqb y
  | .non, y, p, q, e1, e2 => by
    cases e1
    cases y with
    | tup ds =>
      have e2 : (D.pyL ds).map PyData.tuple = some q := e2
      cases z : D.pyL ds with
      | none => rw [z] at e2; cases e2
      | some ps => rw [z] at e2; cases e2; simp only [PyData.eqv, D.eqb]
    | lst ds =>
      have e2 : (D.pyL ds).map PyData.list = some q := e2
      cases z : D.pyL ds with
      | none => rw [z] at e2; cases e2
      | some ps => rw [z] at e2; cases e2; simp only [PyData.eqv, D.eqb]
    | _ => cases e2 <;> simp only [PyData.eqv, D.eqb]
  | .bl a, y, p, q, e1, e2 => by
    cases e1
    cases y with
    | tup ds =>
      have e2 : (D.pyL ds).map PyData.tuple = some q := e2
      cases z : D.pyL ds with
      | none => rw [z] at e2; cases e2
      | some ps => rw [z] at e2; cases e2; simp only [PyData.eqv, D.eqb]
    | lst ds =>
      have e2 : (D.pyL ds).map PyData.list = some q := e2
      cases z : D.pyL ds with
      | none => rw [z] at e2; cases e2
      | some ps => rw [z] at e2; cases e2; simp only [PyData.eqv, D.eqb]
    | _ => cases e2 <;> simp only [PyData.eqv, D.eqb]
  | .int a, y, p, q, e1, e2 => by
    cases e1
    cases y with
    | tup ds =>
      have e2 : (D.pyL ds).map PyData.tuple = some q := e2
      cases z : D.pyL ds with
      | none => rw [z] at e2; cases e2
      | some ps => rw [z] at e2; cases e2; simp only [PyData.eqv, D.eqb]
    | lst ds =>
      have e2 : (D.pyL ds).map PyData.list = some q := e2
      cases z : D.pyL ds with
      | none => rw [z] at e2; cases e2
      | some ps => rw [z] at e2; cases e2; simp only [PyData.eqv, D.eqb]
    | _ => cases e2 <;> simp only [PyData.eqv, D.eqb]
  | .str a, y, p, q, e1, e2 => by
    cases e1
    cases y with
    | tup ds =>
      have e2 : (D.pyL ds).map PyData.tuple = some q := e2
      cases z : D.pyL ds with
      | none => rw [z] at e2; cases e2
      | some ps => rw [z] at e2; cases e2; simp only [PyData.eqv, D.eqb]
    | lst ds =>
      have e2 : (D.pyL ds).map PyData.list = some q := e2
      cases z : D.pyL ds with
      | none => rw [z] at e2; cases e2
      | some ps => rw [z] at e2; cases e2; simp only [PyData.eqv, D.eqb]
    | _ => cases e2 <;> simp only [PyData.eqv, D.eqb]
  | .tup xs, y, p, q, e1, e2 => by
    have e1 : (D.pyL xs).map PyData.tuple = some p := e1
    cases z1 : D.pyL xs with
    | none => rw [z1] at e1; cases e1
    | some ps =>
      rw [z1] at e1
      cases e1
      cases y with
      | tup ds =>
        have e2 : (D.pyL ds).map PyData.tuple = some q := e2
        cases z : D.pyL ds with
        | none => rw [z] at e2; cases e2
        | some qs => rw [z] at e2; cases e2; simp only [PyData.eqv, D.eqb]; exact eqvL_py xs ds ps qs z1 z
      | lst ds =>
        have e2 : (D.pyL ds).map PyData.list = some q := e2
        cases z : D.pyL ds with
        | none => rw [z] at e2; cases e2
        | some ps => rw [z] at e2; cases e2; simp only [PyData.eqv, D.eqb]
      | _ => cases e2 <;> simp only [PyData.eqv, D.eqb]
  | .lst xs, y, p, q, e1, e2 => by
    have e1 : (D.pyL xs).map PyData.list = some p := e1
    cases z1 : D.pyL xs with
    | none => rw [z1] at e1; cases e1
    | some ps =>
      rw [z1] at e1
      cases e1
      cases y with
      | lst ds =>
        have e2 : (D.pyL ds).map PyData.list = some q := e2
        cases z : D.pyL ds with
        | none => rw [z] at e2; cases e2
        | some qs => rw [z] at e2; cases e2; simp only [PyData.eqv, D.eqb]; exact eqvL_py xs ds ps qs z1 z
      | tup ds =>
        have e2 : (D.pyL ds).map PyData.tuple = some q := e2
        cases z : D.pyL ds with
        | none => rw [z] at e2; cases e2
        | some ps => rw [z] at e2; cases e2; simp only [PyData.eqv, D.eqb]
      | _ => cases e2 <;> simp only [PyData.eqv, D.eqb]
  | .ins _ _, _, _, _, e, _ => by cases e
  | .dic _ _, _, _, _, e, _ => by cases e
theorem eqvL_py : ∀ (xs ys : List D) (ps qs : List PyData), D.pyL xs = some ps → D.pyL ys = some qs → PyData.eqvAll ps qs = D.eqbL xs ys
  | [], ys, ps, qs, e1, e2 => by
    cases e1
    cases ys with
    | nil => cases e2; simp only [PyData.eqvAll, D.eqbL]
    | cons y ys =>
      have e2 : (y.py.bind fun p => (D.pyL ys).map (p :: ·)) = some qs := e2
      obtain ⟨p, z1, z2⟩ := Option.bind_eq_some_iff.mp e2
      cases z : D.pyL ys with
      | none => rw [z] at z2; cases z2
      | some rs => rw [z] at z2; cases z2; simp only [PyData.eqvAll, D.eqbL]
  | x :: xs, ys, ps, qs, e1, e2 => by
    have e1 : (x.py.bind fun p => (D.pyL xs).map (p :: ·)) = some ps := e1
    obtain ⟨p, w1, w2⟩ := Option.bind_eq_some_iff.mp e1
    cases w : D.pyL xs with
    | none => rw [w] at w2; cases w2
    | some ts =>
      rw [w] at w2
      cases w2
      cases ys with
      | nil => cases e2; simp only [PyData.eqvAll, D.eqbL]
      | cons y ys =>
        have e2 : (y.py.bind fun p => (D.pyL ys).map (p :: ·)) = some qs := e2
        obtain ⟨p, z1, z2⟩ := Option.bind_eq_some_iff.mp e2
        cases z : D.pyL ys with
        | none => rw [z] at z2; cases z2
        | some rs =>
          rw [z] at z2
          cases z2
          simp only [PyData.eqvAll, D.eqbL]
          rw [eqv_py x y _ _ w1 z1, eqvL_py xs ys _ _ w z]
end
/-- two texts are compared as they are; else what may be asked of -/
def oEqB (x y : D) : Option Bool := match x, y with
  | .str a, .str b => some (decide (a = b))
  | .str a, .non => some false
  | .non, .str b => some false
  | x, y => if x.fit && y.fit then some (x.eqb y) else none
def oEq (x y : D) : Option D := (oEqB x y).map .bl
def oNe (x y : D) : Option D := (oEqB x y).map fun b => .bl (!b)
def rEqX (K : PySem.W.Frag) : R2 := fun x y H Q => rEq x y H Q ∨ rEqD K x y H Q
def rNeX (K : PySem.W.Frag) : R2 := fun x y H Q => rNe x y H Q ∨ rNeD K x y H Q
theorem op_eqX {X : Cx} (hu : X.A.units + 64 < cLine) : OpR X (compareOp .Eq) (rEqX X.K) := opr_or op_eq (op_eqD hu)
theorem op_neX {X : Cx} (hu : X.A.units + 64 < cLine) : OpR X (compareOp .NotEq) (rNeX X.K) := opr_or op_ne (op_neD hu)
theorem eqB_cases {F : Addr → Prop} {H : Hp} {x y : D} {v u : V} {b : Bool} (hx : Rep S F H x v) (hy : Rep S F H y u) (h : oEqB x y = some b) :
    (scal v u = true ∧ decide (v = u) = b) ∨ ∃ d e, Dp S.K H v d ∧ Dp S.K H u e ∧ SeqAt.shaped d = true ∧ SeqAt.shaped e = true ∧ PyData.eqv d e = b := by
  unfold oEqB at h
  split at h
  · cases (show v = _ from hx)
    cases (show u = _ from hy)
    cases h
    rename_i a b
    refine .inl ⟨rfl, ?_⟩
    by_cases e : a = b
    · exact (decide_eq_true (congrArg V.str e)).trans (decide_eq_true e).symm
    · exact (decide_eq_false fun z => e (V.str.inj z)).trans (decide_eq_false e).symm
  · cases (show v = _ from hx)
    cases (show u = _ from hy)
    cases h
    exact .inl ⟨rfl, rfl⟩
  · cases (show v = _ from hx)
    cases (show u = _ from hy)
    cases h
    exact .inl ⟨rfl, rfl⟩
  · split at h
    · rename_i c
      cases h
      have c := Bool.and_eq_true_iff.mp c
      obtain ⟨p, e1, s1⟩ := fit_py c.1
      obtain ⟨q, e2, s2⟩ := fit_py c.2
      exact .inr ⟨p, q, rep_dp hx e1, rep_dp hy e2, s1, s2, eqv_py _ _ _ _ e1 e2⟩
    · cases h
theorem o2_eq : Op2 S false (rEqX S.K) oEq := fun F H x y v u z Q hF hx hy hz k => by
  unfold oEq at hz
  cases q : oEqB x y with
  | none => rw [q] at hz; cases hz
  | some b =>
    rw [q] at hz
    cases hz
    rcases eqB_cases hx hy q with ⟨h1, h2⟩ | ⟨d, e, h1, h2, h3, h4, h5⟩
    · exact .inl ⟨h1, by rw [h2]; exact k _ H (Ext.refl _ _) rfl⟩
    · exact .inr ⟨d, e, h1, h2, h3, h4, by rw [h5]; exact k _ H (Ext.refl _ _) rfl⟩
theorem o2_ne : Op2 S false (rNeX S.K) oNe := fun F H x y v u z Q hF hx hy hz k => by
  unfold oNe at hz
  cases q : oEqB x y with
  | none => rw [q] at hz; cases hz
  | some b =>
    rw [q] at hz
    cases hz
    rcases eqB_cases hx hy q with ⟨h1, h2⟩ | ⟨d, e, h1, h2, h3, h4, h5⟩
    · exact .inl ⟨h1, by rw [h2]; exact k _ H (Ext.refl _ _) rfl⟩
    · exact .inr ⟨d, e, h1, h2, h3, h4, by rw [h5]; exact k _ H (Ext.refl _ _) rfl⟩
end
end Mir
/-! MirI -/
namespace Mir
open PySem PySem.Spec PyProof.Rows L2
variable [Tbl]
section
variable {S : Sc}
/-! ### in, not in -/
def rInT (K : PySem.W.Frag) : R2 := fun x y H Q => ∃ d ds, Dp K H x d ∧ Dp K H y (.tuple ds) ∧ SeqAt.shaped d = true ∧ SeqAt.shaped (.tuple ds) = true ∧ Q (.bl (ds.any fun z => PyData.eqv z d)) H
def rNotInT (K : PySem.W.Frag) : R2 := fun x y H Q => ∃ d ds, Dp K H x d ∧ Dp K H y (.tuple ds) ∧ SeqAt.shaped d = true ∧ SeqAt.shaped (.tuple ds) = true ∧ Q (.bl (!ds.any fun z => PyData.eqv z d)) H
theorem room_tup {A : Around} {d : PyData} {ds : List PyData} (h : SeqAt.shaped d = true) (hu : A.units + 65 < cLine) : A.units + 1 + min (PyData.depthAll ds) d.depth < cLine := by
  have h1 := SeqAt.depth_of_shaped h
  have h2 : min (PyData.depthAll ds) d.depth ≤ d.depth := Nat.min_le_right _ _
  omega
theorem op_inT {X : Cx} (hu : X.A.units + 65 < cLine) : OpR X (compareOp .In) (rInT X.K) := by
  intro pins s σ H x y v u Q I rx ry h
  obtain ⟨d, ds, hd, he, sd, se, q⟩ := h
  obtain ⟨as, r1⟩ := Dp.reads I d x v hd rx
  obtain ⟨bs, r2⟩ := Dp.reads I (.tuple ds) y u he ry
  exact SeqAt.in_tuple_reads r2 r1 (by have := SeqAt.canLay_of_shaped se; simpa only [PyData.canLay0] using this) (SeqAt.canLay_of_shaped sd) (room_tup sd hu) ⟨.bl _, H, I, rfl, q⟩
theorem op_notInT {X : Cx} (hu : X.A.units + 65 < cLine) : OpR X (compareOp .NotIn) (rNotInT X.K) := by
  intro pins s σ H x y v u Q I rx ry h
  obtain ⟨d, ds, hd, he, sd, se, q⟩ := h
  obtain ⟨as, r1⟩ := Dp.reads I d x v hd rx
  obtain ⟨bs, r2⟩ := Dp.reads I (.tuple ds) y u he ry
  exact SeqAt.notIn_tuple_reads r2 r1 (by have := SeqAt.canLay_of_shaped se; simpa only [PyData.canLay0] using this) (SeqAt.canLay_of_shaped sd) (room_tup sd hu) ⟨.bl _, H, I, rfl, q⟩
def rInSg : R2 := fun x y H Q => ∃ (c : Nat) (z : Str), x = .str ⟨#[c]⟩ ∧ y = .str z ∧ Q (.bl (decide (c ∈ z.cps.toList))) H
def rNotInSg : R2 := fun x y H Q => ∃ (c : Nat) (z : Str), x = .str ⟨#[c]⟩ ∧ y = .str z ∧ Q (.bl (!decide (c ∈ z.cps.toList))) H
def rInX (K : PySem.W.Frag) : R2 := fun x y H Q => rInSg x y H Q ∨ (rInD K x y H Q ∨ rInT K x y H Q)
def rNotInX (K : PySem.W.Frag) : R2 := fun x y H Q => rNotInSg x y H Q ∨ (rNotInD K x y H Q ∨ rNotInT K x y H Q)
theorem op_inX {X : Cx} (hu : X.A.units + 65 < cLine) : OpR X (compareOp .In) (rInX X.K) := opr_or op_in_sign (opr_or (op_inD hu) (op_inT hu))
theorem op_notInX {X : Cx} (hu : X.A.units + 65 < cLine) : OpR X (compareOp .NotIn) (rNotInX X.K) := opr_or op_notIn_sign (opr_or (op_notInD hu) (op_notInT hu))
def oInB (x y : D) : Option Bool := match x, y with
  | .str ⟨⟨[c]⟩⟩, .str z => some (decide (c ∈ z.cps.toList))
  | x, .lst ds => if x.fit && (D.lst ds).fit then some (ds.any fun z => z.eqb x) else none
  | x, .tup ds => if x.fit && (D.tup ds).fit then some (ds.any fun z => z.eqb x) else none
  | _, _ => none
def oIn (x y : D) : Option D := (oInB x y).map .bl
def oNotIn (x y : D) : Option D := (oInB x y).map fun b => .bl (!b)
theorem any_py {x : D} {p : PyData} (hp : x.py = some p) : ∀ {ds : List D} {ps : List PyData}, D.pyL ds = some ps → (ps.any fun z => PyData.eqv z p) = ds.any fun z => z.eqb x
  | [], ps, h => by cases h; rfl
  | d :: ds, ps, h => by
    have h : (d.py.bind fun p => (D.pyL ds).map (p :: ·)) = some ps := h
    obtain ⟨q, z1, z2⟩ := Option.bind_eq_some_iff.mp h
    cases z : D.pyL ds with
    | none => rw [z] at z2; cases z2
    | some rs =>
      rw [z] at z2
      cases z2
      rw [List.any_cons, List.any_cons, any_py hp z, eqv_py _ _ _ _ z1 hp]
theorem inB_cases {F : Addr → Prop} {H : Hp} {x y : D} {v u : V} {b : Bool} (hx : Rep S F H x v) (hy : Rep S F H y u) (h : oInB x y = some b) :
    (∃ (c : Nat) (z : Str), v = .str ⟨#[c]⟩ ∧ u = .str z ∧ decide (c ∈ z.cps.toList) = b) ∨
    (∃ d ds, Dp S.K H v d ∧ Dp S.K H u (.list ds) ∧ SeqAt.shaped d = true ∧ SeqAt.shaped (.list ds) = true ∧ (ds.any fun z => PyData.eqv z d) = b) ∨
    (∃ d ds, Dp S.K H v d ∧ Dp S.K H u (.tuple ds) ∧ SeqAt.shaped d = true ∧ SeqAt.shaped (.tuple ds) = true ∧ (ds.any fun z => PyData.eqv z d) = b) := by
  unfold oInB at h
  split at h
  · cases (show v = _ from hx)
    cases (show u = _ from hy)
    cases h
    exact .inl ⟨_, _, rfl, rfl, rfl⟩
  · rename_i ds
    split at h
    · rename_i c
      cases h
      have c := Bool.and_eq_true_iff.mp c
      obtain ⟨p, e1, s1⟩ := fit_py c.1
      obtain ⟨q, e2, s2⟩ := fit_py c.2
      have e3 := e2
      have e2 : (D.pyL ds).map PyData.list = some q := e2
      cases z : D.pyL ds with
      | none => rw [z] at e2; cases e2
      | some ps =>
        rw [z] at e2
        cases e2
        exact .inr (.inl ⟨p, ps, rep_dp hx e1, rep_dp hy e3, s1, s2, any_py e1 z⟩)
    · cases h
  · rename_i ds
    split at h
    · rename_i c
      cases h
      have c := Bool.and_eq_true_iff.mp c
      obtain ⟨p, e1, s1⟩ := fit_py c.1
      obtain ⟨q, e2, s2⟩ := fit_py c.2
      have e3 := e2
      have e2 : (D.pyL ds).map PyData.tuple = some q := e2
      cases z : D.pyL ds with
      | none => rw [z] at e2; cases e2
      | some ps =>
        rw [z] at e2
        cases e2
        exact .inr (.inr ⟨p, ps, rep_dp hx e1, rep_dp hy e3, s1, s2, any_py e1 z⟩)
    · cases h
  · cases h
theorem o2_in : Op2 S false (rInX S.K) oIn := fun F H x y v u z Q hF hx hy hz k => by
  unfold oIn at hz
  cases q : oInB x y with
  | none => rw [q] at hz; cases hz
  | some b =>
    rw [q] at hz
    cases hz
    have kb := k (.bl b) H (Ext.refl _ _) rfl
    rcases inB_cases hx hy q with ⟨c, w, h1, h2, h3⟩ | ⟨d, e, h1, h2, h3, h4, h5⟩ | ⟨d, e, h1, h2, h3, h4, h5⟩
    · exact .inl ⟨c, w, h1, h2, by rw [h3]; exact kb⟩
    · exact .inr (.inl ⟨d, e, h1, h2, h3, h4, by rw [h5]; exact kb⟩)
    · exact .inr (.inr ⟨d, e, h1, h2, h3, h4, by rw [h5]; exact kb⟩)
theorem o2_notIn : Op2 S false (rNotInX S.K) oNotIn := fun F H x y v u z Q hF hx hy hz k => by
  unfold oNotIn at hz
  cases q : oInB x y with
  | none => rw [q] at hz; cases hz
  | some b =>
    rw [q] at hz
    cases hz
    have kb := k (.bl (!b)) H (Ext.refl _ _) rfl
    rcases inB_cases hx hy q with ⟨c, w, h1, h2, h3⟩ | ⟨d, e, h1, h2, h3, h4, h5⟩ | ⟨d, e, h1, h2, h3, h4, h5⟩
    · exact .inl ⟨c, w, h1, h2, by rw [h3]; exact kb⟩
    · exact .inr (.inl ⟨d, e, h1, h2, h3, h4, by rw [h5]; exact kb⟩)
    · exact .inr (.inr ⟨d, e, h1, h2, h3, h4, by rw [h5]; exact kb⟩)
/-! ### places and slices -/
theorem ixN_len {α β : Type} {xs : List α} {ys : List β} (h : xs.length = ys.length) (i : Int) : ixN xs.length i = ixN ys.length i := by rw [h]
theorem atI_rep {F : Addr → Prop} {H : Hp} {ds : List D} {vs : List V} {i : Int} {d : D} (h : RepL S F H ds vs) (e : atI ds i = some d) : ∃ v, atI vs i = some v ∧ Rep S F H d v := by
  unfold atI at e ⊢
  rw [h.length]
  obtain ⟨j, e1, e2⟩ := Option.bind_eq_some_iff.mp e
  obtain ⟨v, q1, q2⟩ := h.get e2
  exact ⟨v, by rw [e1]; exact q1, q2⟩
def oIx : D → D → Option D
  | .lst ds, .int i => atI ds i
  | .tup ds, .int i => atI ds i
  | .str z, .int i => if z.length ≤ 100000 then (atI z.cps.toList i).map fun c => .str ⟨#[c]⟩ else none
  | _, _ => none
theorem o2_ix : Op2 S false (rIx S.K) oIx := fun F H x y v u z Q hF hx hy hz k => by
  unfold oIx at hz
  split at hz
  · obtain ⟨a, vs, rfl, n, h1, h2⟩ := hx
    cases (show u = _ from hy)
    obtain ⟨w, e, r⟩ := atI_rep h2 hz
    exact .inl ⟨a, vs, _, w, rfl, rfl, .inl (.inl h1), e, k w H (Ext.refl _ _) r⟩
  · obtain ⟨a, vs, rfl, h1, h2⟩ := hx
    cases (show u = _ from hy)
    obtain ⟨w, e, r⟩ := atI_rep h2 hz
    exact .inr (.inl ⟨a, vs, _, w, rfl, rfl, h1, e, k w H (Ext.refl _ _) r⟩)
  · split at hz
    · rename_i hl
      cases (show v = _ from hx)
      cases (show u = _ from hy)
      rename_i s i
      cases q : atI s.cps.toList i with
      | none => rw [q] at hz; cases hz
      | some c =>
        rw [q] at hz
        cases hz
        exact .inr (.inr ⟨s, i, c, rfl, rfl, sz_of hl, q, k _ H (Ext.refl _ _) rfl⟩)
    · cases hz
  · cases hz
abbrev PM := Env → Out (Option Int)
def pNone : PM := fun e => .ok none e
def D.toI : D → Option Int
  | .int i => some i
  | _ => none
def pSome (a : EM) : PM := fun env => (a env).bind fun x e => (Out.opt x.toI e).bind fun i e => .ok (some i) e
def RefO (S : Sc) (O P : List Nat) (E : XK) (μ : Mo) (t : TO) (m : PM) : Prop :=
  ∀ (R : Rx) (σ : L2.St) (H : Hp) (fp : Fp) (env : Env), Rel S O P R σ H fp env → ∀ Q : Option Int → Hp → Prop, Want S O P E μ R σ H fp env (m env) (fun o _ H' _ => Q o H') → t σ H Q
def cutD (xs : List D) (lo hi : Option Int) : List D := (xs.drop (HT.sIx xs.length 0 lo)).take (HT.sIx xs.length xs.length hi - HT.sIx xs.length 0 lo)
def oSl (x : D) (lo hi : Option Int) : Option D := match x with
  | .lst ds => some (.lst (cutD ds lo hi))
  | .tup ds => some (.tup (cutD ds lo hi))
  | .str z => if z.length ≤ 100000 then some (.str (cutS z lo hi)) else none
  | _ => none
def oSlL (x : D) (lo hi : Option Int) : Option D := match x with
  | .lst ds => some (.lst (cutD ds lo hi))
  | _ => none
def rSlX (K : PySem.W.Frag) : V → Option Int → Option Int → Hp → VK → Prop := fun x lo hi H Q => rSlL K x lo hi H Q ∨ (rSlA K x lo hi H Q ∨ rSlS x lo hi H Q)
theorem sl_X {X : Cx} : SlR X (rSlX X.K) := sl_list.or (sl_tupA.or sl_str)
def Op3 (S : Sc) (fr : Bool) (r : V → Option Int → Option Int → Hp → VK → Prop) (f : D → Option Int → Option Int → Option D) : Prop :=
  ∀ (F : Addr → Prop) (H : Hp) (x : D) (lo hi : Option Int) (v : V) (z : D) (Q : VK), (∀ a, F a → H a ≠ none) → Rep S F H x v → f x lo hi = some z → (∀ w H', Ext Nil H H' → RepK S F fr H H' z w → Q w H') → r v lo hi H Q
theorem cut_rep {F : Addr → Prop} {H : Hp} {ds : List D} {vs : List V} {lo hi : Option Int} (h : RepL S F H ds vs) : RepL S F H (cutD ds lo hi) (cutV vs lo hi) := by
  unfold cutD cutV
  rw [h.length]
  exact (h.drop _).take _
theorem o3_slL : Op3 S true (rSlL S.K) oSlL := fun F H x lo hi v z Q hF hx hz k => by
  cases x with
  | lst ds =>
    cases hz
    obtain ⟨a, vs, rfl, n, h1, h2⟩ := hx
    refine ⟨a, vs, rfl, .inl (.inl h1), fun p hp => k _ _ (Ext.new hp) ⟨p, _, _, rfl, hp, rfl, upd_same, fun z => hF p z hp, ?_⟩⟩
    exact ((cut_rep h2).less fun x z => z.imp id fun e => by rw [e]; exact hp).grow (Ext.new hp)
  | _ => cases hz
theorem o3_sl : Op3 S false (rSlX S.K) oSl := fun F H x lo hi v z Q hF hx hz k => by
  cases x with
  | lst ds => exact .inl (o3_slL F H (.lst ds) lo hi v z Q hF hx hz fun w H' e r => k w H' e r.rep)
  | tup ds =>
    cases hz
    obtain ⟨a, vs, rfl, h1, h2⟩ := hx
    refine .inr (.inl ⟨a, vs, rfl, h1, fun e => ?_, fun _ p hp => k _ _ (Ext.new hp) ⟨p, _, rfl, .inl (.inl upd_same), (cut_rep h2).grow (Ext.new hp)⟩⟩)
    refine k _ H (Ext.refl _ _) ⟨a, vs, rfl, h1, ?_⟩
    have e2 : cutD ds lo hi = ds := by
      unfold cutD
      rw [← h2.length, e.1, e.2, List.drop_zero, Nat.sub_zero]
      exact List.take_of_length_le (by rw [h2.length]; exact Nat.le_refl _)
    rw [e2]
    exact h2
  | str s =>
    unfold oSl at hz
    dsimp only at hz
    split at hz
    · rename_i hl
      cases hz
      cases (show v = _ from hx)
      exact .inr (.inr ⟨s, rfl, sz_of hl, k _ H (Ext.refl _ _) rfl⟩)
    · cases hz
  | _ => cases hz
def eSl (f : D → Option Int → Option Int → Option D) (a : EM) (lo hi : PM) : EM := fun env => (a env).bind fun x e => (lo e).bind fun l e1 => (hi e1).bind fun u e2 => .opt (f x l u) e2
section
variable {O P : List Nat} {E : XK} {μ : Mo} {fr fa fb : Bool} {ta tb te : TE} {ma mb : EM} {t u : TT} {m n : TM} {tA : TA} {mA : AM} {tl th : TO} {pl ph : PM}
theorem ro_none : RefO S O P E μ tNoPart pNone := fun R σ H fp env I Q h => h H fp I Stp.refl
theorem ro_some (ha : RefE S O P E μ fa ta ma) : RefO S O P E μ (tPart ta) (pSome ma) := by
  intro R σ H fp env I Q h
  refine ha R σ H fp env I _ ((Want.bind h).mono fun x e1 H1 f1 I1 s1 h1 v hv _ => ?_)
  have h5 := Want.bind h1
  obtain ⟨i, hi⟩ := want_some h5
  rw [hi] at h5
  have hw := hv.rep
  cases x with
  | int j =>
    cases hi
    exact ⟨_, hw, (h5 H1 f1 I1 Stp.refl) H1 f1 I1 Stp.refl⟩
  | _ => cases hi
theorem ref_sl {r : V → Option Int → Option Int → Hp → VK → Prop} {f : D → Option Int → Option Int → Option D} (hr : Op3 S fr r f) (ha : RefE S O P E μ fa ta ma) (hl : RefO S O P E μ tl pl) (hh : RefO S O P E μ th ph) : RefE S O P E μ fr (tSl r ta tl th) (eSl f ma pl ph) := by
  intro R σ H fp env I Q h
  refine ha R σ H fp env I _ ((Want.bind h).mono fun x e1 H1 f1 I1 s1 h1 v hv _ => ?_)
  refine hl R σ H1 f1 e1 I1 _ ((Want.bind h1).mono fun l e2 H2 f2 I2 s2 h2 => ?_)
  refine hh R σ H2 f2 e2 I2 _ ((Want.bind h2).mono fun u e3 H3 f3 I3 s3 h3 => ?_)
  obtain ⟨z, hz⟩ := want_some h3
  exact hr (FM R f3 μ) H3 x l u v z Q (fun a q => I3.fm q) (Rep.fwd s3.fwd _ _ (Rep.fwd s2.fwd _ _ hv.rep)) hz fun w H' ex hk => want_opt h3 hz I3 (fun a q => ((s1.trans s2).trans s3).dom q) ex hk
/-! a text's method of one argument -/
def D.isS : D → Bool
  | .str _ => true
  | _ => false
def eM1 (f : D → D → Option D) (a b : EM) : EM := fun env => (a env).bind fun x e => if x.isS then (b e).bind fun y e' => .opt (f x y) e' else .bad
theorem ref_m1 {r : V → List V → Hp → VK → Prop} {f : D → D → Option D} (hr : Op2 S fr (fun x y H Q => r x [y] H Q) f) (ha : RefE S O P E μ fa ta ma) (hb : RefE S O P E μ fb tb mb) : RefE S O P E μ fr (tM1 r ta tb) (eM1 f ma mb) := by
  intro R σ H fp env I Q h
  refine ha R σ H fp env I _ ((Want.bind h).mono fun x e1 H1 f1 I1 s1 h1 v hv _ => ?_)
  by_cases c : x.isS = true
  · rw [if_pos c] at h1
    refine ⟨?_, ?_⟩
    · cases x with
      | str z => exact ⟨z, hv.rep⟩
      | _ => cases c
    · refine hb R σ H1 f1 e1 I1 _ ((Want.bind h1).mono fun y e2 H2 f2 I2 s2 h2 u hu _ => ?_)
      obtain ⟨z, hz⟩ := want_some h2
      exact hr (FM R f2 μ) H2 x y v u z Q (fun a q => I2.fm q) (Rep.fwd s2.fwd _ _ hv.rep) hu.rep hz fun w H' ex hk => want_opt h2 hz I2 (fun a q => (s1.trans s2).dom q) ex hk
  · rw [if_neg c] at h1
    exact h1.elim
end
def oJoin : D → D → Option D
  | .str a, .lst ds => (strsOf ds).bind fun ys => if (ys.map (·.length)).sum + ys.length * a.length ≤ 100000 then some (.str (Txt.join a ys)) else none
  | .str a, .tup ds => (strsOf ds).bind fun ys => if (ys.map (·.length)).sum + ys.length * a.length ≤ 100000 then some (.str (Txt.join a ys)) else none
  | _, _ => none
def rJoinX (K : PySem.W.Frag) : V → List V → Hp → VK → Prop := fun x xs H Q => ∃ a p, ∃ ys : List Str, x = .str a ∧ xs = [.ref p] ∧ (SqL K H p (ys.map V.str) ∨ SqT K H p (ys.map V.str)) ∧
      (ys.map (·.length)).sum + ys.length * a.length ≤ 16777216 ∧ Q (.str (Txt.join a ys)) H
theorem o2_join : Op2 S false (fun x y H Q => rJoinX S.K x [y] H Q) oJoin := fun F H x y v u z Q hF hx hy hz k => by
  unfold oJoin at hz
  split at hz
  · obtain ⟨ys, e1, e2⟩ := Option.bind_eq_some_iff.mp hz
    split at e2
    · rename_i hl
      cases e2
      have e1 := strsOf_some e1
      subst e1
      cases (show v = _ from hx)
      obtain ⟨p, vs, rfl, _, h1, h2⟩ := hy
      rw [h2.strs] at h1
      exact ⟨_, p, ys, rfl, rfl, .inl (.inl (.inl h1)), by omega, k _ H (Ext.refl _ _) rfl⟩
    · cases e2
  · obtain ⟨ys, e1, e2⟩ := Option.bind_eq_some_iff.mp hz
    split at e2
    · rename_i hl
      cases e2
      have e1 := strsOf_some e1
      subst e1
      cases (show v = _ from hx)
      obtain ⟨p, vs, rfl, h1, h2⟩ := hy
      rw [h2.strs] at h1
      exact ⟨_, p, ys, rfl, rfl, .inr h1, by omega, k _ H (Ext.refl _ _) rfl⟩
    · cases e2
  · cases hz
def oSplit : D → D → Option D
  | .str a, .str b => if (b.length == 0) = false ∧ a.length ≤ 100000 then some (.lst ((Txt.split a b).map .str)) else none
  | _, _ => none
def rSplitX : V → List V → Hp → VK → Prop := fun x xs H Q => ∃ a b, x = .str a ∧ xs = [.str b] ∧ (b.length == 0) = false ∧ a.length + 2 ≤ sizeLine ∧ rNewStrs (Txt.split a b) H Q
theorem o2_split : Op2 S true (fun x y H Q => rSplitX x [y] H Q) oSplit := fun F H x y v u z Q hF hx hy hz k => by
  unfold oSplit at hz
  split at hz
  · split at hz
    · rename_i hl
      cases hz
      cases (show v = _ from hx)
      cases (show u = _ from hy)
      refine ⟨_, _, rfl, rfl, hl.1, by have := sizeLine_eq; omega, fun p hp => k _ _ (Ext.new hp) ⟨p, _, _, rfl, hp, rfl, upd_same, fun z => hF p z hp, RepL.ofStrs⟩⟩
    · cases hz
  · cases hz
/-! ### built-ins of one argument -/
def A1 (f : D → Option D) : List D → Option D
  | [d] => f d
  | _ => none
theorem opA1 {fr : Bool} {r : List V → Hp → VK → Prop} {f : D → Option D} (h : Op1 S fr (fun v H Q => r [v] H Q) f) : OpA S fr r (A1 f) := fun F H xs vs z Q hF hx hz k => by
  match xs, hz with
  | [d], hz =>
    obtain ⟨v, r', rfl, h1, h2⟩ := hx
    cases (show r' = _ from h2)
    exact h F H d v z Q hF h1 hz k
def oLen : D → Option D
  | .str z => if z.length ≤ 100000 then some (.int z.length) else none
  | .lst ds => some (.int ds.length)
  | .tup ds => some (.int ds.length)
  | _ => none
def rLenX (K : PySem.W.Frag) : List V → Hp → VK → Prop := fun xs H Q => ∃ x n, xs = [x] ∧ LenV K x H n ∧ Q (.int n) H
theorem oA_len : OpA S false (rLenX S.K) (A1 oLen) := opA1 fun F H x v z Q hF hx hz k => by
  cases x with
  | str s =>
    unfold oLen at hz
    dsimp only at hz
    split at hz
    · cases hz
      cases (show v = _ from hx)
      exact ⟨_, s.length, rfl, ⟨sz_of (by assumption), rfl⟩, k _ H (Ext.refl _ _) rfl⟩
    · cases hz
  | lst ds =>
    cases hz
    obtain ⟨a, vs, rfl, _, h1, h2⟩ := hx
    exact ⟨_, ds.length, rfl, .inl ⟨vs, .inl (.inl h1), h2.length.symm⟩, k _ H (Ext.refl _ _) rfl⟩
  | tup ds =>
    cases hz
    obtain ⟨a, vs, rfl, h1, h2⟩ := hx
    exact ⟨_, ds.length, rfl, .inr ⟨vs, h1, h2.length.symm⟩, k _ H (Ext.refl _ _) rfl⟩
  | _ => cases hz
def oList : D → Option D
  | .lst ds => some (.lst ds)
  | .tup ds => some (.lst ds)
  | _ => none
def rListX (K : PySem.W.Frag) : List V → Hp → VK → Prop := fun xs H Q => ∃ p ys, xs = [.ref p] ∧ (SqL K H p ys ∨ SqT K H p ys) ∧ ∀ l, H l = none → Q (.ref l) (upd H l (.lst ys))
theorem oA_list : OpA S true (rListX S.K) (A1 oList) := opA1 fun F H x v z Q hF hx hz k => by
  cases x with
  | lst ds =>
    cases hz
    obtain ⟨a, vs, rfl, _, h1, h2⟩ := hx
    exact ⟨a, vs, rfl, .inl (.inl (.inl h1)), fun p hp => k _ _ (Ext.new hp) ⟨p, vs, ds, rfl, hp, rfl, upd_same, fun z => hF p z hp, (h2.less fun x z => z.imp id fun e => by rw [e]; exact hp).grow (Ext.new hp)⟩⟩
  | tup ds =>
    cases hz
    obtain ⟨a, vs, rfl, h1, h2⟩ := hx
    exact ⟨a, vs, rfl, .inr h1, fun p hp => k _ _ (Ext.new hp) ⟨p, vs, ds, rfl, hp, rfl, upd_same, fun z => hF p z hp, (h2.less fun x z => z.imp id fun e => by rw [e]; exact hp).grow (Ext.new hp)⟩⟩
  | _ => cases hz
def oTuple : D → Option D
  | .lst ds => some (.tup ds)
  | .tup ds => some (.tup ds)
  | _ => none
def rTupleX (K : PySem.W.Frag) : List V → Hp → VK → Prop := fun xs H Q => ∃ p ys, xs = [.ref p] ∧ ((SqL K H p ys ∧ ∀ l, H l = none → Q (.ref l) (upd H l (.tup ys))) ∨ (SqT K H p ys ∧ Q (.ref p) H))
theorem oA_tuple : OpA S false (rTupleX S.K) (A1 oTuple) := opA1 fun F H x v z Q hF hx hz k => by
  cases x with
  | lst ds =>
    cases hz
    obtain ⟨a, vs, rfl, _, h1, h2⟩ := hx
    exact ⟨a, vs, rfl, .inl ⟨.inl (.inl h1), fun p hp => k _ _ (Ext.new hp) ⟨p, vs, rfl, .inl (.inl upd_same), h2.grow (Ext.new hp)⟩⟩⟩
  | tup ds =>
    cases hz
    obtain ⟨a, vs, rfl, h1, h2⟩ := hx
    exact ⟨a, vs, rfl, .inr ⟨h1, k _ H (Ext.refl _ _) ⟨a, vs, rfl, h1, h2⟩⟩⟩
  | _ => cases hz
def oSum : D → Option D
  | .lst ds => (intsOf ds).map fun ns => .int ns.sum
  | _ => none
theorem oA_sum : OpA S false (rSum S.K) (A1 oSum) := opA1 fun F H x v z Q hF hx hz k => by
  cases x with
  | lst ds =>
    have hz : (intsOf ds).map (fun ns => D.int ns.sum) = some z := hz
    cases e : intsOf ds with
    | none => rw [e] at hz; cases hz
    | some ns =>
      rw [e] at hz
      cases hz
      have e := intsOf_some e
      subst e
      obtain ⟨a, vs, rfl, _, h1, h2⟩ := hx
      rw [h2.ints] at h1
      exact ⟨a, ns, rfl, .inl (.inl h1), k _ H (Ext.refl _ _) rfl⟩
  | _ => cases hz
def oAll : D → Option D
  | .lst ds => (blsOf ds).map fun ns => .bl (ns.all id)
  | _ => none
def oAny : D → Option D
  | .lst ds => (blsOf ds).map fun ns => .bl (ns.any id)
  | _ => none
theorem oA_all : OpA S false (rAll S.K) (A1 oAll) := opA1 fun F H x v z Q hF hx hz k => by
  cases x with
  | lst ds =>
    have hz : (blsOf ds).map (fun ns => D.bl (ns.all id)) = some z := hz
    cases e : blsOf ds with
    | none => rw [e] at hz; cases hz
    | some ns =>
      rw [e] at hz
      cases hz
      have e := blsOf_some e
      subst e
      obtain ⟨a, vs, rfl, _, h1, h2⟩ := hx
      rw [h2.bls] at h1
      exact ⟨a, ns, rfl, .inl (.inl h1), k _ H (Ext.refl _ _) rfl⟩
  | _ => cases hz
theorem oA_any : OpA S false (rAny S.K) (A1 oAny) := opA1 fun F H x v z Q hF hx hz k => by
  cases x with
  | lst ds =>
    have hz : (blsOf ds).map (fun ns => D.bl (ns.any id)) = some z := hz
    cases e : blsOf ds with
    | none => rw [e] at hz; cases hz
    | some ns =>
      rw [e] at hz
      cases hz
      have e := blsOf_some e
      subst e
      obtain ⟨a, vs, rfl, _, h1, h2⟩ := hx
      rw [h2.bls] at h1
      exact ⟨a, ns, rfl, .inl (.inl h1), k _ H (Ext.refl _ _) rfl⟩
  | _ => cases hz
def oAbs : D → Option D
  | .int i => some (.int (if i < 0 then -i else i))
  | _ => none
def rAbsX : List V → Hp → VK → Prop := fun xs H Q => ∃ i, xs = [.int i] ∧ Q (.int (if i < 0 then -i else i)) H
theorem oA_abs : OpA S false rAbsX (A1 oAbs) := opA1 fun F H x v z Q hF hx hz k => by
  cases x with
  | int i => cases hz; cases (show v = _ from hx); exact ⟨i, rfl, k _ H (Ext.refl _ _) rfl⟩
  | _ => cases hz
def oStr : D → Option D
  | .int i => if i.natAbs.log2 < 1920 then some (.str (toString i : String)) else none
  | _ => none
def rStrX : List V → Hp → VK → Prop := fun xs H Q => ∃ i : Int, xs = [.int i] ∧ i.natAbs.log2 < 1920 ∧ Q (.str (toString i : String)) H
theorem oA_str : OpA S false rStrX (A1 oStr) := opA1 fun F H x v z Q hF hx hz k => by
  cases x with
  | int i =>
    unfold oStr at hz
    dsimp only at hz
    split at hz
    · cases hz; cases (show v = _ from hx); exact ⟨i, rfl, by assumption, k _ H (Ext.refl _ _) rfl⟩
    · cases hz
  | _ => cases hz
def oInt : D → Option D
  | .int i => some (.int i)
  | .bl b => some (.int (if b then 1 else 0))
  | .str a => if a.length ≤ 640 then (PySem.intText? a).map .int else none
  | _ => none
def rIntB : List V → Hp → VK → Prop := fun xs H Q => (∃ i, xs = [.int i] ∧ Q (.int i) H) ∨ ∃ k, xs = [.bl k] ∧ Q (.int (if k then 1 else 0)) H
def rIntS : List V → Hp → VK → Prop := fun xs H Q => ∃ a n, xs = [.str a] ∧ PySem.intText? a = some n ∧ a.length ≤ 640 ∧ Q (.int n) H
def rIntX : List V → Hp → VK → Prop := fun xs H Q => rIntB xs H Q ∨ rIntS xs H Q
theorem callR_or {X : Cx} {f : Value} {r1 r2 : List V → Hp → VK → Prop} (h1 : CallR X f r1) (h2 : CallR X f r2) : CallR X f (fun xs H Q => r1 xs H Q ∨ r2 xs H Q) := by
  intro pins s σ H xs us Q I r h
  rcases h with h | h
  · exact h1 pins s σ H xs us Q I r h
  · exact h2 pins s σ H xs us Q I r h
theorem call_intX {X : Cx} : CallR X (.type "int") rIntX := callR_or call_int1 call_int_str
theorem oA_int : OpA S false rIntX (A1 oInt) := opA1 fun F H x v z Q hF hx hz k => by
  cases x with
  | int i => cases hz; cases (show v = _ from hx); exact .inl (.inl ⟨i, rfl, k _ H (Ext.refl _ _) rfl⟩)
  | bl i => cases hz; cases (show v = _ from hx); exact .inl (.inr ⟨i, rfl, k _ H (Ext.refl _ _) rfl⟩)
  | str a =>
    unfold oInt at hz
    dsimp only at hz
    split at hz
    · rename_i hl
      cases e : PySem.intText? a with
      | none => rw [e] at hz; cases hz
      | some n =>
        rw [e] at hz
        cases hz; cases (show v = _ from hx); exact .inr ⟨a, n, rfl, e, hl, k _ H (Ext.refl _ _) rfl⟩
    · cases hz
  | _ => cases hz
/-! isinstance of a built-in class -/
def D.tyN : D → Option String
  | .non => some "NoneType"
  | .bl _ => some "bool"
  | .int _ => some "int"
  | .str _ => some "str"
  | .tup _ => some "tuple"
  | .lst _ => some "list"
  | _ => none
def oIsi (T : String) (d : D) : Option D := d.tyN.bind fun n => (kitB n T).map .bl
theorem rep_ty {F : Addr → Prop} {H : Hp} {d : D} {v : V} {n : String} (h : Rep S F H d v) (e : d.tyN = some n) : TyX S.K H v (.type n) := by
  cases d with
  | non => cases e; cases (show v = _ from h); exact .base .non
  | bl b => cases e; cases (show v = _ from h); exact .base (.bl b)
  | int b => cases e; cases (show v = _ from h); exact .base (.int b)
  | str b => cases e; cases (show v = _ from h); exact .base (.str b)
  | tup ds =>
    cases e
    obtain ⟨a, vs, rfl, (h1 | ⟨o, h1⟩) | ⟨o, its, k, h1, h2, _⟩, _⟩ := h
    · exact .base (.tup h1)
    · exact .fTuple h1
    · exact .kTuple h1 h2
  | lst ds =>
    cases e
    obtain ⟨a, vs, rfl, _, h1, _⟩ := h
    exact .base (.lst h1)
  | _ => cases e
theorem ref_isi {O P : List Nat} {E : XK} {μ : Mo} {fa : Bool} {ta : TE} {ma : EM} {T : String} (ha : RefE S O P E μ fa ta ma) : RefE S O P E μ false (tCB (rIsi S.K) (tCons ta (tCons (tC (.ty T)) tNil))) (e1 (oIsi T) ma) := by
  refine ref_op1 (r := fun x H1 Q => ∃ (y c : V) (t u : Value) (b : Bool), [x, V.ty T] = [y, c] ∧ ClsV c u ∧ TyX S.K H1 y t ∧ PySem.W.kitOne S.K t u = some b ∧ Q (.bl b) H1) (f := oIsi T) (fun F H x v z Q hF hx hz k => ?_) ha
  obtain ⟨n, e1, e2⟩ := Option.bind_eq_some_iff.mp hz
  cases e : kitB n T with
  | none => rw [e] at e2; cases e2
  | some b =>
    rw [e] at e2
    cases e2
    exact ⟨v, _, _, _, b, rfl, .ty T, rep_ty hx e1, kit_ty e, k _ H (Ext.refl _ _) rfl⟩
end
end Mir
/-! MirJ -/
namespace PySem
open Sem (wp)
set_option maxHeartbeats 1000000 in
theorem meets_enumerate_newB1 {v : Value} {o : Obj} {H : Heap → Prop} (B : Begins v o H) :
    Meets (Builtin.«enumerate.__new__» ⟨[.type "enumerate", v], []⟩) (fun _ R s => H s.heap ∧
      R (.ok (.ret (.ref (s.heap.push o).objs.size))) { s with heap := (s.heap.push o).push { cls := .type "enumerate", data := .fields #[.none, .bool false, .ref s.heap.objs.size, rawInt 0, .none, .none] } }) :=
  .of_wp fun prog w A R s h => by
    obtain ⟨hp, g, d, tk, os⟩ := s; obtain ⟨h1, h⟩ := h
    have hsub := sub_enumerate
    have q1 : ∀ {A' : Around} {E : Value → Shared → Prop} {Q : Value → Shared → Prop}, Q (.ref hp.objs.size) ⟨hp.push o, g, d, tk, os⟩ → wpAny (model prog w) A' (pyIter v) Q E ⟨hp, g, d, tk, os⟩ :=
      fun q => B.iter prog w _ _ ⟨hp, g, d, tk, os⟩ _ h1 q
    wp_walk using q1
    refine wpAny_stack_any fun st => wpAny_pure ?_
    split
    · rename_i c _ _ _ _ _
      cases (c == Value.type "enumerate")
      · wp_walk using q1
        exact ⟨_, rfl, h⟩
      · wp_walk using q1
        exact ⟨_, rfl, h⟩
    · wp_walk using q1
      exact ⟨_, rfl, h⟩
section
variable {prog : Program} {w : World} {A : Around} {E : Value → Shared → Prop} {s : Shared}
theorem enum_begins1 {v : Value} {o : Obj} {H : Heap → Prop} {Q : Value → Shared → Prop} (B : Begins v o H) (h1 : H s.heap)
    (h : ∀ h', IsEnum h' (s.heap.objs.size + 1) s.heap.objs.size 0 .none → h'.get? s.heap.objs.size = some o → h'.objs.size = s.heap.objs.size + 2 →
      (∀ b o, s.heap.get? b = some o → h'.get? b = some o) → Q (.ref (s.heap.objs.size + 1)) { s with heap := h' }) :
    wpAny (model prog w) A (call (.type "enumerate") [v]) Q E s := by
  refine callType_new F.called_enumerate (by decide) (F.typeCall_enumerate_1 _) (F.newCall_enumerate_1 _) (fun obj => F.args_object_init_2 obj _) F.entry_enumerate_new
    (meets_enumerate_newB1 B) ⟨h1, ?_⟩
  have hz : (s.heap.push o).objs.size = s.heap.objs.size + 1 := Heap.size_push ..
  show _ ∧ _
  rw [hz]
  have he : IsEnum ((s.heap.push o).push { cls := .type "enumerate", data := .fields #[.none, .bool false, .ref s.heap.objs.size, rawInt 0, .none, .none] }) (s.heap.objs.size + 1) s.heap.objs.size 0 .none := by
    have := Heap.get?_push_size (s.heap.push o) (o := { cls := .type "enumerate", data := .fields #[.none, .bool false, .ref s.heap.objs.size, rawInt 0, .none, .none] }) rfl
    rw [hz] at this; exact this
  refine ⟨⟨_, he, rfl⟩, h _ he (Heap.get?_push_of_some _ (Heap.get?_push_size _ B.free)) (by rw [Heap.size_push, hz]) fun b o x => Heap.get?_push_of_some _ (Heap.get?_push_of_some _ x)⟩
end
end PySem
namespace L2
open PySem PySem.Spec PyProof.Rows
/-! ### what is walked: a list or a tuple -/
section
variable {X : Cx} {tg : Expr}
def iSeqX (K : PySem.W.Frag) (tl : TE) : TI := fun σ H R => tl σ H fun x H1 => (∃ a, x = .ref a ∧ (∃ xs, SqL K H1 a xs) ∧ R (Itl K a) H1) ∨ ((∃ a, x = .ref a ∧ (∃ xs, SqT K H1 a xs) ∧ R (Itt K a) H1) ∨ ∃ z, x = .str z ∧ R (Its z) H1)
theorem pi_seqX {l : Expr} {tl : TE} (hl : PE X l tl) : PI X tg l (iSeqX X.K tl) := by
  refine ⟨fun pins s σ H R I h => ?_⟩
  refine thn (hl.run pins s σ H _ I h) fun v s1 ⟨x, H1, I1, r1, q1⟩ => ?_
  rcases q1 with ⟨a, e, ⟨xs, hq⟩, q⟩ | ⟨a, e, ⟨xs, hq⟩, q⟩ | ⟨x, ex, q⟩
  · subst e
    cases r1
    obtain ⟨its, rv, p, hz⟩ := I1.list hq
    refine wpAny_pyIter_list p.isList ?_
    refine ⟨s1.heap.objs.size, [s1.heap.objs.size], _, _, H1, rfl, I1.kept (t' := s1.toks) fun b o e => Heap.get?_push_of_some _ e, turn_list a _, ⟨_, Heap.get?_push_size _ rfl, rfl, rfl⟩, fun b hb => ?_, q⟩
    have e : b = s1.heap.objs.size := by simpa using hb
    subst e
    exact I1.fpOk (Nat.le_refl _) (I1.hok.fresh (Nat.le_refl _))
  · subst e
    cases r1
    obtain ⟨its, rv, p, hz⟩ := I1.tuple hq
    refine wpAny_pyIter_tuple (show s1.heap.IsTuple a its.toArray from p) ?_
    refine ⟨s1.heap.objs.size, [s1.heap.objs.size], _, _, H1, rfl, I1.kept (t' := s1.toks) fun b o e => Heap.get?_push_of_some _ e, turn_tuple a _, ⟨_, Heap.get?_push_size _ rfl, rfl, rfl⟩, fun b hb => ?_, q⟩
    have e : b = s1.heap.objs.size := by simpa using hb
    subst e
    exact I1.fpOk (Nat.le_refl _) (I1.hok.fresh (Nat.le_refl _))
  · subst ex
    obtain ⟨t, rfl⟩ := r1
    cases ha : x.cps.all (· < 128)
    · exact wpAny_pyIter_wide ha (pi_one (tk := s1.toks) I1 _ (turn_str _ x t "str_iterator" (.inr rfl)) ⟨_, Heap.get?_push_size _ rfl, rfl, rfl⟩ q)
    · exact wpAny_pyIter_ascii ha (pi_one (tk := s1.toks) I1 _ (turn_str _ x t "str_ascii_iterator" (.inl rfl)) ⟨_, Heap.get?_push_size _ rfl, rfl, rfl⟩ q)
/-! enumerate of a tuple -/
def IteT (K : PySem.W.Frag) (a : Addr) : It :=
  ⟨fun i H => ∃ (xs : List V) (x : V), SqT K H a xs ∧ xs[i]? = some x, fun i H v H' => ∃ T x, v = .ref T ∧ H T = none ∧ H' = upd H T (.tup [.int (i : Nat), x]) ∧ ∀ xs, SqT K H a xs → xs[i]? = some x, fun i H => ∃ xs : List V, SqT K H a xs ∧ xs.length ≤ i⟩
theorem turn_enumT {P : Program} {w : World} {K : PySem.W.Frag} {elts : List Expr} {kk : Nat} {tpos : Pos} (a e it : Addr) :
    Turn P w K (.Tuple elts kk tpos) (IteT K a) [e, it] e (fun i h => (∃ old, IsEnum h e it ((i : Nat) : Int) old) ∧ h.IsTupleIter it a i ∧ e ≠ it ∧ a ≠ it ∧ a ≠ e) where
  mem := by simp
  obj := fun i h st b hb => by
    obtain ⟨⟨old, he⟩, ⟨o, ho, hc, hd⟩, _⟩ := st
    have e' : b = e ∨ b = it := by simpa using hb
    rcases e' with z | z
    · rw [z]; exact ⟨_, he, fun v q => nomatch q⟩
    · rw [z]; exact ⟨o, ho, fun v q => by rw [hd] at q; cases q⟩
  keep := fun i h h' st k => let ⟨⟨old, he⟩, hi, hne⟩ := st; ⟨⟨old, k e (by simp) _ he⟩, hi.at fun o q => k it (by simp) o q, hne⟩
  item := by
    intro X hP hw hK hc i pins s σ H E I hf st hg
    subst hP hw hK
    obtain ⟨⟨old, he⟩, hit, hne, hai, hae⟩ := st
    obtain ⟨xs, x, hq, hx⟩ := hg
    obtain ⟨its, rv, p, hz⟩ := I.tuple hq
    obtain ⟨u, hu, ru⟩ := rv.get hx
    have hel : e < s.heap.objs.size := Heap.lt_size he
    have hil : it < s.heap.objs.size := by obtain ⟨_, q, _⟩ := hit; exact Heap.lt_size q
    have hD := Draws.tuple (prog := X.prog) (w := X.w) (A := X.A.in1) (by first | exact I.ok.hd hc | (rw [show X.A.in1.handled = none from I.ok.hd hc])) it a hai its.toArray
    refine wpAny_pyNext_enum_itemC hD he ⟨hit, show s.heap.IsTuple a its.toArray from p⟩ (by rw [List.size_toArray, ← rv.length]; exact (List.getElem?_eq_some_iff.mp hx).1) hne (by simp [hne, Ne.symm hae]) fun x' h' tk hx' ho hit' hT hsz hk => ?_
    have ex : x' = u := by
      have hx' : its.toArray[i]? = some x' := hx'
      have : its.toArray[i]? = some u := by simpa using hu
      rw [this] at hx'
      exact (Option.some.inj hx').symm
    subst ex
    refine ⟨_, rfl, wpAny_letOwnedTupleGo_enum (s := { s with heap := h', toks := tk + 1 }) ho fun h'' he' sb => ?_⟩
    have hT2 : h''.get? s.heap.objs.size = some { cls := .type "tuple", data := .seq #[.int i tk, x'] } := (sb.2 _ (Nat.ne_of_gt hel)).trans hT
    have new : ObjOk X.prog X.w (upd H s.heap.objs.size (.tup [.int (i : Nat), x])) h'' s.heap.objs.size (.tup [.int (i : Nat), x]) :=
      ⟨by show 2 ≤ sizeLine; decide, [.int i tk, x'], .cons ⟨_, rfl⟩ (.cons ru .nil), ⟨_, hT2, rfl, _, rfl⟩⟩
    have I1 : Inv X pins σ (upd H s.heap.objs.size (.tup [.int (i : Nat), x])) { s with heap := h'', toks := tk + 1 } :=
      I.turnedNew (ch := [e, it]) (fun b ob hb q => (sb.2 b (fun z => hb (by simp [z]))).trans (hk b ob (fun z => hb (by simp [z])) (fun z => hb (by simp [z])) q)) hf (Nat.le_refl _) new
    refine ⟨.ref s.heap.objs.size, _, I1, rfl, ⟨_, x, rfl, I.hok.fresh (Nat.le_refl _), rfl, fun ys hy => by rw [I.tuple_inj hy hq]; exact hx⟩, ⟨⟨x', ?_⟩, hit'.1.at fun o q => (sb.2 it (Ne.symm hne)).trans q, hne, hai, hae⟩, fun b hb => ?_⟩
    · have e1 : ((i + 1 : Nat) : Int) = (i : Int) + 1 := by omega
      rw [e1]; exact he'
    · have hb' : b < s.heap.objs.size := by
        have e' : b = e ∨ b = it := by simpa using hb
        rcases e' with z | z
        · rw [z]; exact hel
        · rw [z]; exact hil
      rw [upd_ne (Nat.ne_of_lt hb')]
      exact (hf b hb).1
  done := by
    intro X hP hw hK hc i pins s σ H E I hf st hg
    subst hP hw hK
    obtain ⟨⟨old, he⟩, hit, hne, hai, hae⟩ := st
    obtain ⟨xs, hq, hx⟩ := hg
    obtain ⟨its, rv, p, hz⟩ := I.tuple hq
    obtain ⟨f0, f1, f2, f3, f4, f5⟩ := hf it (by simp)
    have hl := rv.length
    have hT : s.TypeIs (.ref e) "enumerate" := ⟨_, he, rfl⟩
    unfold pyNext
    refine wpAny_bind (wpAny_attempt (wpAny_callSpecial?_slot (name := Str.ofString "__next__") hT F.slot_enumerate_next
      (wpAny_call_entry F.slot_enumerate_next hT F.entry_enumerate_next ?_ (F.args_enumerate_next_1 _))))
    show wpAny _ _ (field (.ref e) 2 >>= _) _ _ _
    refine wpAny_bind (wpAny_field he rfl (x := .ref it) rfl ?_)
    refine wpAny_bind (wpAny_nextOf_tuple_end (by first | exact I.ok.hd hc | (rw [show X.A.in1.handled = none from I.ok.hd hc])) hit (show s.heap.IsTuple a its.toArray from p) (by simp; omega) fun h' x he' hx' => ?_)
    obtain ⟨o, ho, hc'⟩ := hx'
    refine wpAny_bind (wpAny_isInstance (T := "StopIteration") (b := true) ⟨o, ho, hc'⟩ isSubtype_stop ?_)
    exact wpAny_pure ⟨rfl, I.turned (t' := s.toks) (fun b o hb e => he' b o hb e) f0 f1 f3 f4 f5⟩
  self := fun A i s Q E st h => let ⟨⟨_, he⟩, _⟩ := st; wpAny_pyIter_enum he h
def iEnumT (K : PySem.W.Frag) (ta : TA) : TI := fun σ H R => ta σ H fun vs H1 => ∃ a xs, vs = [.ref a] ∧ SqT K H1 a xs ∧ R (IteT K a) H1
theorem pi_enumT {e : Expr} {ta : TA} {p pos tpos : Pos} {elts : List Expr} {kk : Nat} (hg : Gl X "enumerate") (hm : X.mg "enumerate" = none) (ha : PA X [e] ta) (hs : starEach [e] X.env = [(false, eval e X.env)] := by rfl) :
    PI X (.Tuple elts kk tpos) (.Call (.Name "enumerate" p) [e] [] pos) (iEnumT X.K ta) := by
  refine ⟨fun pins s σ H R I h => ?_⟩
  refine Call_ (ld_blt I hg hm boot_enumerate (PyProof.Rows.callWith_type1 (thn (ha.run pos pins s σ H _ I h) fun us s1 ⟨vs, H1, I1, r1, q1⟩ => ?_) hs rfl))
  obtain ⟨a, xs, ex, hq, q⟩ := q1
  subst ex
  cases r1 with
  | cons r rr =>
    cases rr
    cases r
    obtain ⟨its, rv, p', hz⟩ := I1.tuple hq
    have hal : a < s1.heap.objs.size := by obtain ⟨_, q, _⟩ := (show s1.heap.IsTuple a its.toArray from p'); exact Heap.lt_size q
    refine enum_begins1 (begins_tuple a its.toArray) (show s1.heap.IsTuple a its.toArray from p') fun h' he hit hsz hk => wpAny_pyIter_enum he ?_
    have I2 : Inv X pins σ H1 { s1 with heap := h' } := I1.kept (t' := s1.toks) hk
    refine ⟨s1.heap.objs.size + 1, [s1.heap.objs.size + 1, s1.heap.objs.size], _, _, H1, rfl, I2, turn_enumT a (s1.heap.objs.size + 1) s1.heap.objs.size, ⟨⟨.none, he⟩, ⟨_, hit, rfl, rfl⟩, Nat.succ_ne_self _, Nat.ne_of_lt hal, Nat.ne_of_lt (Nat.lt_succ_of_lt hal)⟩, fun b hb => ?_, q⟩
    have e' : b = s1.heap.objs.size + 1 ∨ b = s1.heap.objs.size := by simpa using hb
    have hle : s1.heap.objs.size ≤ b := by
      rcases e' with z | z
      · rw [z]; exact Nat.le_add_right _ _
      · rw [z]; exact Nat.le_refl _
    exact I1.fpOk hle (I1.hok.fresh hle)
/-! sorted of pairs -/
def rSortedPT (K : PySem.W.Frag) : List V → Hp → VK → Prop := fun vs H Q => (∀ (a : Addr) (xs ys : List V), SqT K H a xs → SqT K H a ys → xs = ys) → ∃ (a : Addr) (xs : List V) (k : V → Int × Int), vs = [V.ref a] ∧ SqL K H a xs ∧ (∀ x ∈ xs, ∃ t, x = V.ref t ∧ SqT K H t [.int (k x).1, .int (k x).2]) ∧
  ∀ ys p, SrtO.Srtd (ltP k) ys → SrtO.Stb (ltP k) ys xs → H p = none → Q (.ref p) (upd H p (.lst ys))
theorem cr_sortedPT : CallR X (.builtin "sorted") (rSortedPT X.K) := by
  intro pins s σ H vs us Q I r h
  replace h := h fun a xs ys h1 h2 => I.tuple_inj h1 h2
  obtain ⟨a, xs, k, rfl, hs, hx, q⟩ := h
  obtain ⟨its, rv, hl, hz⟩ := I.list hs
  obtain ⟨u, rfl, ru⟩ := vals1 r
  obtain rfl : u = Value.ref a := ru
  obtain ⟨e1, e2⟩ := refs_back rv fun x m => by
    obtain ⟨t, e, _⟩ := hx x m
    exact ⟨t, e⟩
  refine SrtO.sorted_pairsO (k := fun u => k (backV u)) hl.isList (by rw [← rv.length]; exact hz) (fun v hv => ?_) fun h' d out h1 h2 kp hd hn => ?_
  · obtain ⟨t, rfl⟩ := e2 v hv
    have hm : V.ref t ∈ xs := by rw [e1]; exact List.mem_map.mpr ⟨_, hv, rfl⟩
    obtain ⟨t', e, ht⟩ := hx _ hm
    cases e
    obtain ⟨its2, r2, ⟨o, ho, hc, n, hd⟩, _⟩ := I.tuple ht
    obtain ⟨u1, u2, rfl, ri, rj⟩ := vals2 r2
    obtain ⟨t1, rfl⟩ := ri
    obtain ⟨t2, rfl⟩ := rj
    exact ⟨t, o, t1, t2, n, rfl, ho, hc, hd⟩
  · have h3 : ∀ u ∈ out, ∃ a, u = Value.ref a := fun u hu => e2 u (h2.perm.mem_iff.mp hu)
    obtain ⟨n, hn⟩ := hn
    have hb : SrtO.Stb (ltP k) (out.map backV) xs := by
      rw [e1]
      exact SrtO.Stb.map (ltP_swo k) backV h2
    refine ⟨.ref d, upd H d (.lst (out.map backV)), I.laid (t' := s.toks) kp hd ⟨?_, out, n, vals_back h3, hn⟩, rfl, q _ d (SrtO.srtd_map h1) hb (I.hok.fresh hd)⟩
    rw [hb.len]
    exact hz
theorem mtR_of {id : String} {r : V → List V → Hp → VK → Prop} (h : MtM X id r) : MtR X id r := h
end
end L2
/-! MirK -/
namespace Mir
open PySem PySem.Spec PyProof.Rows L2
variable [Tbl]
/-! ### more of what is walked -/
def D.items : D → Option (List D)
  | .lst ds => some ds
  | .tup ds => some ds
  | .str x => some (x.cps.toList.map fun c => .str ⟨#[c]⟩)
  | _ => none
def iSeqM (a : EM) : IM := fun env => (a env).bind fun x e => .opt x.items e
def iSeqP (a : EM) : IM := fun env => (a env).bind fun x e => (Out.opt x.items e).bind fun ds e => if D.pureL ds then .ok ds e else .bad
section
variable {S : Sc} {O P : List Nat} {E : XK} {μ : Mo} {fr fa fb : Bool} {ta tb : TE} {ma mb : EM} {t u : TS} {m n : SM} {tt : TT} {mt : TM}
theorem itok_str {F : Addr → Prop} {H : Hp} {x : Str} : ItOk S μ F H (Its x) (x.cps.toList.map fun c => .str ⟨#[c]⟩) := fun F' H' w al => by
  have hl : (x.cps.toList.map fun c => D.str ⟨#[c]⟩).length = x.cps.size := by rw [List.length_map, Array.length_toList]
  refine ⟨fun k hk => ?_, fun k y H3 d q hd => ?_, fun k hk => ?_⟩
  · rw [hl] at hk
    exact hk
  · obtain ⟨rfl, c, e1, rfl⟩ := q
    rw [List.getElem?_map, Array.getElem?_toList, e1] at hd
    cases hd
    exact ⟨Ext.refl _ _, rfl⟩
  · rw [hl] at hk
    exact hk
theorem pureL_strs (l : List Nat) : D.pureL (l.map fun c => D.str ⟨#[c]⟩) = true := by
  induction l with
  | nil => rfl
  | cons c l ih => exact ih
theorem ri_seq (ha : RefE S O P E none fa ta ma) : RefI S O P E none (iSeqX S.K ta) (iSeqM ma) := by
  intro R σ H fp env I Q h
  refine ha R σ H fp env I _ ((Want.bind h).mono fun x e1 H1 f1 I1 s1 h1 v hv _ => ?_)
  obtain ⟨ds, hd⟩ := want_some h1
  rw [hd] at h1
  have hv := hv.rep
  cases x with
  | lst es =>
    cases hd
    obtain ⟨a, vs, rfl, nf, r1, r2⟩ := hv
    exact .inl ⟨a, rfl, ⟨vs, .inl (.inl r1)⟩, h1 H1 f1 I1 Stp.refl _ (itok_list (fun _ => nf) (.inl r1) r2)⟩
  | tup es =>
    cases hd
    obtain ⟨a, vs, rfl, r1, r2⟩ := hv
    exact .inr (.inl ⟨a, rfl, ⟨vs, r1⟩, h1 H1 f1 I1 Stp.refl _ (itok_tup r1 r2)⟩)
  | str z =>
    cases hd
    exact .inr (.inr ⟨z, hv, h1 H1 f1 I1 Stp.refl _ itok_str⟩)
  | _ => cases hd
theorem ri_seqP {U : List Nat} (ha : RefE S O P E (some U) fa ta ma) : RefI S O P E (some U) (iSeqX S.K ta) (iSeqP ma) := by
  intro R σ H fp env I Q h
  refine ha R σ H fp env I _ ((Want.bind h).mono fun x e1 H1 f1 I1 s1 h1 v hv _ => ?_)
  have h5 := Want.bind h1
  obtain ⟨ds, hd⟩ := want_some h5
  rw [hd] at h5
  have hw := hv.rep
  have h6 := h5 H1 f1 I1 Stp.refl
  dsimp only at h6
  by_cases c : D.pureL ds = true
  · rw [if_pos c] at h6
    cases x with
    | lst es =>
      cases hd
      obtain ⟨a, vs, rfl, nf, r1, r2⟩ := hw
      exact .inl ⟨a, rfl, ⟨vs, .inl (.inl r1)⟩, h6 H1 f1 I1 Stp.refl _ (itok_list (fun z => nomatch z) (.inl r1) (repL_pure _ _ c r2))⟩
    | tup es =>
      cases hd
      obtain ⟨a, vs, rfl, r1, r2⟩ := hw
      exact .inr (.inl ⟨a, rfl, ⟨vs, r1⟩, h6 H1 f1 I1 Stp.refl _ (itok_tup r1 (repL_pure _ _ c r2))⟩)
    | str z =>
      cases hd
      exact .inr (.inr ⟨z, hw, h6 H1 f1 I1 Stp.refl _ itok_str⟩)
    | _ => cases hd
  · rw [if_neg c] at h6
    exact h6.elim
theorem itok_enumT {F : Addr → Prop} {H : Hp} {a : Addr} {vs : List V} {ds : List D} (h1 : SqT S.K H a vs) (h2 : RepL S F H ds vs) : ItOk S μ F H (IteT S.K a) (enumL 0 ds) := fun F' H' w al => by
  have w := w.fwd
  have r := sqt_ext w.1 h1
  refine ⟨fun n hn => ?_, fun n x H3 d y hd => ?_, fun n hn => ⟨vs, r, by rw [h2.length]; rw [enumL_len] at hn; exact hn⟩⟩
  · rw [enumL_len] at hn
    obtain ⟨v, e, _⟩ := h2.get (List.getElem?_eq_getElem hn)
    exact ⟨vs, v, r, e⟩
  · obtain ⟨T, z, rfl, nT, rfl, k⟩ := y
    obtain ⟨d0, e0, rfl⟩ := enumL_get hd
    obtain ⟨v, e, q⟩ := h2.get e0
    have := (k vs r).symm.trans e
    cases this
    refine ⟨Ext.new nT, T, _, rfl, .inl (.inl upd_same), ?_⟩
    rw [Nat.zero_add]
    exact .cons rfl (.cons ((Rep.fwd w _ _ q).grow (Ext.new nT)) .nil)
theorem ri_enumT (ha : RefE S O P E none fa ta ma) : RefI S O P E none (L2.iEnumT S.K (tCons ta tNil)) (Mir.iEnumT ma) := by
  intro R σ H fp env I Q h
  refine ha R σ H fp env I _ ((Want.bind h).mono fun x e1 H1 f1 I1 s1 h1 v hv _ => ?_)
  have h5 := Want.bind h1
  obtain ⟨ds, hd⟩ := want_some h5
  rw [hd] at h5
  have hw := hv.rep
  cases x with
  | tup es =>
    cases hd
    obtain ⟨a, vs, rfl, r1, r2⟩ := hw
    exact ⟨a, vs, rfl, r1, (h5 H1 f1 I1 Stp.refl) H1 f1 I1 Stp.refl _ (itok_enumT r1 r2)⟩
  | _ => cases hd
/-! ### sorted -/
def pairD (p : Int × Int) : D := .tup [.int p.1, .int p.2]
def pairOf : D → Option (Int × Int)
  | .tup [.int i, .int j] => some (i, j)
  | _ => none
theorem pairOf_some {d : D} {p : Int × Int} (h : pairOf d = some p) : d = pairD p := by
  unfold pairOf at h
  split at h
  · cases h; rfl
  · cases h
def pairsOf : List D → Option (List (Int × Int))
  | [] => some []
  | d :: ds => (pairOf d).bind fun p => (pairsOf ds).map (p :: ·)
theorem pairsOf_some : ∀ {ds : List D} {ps : List (Int × Int)}, pairsOf ds = some ps → ds = ps.map pairD
  | [], ps, h => by cases h; rfl
  | d :: ds, ps, h => by
    have h : ((pairOf d).bind fun p => (pairsOf ds).map (p :: ·)) = some ps := h
    obtain ⟨p, z1, z2⟩ := Option.bind_eq_some_iff.mp h
    cases z : pairsOf ds with
    | none => rw [z] at z2; cases z2
    | some rs =>
      rw [z] at z2
      cases z2
      rw [pairsOf_some z, pairOf_some z1]; rfl
@[simp] theorem pairsOf_map (ps : List (Int × Int)) : pairsOf (ps.map pairD) = some ps := by
  induction ps with
  | nil => rfl
  | cons p ps ih =>
    show ((pairOf (pairD p)).bind fun p => (pairsOf (ps.map pairD)).map (p :: ·)) = _
    rw [ih]; rfl
def leB (p q : Int × Int) : Bool := !SrtO.lexB q p
theorem leB_iff {p q : Int × Int} : leB p q = true ↔ p.1 < q.1 ∨ (p.1 = q.1 ∧ p.2 ≤ q.2) := by
  unfold leB SrtO.lexB
  split <;> simp <;> omega
def sortI (ns : List Int) : List Int := ns.mergeSort fun a b => decide (a ≤ b)
def sortP (ps : List (Int × Int)) : List (Int × Int) := ps.mergeSort leB
theorem sortI_perm (ns : List Int) : (sortI ns).Perm ns := List.mergeSort_perm _ _
theorem sortP_perm (ns : List (Int × Int)) : (sortP ns).Perm ns := List.mergeSort_perm _ _
theorem sortI_le (ns : List Int) : (sortI ns).Pairwise (· ≤ ·) := by
  have h := List.pairwise_mergeSort (le := fun a b : Int => decide (a ≤ b)) (fun a b c h1 h2 => by simp at *; omega) (fun a b => by simp; omega) ns
  exact h.imp fun h => by simpa using h
theorem sortP_le (ns : List (Int × Int)) : (sortP ns).Pairwise (fun p q => leB p q = true) :=
  List.pairwise_mergeSort (le := leB) (fun a b c h1 h2 => by rw [leB_iff] at *; omega) (fun a b => by rw [Bool.or_eq_true, leB_iff, leB_iff]; omega) ns
theorem sortI_uniq {ns ms : List Int} (h1 : ms.Perm ns) (h2 : ms.Pairwise (· ≤ ·)) : ms = sortI ns :=
  List.Perm.eq_of_pairwise (le := (· ≤ ·)) (fun a b _ _ x y => by omega) h2 (sortI_le ns) (h1.trans (sortI_perm ns).symm)
theorem sortP_uniq {ns ms : List (Int × Int)} (h1 : ms.Perm ns) (h2 : ms.Pairwise (fun p q => leB p q = true)) : ms = sortP ns :=
  List.Perm.eq_of_pairwise (le := fun p q => leB p q = true) (fun a b _ _ x y => by
    rw [leB_iff] at x y
    exact Prod.ext (by omega) (by omega)) h2 (sortP_le ns) (h1.trans (sortP_perm ns).symm)
def oSort : D → Option D
  | .lst ds => match intsOf ds with
    | some ns => some (.lst ((sortI ns).map .int))
    | none => (pairsOf ds).map fun ps => .lst ((sortP ps).map pairD)
  | _ => none
def rSortX (K : PySem.W.Frag) : List V → Hp → VK → Prop := fun xs H Q => rSortedI K xs H Q ∨ rSortedPT K xs H Q
theorem cr_sortX {X : Cx} : CallR X (.builtin "sorted") (rSortX X.K) := callR_or cr_sortedI cr_sortedPT
theorem repL_map {F : Addr → Prop} {H : Hp} {f : V → D} : ∀ {vs : List V}, (∀ v ∈ vs, Rep S F H (f v) v) → RepL S F H (vs.map f) vs
  | [], _ => .nil
  | v :: vs, h => .cons (h v List.mem_cons_self) (repL_map fun u m => h u (List.mem_cons_of_mem _ m))
theorem repL_mem {F : Addr → Prop} {H : Hp} : ∀ {ds : List D} {vs : List V}, RepL S F H ds vs → ∀ v ∈ vs, ∃ d ∈ ds, Rep S F H d v
  | [], vs, h, v, m => by cases (show vs = [] from h); cases m
  | d :: ds, vs, h, v, m => by
    obtain ⟨u, r, rfl, h1, h2⟩ := h
    rcases List.mem_cons.mp m with e | e
    · subst e
      exact ⟨d, List.mem_cons_self, h1⟩
    · obtain ⟨d', m', q⟩ := repL_mem h2 v e
      exact ⟨d', List.mem_cons_of_mem _ m', q⟩
theorem sqt_det {K : PySem.W.Frag} {H : Hp} {a : Addr} {p q : Int × Int} (h1 : SqT K H a [.int p.1, .int p.2]) (h2 : SqT K H a [.int q.1, .int q.2]) (hd : ∀ xs ys, SqT K H a xs → SqT K H a ys → xs = ys) : p = q := by
  have e := hd _ _ h1 h2
  simp only [List.cons.injEq, V.int.injEq, and_true] at e
  exact Prod.ext e.1 e.2
/-- what is known of the pairs, by a choice -/
theorem pairs_choice {F : Addr → Prop} {H : Hp} : ∀ {ps : List (Int × Int)} {vs : List V}, RepL S F H (ps.map pairD) vs → (∀ (a : Addr) (xs ys : List V), SqT S.K H a xs → SqT S.K H a ys → xs = ys) → ∃ k : V → Int × Int, vs.map k = ps ∧ ∀ x ∈ vs, ∃ t, x = V.ref t ∧ SqT S.K H t [.int (k x).1, .int (k x).2] := by
  intro ps vs h hd
  have key : ∀ v : V, ∃ p : Int × Int, (∃ q : Int × Int, ∃ t, v = V.ref t ∧ SqT S.K H t [.int q.1, .int q.2]) → ∃ t, v = V.ref t ∧ SqT S.K H t [.int p.1, .int p.2] := fun v => by
    by_cases c : ∃ q : Int × Int, ∃ t, v = V.ref t ∧ SqT S.K H t [.int q.1, .int q.2]
    · obtain ⟨q, hq⟩ := c
      exact ⟨q, fun _ => hq⟩
    · exact ⟨(0, 0), fun z => absurd z c⟩
  refine ⟨fun v => Classical.choose (key v), ?_, fun x m => ?_⟩
  · induction ps generalizing vs with
    | nil => cases (show vs = [] from h); rfl
    | cons p ps ih =>
      obtain ⟨v, r, rfl, h1, h2⟩ := h
      rw [List.map_cons, ih h2]
      obtain ⟨a, us, rfl, q1, q2⟩ := h1
      have e := RepL.ints (ns := [p.1, p.2]) q2
      subst e
      have q1 : SqT S.K H a [.int p.1, .int p.2] := q1
      obtain ⟨t, e, q3⟩ := Classical.choose_spec (key (.ref a)) ⟨p, a, rfl, q1⟩
      cases e
      rw [sqt_det q3 q1 (hd a)]
  · obtain ⟨d, m', hr⟩ := repL_mem h x m
    obtain ⟨p, _, rfl⟩ := List.mem_map.mp m'
    obtain ⟨a, us, rfl, q1, q2⟩ := hr
    have e := RepL.ints (ns := [p.1, p.2]) q2
    subst e
    exact Classical.choose_spec (key (.ref a)) ⟨p, a, rfl, q1⟩
theorem repL_ofMap {F : Addr → Prop} {H : Hp} {k : V → Int × Int} {vs us : List V} (h : ∀ x ∈ vs, ∃ t, x = V.ref t ∧ SqT S.K H t [.int (k x).1, .int (k x).2]) (hs : ∀ x ∈ us, x ∈ vs) : RepL S F H ((us.map k).map pairD) us := by
  rw [List.map_map]
  refine repL_map fun v m => ?_
  obtain ⟨t, rfl, q⟩ := h v (hs v m)
  exact ⟨t, _, rfl, q, RepL.ofInts (ns := [(k (.ref t)).1, (k (.ref t)).2])⟩
theorem oA_sorted : OpA S true (rSortX S.K) (A1 oSort) := opA1 fun F H x v z Q hF hx hz k => by
  cases x with
  | lst ds =>
    unfold oSort at hz
    dsimp only at hz
    obtain ⟨a, vs, rfl, nf, h1, h2⟩ := hx
    split at hz
    · rename_i ns e
      cases hz
      have e := intsOf_some e
      subst e
      rw [h2.ints] at h1
      refine .inl ⟨a, ns, rfl, .inl (.inl h1), fun ns' p hp hs hn => k _ _ (Ext.new hn) ⟨p, _, _, rfl, hn, rfl, upd_same, fun z => hF p z hn, ?_⟩⟩
      rw [sortI_uniq hp hs]
      exact RepL.ofInts
    · cases e : pairsOf ds with
      | none => rw [e] at hz; cases hz
      | some ps =>
        rw [e] at hz
        cases hz
        have e := pairsOf_some e
        subst e
        refine .inr fun hd => ?_
        obtain ⟨kk, k1, k2⟩ := pairs_choice h2 hd
        refine ⟨a, vs, kk, rfl, .inl (.inl h1), k2, fun ys p hs hb hn => k _ _ (Ext.new hn) ⟨p, ys, _, rfl, hn, rfl, upd_same, fun z => hF p z hn, ?_⟩⟩
        have e2 : ys.map kk = sortP ps := by
          refine sortP_uniq ?_ ?_
          · rw [← k1]
            exact hb.perm.map kk
          · refine List.pairwise_map.mpr (hs.imp fun {x y} h => ?_)
            unfold leB
            rw [show SrtO.lexB (kk y) (kk x) = false from h]; rfl
        rw [← e2]
        exact (repL_ofMap k2 fun x m => hb.perm.mem_iff.mp m).grow (Ext.new hn)
  | _ => cases hz
/-! ### a op b op c -/
def eChain (f g : D → D → Option D) (a b c : EM) : EM := fun env => (a env).bind fun x e => (b e).bind fun y e1 => (Out.opt ((f x y).bind fun z => match z with | .bl k => some k | _ => none) e1).bind fun k e1 => if k then (c e1).bind fun z e2 => .opt (g y z) e2 else .ok (.bl false) e1
theorem ref_chain {r r' : R2} {f g : D → D → Option D} {tc : TE} {mc : EM} (hr : ∀ F H x y v u z Q, (∀ a, F a → H a ≠ none) → Rep S F H x v → Rep S F H y u → f x y = some z → (∀ w, Rep S F H z w → Q w H) → r v u H Q) (hr' : Op2 S false r' g)
    (ha : RefE S O P E μ fa ta ma) (hb : RefE S O P E μ fb tb mb) (hc : RefE S O P E μ fr tc mc) : RefE S O P E μ false (tChain r r' ta tb tc) (eChain f g ma mb mc) := by
  intro R σ H fp env I Q h
  refine ha R σ H fp env I _ ((Want.bind h).mono fun x e1 H1 f1 I1 s1 h1 v hv _ => ?_)
  refine hb R σ H1 f1 e1 I1 _ ((Want.bind h1).mono fun y e2 H2 f2 I2 s2 h2 u hu _ => ?_)
  have h5 := Want.bind h2
  obtain ⟨k, hk⟩ := want_some h5
  rw [hk] at h5
  obtain ⟨z, z1, z2⟩ := Option.bind_eq_some_iff.mp hk
  cases z with
  | bl b =>
    cases z2
    refine hr (FM R f2 μ) H2 x y v u _ _ (fun a q => I2.fm q) (Rep.fwd s2.fwd _ _ hv.rep) hu.rep z1 fun w hw => ?_
    cases (show w = _ from hw)
    have h6 := h5 H2 f2 I2 Stp.refl
    refine ⟨k, rfl, ?_⟩
    cases k with
    | false => exact h6 H2 f2 I2 Stp.refl _ rfl sep0
    | true =>
      simp only [if_true] at h6
      refine hc R σ H2 f2 e2 I2 _ ((Want.bind h6).mono fun y' e3 H3 f3 I3 s3 h3 u' hu' _ => ?_)
      obtain ⟨z, hz⟩ := want_some h3
      exact hr' (FM R f3 μ) H3 y y' u u' z Q (fun a q => I3.fm q) (Rep.fwd s3.fwd _ _ hu.rep) hu'.rep hz fun w H' ex hk => want_opt h3 hz I3 (fun a q => ((s1.trans s2).trans s3).dom q) ex hk
  | _ => cases z2
def Op2K (S : Sc) (r : R2) (f : D → D → Option D) : Prop := ∀ F H x y v u z Q, (∀ a, F a → H a ≠ none) → Rep S F H x v → Rep S F H y u → f x y = some z → (∀ w, Rep S F H z w → Q w H) → r v u H Q
theorem opk_I0 {g : Int → Int → V} {f : Int → Int → Option D} (h : ∀ i j z, f i j = some z → ∀ F H, Rep S F H z (g i j)) : Op2K S (rI0 g) (oI f) := fun F H x y v u z Q hF hx hy hz k => by
  cases x with
  | int i =>
    cases y with
    | int j =>
      cases (show v = _ from hx)
      cases (show u = _ from hy)
      exact ⟨i, j, rfl, rfl, k _ (h i j z hz F H)⟩
    | _ => cases hz
  | _ => cases hz
theorem ok_leI : Op2K S rLeI oLeI := opk_I0 fun i j z h F H => by cases h; rfl
theorem ok_ltI : Op2K S rLtI oLtI := opk_I0 fun i j z h F H => by cases h; rfl
theorem ok_geI : Op2K S rGeI oGeI := opk_I0 fun i j z h F H => by cases h; rfl
theorem ok_gtI : Op2K S rGtI oGtI := opk_I0 fun i j z h F H => by cases h; rfl
/-! ### x op= e -/
def sAug (i : Nat) (a : EM) (f : Int → Int → Int) : SM := fun env => match env[i]? with
  | some (some (.int x)) => (a env).fl fun d e => match d with
    | .int y => .next (e.set i (some (.int (f x y))))
    | _ => .bad
  | _ => .bad
theorem rs_aug {i : Nat} {f : Int → Int → Int} (hO : i ∉ O) (ha : RefE S O P E none fa ta ma) : RefS S O P E fr (tAug i ta (ipI f)) (sAug i ma f) := by
  intro R σ H fp env I D h
  unfold sAug at h
  split at h
  · rename_i x0 e0
    obtain ⟨v, h1, h2⟩ := I.val i _ e0 hO
    cases (show v = _ from h2)
    refine ⟨_, h1, ?_⟩
    refine ha R σ H fp env I _ ((want_fl h).mono fun d e1 H1 f1 I1 s1 hp v hv _ => ?_)
    split at hp
    · cases (show v = _ from hv.rep)
      exact ⟨x0, _, rfl, rfl, hp _ H1 f1 (I1.set hO (show Rep S _ _ (.int _) (.int _) from rfl)) (Fwd.refl _ _)⟩
    · exact hp.elim
  · exact h.elim
/-! ### x, y = a, b: y an own list -/
def sParO (i : Nat) (a : EM) (j : Nat) (b : EM) : SM := fun env => (a env).fl fun d e => (b e).fl fun c e1 => if j < e1.length then .next ((e1.set i (some d)).set j (some c)) else .bad
def sPar (i : Nat) (a : EM) (j : Nat) (b : EM) : SM := fun env => (a env).fl fun d e => (b e).fl fun c e1 => .next ((e1.set i (some d)).set j (some c))
theorem rs_par {i j : Nat} (hi : i ∉ O) (hj : j ∉ O) (ha : RefE S O P E none fa ta ma) (hb : RefE S O P E none fb tb mb) : RefS S O P E fr (tPar i j (tCons ta (tCons tb tNil))) (sPar i ma j mb) := by
  intro R σ H fp env I D h
  refine ha R σ H fp env I _ ((want_fl h).mono fun d e1 H1 f1 I1 s1 hp v hv _ => ?_)
  refine hb R σ H1 f1 e1 I1 _ ((want_fl0 hp).mono fun c e2 H2 f2 I2 s2 hq u hu _ => ?_)
  exact ⟨v, u, rfl, hq _ H2 f2 ((I2.set hi (Rep.fwd s2.fwd _ _ hv.rep)).set hj hu.rep) s2.strong⟩
theorem rs_parO {i j : Nat} (hi : i ∉ O) (hj : j ∈ O) (hP : j ∉ P) (ha : RefE S O P E none fa ta ma) (hb : RefE S O P E none true tb mb) : RefS S O P E fr (tPar i j (tCons ta (tCons tb tNil))) (sParO i ma j mb) := by
  intro R σ H fp env I D h
  refine ha R σ H fp env I _ ((want_fl h).mono fun d e1 H1 f1 I1 s1 hp v hv _ => ?_)
  refine hb R σ H1 f1 e1 I1 _ ((want_fl0 hp).mono fun c e2 H2 f2 I2 s2 hq u hu sp => ?_)
  by_cases hl : j < e2.length
  · rw [if_pos hl] at hq
    obtain ⟨a, vs, ds, rfl, new, rfl, ha1, nf, r⟩ := hu
    have Ib := sp rfl a rfl
    have w : ∀ x, (Fs R f2 x ∨ x = a) → Fs (R.plus a) f2 x ∨ H2 x = none := fun x z => .inl (fs_plus.mpr z)
    have n0 : R.H0 a = none := by
      cases q : R.H0 a with
      | none => rfl
      | some o => exact absurd new (I1.dom a (by rw [q]; exact fun z => nomatch z))
    have rv := Rep.fwd s2.fwd _ _ hv.rep
    have rv2 : Rep S (Fs (R.plus a) f2) H2 d v := Rep.fwd ⟨s2.strong.1.mono fun x z => .inr z, fun x z => by
      rcases fs_plus.mp z with z | z
      · exact s2.fwd.2.1 x z
      · exact .inr (by rw [z]; exact new), s2.fwd.2.2⟩ _ _ hv.rep
    have I3 := I2.set hi rv
    have Ib3 := Ib.set hi rv2
    have I4 : Rel S O P R ((σ.set i (some v)).set j (some (.ref a))) H2 (fpSet f2 j [a]) ((e2.set i (some d)).set j (some (.lst ds))) := I3.setOwn hj hP (by rw [List.length_set]; exact hl) n0 nf ha1 r fun k d h1 hk =>
      ⟨fun h2 => let ⟨v, q1, q2⟩ := Ib3.val k d h1 h2; ⟨v, q1, q2.less w⟩,
       fun h2 => let ⟨v, q1, q2⟩ := Ib3.own k d h1 h2; ⟨v, q1, q2.fwd (Ext.refl _ _) w⟩⟩
    refine ⟨v, _, rfl, hq _ H2 _ I4 ⟨s2.strong.1, fun x z => ?_, s2.strong.2.2⟩⟩
    obtain ⟨k, z⟩ := z
    unfold fpSet at z
    split at z
    · cases List.mem_singleton.mp z
      exact .inr new
    · exact s2.strong.2.1 x ⟨k, z⟩
  · rw [if_neg hl] at hq
    exact hq.elim
/-! ### own lists: places -/
def sSetIx (i : Nat) (j : Int) (a : EM) : SM := fun env => (a env).fl fun d e => match e[i]? with
  | some (some (.lst ds)) => match ixN ds.length j with
    | some k => .next (e.set i (some (.lst (ds.set k d))))
    | none => .bad
  | _ => .bad
theorem rs_setIx {i : Nat} {j : Int} (hO : i ∈ O) (ha : RefE S O P E none fa ta ma) : RefS S O P E fr (tAsg ta (gSub (tVar i) (tC (.int j)) rSetL)) (sSetIx i j ma) := by
  intro R σ H fp env I D h
  refine ha R σ H fp env I _ ((want_fl h).mono fun d e1 H1 f1 I1 s1 hp v hv _ => ?_)
  split at hp
  · rename_i ds e2
    obtain ⟨b, vs, x1, x2, x3, x4⟩ := own_lst I1 hO e2
    split at hp
    · rename_i k hk
      obtain ⟨I2, w2⟩ := I1.upd hO e2 x1 (x4.set k hv.rep)
      exact ⟨_, x1, b, vs, j, k, rfl, rfl, x3, by rw [x4.length]; exact hk, hp _ _ _ I2 w2⟩
    · exact hp.elim
  · exact hp.elim
def ePopAt (i : Nat) (j : Int) : EM := fun env => match env[i]? with
  | some (some (.lst ds)) => match seqIndex? j ds.length with
    | some k => match ds[k]? with
      | some d => if -(2 ^ 63) ≤ j ∧ j < 2 ^ 63 then .ok d (env.set i (some (.lst (ds.eraseIdx k)))) else .bad
      | none => .bad
    | none => .bad
  | _ => .bad
theorem ref_popAt {i : Nat} {j : Int} (hO : i ∈ O) : RefE S O P E none false (tBM S.K "list" rPopAt (tVar i) (tCons (tC (.int j)) tNil)) (ePopAt i j) := by
  intro R σ H fp env I Q h
  unfold ePopAt at h
  split at h
  · rename_i ds e2
    obtain ⟨b, vs, x1, x2, x3, x4⟩ := own_lst I hO e2
    split at h
    · rename_i k hk
      split at h
      · rename_i d hd
        split at h
        · rename_i hz
          obtain ⟨v, q1, q2⟩ := x4.get hd
          obtain ⟨I2, w2⟩ := I.upd hO e2 x1 (x4.erase k)
          refine ⟨_, x1, .inl ⟨rfl, vs, .inl (.inl x3)⟩, ?_⟩
          refine ⟨b, vs, j, k, v, rfl, rfl, x3, hz.1, hz.2, by rw [x4.length]; exact hk, q1, h _ fp I2 w2 v (Rep.fwd (adv_fs w2) _ _ q2) sep0⟩
        · exact h.elim
      · exact h.elim
    · exact h.elim
  · exact h.elim
/-! ### x.f = e, x an own thing -/
def sSetFld (i c k : Nat) (a : EM) : SM := fun env => (a env).fl fun d e => match e[i]? with
  | some (some (.ins c' ds)) => if c' = c then (if k = ds.length then .next (e.set i (some (.ins c (ds ++ [d])))) else if k < ds.length then .next (e.set i (some (.ins c (ds.set k d)))) else .bad) else .bad
  | _ => .bad
theorem putF_new : ∀ {fs : List (Str × V)} {f : Str} {v : V}, f ∉ fs.map (·.1) → putF f v fs = fs ++ [(f, v)]
  | [], _, _, _ => rfl
  | (g, x) :: r, f, v, h => by
    have h1 : g ≠ f := fun z => h (by rw [← z]; exact List.mem_cons_self)
    show (if g = f then _ else _) = _
    rw [if_neg h1, putF_new fun z => h (List.mem_cons_of_mem _ z)]
    rfl
theorem putF_at : ∀ {fs : List (Str × V)} {f : Str} {v : V} {k : Nat}, (fs.map (·.1)).Nodup → (fs.map (·.1))[k]? = some f → (putF f v fs).map (·.1) = fs.map (·.1) ∧ (putF f v fs).map (·.2) = (fs.map (·.2)).set k v
  | [], _, _, _, _, h => by simp at h
  | (g, x) :: r, f, v, 0, nd, h => by
    cases (show g = f from by simpa using h)
    simp [putF]
  | (g, x) :: r, f, v, k + 1, nd, h => by
    have nd : ((g :: r.map (·.1)) : List Str).Nodup := nd
    have h : (r.map (·.1))[k]? = some f := h
    have ne : g ≠ f := fun z => (List.nodup_cons.mp nd).1 (by rw [z]; exact List.mem_of_getElem? h)
    obtain ⟨e1, e2⟩ := putF_at (v := v) (List.nodup_cons.mp nd).2 h
    unfold putF
    rw [if_neg ne]
    exact ⟨by rw [List.map_cons, e1]; rfl, by rw [List.map_cons, e2]; rfl⟩
theorem rs_setFld {i c k : Nat} {f : Str} (hC : Cls S.K (S.ca c)) (hN : NoAttr S.K (S.ca c) f) (hf : (S.fn c)[k]? = some f) (nd : (S.fn c).Nodup) (h1000 : (S.fn c).length < 1000) (hO : i ∈ O) (ha : RefE S O P E none fa ta ma) : RefS S O P E fr (sFld S.K (tVar i) ta f) (sSetFld i c k ma) := by
  intro R σ H fp env I D h
  refine ha R σ H fp env I _ ((want_fl h).mono fun d e1 H1 f1 I1 s1 hp v hv _ => ?_)
  have hk : k < (S.fn c).length := (List.getElem?_eq_some_iff.mp hf).1
  split at hp
  · rename_i c' ds e2
    split at hp
    · rename_i ec
      subst ec
      obtain ⟨a, x1, x2, dx, fs, x3, x4, x5⟩ := I1.own i _ e2 hO
      have hlen : fs.length = ds.length := by
        have := x5.length
        rwa [List.length_map] at this
      have hle : fs.length ≤ (S.fn c').length := by
        have := congrArg List.length x4
        rw [List.length_map, List.length_take] at this
        omega
      have ndf : (fs.map (·.1)).Nodup := by
        rw [x4]
        exact nd.sublist (List.take_sublist _ _)
      split at hp
      · rename_i e3
        have hnf : f ∉ fs.map (·.1) := fun z => by
          rw [x4] at z
          obtain ⟨j, hj⟩ := List.mem_iff_getElem?.mp z
          have hj2 := (List.getElem?_eq_some_iff.mp hj).1
          rw [List.length_take] at hj2
          rw [List.getElem?_take_of_lt (by omega)] at hj
          have a1 := (List.getElem?_eq_some_iff.mp hj).2
          have a2 := (List.getElem?_eq_some_iff.mp hf).2
          exact List.pairwise_iff_getElem.mp nd j k (by omega) hk (by omega) (a1.trans a2.symm)
        have hu := I1.updO (o' := .ins (S.ca c') dx (putF f v fs)) (d' := .ins c' (ds ++ [d])) hO e2 x1 x2 x3 trivial fun w => ⟨rfl, dx, _, upd_same, by
          rw [putF_new hnf, List.map_append, x4, List.length_append]
          show _ ++ [f] = _
          rw [← e3]
          show _ = List.take (k + 1) (S.fn c')
          rw [List.take_succ, hf]
          rfl, by
          have e9 : (putF f v fs).map (·.2) = fs.map (·.2) ++ [v] := by rw [putF_new hnf, List.map_append]; rfl
          rw [e9]
          exact RepL.fwd w _ _ (x5.snoc hv.rep)⟩
        exact ⟨_, x1, a, _, dx, fs, rfl, x3, hC, hN, by omega, hp _ _ _ hu.1 hu.2⟩
      · split at hp
        · rename_i e3 e4
          have hat : (fs.map (·.1))[k]? = some f := by
            rw [x4, List.getElem?_take_of_lt e4]
            exact hf
          obtain ⟨p1, p2⟩ := putF_at (v := v) ndf hat
          have hu := I1.updO (o' := .ins (S.ca c') dx (putF f v fs)) (d' := .ins c' (ds.set k d)) hO e2 x1 x2 x3 trivial fun w => ⟨rfl, dx, _, upd_same, by
            rw [p1, x4, List.length_set], by
            rw [p2]
            exact RepL.fwd w _ _ (x5.set k hv.rep)⟩
          exact ⟨_, x1, a, _, dx, fs, rfl, x3, hC, hN, by omega, hp _ _ _ hu.1 hu.2⟩
        · exact hp.elim
    · exact hp.elim
  · exact hp.elim
end
end Mir
/-! MirL -/
namespace Mir
open PySem PySem.Spec PyProof.Rows L2
variable [Tbl]
theorem passE {X : Cx} {E : XK} : Passes CX0 X E := fun _ _ _ _ _ _ _ h => h.elim
section
variable {P : Program} {w : World} {K : PySem.W.Frag} {mg : Str → Option Value} {base : Heap} {S : Sc}
/-- a def of the text, where nothing is raised -/
theorem fnD_ok {x qual : Str} {params : Arguments} {body : List Stmt} {scope : Scope} {dvs : List V} {kws : List (Str × V)} {f : Addr} {fd : FuncData} {N ps : List Str} {k : Nat} {fr : Bool} {O : List Nat} {m : SM} (F : FunD K x qual params body scope dvs kws f fd) (sc : FnScope N ps scope) (hN : ps.length ≤ N.length) (hO : ∀ i ∈ O, ps.length ≤ i)
    (hb : ∀ (cdv : Value) (A : Around) (outer : List PySem.Env) (s : Shared) (H : Hp) (E : XK), Room k (A.deeper (envOfC qual scope s.heap.objs.size f cdv)) →
      ∃ t, PSs (cxOf CX0 P w K mg base N qual scope f cdv A outer s H E).nox body t ∧ RefS S O [] E fr t m) :
    FnOk P w K mg base CX0 (k + 1) f fd ps (spM S fr ps.length (runF fr ps.length N.length m)) := by
  obtain ⟨oc, od, dV, kV, doc, pm, an, cdv, ct, osl, rfl, lk, hcd, _, _⟩ := F.ex
  refine fn_of lk hcd sc (fun vs H Q E h => h.choose_spec.choose_spec.1) fun A outer s H vs Q E hr hsp => ?_
  obtain ⟨t, h1, h2⟩ := hb cdv A outer s H E hr
  exact ⟨t, h1.nox, body_ok h2 hN hO hsp⟩
theorem fnD_ok0 {x qual : Str} {params : Arguments} {body : List Stmt} {scope : Scope} {dvs : List V} {kws : List (Str × V)} {f : Addr} {fd : FuncData} {N ps : List Str} {k : Nat} {O : List Nat} {m : SM} (F : FunD K x qual params body scope dvs kws f fd) (sc : FnScope N ps scope) (hN : ps.length ≤ N.length) (hO : ∀ i ∈ O, ps.length ≤ i)
    (hb : ∀ (cdv : Value) (A : Around) (outer : List PySem.Env) (s : Shared) (H : Hp) (E : XK), Room k (A.deeper (envOfC qual scope s.heap.objs.size f cdv)) →
      ∃ t, PSs (cxOf CX0 P w K mg base N qual scope f cdv A outer s H E).nox body t ∧ RefS S (0 :: O) [0] E false t m) :
    FnOk P w K mg base CX0 (k + 1) f fd ps (spM0 S ps.length (runF0 ps.length N.length m)) := by
  obtain ⟨oc, od, dV, kV, doc, pm, an, cdv, ct, osl, rfl, lk, hcd, _, _⟩ := F.ex
  refine fn_of lk hcd sc (fun vs H Q E h => ?_) fun A outer s H vs Q E hr hsp => ?_
  · obtain ⟨G, d0, ds, a, us, l, _, h, _⟩ := h
    exact h
  · obtain ⟨t, h1, h2⟩ := hb cdv A outer s H E hr
    exact ⟨t, h1.nox, body_ok0 h2 hN hO hsp⟩
end
/-! ### x.m(e, ..), x an own thing that m may change -/
def eMethO (c : Nat) (f : DM0) (j : Nat) (a : AM) : EM := fun env => match env[j]? with
  | some (some (.ins c' _)) => if c' = c then (a env).bind fun ds e => match e[j]? with
    | some (some d0) => match f d0 ds with
      | .ok d o => .ok d (e.set j (some o))
      | .exc x o => .exc x (e.set j (some o))
      | .bad => .bad
    | _ => .bad
  else .bad
  | _ => .bad
section
variable {S : Sc} {O P : List Nat} {E : XK} {μ : Mo} {fr fa fb : Bool} {ta tb : TE} {ma mb : EM} {t u : TS} {m n : SM} {tt : TT} {mt : TM} {tA : TA} {mA : AM}
theorem ref_methO {n j c : Nat} {mth : Str} {f : DM0} (hO : j ∈ O) (har : ∀ d ds, f d ds ≠ .bad → ds.length + 1 = n) (hm : mth ∉ S.fn c) (ha : RefA S O P E none tA mA) : RefE S O P E none false (tMeth (S.ca c) mth (spM0 S n f) [] E (tVar j) tA) (eMethO c f j mA) := by
  have key := ref_callO (S := S) (O := O) (P := P) (E := E) (n := n) (j := j) (f := f) hO har ha
  intro R σ H fp env I Q h
  unfold eMethO at h
  split at h
  · rename_i c' es ej
    split at h
    · rename_i ec
      subst ec
      obtain ⟨a, q1, q2⟩ := I.own j _ ej hO
      obtain ⟨q3, dx, fs, q4, q5, q6⟩ := q2
      have h2 : Want S O P E none R σ H fp env (eCallO f j mA env) (PostE S O P R σ none false H Q) := by
        unfold eCallO
        rw [ej]
        exact h
      obtain ⟨v, y1, y2⟩ := key R σ H fp env I Q h2
      have : v = .ref a := by
        rw [q1] at y1
        exact (Option.some.inj (Option.some.inj y1)).symm
      subst this
      exact ⟨_, q1, a, dx, fs, rfl, q4, lookup_none (by rw [q5]; exact fun z => hm (List.mem_of_mem_take z)), y2⟩
    · exact h.elim
  · exact h.elim
/-- a new list of pure data, from the weak reading -/
def eUpL (a : EM) : EM := fun env => (a env).bind fun x e => match x with
  | .lst ds => if D.pureL ds then .ok (.lst ds) e else .bad
  | _ => .bad
theorem Rel.plus0 {R : Rx} {σ : L2.St} {H H1 : Hp} {fp : Fp} {env : Env} {a : Addr} (I : Rel S O P R σ H fp env) (n : H a = none) (x : Ext Nil H H1) (h : H1 a ≠ none) : Rel S O P (R.plus a) σ H1 fp env := I.plus n x h
theorem ref_upL {U : List Nat} (ha : RefE S O P E (some U) true ta ma) : RefE S O P E none true ta (eUpL ma) := by
  intro R σ H fp env I Q h
  have key : Want S O P E (some U) R σ H fp env (ma env) (PostE S O P R σ (some U) true H Q) := by
    have h : Want S O P E none R σ H fp env ((ma env).bind _) _ := h
    cases q : ma env with
    | bad => rw [q] at h; exact h
    | exc x e => rw [q] at h; exact fun cls dd H' fp' I' s' => h cls dd H' fp' I' s'.strong
    | ok d e =>
      rw [q] at h
      intro H' fp' I' s' v hv sp
      dsimp only [Out.bind] at h
      obtain ⟨a, vs, ds, rfl, new, rfl, x1, x2, x3⟩ := hv
      dsimp only at h
      by_cases c : D.pureL ds = true
      · rw [if_pos c] at h
        refine h H' fp' I' s'.strong _ ⟨a, vs, ds, rfl, new, rfl, x1, fun z => ?_, repL_pure ds vs c x3⟩ fun hf a ea => sp hf a ea
        exact s'.strong.2.1 a |> fun k => by
          rcases z with z | z
          · exact I.gl a z new
          · rcases k z with k | k
            · obtain ⟨i, k⟩ := k
              exact I.live i a k new
            · obtain ⟨i, z⟩ := z
              exact x2 ⟨.inr ⟨i, z⟩, fun ⟨j, hj, q⟩ => by
                have := s'.2.1
                subst this
                exact I.live j a q new⟩
      · rw [if_neg c] at h
        exact h.elim
  exact ha R σ H fp env I Q key
/-- x.f op= e, x an own thing -/
def sAugFld (i c k : Nat) (a : EM) (f : Int → Int → Int) : SM := fun env => match env[i]? with
  | some (some (.ins c' ds)) => if c' = c then (match ds[k]? with
    | some (.int x) => (a env).fl fun d e => match d, e[i]? with
      | .int y, some (some (.ins c2 es)) => if c2 = c ∧ k < es.length then .next (e.set i (some (.ins c (es.set k (.int (f x y)))))) else .bad
      | _, _ => .bad
    | _ => .bad) else .bad
  | _ => .bad
theorem rs_augFld {i c k : Nat} {f : Str} (hC : Cls S.K (S.ca c)) (hN : NoAttr S.K (S.ca c) f) (hf : (S.fn c)[k]? = some f) (nd : (S.fn c).Nodup) (h1000 : (S.fn c).length < 1000) (hO : i ∈ O) (ha : RefE S O P E none fa ta ma) : RefS S O P E fr (sFldAug S.K (tVar i) ta rAdd f) (sAugFld i c k ma (· + ·)) := by
  intro R σ H fp env I D h
  have hk : k < (S.fn c).length := (List.getElem?_eq_some_iff.mp hf).1
  unfold sAugFld at h
  split at h
  · rename_i c' ds0 e0
    split at h
    · rename_i ec
      subst ec
      split at h
      · rename_i x0 hx0
        obtain ⟨a, x1, x2, dx, fs, x3, x4, x5⟩ := I.own i _ e0 hO
        obtain ⟨v0, v1, v2⟩ := x5.get hx0
        cases (show v0 = _ from v2)
        have nd0 : (fs.map (·.1)).Nodup := by rw [x4]; exact nd.sublist (List.take_sublist _ _)
        have hat0 : (fs.map (·.1))[k]? = some f := by
          rw [x4, List.getElem?_take_of_lt (List.getElem?_eq_some_iff.mp hx0).1]
          exact hf
        refine ⟨_, x1, a, _, dx, fs, _, rfl, x3, hC, hN, lookup_at nd0 hat0 v1, ?_⟩
        refine ha R σ H fp env I _ ((want_fl h).mono fun d e1 H1 f1 I1 s1 hp v hv _ => ?_)
        split at hp
        · rename_i y c2 es e2
          cases (show v = _ from hv.rep)
          refine ⟨x0, y, rfl, rfl, ?_⟩
          split at hp
          · rename_i hc
            obtain ⟨ec, hlt⟩ := hc
            subst ec
            obtain ⟨a', z1, z2, dx', fs', z3, z4, z5⟩ := I1.own i _ e2 hO
            rw [x1] at z1
            cases z1
            have hlen : fs'.length = es.length := by
              have := z5.length
              rwa [List.length_map] at this
            have hle : fs'.length ≤ (S.fn c2).length := by
              have := congrArg List.length z4
              rw [List.length_map, List.length_take] at this
              omega
            have ndf : (fs'.map (·.1)).Nodup := by rw [z4]; exact nd.sublist (List.take_sublist _ _)
            have hat : (fs'.map (·.1))[k]? = some f := by
              rw [z4, List.getElem?_take_of_lt hlt]
              exact hf
            obtain ⟨p1, p2⟩ := putF_at (v := .int (x0 + y)) ndf hat
            have hu := I1.updO (o' := .ins (S.ca c2) dx' (putF f (.int (x0 + y)) fs')) (d' := .ins c2 (es.set k (.int (x0 + y)))) hO e2 x1 z2 z3 trivial fun w => ⟨rfl, dx', _, upd_same, by
              rw [p1, z4, List.length_set], by
              rw [p2]
              exact RepL.fwd w _ _ (z5.set k (show Rep S _ _ (.int _) (.int _) from rfl))⟩
            exact ⟨dx', fs', z3, by omega, hp _ _ _ hu.1 hu.2⟩
          · exact hp.elim
        · exact hp.elim
      · exact h.elim
    · exact h.elim
  · exact h.elim
/-! ### a tuple that the text keeps -/
theorem ref_k {d : D} {v : V} (h : ∀ F H, Rep S F H d v) : RefE S O P E μ false (tC v) (eC d) := ref_c h
end
mutual
/-- data as values that K may hold -/
def D.vs : D → Option V
  | .non => some .non
  | .bl b => some (.bl b)
  | .int i => some (.int i)
  | .str x => some (.str x)
  | _ => none
end
theorem rep_ktup {S : Sc} {a : Addr} {o : Obj} {its : Array Value} {n : Nat} {ds : List D} {vs : List V} (hk : S.K.lookup a = some o) (hc : o.cls = .type "tuple") (hd : o.data = .seq its n) (hz : its.size ≤ sizeLine) (hv : Vals vs its.toList) (hr : ∀ F H, RepL S F H ds vs) : ∀ F H, Rep S F H (.tup ds) (.ref a) :=
  fun F H => ⟨a, vs, rfl, .inr ⟨o, its, n, hk, hc, hd, hz, hv⟩, hr F H⟩
end Mir
/-! MirM -/
namespace Mir
open PySem PySem.Spec PyProof.Rows L2
variable [Tbl]
section
variable {S : Sc} {O P : List Nat} {E : XK} {μ : Mo} {fr fa fb : Bool} {ta tb : TE} {ma mb : EM} {t u : TS} {m n : SM} {tt : TT} {mt : TM} {tA : TA} {mA : AM}
theorem Rel.setOwnD {R : Rx} {σ : L2.St} {H : Hp} {fp : Fp} {env : Env} {i : Nat} {dn : D} {a : Addr} (I : Rel S O P R σ H fp env) (hO : i ∈ O) (hP : i ∉ P) (hi : i < env.length) (new : R.H0 a = none) (nf : ¬ Fs R fp a) (ha : H a ≠ none)
    (r : Own S (fun x => Fs R fp x ∨ x = a) H dn a [a]) (old : ∀ j d, env[j]? = some (some d) → j ≠ i → (j ∉ O → ∃ v, σ[j]? = some (some v) ∧ Rep S (fun x => Fs R fp x ∨ x = a) H d v) ∧ (j ∈ O → ∃ b, σ[j]? = some (some (.ref b)) ∧ Own S (fun x => Fs R fp x ∨ x = a) H d b (fp j))) :
    Rel S O P R (σ.set i (some (.ref a))) H (fpSet fp i [a]) (env.set i (some dn)) := by
  have sub : ∀ x, Fs R (fpSet fp i [a]) x → (Fs R fp x ∨ x = a) := fun x h => by
    rcases h with h | ⟨j, h⟩
    · exact .inl (.inl h)
    · unfold fpSet at h
      split at h
      · exact .inr (List.mem_singleton.mp h)
      · exact .inl (.inr ⟨j, h⟩)
  refine ⟨by rw [List.length_set, List.length_set, I.len], fun j d h1 h2 => ?_, fun j d h1 h2 => ?_, fun j h => ?_, fun j k b h1 h2 => ?_, fun j => ?_, fun j b h => ?_, I.ext, I.gl, fun j b h => ?_, I.dom, I.mh, I.tb, ⟨I.hb.e, I.hb.m⟩⟩
  · have e : i ≠ j := fun z => h2 (z ▸ hO)
    rw [List.getElem?_set_ne e] at h1 ⊢
    obtain ⟨v, q1, q2⟩ := (old j d h1 (Ne.symm e)).1 h2
    exact ⟨v, q1, q2.less fun x z => .inl (sub x z)⟩
  · by_cases e : i = j
    · subst e
      rw [List.getElem?_set_self hi] at h1
      cases h1
      refine ⟨a, List.getElem?_set_self (by rw [← I.len]; exact hi), ?_⟩
      unfold fpSet
      rw [if_pos rfl]
      exact r.fwd (Ext.refl _ _) fun x z => .inl (sub x z)
    · rw [List.getElem?_set_ne e] at h1 ⊢
      obtain ⟨b, q1, q2⟩ := (old j d h1 (Ne.symm e)).2 h2
      refine ⟨b, q1, ?_⟩
      unfold fpSet
      rw [if_neg (Ne.symm e)]
      exact q2.fwd (Ext.refl _ _) fun x z => .inl (sub x z)
  · unfold fpSet
    by_cases e : j = i
    · subst e
      rcases h with h | h
      · exact absurd hO h
      · exact absurd (List.getElem?_set_self hi) (h _)
    · rw [if_neg e]
      refine I.non j (h.imp id fun h d q => h d ?_)
      rw [List.getElem?_set_ne (Ne.symm e)]
      exact q
  · unfold fpSet at h1 h2
    split at h1
    · rename_i e1
      split at h2
      · rename_i e2
        rw [e1, e2]
      · exact absurd (.inr ⟨k, by rw [← List.mem_singleton.mp h1]; exact h2⟩) nf
    · split at h2
      · exact absurd (.inr ⟨j, by rw [← List.mem_singleton.mp h2]; exact h1⟩) nf
      · exact I.dist j k b h1 h2
  · unfold fpSet
    split
    · simp
    · exact I.nd j
  · unfold fpSet at h
    split at h
    · rename_i e
      cases List.mem_singleton.mp h
      exact ⟨fun z => absurd (e ▸ z) hP, fun _ => ⟨new, fun z => nf (.inl z)⟩⟩
    · exact I.src j b h
  · unfold fpSet at h
    split at h
    · cases List.mem_singleton.mp h
      exact ha
    · exact I.live j b h
/-- x = C(..), x an own thing -/
def sMakeO (i c : Nat) (f : DM0) (dds : List D) (a : AM) : SM := fun env => (a env).fl fun ds e => match f (.ins c []) (ds ++ dds) with
  | .ok d o => match d, o with
    | .non, .ins c' es => if c' = c ∧ i < e.length then .next (e.set i (some (.ins c es))) else .bad
    | _, _ => .bad
  | _ => .bad
theorem rs_makeO {i c n : Nat} {f : DM0} {dds : List D} {dvs : List V} (hO : i ∈ O) (hP : i ∉ P) (hd : ∀ F H, RepL S F H dds dvs) (har : ∀ d ds, f d ds ≠ .bad → ds.length + 1 = n) (ha : RefA S O P E none tA mA) :
    RefS S O P E fr (tAsg (tMake (S.ca c) (spM0 S n f) dvs E tA) (gName i)) (sMakeO i c f dds mA) := by
  intro R σ H fp env I D h
  refine ha R σ H fp env I _ ((want_fl h).mono fun ds e1 H1 f1 I1 s1 h1 vs hv => ?_)
  intro x dx hx hdx ne
  have g1 : Ext Nil H1 (upd H1 dx (.own x)) := Ext.new hdx
  have g2 : Ext Nil (upd H1 dx (.own x)) (upd (upd H1 dx (.own x)) x (.ins (S.ca c) dx [])) := Ext.new (by rw [upd_ne (Ne.symm ne)]; exact hx)
  have g := g1.trans g2
  cases q : f (.ins c []) (ds ++ dds) with
  | bad => rw [q] at h1; exact h1.elim
  | exc y o => rw [q] at h1; exact h1.elim
  | ok d o =>
    have hn : vs.length + dvs.length + 1 = n := by
      have nb : f (.ins c []) (ds ++ dds) ≠ .bad := fun z => by rw [q] at z; cases z
      have q := har _ _ nb
      rw [List.length_append] at q
      rw [hv.length, (hd (fun _ => False) H1).length]
      exact q
    refine ⟨FM R f1 none, .ins c [], ds ++ dds, x, vs ++ dvs, [x], rfl, by rw [List.length_cons, List.length_append]; omega, fun a q => g.dom (I1.fm q), fun a q => ?_, by simp, ⟨rfl, dx, [], upd_same, rfl, rfl⟩, ?_, ?_, tb_ext g I1.tb, I1.hbH.trans g, fun y z => by rw [List.mem_singleton.mp z]; exact hb_new I1.hbH hx⟩
    · rw [List.mem_singleton.mp q, upd_same]
      exact fun z => nomatch z
    · exact (((hv.append (hd _ _)).less (F' := fun y => FM R f1 none y ∨ y ∈ [x]) fun a z => z.imp id fun q => by rw [List.mem_singleton.mp q]; exact hx)).grow g
    · rw [q] at h1 ⊢
      dsimp only at h1
      intro v H' l' w hO' hnd hal hr
      split at h1
      · rename_i c' es
        split at h1
        · rename_i hc
          obtain ⟨ec, hlt⟩ := hc
          subst ec
          refine ⟨hr, ?_⟩
          have ex : Ext Nil H1 H' := g.seq w.1 fun y z => .inr (by rw [List.mem_singleton.mp z]; exact hx)
          obtain ⟨el, dx', fs, q1, q2, q3⟩ := hO'
          have n0 : R.H0 x = none := by
            cases q : R.H0 x with
            | none => rfl
            | some o => exact absurd hx (I1.dom x (by rw [q]; exact fun z => nomatch z))
          have wf : Fwd (Fs R f1) H1 (fun y => Fs R f1 y ∨ y = x) H' := ⟨ex.mono fun _ z => z.elim, fun a z => z.imp id fun e => by rw [e]; exact hx, fun a z => ex.dom z⟩
          have J := I1.grow ex
          have I3 := J.setOwnD (i := i) (dn := .ins c' es) (a := x) hO hP hlt n0 (fun z => I1.fs z hx) (by rw [q1]; exact fun z => nomatch z)
            ⟨rfl, dx', fs, q1, q2, q3.less fun a z => .inl (z.elim .inl fun e => .inr (by rw [el]; exact List.mem_singleton.mpr e))⟩
            fun j d h1 hj => ⟨fun h2 => let ⟨v, y1, y2⟩ := I1.val j d h1 h2; ⟨v, y1, Rep.fwd wf _ _ y2⟩,
              fun h2 => let ⟨v, y1, y2⟩ := I1.own j d h1 h2; ⟨v, y1, y2.fwd ex fun a z => z.imp id fun e => by rw [e]; exact hx⟩⟩
          refine h1 _ H' _ I3 ⟨ex.mono fun _ z => z.elim, fun y z => ?_, fun a z => ex.dom z⟩
          obtain ⟨j, z⟩ := z
          rcases fpSet_mem z with ⟨_, z⟩ | ⟨_, z⟩
          · exact .inr (by rw [List.mem_singleton.mp z]; exact hx)
          · exact .inl ⟨j, z⟩
        · exact h1.elim
      · exact h1.elim
end
end Mir
/-! MirN -/
namespace Mir
open PySem PySem.Spec PyProof.Rows L2
variable [Tbl]
theorem bt_len : bootBuiltins "len" = some (.builtin "len") := by decide +kernel
theorem bt_abs : bootBuiltins "abs" = some (.builtin "abs") := by decide +kernel
theorem bt_sum : bootBuiltins "sum" = some (.builtin "sum") := by decide +kernel
theorem bt_all : bootBuiltins "all" = some (.builtin "all") := by decide +kernel
theorem bt_any : bootBuiltins "any" = some (.builtin "any") := by decide +kernel
theorem bt_sorted : bootBuiltins "sorted" = some (.builtin "sorted") := by decide +kernel
theorem bt_isinstance : bootBuiltins "isinstance" = some (.builtin "isinstance") := by decide +kernel
theorem bt_list : bootBuiltins "list" = some (.type "list") := by decide +kernel
theorem bt_tuple : bootBuiltins "tuple" = some (.type "tuple") := by decide +kernel
theorem bt_str : bootBuiltins "str" = some (.type "str") := by decide +kernel
theorem bt_int : bootBuiltins "int" = some (.type "int") := by decide +kernel
theorem bt_bool : bootBuiltins "bool" = some (.type "bool") := by decide +kernel
theorem hu0 {A : Around} {k : Nat} (h : Room k A) : A.units < cLine := by have := h.un; omega
theorem hu64 {A : Around} {k : Nat} (h : Room k A) : A.units + 64 < cLine := by have := h.un; omega
theorem hu65 {A : Around} {k : Nat} (h : Room k A) : A.units + 65 < cLine := by have := h.un; omega
theorem funD_mk {K : PySem.W.Frag} {x qual : Str} {st : Stmt} {f : Addr} {oc : Value} {od an : Option Addr} {osl : Array (Option Value)} {kV doc pm cdv ct : Value} (l : K.lookup f = some ⟨oc, od, .func (PySem.W.fnOf x qual (defArgs st) (defBody st) (defScope st) .none kV doc pm an cdv ct), osl⟩)
    (c : PySem.W.codeIn K cdv qual = true) (k : PySem.W.keepIn K (.ref f) = true) : FunD K x qual (defArgs st) (defBody st) (defScope st) [] [] f (PySem.W.fnOf x qual (defArgs st) (defBody st) (defScope st) .none kV doc pm an cdv ct) := ⟨⟨oc, od, .none, kV, doc, pm, an, cdv, ct, osl, rfl, l, c, .inl ⟨rfl, rfl⟩, .inl rfl⟩, k⟩
theorem funD_mkD {K : PySem.W.Frag} {x qual : Str} {st : Stmt} {f T : Addr} {oc : Value} {od an : Option Addr} {osl : Array (Option Value)} {kV doc pm cdv ct : Value} {dvs : List V} {oT : Obj} {its : List Value} {n : Nat} (l : K.lookup f = some ⟨oc, od, .func (PySem.W.fnOf x qual (defArgs st) (defBody st) (defScope st) (.ref T) kV doc pm an cdv ct), osl⟩)
    (c : PySem.W.codeIn K cdv qual = true) (k : PySem.W.keepIn K (.ref f) = true) (hd : dvs ≠ []) (lT : K.lookup T = some oT) (hT : oT.data = .seq its.toArray n) (hv : Vals dvs its) : FunD K x qual (defArgs st) (defBody st) (defScope st) dvs [] f (PySem.W.fnOf x qual (defArgs st) (defBody st) (defScope st) (.ref T) kV doc pm an cdv ct) := ⟨⟨oc, od, .ref T, kV, doc, pm, an, cdv, ct, osl, rfl, l, c, .inr ⟨hd, T, oT, its, n, rfl, lT, hT, hv⟩, .inl rfl⟩, k⟩
/-- a def of which nothing is promised -/
theorem FunD.never_ok {P : Program} {w : World} {K : PySem.W.Frag} {mg : Str → Option Value} {base : Heap} {S : Sc} {x qual : Str} {params : Arguments} {body : List Stmt} {scope : Scope} {dvs : List V} {kws : List (Str × V)} {f : Addr} {fd : FuncData} {N ps : List Str} {k : Nat} {fr : Bool} {n : Nat} (F : FunD K x qual params body scope dvs kws f fd) (sc : FnScope N ps scope) (hn : ps.length = n) :
    FnOk P w K mg base CX0 (k + 1) f fd ps (spM S fr n fun _ => .bad) := by
  obtain ⟨oc, od, dV, kV, doc, pm, an, cdv, ct, osl, rfl, lk, hcd, _, _⟩ := F.ex
  exact fn_of lk hcd sc (fun vs H Q E h => by obtain ⟨G, ds, h1, _⟩ := h; rw [h1, hn]) fun A outer s H vs Q E hr hsp => by
    obtain ⟨G, ds, h1, h2, h3, h4⟩ := hsp
    exact h4.1.elim
/-! ### the law's own source of numbers -/
def rndSeed (ns : List Int) (salt : Int) : Int := ns.foldl (fun s c => (s * 31 + (if c < 0 then -c else c)).fmod 2147483647) salt
def rndL (ns : List Int) (salt : Int) : List Int := rndSeed ns salt :: 0 :: ns.filter fun c => decide ((10 : Int) ^ 18 ≤ c)
def spRnd (K : PySem.W.Frag) : Sp := fun vs H Q _ => ∃ (a : Addr) (ns : List Int) (salt : Int), vs = [.ref a, .int salt] ∧ SqL K H a (ns.map V.int) ∧ ns.length ≤ 1000 ∧
  ∀ (H' : Hp) (p : Addr), Ext Nil H H' → H p = none → H' p = some (.lst ((rndL ns salt).map V.int)) → Q (.ref p) H'
theorem rndSeed_take {ns : List Int} {salt : Int} {i : Nat} {c : Int} (h : ns[i]? = some c) : rndSeed (ns.take (i + 1)) salt = (rndSeed (ns.take i) salt * 31 + (if c < 0 then -c else c)).fmod 2147483647 := by
  unfold rndSeed
  rw [List.take_add_one, h, List.foldl_append]
  rfl
theorem ints_get {ns : List Int} {i : Nat} {x : V} (h : (ns.map V.int)[i]? = some x) : ∃ c, ns[i]? = some c ∧ x = .int c := by
  rw [List.getElem?_map] at h
  cases q : ns[i]? with
  | none => rw [q] at h; cases h
  | some c => rw [q] at h; cases h; exact ⟨c, rfl, rfl⟩
theorem sql_ext {K : PySem.W.Frag} {H H' : Hp} {a : Addr} {xs : List V} (h : SqL K H a xs) (e : Ext Nil H H') : SqL K H' a xs := by
  rcases h with h | h
  · exact .inl (rd_ext e (fun z => z) h)
  · exact .inr h
theorem iteT' {b : Bool} {p q : Prop} (h : b = true) (k : p) : if b = true then p else q := by rw [if_pos h]; exact k
theorem iteF' {b : Bool} {p q : Prop} (h : b = false) (k : q) : if b = true then p else q := by rw [if_neg (by rw [h]; decide)]; exact k
/-- the text of the def, read -/
theorem rnd_run {K : PySem.W.Frag} {vs : List V} {H : Hp} {Q : VK} {E : XK} (h : spRnd K vs H Q E) :
    (tSeq (tAsg (tVar 1) (gName 2)) (tSeq (tFor (iList K (tVar 0)) (gName 3) (tAsg (tOp rModX (tOp (rI0 fun i j => .int (i + j)) (tOp rMulX (tVar 2) (tC (.int 31))) (tCB rAbsX (tCons (tVar 3) tNil))) (tC (.int 2147483647))) (gName 2)))
      (tRet (tOp rCat (tLst (tCons (tVar 2) (tCons (tC (.int 0)) tNil))) (tLc (iList K (tVar 0)) (gName 3) (tTest (tOp rGeI (tVar 3) (tOp rPowX (tC (.int 10)) (tC (.int 18))))) (tVar 3) [3])))) : TS)
      { nx := fun _ H' => Q .non H', rt := Q } (L2.start ["_law_script", "_law_salt", "_law_seed", "_law_cell"] vs) H := by
  obtain ⟨a, ns, salt, rfl, hS, hlen, k⟩ := h
  refine ⟨.int salt, rfl, ?_⟩
  refine ⟨.ref a, rfl, a, rfl, ⟨_, hS⟩, for_list (K := K) (a := a) (xs := ns.map V.int) (fun i σ H2 => ∃ c, σ = [some (.ref a), some (.int salt), some (.int (rndSeed (ns.take i) salt)), c] ∧ H2 = H)
    ⟨none, rfl, rfl⟩ (fun i σ H2 _ ⟨_, _, e⟩ => by rw [e]; exact hS) ?_ ?_⟩
  · rintro i x σ H2 hi ⟨c, rfl, rfl⟩
    obtain ⟨z, hz, rfl⟩ := ints_get hi
    refine ⟨_, rfl, _, _, rfl, rfl, .inr (by decide), .int z, rfl, z, rfl, _, _, rfl, rfl, _, _, rfl, rfl, (by show (2147483647 : Int) ≠ 0; decide), some (.int z), ?_, rfl⟩
    rw [rndSeed_take hz]
    rfl
  · rintro σ H2 ⟨c, rfl, rfl⟩
    rw [List.length_map, List.take_length]
    refine ⟨_, rfl, (by show 2 ≤ sizeLine; decide), fun p hp => ?_⟩
    have e1 : Ext Nil H2 (upd H2 p (.lst [.int (rndSeed ns salt), .int 0])) := Ext.new hp
    have hS1 := sql_ext hS e1
    refine ⟨.ref a, rfl, a, rfl, ⟨_, hS1⟩, fun D hD => ?_⟩
    have npD : p ≠ D := fun z => by rw [← z, upd_same] at hD; cases hD
    have nD2 : H2 D = none := by
      cases q : H2 D with
      | none => rfl
      | some o => exact absurd hD (e1.dom (by rw [q]; exact fun z => nomatch z))
    refine lc_list (fun i H3 => Ext Nil H2 H3 ∧ H3 p = some (.lst [.int (rndSeed ns salt), .int 0]) ∧ H3 D = some (.lst (((ns.take i).filter fun c => decide ((10 : Int) ^ 18 ≤ c)).map V.int)))
      ⟨e1.trans (Ext.new hD), by rw [upd_ne npD, upd_same], upd_same⟩ (fun i H3 _ ⟨e, _⟩ => sql_ext hS e) ?_ ?_
    · rintro i x H3 hi ⟨e3, p3, d3⟩
      obtain ⟨z, hz, rfl⟩ := ints_get hi
      refine ⟨rfl, .int z, rfl, _, _, rfl, rfl, ⟨by decide, by decide, by decide⟩, z, _, rfl, rfl, _, rfl, ?_⟩
      have ht : ns.take (i + 1) = ns.take i ++ [z] := by rw [List.take_add_one, hz]; rfl
      have hp10 : ((10 : Int) ^ (18 : Int).toNat ≤ z) = ((10 : Int) ^ 18 ≤ z) := rfl
      by_cases c : (10 : Int) ^ 18 ≤ z
      · refine iteT' (decide_eq_true (show (10 : Int) ^ (18 : Int).toNat ≤ z from c)) ?_
        refine ⟨.int z, rfl, _, d3, ?_, ?_⟩
        · rw [List.length_map]
          refine Nat.lt_of_le_of_lt (List.length_filter_le _ _) (Nat.lt_of_le_of_lt (List.length_take_le' _ _) (small1000 hlen))
        · refine ⟨ext_again e3 d3 (.inr nD2) trivial trivial, ?_, ?_⟩
          · rw [upd_ne npD]
            exact p3
          · have e5 : [z].filter (fun c => decide ((10 : Int) ^ 18 ≤ c)) = [z] := List.filter_cons_of_pos (p := fun c => decide ((10 : Int) ^ 18 ≤ c)) (decide_eq_true c)
            rw [upd_same, ht, List.filter_append, List.map_append, e5]
            rfl
      · refine iteF' (decide_eq_false (show ¬ (10 : Int) ^ (18 : Int).toNat ≤ z from c)) ?_
        refine ⟨e3, p3, ?_⟩
        have e5 : [z].filter (fun c => decide ((10 : Int) ^ 18 ≤ c)) = [] := List.filter_cons_of_neg (p := fun c => decide ((10 : Int) ^ 18 ≤ c)) (by rw [decide_eq_false c]; decide)
        rw [d3, ht, List.filter_append, e5, List.append_nil]
    · rintro H3 ⟨e3, p3, d3⟩
      rw [List.length_map, List.take_length] at d3
      refine ⟨p, D, _, _, rfl, rfl, p3, d3, ?_, fun r hr => ?_⟩
      · rw [List.length_map]
        have := List.length_filter_le (fun c => decide ((10 : Int) ^ 18 ≤ c)) ns
        show 2 + _ ≤ sizeLine
        exact Nat.le_trans (by omega : _ ≤ 1002) (by decide)
      · refine k _ r (e3.trans (Ext.new hr)) ?_ upd_same
        cases q : H2 r with
        | none => rfl
        | some o => exact absurd hr (e3.dom (by rw [q]; exact fun z => nomatch z))
end Mir
/-! MirP -/
namespace Mir
open PySem PySem.Spec PyProof.Rows L2
variable [Tbl]
/-- law's: a list of at most 63 ints is handed in, True comes out -/
def spLaw (K : PySem.W.Frag) : Sp := fun vs H Q _ => ∃ (a : Addr) (ns : List Int), vs = [.ref a] ∧ SqL K H a (ns.map V.int) ∧ ns.length ≤ 63 ∧ (∀ H', Q (.bl true) H') ∧ LamX.Tabs Tbl.T H
/-- law's frame behind its first statement -/
def env1 (n : Nat) (ns : List Int) : Env := none :: some (.lst (ns.map .int)) :: List.replicate n none
theorem env1_get {n : Nat} {ns : List Int} {i : Nat} {d : D} (h : (env1 n ns)[i]? = some (some d)) : i = 1 ∧ d = .lst (ns.map .int) := by
  match i, h with
  | 0, h => cases h
  | 1, h => cases h; exact ⟨rfl, rfl⟩
  | i + 2, h =>
    have h : (List.replicate n (none : Option D))[i]? = some (some d) := h
    rw [List.getElem?_replicate] at h
    split at h <;> cases h
theorem law_run {S : Sc} {O : List Nat} {E : XK} {t : TS} {m : SM} {n : Nat} {a p : Addr} {H H' : Hp} {ns : List Int} {Q : VK} (hr : RefS S O [] E false t m) (hO : 1 ∈ O) (ext : Ext Nil H H') (hp : H p = none) (hl : H' p = some (.lst (ns.map V.int)))
    (hm : ∃ e, m (env1 n ns) = .ret (.bl true) e) (tb : LamX.Tabs Tbl.T H) (hb : Ext Nil S.Hb H) (k : ∀ H, Q (.bl true) H) {D : Ends} (hD : D.rt = Q) : t D (some (.ref a) :: some (.ref p) :: List.replicate n none) H' := by
  have fpm : ∀ {i b}, b ∈ (fun i => if i = 1 then [p] else [] : Fp) i → i = 1 ∧ b = p := fun {i b} h => by
    dsimp only at h
    split at h
    · rename_i e
      exact ⟨e, List.mem_singleton.mp h⟩
    · cases h
  refine hr ⟨Nil, Nil, H⟩ _ H' (fun i => if i = 1 then [p] else []) (env1 n ns) ?_ D ?_
  · refine ⟨by simp [env1], fun i d h1 h2 => ?_, fun i d h1 h2 => ?_, fun i h => ?_, fun i j b h1 h2 => (fpm h1).1.trans (fpm h2).1.symm, fun i => ?_, fun i b h => ?_, ext, fun b h => h.elim, fun i b h => ?_, fun b h => ext.dom h, fun b h => h.elim, tb_ext ext tb, ⟨hb, fun a h => h.elim⟩⟩
    · obtain ⟨rfl, _⟩ := env1_get h1
      exact absurd hO h2
    · obtain ⟨rfl, rfl⟩ := env1_get h1
      exact ⟨p, rfl, rfl, _, hl, RepL.ofInts⟩
    · split
      · rename_i e
        subst e
        rcases h with h | h
        · exact absurd hO h
        · exact absurd rfl (h _)
      · rfl
    · split
      · simp
      · exact List.nodup_nil
    · obtain ⟨rfl, rfl⟩ := fpm h
      exact ⟨fun z => (by cases z), fun _ => ⟨hp, fun z => z⟩⟩
    · obtain ⟨rfl, rfl⟩ := fpm h
      rw [hl]
      exact fun z => nomatch z
  · obtain ⟨e, he⟩ := hm
    rw [he]
    intro σ' v H2 fp' I w r
    cases (show v = _ from r)
    rw [hD]
    exact k H2
end Mir
/-! MirQ -/
namespace Mir
open PySem PySem.Spec PyProof.Rows L2
variable [Tbl]
section
variable {env : Env} {a b c : EM} {m n : SM} {t u : TM} {ar : AM}
/-! ### the mirrors, one step -/
@[simp] theorem ap_eVar (i : Nat) : eVar i env = match env[i]? with | some (some d) => .ok d env | _ => .bad := rfl
@[simp] theorem ap_eC (d : D) : eC d env = .ok d env := rfl
@[simp] theorem ap_e1 (f : D → Option D) : e1 f a env = (a env).bind fun x e => .opt (f x) e := rfl
@[simp] theorem ap_e2 (f : D → D → Option D) : e2 f a b env = (a env).bind fun x e => (b e).bind fun y e' => .opt (f x y) e' := rfl
@[simp] theorem ap_eA (f : List D → Option D) : eA f ar env = (ar env).bind fun xs e => .opt (f xs) e := rfl
@[simp] theorem ap_mTest : mTest a env = (a env).bind fun x e => .opt x.boo e := rfl
@[simp] theorem ap_mAnd : mAnd t u env = (t env).bind fun c e => if c then u e else .ok false e := rfl
@[simp] theorem ap_mOr : mOr t u env = (t env).bind fun c e => if c then .ok true e else u e := rfl
@[simp] theorem ap_mNot : mNot t env = (t env).bind fun c e => .ok (!c) e := rfl
@[simp] theorem ap_mYes : mYes env = .ok true env := rfl
@[simp] theorem ap_eAndV : eAndV a b env = (a env).bind fun x e => (Out.opt x.boo e).bind fun c e' => if c then b e' else .ok (.bl false) e' := rfl
@[simp] theorem ap_eOrV : eOrV a b env = (a env).bind fun x e => (Out.opt x.boo e).bind fun c e' => if c then .ok (.bl true) e' else b e' := rfl
@[simp] theorem ap_eNotV : eNotV a env = (a env).bind fun x e => (Out.opt x.boo e).bind fun c e' => .ok (.bl (!c)) e' := rfl
@[simp] theorem ap_eIf : eIf t a b env = (t env).bind fun c e => if c then a e else b e := rfl
@[simp] theorem ap_aNil : aNil env = .ok [] env := rfl
@[simp] theorem ap_aCons : aCons a ar env = (a env).bind fun x e => (ar e).bind fun xs e' => .ok (x :: xs) e' := rfl
@[simp] theorem ap_aStar : aStar a ar env = (a env).bind fun x e => (Out.opt x.seq e).bind fun ys e1 => (ar e1).bind fun xs e' => .ok (ys ++ xs) e' := rfl
@[simp] theorem ap_eTup : eTup ar env = (ar env).bind fun xs e => .opt (if xs.length ≤ 100000 then some (.tup xs) else none) e := rfl
@[simp] theorem ap_eLst : eLst ar env = (ar env).bind fun xs e => .opt (if xs.length ≤ 100000 then some (.lst xs) else none) e := rfl
@[simp] theorem ap_eUp : eUp a env = (a env).bind fun x e => if x.pure then .ok x e else .bad := rfl
@[simp] theorem ap_eUpL : eUpL a env = (a env).bind fun x e => match x with | .lst ds => if D.pureL ds then .ok (.lst ds) e else .bad | _ => .bad := rfl
@[simp] theorem ap_eSl (f : D → Option Int → Option Int → Option D) (lo hi : PM) : eSl f a lo hi env = (a env).bind fun x e => (lo e).bind fun l e1 => (hi e1).bind fun u e2 => .opt (f x l u) e2 := rfl
@[simp] theorem ap_pNone : pNone env = .ok none env := rfl
@[simp] theorem ap_pSome : pSome a env = (a env).bind fun x e => (Out.opt x.toI e).bind fun i e => .ok (some i) e := rfl
@[simp] theorem ap_eM1 (f : D → D → Option D) : eM1 f a b env = (a env).bind fun x e => if x.isS then (b e).bind fun y e' => .opt (f x y) e' else .bad := rfl
@[simp] theorem ap_eChain (f g : D → D → Option D) : eChain f g a b c env = (a env).bind fun x e => (b e).bind fun y e1 => (Out.opt ((f x y).bind fun z => match z with | .bl k => some k | _ => none) e1).bind fun k e1 => if k then (c e1).bind fun z e2 => .opt (g y z) e2 else .ok (.bl false) e1 := rfl
@[simp] theorem ap_eCall (f : DM) (dds : List D) : eCall f dds ar env = (ar env).bind fun ds e => (f (ds ++ dds)).out e := rfl
@[simp] theorem ap_eMeth (k : Nat) (f : DM) (dds : List D) : eMeth k f dds a ar env = (a env).bind fun x e => match x with
  | .ins c' _ => if c' = k then (ar e).bind fun ds e' => (f (x :: (ds ++ dds))).out e' else .bad
  | _ => .bad := rfl
@[simp] theorem ap_eFld (k i : Nat) : eFld k i a env = (a env).bind fun x e => .opt (D.fld k i x) e := rfl
@[simp] theorem ap_eProp (k : Nat) (f : DM) : eProp k f a env = (a env).bind fun x e => match x with
  | .ins c' _ => if c' = k then (match f [x] with
    | .ok d => .ok d e
    | _ => .bad) else .bad
  | _ => .bad := rfl
@[simp] theorem ap_eMake (k : Nat) (f : DM0) (dds : List D) : eMake k f dds ar env = (ar env).bind fun ds e => match f (.ins k []) (ds ++ dds) with
  | .ok d o => match d, o with
    | .non, .ins c' es => if c' = k then .ok (.ins k es) e else .bad
    | _, _ => .bad
  | .exc x _ => .exc x e
  | .bad => .bad := rfl
@[simp] theorem ap_eCallO (f : DM0) (j : Nat) : eCallO f j ar env = match env[j]? with
  | some (some _) => (ar env).bind fun ds e => match e[j]? with
    | some (some d0) => match f d0 ds with
      | .ok d o => .ok d (e.set j (some o))
      | .exc x o => .exc x (e.set j (some o))
      | .bad => .bad
    | _ => .bad
  | _ => .bad := rfl
@[simp] theorem ap_eMethO (k : Nat) (f : DM0) (j : Nat) : eMethO k f j ar env = match env[j]? with
  | some (some (.ins c' _)) => if c' = k then (ar env).bind fun ds e => match e[j]? with
    | some (some d0) => match f d0 ds with
      | .ok d o => .ok d (e.set j (some o))
      | .exc x o => .exc x (e.set j (some o))
      | .bad => .bad
    | _ => .bad
  else .bad
  | _ => .bad := rfl
@[simp] theorem ap_sNext : sNext env = .next env := rfl
@[simp] theorem ap_sSeq : sSeq m n env = (m env).bind n := rfl
@[simp] theorem ap_sIf : sIf t m n env = (t env).fl fun c e => if c then m e else n e := rfl
@[simp] theorem ap_sAsg (g : GM) : sAsg a g env = (a env).fl fun d e => match g d e with | some e' => .next e' | none => .bad := rfl
@[simp] theorem ap_sDrop : sDrop a env = (a env).fl fun _ e => .next e := rfl
@[simp] theorem ap_sRet : sRet a env = (a env).fl fun d e => .ret d e := rfl
@[simp] theorem ap_sRetN : sRetN env = .ret .non env := rfl
@[simp] theorem ap_sBad : sBad env = .bad := rfl
@[simp] theorem ap_gSet (i : Nat) (d : D) : gSet i d env = some (env.set i (some d)) := rfl
@[simp] theorem ap_gTupM0 : gTupM [] [] env = some env := rfl
@[simp] theorem ap_gTupM1 (g : GM) (gs : List GM) (d : D) (ds : List D) : gTupM (g :: gs) (d :: ds) env = (g d env).bind (gTupM gs ds) := rfl
@[simp] theorem ap_gTupleM (gs : List GM) (ds : List D) : gTupleM gs (.tup ds) env = gTupM gs ds env := rfl
@[simp] theorem ap_sOwn (i : Nat) : sOwn a i env = (a env).fl fun d e => if i < e.length then .next (e.set i (some d)) else .bad := rfl
@[simp] theorem ap_sApp (i : Nat) : sApp i a env = match env[i]? with
  | some (some (.lst _)) => (a env).fl fun d e => match e[i]? with
    | some (some (.lst ds)) => if ds.length < 100000 then .next (e.set i (some (.lst (ds ++ [d])))) else .bad
    | _ => .bad
  | _ => .bad := rfl
@[simp] theorem ap_sExt (i : Nat) : sExt i a env = match env[i]? with
  | some (some (.lst _)) => (a env).fl fun d e => match e[i]?, d with
    | some (some (.lst ds)), .lst xs => if ds.length + xs.length ≤ 100000 then .next (e.set i (some (.lst (ds ++ xs)))) else .bad
    | _, _ => .bad
  | _ => .bad := rfl
@[simp] theorem ap_sRetOwn (i : Nat) : sRetOwn i env = match env[i]? with
  | some (some (.lst ds)) => .ret (.lst ds) env
  | _ => .bad := rfl
@[simp] theorem ap_sSetIx (i : Nat) (j : Int) : sSetIx i j a env = (a env).fl fun d e => match e[i]? with
  | some (some (.lst ds)) => match ixN ds.length j with
    | some k => .next (e.set i (some (.lst (ds.set k d))))
    | none => .bad
  | _ => .bad := rfl
@[simp] theorem ap_ePopAt (i : Nat) (j : Int) : ePopAt i j env = match env[i]? with
  | some (some (.lst ds)) => match seqIndex? j ds.length with
    | some k => match ds[k]? with
      | some d => if -(2 ^ 63) ≤ j ∧ j < 2 ^ 63 then .ok d (env.set i (some (.lst (ds.eraseIdx k)))) else .bad
      | none => .bad
    | none => .bad
  | _ => .bad := rfl
@[simp] theorem ap_sSetFld (i k l : Nat) : sSetFld i k l a env = (a env).fl fun d e => match e[i]? with
  | some (some (.ins c' ds)) => if c' = k then (if l = ds.length then .next (e.set i (some (.ins k (ds ++ [d])))) else if l < ds.length then .next (e.set i (some (.ins k (ds.set l d)))) else .bad) else .bad
  | _ => .bad := rfl
@[simp] theorem ap_sAugFld (i k l : Nat) (f : Int → Int → Int) : sAugFld i k l a f env = match env[i]? with
  | some (some (.ins c' ds)) => if c' = k then (match ds[l]? with
    | some (.int x) => (a env).fl fun d e => match d, e[i]? with
      | .int y, some (some (.ins c2 es)) => if c2 = k ∧ l < es.length then .next (e.set i (some (.ins k (es.set l (.int (f x y)))))) else .bad
      | _, _ => .bad
    | _ => .bad) else .bad
  | _ => .bad := rfl
@[simp] theorem ap_sMakeO (i k : Nat) (f : DM0) (dds : List D) : sMakeO i k f dds ar env = (ar env).fl fun ds e => match f (.ins k []) (ds ++ dds) with
  | .ok d o => match d, o with
    | .non, .ins c' es => if c' = k ∧ i < e.length then .next (e.set i (some (.ins k es))) else .bad
    | _, _ => .bad
  | _ => .bad := rfl
@[simp] theorem ap_sAug (i : Nat) (f : Int → Int → Int) : sAug i a f env = match env[i]? with
  | some (some (.int x)) => (a env).fl fun d e => match d with
    | .int y => .next (e.set i (some (.int (f x y))))
    | _ => .bad
  | _ => .bad := rfl
@[simp] theorem ap_sParO (i j : Nat) : sParO i a j b env = (a env).fl fun d e => (b e).fl fun c e1 => if j < e1.length then .next ((e1.set i (some d)).set j (some c)) else .bad := rfl
@[simp] theorem ap_sFor (it : IM) (g : GM) : sFor it g m env = (it env).fl fun ds e => forGo g m ds e := rfl
@[simp] theorem ap_eLc (vs : List Nat) (it : IM) (g : GM) : eLc vs it g t a env = (it env).bind fun ds e0 => (lcGo vs g t a ds [] (wipeE e0 vs)).bind fun xs e1 => .ok (.lst xs) (resE e1 e0 vs) := rfl
@[simp] theorem ap_iSeqM : iSeqM a env = (a env).bind fun x e => .opt x.items e := rfl
@[simp] theorem ap_iSeqP : iSeqP a env = (a env).bind fun x e => (Out.opt x.items e).bind fun ds e => if D.pureL ds then .ok ds e else .bad := rfl
@[simp] theorem ap_iLst : iLst a env = (a env).bind fun x e => .opt x.isL e := rfl
@[simp] theorem ap_iRng1M : iRng1M ar env = (ar env).bind fun xs e => .opt (rng1 xs) e := rfl
@[simp] theorem ap_iRng2M : iRng2M ar env = (ar env).bind fun xs e => .opt (rng2 xs) e := rfl
@[simp] theorem ap_iEnumT : Mir.iEnumT a env = (a env).bind fun x e => (Out.opt x.isT e).bind fun ds e => .ok (enumL 0 ds) e := rfl
@[simp] theorem ap_A1 (f : D → Option D) (d : D) : A1 f [d] = f d := rfl
end
end Mir
namespace Mir
open PySem PySem.Spec PyProof.Rows L2
variable [Tbl]
/-! ### data, one step -/
@[simp] theorem dd_boo (b : Bool) : D.boo (.bl b) = some b := rfl
@[simp] theorem dd_seqT (ds : List D) : D.seq (.tup ds) = some ds := rfl
@[simp] theorem dd_seqL (ds : List D) : D.seq (.lst ds) = some ds := rfl
@[simp] theorem dd_itT (ds : List D) : D.items (.tup ds) = some ds := rfl
@[simp] theorem dd_itL (ds : List D) : D.items (.lst ds) = some ds := rfl
@[simp] theorem dd_itS (x : Str) : D.items (.str x) = some (x.cps.toList.map fun c => .str ⟨#[c]⟩) := rfl
@[simp] theorem dd_isL (ds : List D) : D.isL (.lst ds) = some ds := rfl
@[simp] theorem dd_isT (ds : List D) : D.isT (.tup ds) = some ds := rfl
@[simp] theorem dd_toI (i : Int) : D.toI (.int i) = some i := rfl
@[simp] theorem dd_isS (i : Str) : D.isS (.str i) = true := rfl
@[simp] theorem dp_int (i : Int) : D.pure (.int i) = true := rfl
@[simp] theorem dp_str (i : Str) : D.pure (.str i) = true := rfl
@[simp] theorem dp_bl (i : Bool) : D.pure (.bl i) = true := rfl
@[simp] theorem dp_tup (ds : List D) : D.pure (.tup ds) = D.pureL ds := rfl
@[simp] theorem dp_nil : D.pureL [] = true := rfl
@[simp] theorem dp_cons (d : D) (ds : List D) : D.pureL (d :: ds) = (d.pure && D.pureL ds) := rfl
@[simp] theorem dp_append (ds es : List D) : D.pureL (ds ++ es) = (D.pureL ds && D.pureL es) := by
  induction ds with
  | nil => rfl
  | cons d ds ih => show (d.pure && D.pureL (ds ++ es)) = ((d.pure && D.pureL ds) && D.pureL es); rw [ih, Bool.and_assoc]
@[simp] theorem dp_ints (ns : List Int) : D.pureL (ns.map D.int) = true := by
  induction ns with
  | nil => rfl
  | cons n ns ih => exact ih
@[simp] theorem dp_strsL (ns : List Str) : D.pureL (ns.map D.str) = true := by
  induction ns with
  | nil => rfl
  | cons n ns ih => exact ih
@[simp] theorem dp_pairs (ns : List (Int × Int)) : D.pureL (ns.map pairD) = true := by
  induction ns with
  | nil => rfl
  | cons n ns ih => exact ih
@[simp] theorem dl_int (i : Int) : D.lay (.int i) = true := rfl
@[simp] theorem dl_bl (i : Bool) : D.lay (.bl i) = true := rfl
@[simp] theorem dl_str (i : Str) : D.lay (.str i) = PyData.strOk i := rfl
@[simp] theorem dl_non : D.lay .non = true := rfl
@[simp] theorem dl_tup (i : List D) : D.lay (.tup i) = D.layL i := rfl
@[simp] theorem dl_lst (i : List D) : D.lay (.lst i) = D.layL i := rfl
@[simp] theorem dl_nil : D.layL [] = true := rfl
@[simp] theorem dl_cons (d : D) (i : List D) : D.layL (d :: i) = (d.lay && D.layL i) := rfl
@[simp] theorem dl_ints (ns : List Int) : D.layL (ns.map D.int) = true := by
  induction ns with
  | nil => rfl
  | cons n ns ih => exact ih
@[simp] theorem dl_pairs (ns : List (Int × Int)) : D.layL (ns.map pairD) = true := by
  induction ns with
  | nil => rfl
  | cons n ns ih => exact ih
@[simp] theorem de_int (i : Int) : D.dep (.int i) = 0 := rfl
@[simp] theorem de_bl (i : Bool) : D.dep (.bl i) = 0 := rfl
@[simp] theorem de_str (i : Str) : D.dep (.str i) = 0 := rfl
@[simp] theorem de_non : D.dep .non = 0 := rfl
@[simp] theorem de_tup (i : List D) : D.dep (.tup i) = D.depL i + 1 := rfl
@[simp] theorem de_lst (i : List D) : D.dep (.lst i) = D.depL i + 1 := rfl
@[simp] theorem de_nil : D.depL [] = 0 := rfl
@[simp] theorem de_cons (d : D) (i : List D) : D.depL (d :: i) = max d.dep (D.depL i) := rfl
@[simp] theorem de_ints (ns : List Int) : D.depL (ns.map D.int) = 0 := by
  induction ns with
  | nil => rfl
  | cons n ns ih => show max 0 (D.depL (ns.map D.int)) = 0; rw [ih]; rfl
theorem de_pairs (ns : List (Int × Int)) : D.depL (ns.map pairD) ≤ 1 := by
  induction ns with
  | nil => exact Nat.zero_le _
  | cons n ns ih => show max 1 (D.depL (ns.map pairD)) ≤ 1; omega
theorem fit_of {d : D} (h1 : d.lay = true) (h2 : d.dep ≤ 64) : d.fit = true := by unfold D.fit; rw [h1, decide_eq_true h2]; rfl
@[simp] theorem fit_int (i : Int) : (D.int i).fit = true := rfl
@[simp] theorem fit_bl (i : Bool) : (D.bl i).fit = true := rfl
@[simp] theorem fit_ints (ns : List Int) : (D.lst (ns.map .int)).fit = true := fit_of (by simp) (by simp)
@[simp] theorem fit_intsT (ns : List Int) : (D.tup (ns.map .int)).fit = true := fit_of (by simp) (by simp)
@[simp] theorem fit_nilT : (D.tup []).fit = true := rfl
@[simp] theorem fit_nilL : (D.lst []).fit = true := rfl
@[simp] theorem eq_int (i j : Int) : D.eqb (.int i) (.int j) = (i == j) := by simp only [D.eqb]
theorem eqbL_refl_int (ns ms : List Int) : D.eqbL (ns.map .int) (ms.map .int) = decide (ns = ms) := by
  induction ns generalizing ms with
  | nil => cases ms with
    | nil => simp [D.eqbL]
    | cons m ms => simp [D.eqbL]
  | cons n ns ih => cases ms with
    | nil => simp [D.eqbL]
    | cons m ms =>
      simp only [List.map_cons, D.eqbL, D.eqb, ih]
      by_cases h : n = m <;> simp [h]
@[simp] theorem oEq_int (i j : Int) : oEq (.int i) (.int j) = some (.bl (decide (i = j))) := by
  unfold oEq oEqB
  simp only [fit_int, Bool.and_self, if_true, eq_int, Option.map_some]
  by_cases h : i = j <;> simp [h]
@[simp] theorem oNe_int (i j : Int) : oNe (.int i) (.int j) = some (.bl (!decide (i = j))) := by
  unfold oNe oEqB
  simp only [fit_int, Bool.and_self, if_true, eq_int, Option.map_some]
  by_cases h : i = j <;> simp [h]
@[simp] theorem oEq_str (i j : Str) : oEq (.str i) (.str j) = some (.bl (decide (i = j))) := rfl
@[simp] theorem oNe_str (i j : Str) : oNe (.str i) (.str j) = some (.bl (!decide (i = j))) := rfl
@[simp] theorem oAdd_int (i j : Int) : oAdd (.int i) (.int j) = some (.int (i + j)) := rfl
@[simp] theorem oSub_int (i j : Int) : oSub (.int i) (.int j) = some (.int (i - j)) := rfl
@[simp] theorem oNeg_int (i : Int) : oNeg (.int i) = some (.int (-i)) := rfl
theorem oMul_int (i j : Int) (h : (-(2 ^ 64) < i ∧ i < 2 ^ 64) ∨ (-(2 ^ 64) < j ∧ j < 2 ^ 64)) : oMul (.int i) (.int j) = some (.int (i * j)) := by unfold oMul oI; dsimp only; rw [if_pos h]
theorem oFdiv_int (i j : Int) (h : j ≠ 0 ∧ j.natAbs < 1073741824) : oFdiv (.int i) (.int j) = some (.int (i.fdiv j)) := by unfold oFdiv oI; dsimp only; rw [if_pos h]
theorem oMod_int (i j : Int) (h : j ≠ 0) : oMod (.int i) (.int j) = some (.int (i.fmod j)) := by unfold oMod oI; dsimp only; rw [if_pos h]
@[simp] theorem oLtI_int (i j : Int) : oLtI (.int i) (.int j) = some (.bl (decide (i < j))) := rfl
@[simp] theorem oLeI_int (i j : Int) : oLeI (.int i) (.int j) = some (.bl (decide (i ≤ j))) := rfl
@[simp] theorem oGtI_int (i j : Int) : oGtI (.int i) (.int j) = some (.bl (decide (j < i))) := rfl
@[simp] theorem oGeI_int (i j : Int) : oGeI (.int i) (.int j) = some (.bl (decide (j ≤ i))) := rfl
@[simp] theorem oLe_int (i j : Int) : oLe (.int i) (.int j) = some (.bl (decide (i ≤ j))) := rfl
@[simp] theorem oLen_lst (ds : List D) : oLen (.lst ds) = some (.int ds.length) := rfl
@[simp] theorem oLen_tup (ds : List D) : oLen (.tup ds) = some (.int ds.length) := rfl
theorem oLen_str (z : Str) (h : z.length ≤ 100000) : oLen (.str z) = some (.int z.length) := by unfold oLen; dsimp only; rw [if_pos h]
@[simp] theorem oTuple_lst (ds : List D) : oTuple (.lst ds) = some (.tup ds) := rfl
@[simp] theorem oTuple_tup (ds : List D) : oTuple (.tup ds) = some (.tup ds) := rfl
@[simp] theorem oList_lst (ds : List D) : oList (.lst ds) = some (.lst ds) := rfl
@[simp] theorem oList_tup (ds : List D) : oList (.tup ds) = some (.lst ds) := rfl
theorem atI_nn {ds : List D} {i : Nat} {d : D} (h : ds[i]? = some d) : atI ds (i : Int) = some d := by
  have := (List.getElem?_eq_some_iff.mp h).1
  rw [show atI ds ((i : Nat) : Int) = _ from atI_nat (j := i) h]
@[simp] theorem oIx_lst (ds : List D) (i : Int) : oIx (.lst ds) (.int i) = atI ds i := rfl
@[simp] theorem oIx_tup (ds : List D) (i : Int) : oIx (.tup ds) (.int i) = atI ds i := rfl
/-! ### places -/
@[simp] theorem atI_c0 {α : Type} (a : α) (l : List α) : atI (a :: l) 0 = some a := atI_nat (j := 0) rfl
@[simp] theorem atI_c1 {α : Type} (a b : α) (l : List α) : atI (a :: b :: l) 1 = some b := atI_nat (j := 1) rfl
@[simp] theorem atI_c2 {α : Type} (a b c : α) (l : List α) : atI (a :: b :: c :: l) 2 = some c := atI_nat (j := 2) rfl
@[simp] theorem atI_c3 {α : Type} (a b c d : α) (l : List α) : atI (a :: b :: c :: d :: l) 3 = some d := atI_nat (j := 3) rfl
theorem ixN_at {n j : Nat} (hj : j < n) {i : Int} (hi : i = (j : Int)) : ixN n i = some j := by
  subst hi
  unfold ixN
  rw [if_pos (Int.natCast_nonneg j), if_pos (by omega)]
  rfl
theorem seqIx_at {n j : Nat} (hj : j < n) {i : Int} (hi : i = (j : Int)) : seqIndex? i n = some j := (ixN_seq (ixN_at hj hi)).1
theorem atI_at {α : Type} {xs : List α} {j : Nat} {v : α} (h : xs[j]? = some v) {i : Int} (hi : i = (j : Int)) : atI xs i = some v := by rw [hi]; exact atI_nat h
@[simp] theorem set_0 {α : Type} (a x : α) (l : List α) : (a :: l).set 0 x = x :: l := rfl
@[simp] theorem set_1 {α : Type} (a b x : α) (l : List α) : (a :: b :: l).set 1 x = a :: x :: l := rfl
@[simp] theorem set_2 {α : Type} (a b c x : α) (l : List α) : (a :: b :: c :: l).set 2 x = a :: b :: x :: l := rfl
/-! ### defs -/
theorem runF0_ret {k n : Nat} {m : SM} {d0 d o : D} {ds : List D} {e : Env} (hm : m ((d0 :: ds).map some ++ List.replicate (n - (ds.length + 1)) none) = .ret d e) (he : e[0]? = some (some o)) (h : ds.length + 1 = k) : runF0 k n m d0 ds = .ok d o := by
  unfold runF0
  rw [if_pos h, hm]
  dsimp only
  rw [he]
theorem runF0_next {k n : Nat} {m : SM} {d0 o : D} {ds : List D} {e : Env} (hm : m ((d0 :: ds).map some ++ List.replicate (n - (ds.length + 1)) none) = .next e) (he : e[0]? = some (some o)) (h : ds.length + 1 = k) : runF0 k n m d0 ds = .ok .non o := by
  unfold runF0
  rw [if_pos h, hm]
  dsimp only
  rw [he]
theorem runF_ret {fr : Bool} {k n : Nat} {m : SM} {d : D} {ds : List D} {e : Env} (hm : m (ds.map some ++ List.replicate (n - ds.length) none) = .ret d e) (h : ds.length = k) : runF fr k n m ds = .ok d := by
  unfold runF
  rw [if_pos h, hm]
theorem runF_next {k n : Nat} {m : SM} {ds : List D} {e : Env} (hm : m (ds.map some ++ List.replicate (n - ds.length) none) = .next e) (h : ds.length = k) : runF false k n m ds = .ok .non := by
  unfold runF
  rw [if_pos h, hm]
  rfl
/-! ### loops -/
theorem forGo_inv {g : GM} {b : SM} (P : List D → Env → Prop) : ∀ {ds done : List D} {env : Env}, P done env →
    (∀ done d env, P done env → d ∈ ds → ∃ e, g d env = some e ∧ ∃ env', (b e = .next env' ∨ b e = .cont env') ∧ P (done ++ [d]) env') → ∃ env', forGo g b ds env = .next env' ∧ P (done ++ ds) env'
  | [], done, env, h0, _ => ⟨env, rfl, by rw [List.append_nil]; exact h0⟩
  | d :: ds, done, env, h0, hs => by
    obtain ⟨e, h1, env1, h2, h3⟩ := hs done d env h0 List.mem_cons_self
    obtain ⟨env2, h4, h5⟩ := forGo_inv P (ds := ds) h3 fun done d env p m => hs done d env p (List.mem_cons_of_mem _ m)
    refine ⟨env2, ?_, by rw [← List.append_cons] at h5; exact h5⟩
    unfold forGo
    rw [h1]
    rcases h2 with h2 | h2 <;> (dsimp only; rw [h2]; exact h4)
theorem lcGo_inv {vs : List Nat} {g : GM} {c : TM} {e : EM} (P : List D → List D → Env → Prop) : ∀ {ds done acc : List D} {env : Env}, P done acc env → done.length + ds.length ≤ 100000 → acc.length ≤ done.length →
    (∀ done acc d env, P done acc env → d ∈ ds → ∃ e1, g d env = some e1 ∧ ∃ b e2, c e1 = .ok b e2 ∧ (b = false → P (done ++ [d]) acc (wipeE e2 vs)) ∧ (b = true → ∃ x e3, e e2 = .ok x e3 ∧ P (done ++ [d]) (acc ++ [x]) (wipeE e3 vs))) →
    ∃ xs env', lcGo vs g c e ds acc env = .ok xs env' ∧ P (done ++ ds) xs env'
  | [], done, acc, env, h0, _, _, _ => ⟨acc, env, rfl, by rw [List.append_nil]; exact h0⟩
  | d :: ds, done, acc, env, h0, hl, ha, hs => by
    obtain ⟨e1, h1, b, e2, h2, h3, h4⟩ := hs done acc d env h0 List.mem_cons_self
    have hl2 : (done ++ [d]).length + ds.length ≤ 100000 := by
      rw [List.length_append]; simp only [List.length_cons, List.length_nil] at hl ⊢; omega
    have hs2 := fun done acc d' env p (m : d' ∈ ds) => hs done acc d' env p (List.mem_cons_of_mem _ m)
    unfold lcGo
    rw [h1]
    dsimp only
    rw [h2]
    simp only [Out.noX_ok, Out.bind_ok]
    cases b with
    | false =>
      obtain ⟨xs, env', h5, h6⟩ := lcGo_inv P (ds := ds) (h3 rfl) hl2 (by rw [List.length_append]; omega) hs2
      exact ⟨xs, env', by simpa using h5, by rw [← List.append_cons] at h6; exact h6⟩
    | true =>
      obtain ⟨x, e3, h5, h6⟩ := h4 rfl
      obtain ⟨xs, env', h7, h8⟩ := lcGo_inv P (ds := ds) h6 hl2 (by rw [List.length_append, List.length_append]; simpa using ha) hs2
      refine ⟨xs, env', ?_, by rw [← List.append_cons] at h8; exact h8⟩
      rw [if_pos rfl, h5]
      simp only [Out.noX_ok, Out.bind_ok]
      rw [if_pos (by simp only [List.length_cons] at hl; omega)]
      exact h7
/-- no effect: a map -/
theorem lcGo_map {vs : List Nat} {g : GM} {c : TM} {e : EM} (f : D → D) {w : Env} {ds : List D} (hl : ds.length ≤ 100000) (h : ∀ d ∈ ds, ∃ e1, g d w = some e1 ∧ ∃ e2, c e1 = .ok true e2 ∧ ∃ e3, e e2 = .ok (f d) e3 ∧ wipeE e3 vs = w) : lcGo vs g c e ds [] w = .ok (ds.map f) w := by
  obtain ⟨xs, env', h1, h2, h3⟩ := lcGo_inv (vs := vs) (g := g) (c := c) (e := e) (fun done acc env => env = w ∧ acc = done.map f) (ds := ds) (done := []) (acc := []) (env := w) ⟨rfl, rfl⟩ (by simpa using hl) (Nat.zero_le _) (fun done acc d env ⟨p1, p2⟩ m => by
    subst p1 p2
    obtain ⟨e1, q1, e2, q2, e3, q3, q4⟩ := h d m
    exact ⟨e1, q1, true, e2, q2, fun z => (by cases z), fun _ => ⟨_, e3, q3, q4, by rw [List.map_append]; rfl⟩⟩)
  rw [h1, h2, h3]; rfl
/-- no effect: a filter and a map -/
theorem lcGo_filter {vs : List Nat} {g : GM} {c : TM} {e : EM} (p : D → Bool) (f : D → D) {w : Env} {ds : List D} (hl : ds.length ≤ 100000) (h : ∀ d ∈ ds, ∃ e1, g d w = some e1 ∧ ∃ e2, c e1 = .ok (p d) e2 ∧ (p d = false → wipeE e2 vs = w) ∧ (p d = true → ∃ e3, e e2 = .ok (f d) e3 ∧ wipeE e3 vs = w)) : lcGo vs g c e ds [] w = .ok ((ds.filter p).map f) w := by
  obtain ⟨xs, env', h1, h2, h3⟩ := lcGo_inv (vs := vs) (g := g) (c := c) (e := e) (fun done acc env => env = w ∧ acc = (done.filter p).map f) (ds := ds) (done := []) (acc := []) (env := w) ⟨rfl, rfl⟩ (by simpa using hl) (Nat.zero_le _) (fun done acc d env ⟨p1, p2⟩ m => by
    subst p1 p2
    obtain ⟨e1, q1, e2, q2, q3, q4⟩ := h d m
    refine ⟨e1, q1, p d, e2, q2, fun z => ⟨q3 z, ?_⟩, fun z => ?_⟩
    · rw [List.filter_append, List.filter_cons_of_neg (by rw [z]; decide), List.filter_nil, List.append_nil]
    · obtain ⟨e3, r1, r2⟩ := q4 z
      exact ⟨_, e3, r1, r2, by rw [List.filter_append, List.filter_cons_of_pos z, List.map_append]; rfl⟩)
  rw [h1, h2, h3]; rfl
/-! with places -/
theorem forGo_at {g : GM} {b : SM} {total : List D} (P : List D → Env → Prop) : ∀ {ds done : List D} {env : Env}, total = done ++ ds → P done env →
    (∀ done d rest env, total = done ++ d :: rest → P done env → ∃ e, g d env = some e ∧ ∃ env', (b e = .next env' ∨ b e = .cont env') ∧ P (done ++ [d]) env') → ∃ env', forGo g b ds env = .next env' ∧ P total env'
  | [], done, env, ht, h0, _ => ⟨env, rfl, by rw [ht, List.append_nil]; exact h0⟩
  | d :: ds, done, env, ht, h0, hs => by
    obtain ⟨e, h1, env1, h2, h3⟩ := hs done d ds env ht h0
    obtain ⟨env2, h4, h5⟩ := forGo_at P (ds := ds) (total := total) (by rw [ht]; simp) h3 hs
    refine ⟨env2, ?_, h5⟩
    unfold forGo
    rw [h1]
    rcases h2 with h2 | h2 <;> (dsimp only; rw [h2]; exact h4)
theorem lcGo_at {vs : List Nat} {g : GM} {c : TM} {e : EM} {total : List D} (hl : total.length ≤ 100000) (P : List D → List D → Env → Prop) : ∀ {ds done acc : List D} {env : Env}, total = done ++ ds → P done acc env → acc.length ≤ done.length →
    (∀ done acc d rest env, total = done ++ d :: rest → P done acc env → ∃ e1, g d env = some e1 ∧ ∃ b e2, c e1 = .ok b e2 ∧ (b = false → P (done ++ [d]) acc (wipeE e2 vs)) ∧ (b = true → ∃ x e3, e e2 = .ok x e3 ∧ P (done ++ [d]) (acc ++ [x]) (wipeE e3 vs))) →
    ∃ xs env', lcGo vs g c e ds acc env = .ok xs env' ∧ P total xs env'
  | [], done, acc, env, ht, h0, _, _ => ⟨acc, env, rfl, by rw [ht, List.append_nil]; exact h0⟩
  | d :: ds, done, acc, env, ht, h0, ha, hs => by
    obtain ⟨e1, h1, b, e2, h2, h3, h4⟩ := hs done acc d ds env ht h0
    have ht2 : total = (done ++ [d]) ++ ds := by rw [ht]; simp
    have hz : done.length + (ds.length + 1) ≤ 100000 := by
      have := congrArg List.length ht
      rw [List.length_append, List.length_cons] at this
      omega
    unfold lcGo
    rw [h1]
    dsimp only
    rw [h2]
    simp only [Out.noX_ok, Out.bind_ok]
    cases b with
    | false =>
      obtain ⟨xs, env', h5, h6⟩ := lcGo_at hl P (ds := ds) ht2 (h3 rfl) (by rw [List.length_append]; omega) hs
      exact ⟨xs, env', by simpa using h5, h6⟩
    | true =>
      obtain ⟨x, e3, h5, h6⟩ := h4 rfl
      obtain ⟨xs, env', h7, h8⟩ := lcGo_at hl P (ds := ds) ht2 h6 (by rw [List.length_append, List.length_append]; simpa using ha) hs
      refine ⟨xs, env', ?_, h8⟩
      rw [if_pos rfl, h5]
      simp only [Out.noX_ok, Out.bind_ok]
      rw [if_pos (by omega)]
      exact h7
theorem rangeL_at {lo : Int} {n : Nat} {done rest : List D} {d : D} (h : rangeL lo n = done ++ d :: rest) : d = .int (lo + done.length) ∧ done.length < n := by
  have e : (rangeL lo n)[done.length]? = some d := by rw [h]; simp
  unfold rangeL at e
  rw [List.getElem?_map] at e
  cases q : (List.range n)[done.length]? with
  | none => rw [q] at e; cases e
  | some j =>
    rw [q] at e
    cases e
    obtain ⟨h1, h2⟩ := List.getElem?_eq_some_iff.mp q
    rw [List.getElem_range] at h2
    rw [List.length_range] at h1
    subst h2
    exact ⟨rfl, h1⟩
theorem enumL_at {ds done rest : List D} {d : D} (h : enumL 0 ds = done ++ d :: rest) : ∃ x, ds[done.length]? = some x ∧ d = .tup [.int done.length, x] := by
  have e : (enumL 0 ds)[done.length]? = some d := by rw [h]; simp
  obtain ⟨x, h1, h2⟩ := enumL_get e
  exact ⟨x, h1, by rw [h2, Nat.zero_add]⟩
end Mir
/-! MirR -/
namespace L2
open PySem PySem.Spec PyProof.Rows
/-- x( *y), x a name in slot i that holds the class at C -/
def tMakeS (K : PySem.W.Frag) (i : Nat) (C : Addr) (sp : Sp) (E : XK) (te : TE) : TE := fun σ H Q => σ[i]? = some (some (.ref C)) ∧ te σ H fun y H1 => ∃ a xs, y = V.ref a ∧ (SqT K H1 a xs ∨ SqL K H1 a xs) ∧
  ∀ x dx, H1 x = none → H1 dx = none → dx ≠ x → sp (.ref x :: (xs ++ [])) (upd (upd H1 dx (.own x)) x (.ins C dx [])) (fun v H2 => v = .non ∧ Q (.ref x) H2) E
theorem pe_makeS {X : Cx} {CX : CXT} {k i : Nat} {f C : Addr} {fd : FuncData} {ps : List Str} {sp : Sp} {E : XK} {x : Str} {p sp_ pos : Pos} {e : Expr} {te : TE} (M : Mk X.K C f) (F : FnOk X.prog X.w X.K X.mg X.base CX k f fd ps sp) (hr : Room (k + 1) X.A)
    (hN : X.N[i]? = some x) (hv : Vis X.env.scope x) (hb : Binds X.K fd ps []) (hx : Passes CX X E) (he : PE X e te)
    (hdb : (x == ("__debug__" : Str)) = false := by decide) (hcd : (x == ("__classdict__" : Str)) = false := by decide)
    (hst : starEach [.Starred e sp_] X.env = [(true, eval e X.env)] := by rfl) : PE X (.Call (.Name x p) [.Starred e sp_] [] pos) (tMakeS X.K i C sp E te) := by
  refine ⟨fun pins s σ H Q I h => ?_⟩
  obtain ⟨h0, ht⟩ := h
  refine wpAny_Call_Name_kw (thn ((pe_var (pos := p) hN hv hdb hcd).run pins s σ H (fun v H1 => v = .ref C ∧ H1 = H) I ⟨.ref C, h0, rfl, rfl⟩) fun u s1 ⟨v, H1, I1, r1, q1⟩ => ?_)
  obtain ⟨rfl, rfl⟩ := q1
  cases r1
  refine PySem.W.callWith_S (h₀ := X.base) I.ok.mod.kin M.kp (thn (he.run pins s1 σ _ _ I1 ht) fun v s2 ⟨y, H2, I2, ry, a, xs, ey, hxs, q⟩ => ?_) hst
  subst ey
  obtain rfl : v = Value.ref a := ry
  exact StX.star_any I2 hxs fun us s3 I3 rv => ⟨I3.kIn, run_make M F hr hb .nil hx I3 rv q⟩
end L2
namespace Mir
open PySem PySem.Spec PyProof.Rows L2
variable [Tbl]
/-- the class with the number c, as a value -/
abbrev D.cls (c : Nat) : D := .dic [.int (c : Int)] []
section
variable {S : Sc} {O P : List Nat} {E : XK} {μ : Mo} {fr fa fb : Bool} {ta tb : TE} {ma mb : EM} {tA : TA} {mA : AM}
theorem rep_cls {F : Addr → Prop} {H : Hp} {c : Nat} : Rep S F H (.cls c) (.ref (S.ca c)) := .inl ⟨c, rfl, rfl⟩
def eCMeth (c : Nat) (f : DM) (a : AM) : EM := fun env => (a env).bind fun ds e => (f (.cls c :: ds)).out e
@[simp] theorem ap_eCMeth {env : Env} (c : Nat) (f : DM) (a : AM) : eCMeth c f a env = (a env).bind fun ds e => (f (.cls c :: ds)).out e := rfl
theorem ref_cmeth {c n : Nat} {f : DM} (har : ∀ ds, f ds ≠ .bad → ds.length = n) (ha : RefA S O P E μ tA mA) : RefE S O P E μ fr (ClX.tCMeth (S.ca c) (fun vs H Q E => spM S fr n f (vs ++ []) H Q E) E (tC (.ref (S.ca c))) tA) (eCMeth c f mA) := by
  intro R σ H fp env I Q h
  refine ⟨rfl, ?_⟩
  refine ha R σ H fp env I _ ((Want.bind h).mono fun ds e1 H1 f1 I1 s1 h1 vs hv => ?_)
  have hall : RepL S (FM R f1 μ) H1 (.cls c :: ds) (.ref (S.ca c) :: vs ++ []) := by rw [List.append_nil]; exact .cons rep_cls hv
  refine ⟨FM R f1 μ, .cls c :: ds, ?_, fun a q => I1.fm q, hall, want_fo h1 I1 fun a q => s1.dom q, I1.tb, I1.hbH⟩
  have nb : f (.cls c :: ds) ≠ .bad := fun z => by rw [z] at h1; exact h1
  rw [hall.length, har _ nb]
def eMakeS (c i : Nat) (f : DM0) (a : EM) : EM := fun env => match env[i]? with
  | some (some (.dic [.int k] [])) => if k = (c : Int) then (a env).bind fun x e => (Out.opt x.seq e).bind fun ds e => match f (.ins c []) ds with
    | .ok d o => match d, o with
      | .non, .ins c' es => if c' = c then .ok (.ins c es) e else .bad
      | _, _ => .bad
    | _ => .bad else .bad
  | _ => .bad
@[simp] theorem ap_eMakeS {env : Env} (c i : Nat) (f : DM0) (a : EM) : eMakeS c i f a env = match env[i]? with
  | some (some (.dic [.int k] [])) => if k = (c : Int) then (a env).bind fun x e => (Out.opt x.seq e).bind fun ds e => match f (.ins c []) ds with
    | .ok d o => match d, o with
      | .non, .ins c' es => if c' = c then .ok (.ins c es) e else .bad
      | _, _ => .bad
    | _ => .bad else .bad
  | _ => .bad := rfl
theorem ref_makeS {c n i : Nat} {f : DM0} (hO : i ∉ O) (har : ∀ d ds, f d ds ≠ .bad → ds.length + 1 = n) (ha : RefE S O P E μ fa ta ma) : RefE S O P E μ false (tMakeS S.K i (S.ca c) (spM0 S n f) E ta) (eMakeS c i f ma) := by
  intro R σ H fp env I Q h
  unfold eMakeS at h
  split at h
  · rename_i k e0
    split at h
    · rename_i ek
      subst ek
      obtain ⟨v0, w1, w2⟩ := I.val i _ e0 hO
      obtain ⟨c2, w3, rfl⟩ : ∃ c2 : Nat, [D.int (c : Int)] = [.int (c2 : Int)] ∧ v0 = .ref (S.ca c2) := w2.elim id fun ⟨a, z, _⟩ => by cases z
      have : c2 = c := by
        have := (List.cons.inj w3).1
        cases this
        rfl
      subst this
      refine ⟨w1, ?_⟩
      refine ha R σ H fp env I _ ((Want.bind h).mono fun x e1 H1 f1 I1 s1 h1 v hv _ => ?_)
      have h5 := Want.bind h1
      obtain ⟨ds, hd⟩ := want_some h5
      rw [hd] at h5
      have h1 := h5 H1 f1 I1 Stp.refl
      dsimp only at h1
      have hvr := hv.rep
      obtain ⟨a, vs, rfl, hq, hvs⟩ : ∃ a vs, v = .ref a ∧ (SqT S.K H1 a vs ∨ SqL S.K H1 a vs) ∧ RepL S (FM R f1 μ) H1 ds vs := by
        cases x with
        | tup es =>
          cases hd
          obtain ⟨a, vs, rfl, q1, q2⟩ := hvr
          exact ⟨a, vs, rfl, .inl q1, q2⟩
        | lst es =>
          cases hd
          obtain ⟨a, vs, rfl, _, q1, q2⟩ := hvr
          exact ⟨a, vs, rfl, .inr (.inl (.inl q1)), q2⟩
        | _ => cases hd
      refine ⟨a, vs, rfl, hq, fun x dx hx hdx ne => ?_⟩
      have g1 : Ext Nil H1 (upd H1 dx (.own x)) := Ext.new hdx
      have g2 : Ext Nil (upd H1 dx (.own x)) (upd (upd H1 dx (.own x)) x (.ins (S.ca c2) dx [])) := Ext.new (by rw [upd_ne (Ne.symm ne)]; exact hx)
      have g := g1.trans g2
      cases q : f (.ins c2 []) ds with
      | bad => rw [q] at h1; exact h1.elim
      | exc y o => rw [q] at h1; exact h1.elim
      | ok d o =>
        have hn : vs.length + 1 = n := by
          have nb : f (.ins c2 []) ds ≠ .bad := fun z => by rw [q] at z; cases z
          rw [hvs.length]
          exact har _ _ nb
        refine ⟨FM R f1 μ, .ins c2 [], ds, x, vs ++ [], [x], rfl, by rw [List.append_nil, List.length_cons, hn], fun a q => g.dom (I1.fm q), fun a q => ?_, by simp, ⟨rfl, dx, [], upd_same, rfl, rfl⟩, ?_, ?_, tb_ext g I1.tb, I1.hbH.trans g, fun y z => by rw [List.mem_singleton.mp z]; exact hb_new I1.hbH hx⟩
        · rw [List.mem_singleton.mp q, upd_same]
          exact fun z => nomatch z
        · rw [List.append_nil]
          exact (hvs.less (F' := fun y => FM R f1 μ y ∨ y ∈ [x]) fun a z => z.imp id fun q => by rw [List.mem_singleton.mp q]; exact hx).grow g
        · rw [q] at h1 ⊢
          dsimp only at h1
          intro v H' l' w hO' hnd hal hr
          split at h1
          · rename_i c' es
            split at h1
            · rename_i ec
              subst ec
              have ex : Ext Nil H1 H' := g.seq w.1 fun y z => .inr (by rw [List.mem_singleton.mp z]; exact hx)
              obtain ⟨el, dx', fs, q1, q2, q3⟩ := hO'
              refine ⟨hr, ?_⟩
              exact h1 H' f1 (I1.grow ex) (Stp.grow ex) _ ⟨x, dx', fs, rfl, fun z => I1.fm z hx, q1, q2, q3.less fun a z => .inl (.inl z)⟩ sep0
            · exact h1.elim
          · exact h1.elim
    · exact h.elim
  · exact h.elim
end
end Mir
/-! MirS -/
namespace Mir
open PySem PySem.Spec PyProof.Rows L2
variable [Tbl]
theorem bt_max : bootBuiltins "max" = some (.builtin "max") := by decide +kernel
theorem bt_min : bootBuiltins "min" = some (.builtin "min") := by decide +kernel
theorem bt_divmod : bootBuiltins "divmod" = some (.builtin "divmod") := by decide +kernel
def A2 (f : D → D → Option D) : List D → Option D
  | [x, y] => f x y
  | _ => none
@[simp] theorem ap_A2 (f : D → D → Option D) (x y : D) : A2 f [x, y] = f x y := rfl
section
variable {S : Sc}
def oMax2 := oI fun i j => some (.int (if j > i then j else i))
def oMin2 := oI fun i j => some (.int (if j < i then j else i))
@[simp] theorem oMax2_int (i j : Int) : oMax2 (.int i) (.int j) = some (.int (if j > i then j else i)) := rfl
@[simp] theorem oMin2_int (i j : Int) : oMin2 (.int i) (.int j) = some (.int (if j < i then j else i)) := rfl
def rMax2 : List V → Hp → VK → Prop := fun xs H Q => ∃ i j, xs = [.int i, .int j] ∧ Q (.int (if j > i then j else i)) H
def rMin2 : List V → Hp → VK → Prop := fun xs H Q => ∃ i j, xs = [.int i, .int j] ∧ Q (.int (if j < i then j else i)) H
theorem opA_I2 {g : Int → Int → Int} {f : D → D → Option D} (hf : f = oI fun i j => some (.int (g i j))) : OpA S false (fun xs H Q => ∃ i j, xs = [.int i, .int j] ∧ Q (.int (g i j)) H) (A2 f) := fun F H xs vs z Q hF hx hz k => by
  subst hf
  match xs, hz with
  | [x, y], hz =>
    obtain ⟨v, r, rfl, h1, u, r2, rfl, h2, h3⟩ := hx
    cases (show r2 = _ from h3)
    cases x with
    | int i =>
      cases y with
      | int j =>
        cases hz
        cases (show v = _ from h1)
        cases (show u = _ from h2)
        exact ⟨i, j, rfl, k _ H (Ext.refl _ _) rfl⟩
      | _ => cases hz
    | _ => cases hz
theorem oA_max2 : OpA S false rMax2 (A2 oMax2) := opA_I2 rfl
theorem oA_min2 : OpA S false rMin2 (A2 oMin2) := opA_I2 rfl
/-! list(range(n)), tuple(range(n)) -/
theorem rangeL_rg {F : Addr → Prop} {H : Hp} {n : Int} : RepL S F H (rangeL 0 n.toNat) (rgV 0 n) := by
  unfold rangeL rgV
  rw [show n - 0 = n by omega]
  have key : ∀ l : List Nat, RepL S F H (l.map fun i => D.int (0 + (i : Nat))) (l.map fun i => V.int (0 + (i : Nat))) := by
    intro l
    induction l with
    | nil => exact .nil
    | cons x l ih => exact .cons rfl ih
  exact key _
theorem rgOk_of {n : Int} (h : n ≤ 1000) (h0 : -1000 ≤ n) : RgOk 0 n := ⟨by omega, by omega, by omega, by omega, by omega⟩
def eRg (t : Bool) (a : EM) : EM := fun env => (a env).bind fun x e => (Out.opt x.toI e).bind fun n e => if n ≤ 1000 ∧ -1000 ≤ n then .ok (if t then .tup (rangeL 0 n.toNat) else .lst (rangeL 0 n.toNat)) e else .bad
@[simp] theorem ap_eRg {env : Env} (t : Bool) (a : EM) : eRg t a env = (a env).bind fun x e => (Out.opt x.toI e).bind fun n e => if n ≤ 1000 ∧ -1000 ≤ n then .ok (if t then .tup (rangeL 0 n.toNat) else .lst (rangeL 0 n.toNat)) e else .bad := rfl
section
variable {O P : List Nat} {E : XK} {μ : Mo} {fa : Bool} {ta : TE} {ma : EM}
theorem ref_lstRg (ha : RefE S O P E μ fa ta ma) : RefE S O P E μ true (tLstRg (tRg1 ta)) (eRg false ma) := by
  intro R σ H fp env I Q h
  refine ha R σ H fp env I _ ((Want.bind h).mono fun x e1 H1 f1 I1 s1 h1 v hv _ => ?_)
  have h5 := Want.bind h1
  obtain ⟨n, hd⟩ := want_some h5
  rw [hd] at h5
  have h6 := h5 H1 f1 I1 Stp.refl
  dsimp only at h6
  have hw := hv.rep
  cases x with
  | int j =>
    cases hd
    split at h6
    · rename_i hc
      refine ⟨n, hw, rgOk_of hc.1 hc.2, fun q hq => ?_⟩
      have hz : (Out.ok (if false = true then D.tup (rangeL 0 n.toNat) else D.lst (rangeL 0 n.toNat)) e1 : Out D) = Out.opt (some (.lst (rangeL 0 n.toNat))) e1 := rfl
      rw [hz] at h6
      exact want_opt h6 rfl I1 (fun a q => s1.dom q) (Ext.new hq) ⟨q, _, _, rfl, hq, rfl, upd_same, fun z => I1.fm z hq, rangeL_rg⟩
    · exact h6.elim
  | _ => cases hd
theorem ref_tupRg (ha : RefE S O P E μ fa ta ma) : RefE S O P E μ false (tTupRg (tRg1 ta)) (eRg true ma) := by
  intro R σ H fp env I Q h
  refine ha R σ H fp env I _ ((Want.bind h).mono fun x e1 H1 f1 I1 s1 h1 v hv _ => ?_)
  have h5 := Want.bind h1
  obtain ⟨n, hd⟩ := want_some h5
  rw [hd] at h5
  have h6 := h5 H1 f1 I1 Stp.refl
  dsimp only at h6
  have hw := hv.rep
  cases x with
  | int j =>
    cases hd
    split at h6
    · rename_i hc
      refine ⟨n, hw, rgOk_of hc.1 hc.2, fun q hq => ?_⟩
      have hz : (Out.ok (if true = true then D.tup (rangeL 0 n.toNat) else D.lst (rangeL 0 n.toNat)) e1 : Out D) = Out.opt (some (.tup (rangeL 0 n.toNat))) e1 := rfl
      rw [hz] at h6
      exact want_opt h6 rfl I1 (fun a q => s1.dom q) (Ext.new hq) ⟨q, _, rfl, .inl (.inl upd_same), rangeL_rg⟩
    · exact h6.elim
  | _ => cases hd
end
end
end Mir
/-! MirT -/
/-! MirT: a dict whose keys are nested tuples, as one tracked thing. -/
namespace Mir
open PySem PySem.Spec PyProof.Rows L2
variable [Tbl]
mutual
def keyD : D → NestedKey
  | .bl b => .num (if b = true then 1 else 0)
  | .int i => .num i
  | .str x => .text x
  | .tup ds => .tup (keyL ds)
  | _ => .none
def keyL : List D → List NestedKey
  | [] => []
  | d :: ds => keyD d :: keyL ds
end
section
variable {S : Sc} {X : Cx} {pins : List (Addr × Obj)} {σ : L2.St} {H : Hp} {s : Shared} {F : Addr → Prop}
mutual
theorem nis (hK : S.K = X.K) (I : Inv X pins σ H s) : ∀ (d : D) (v : V) (u : Value), d.pure = true → Rep S F H d v → RelV v u → NestedIs s.heap (keyD d) u
  | .non, v, u, _, r, q => by
    cases (show v = _ from r); cases (show u = _ from q); exact .none
  | .bl b, v, u, _, r, q => by
    cases (show v = _ from r); cases (show u = _ from q); exact .bool rfl
  | .int i, v, u, _, r, q => by
    cases (show v = _ from r); obtain ⟨t, rfl⟩ := q; exact .int i t
  | .str x, v, u, _, r, q => by
    cases (show v = _ from r); obtain ⟨t, rfl⟩ := q; exact .text x t
  | .tup ds, v, u, p, r, q => by
    obtain ⟨a, vs, rfl, h1, h2⟩ := r
    cases (show u = _ from q)
    rw [hK] at h1
    obtain ⟨its, r1, ⟨o, e1, e2, n, e3⟩, _⟩ := I.tuple h1
    exact .tup e1 e2 e3 (by simpa using nisL hK I ds vs its p h2 r1)
  | .lst _, _, _, p, _, _ => by cases p
  | .ins _ _, _, _, p, _, _ => by cases p
  | .dic _ _, _, _, p, _, _ => by cases p
theorem nisL (hK : S.K = X.K) (I : Inv X pins σ H s) : ∀ (ds : List D) (vs : List V) (us : List Value), D.pureL ds = true → RepL S F H ds vs → Vals vs us → NestedAll s.heap (keyL ds) us
  | [], vs, us, _, r, q => by
    cases (show vs = _ from r); cases q; exact .nil
  | d :: ds, vs, us, p, r, q => by
    obtain ⟨v, rr, rfl, h1, h2⟩ := r
    cases q with
    | cons a b =>
      have p := Bool.and_eq_true_iff.mp p
      exact .cons (nis hK I d v _ p.1 h1 a) (nisL hK I ds rr _ p.2 h2 b)
end
end
/-- the abstract heap has the key d at a -/
def KeyAt (S : Sc) (H : Hp) (d : D) (a : Addr) : Prop := d.pure = true ∧ (keyD d).depth ≤ 8 ∧ Rep S Nil H d (.ref a)
theorem KeyAt.grow {S : Sc} {H H' : Hp} {d : D} {a : Addr} (h : KeyAt S H d a) (e : Ext (fun _ => False) H H') : KeyAt S H' d a := ⟨h.1, h.2.1, h.2.2.grow e⟩
abbrev NE := D × Addr × V
def nval (kvs : List NE) (k : NestedKey) : Option V := (kvs.find? fun x => decide (keyD x.1 = k)).map (·.2.2)
abbrev NP : List NE → List (NestedKey × Addr × Value) → Prop := Paired fun p q => keyD p.1 = q.1 ∧ p.2.1 = q.2.1 ∧ RelV p.2.2 q.2.2
theorem NP.val {kvs : List NE} {xs : List (NestedKey × Addr × Value)} (r : NP kvs xs) (k : NestedKey) : RelO (nval kvs k) ((atKey xs k).map (·.2)) := by
  induction r with
  | nil => exact True.intro
  | @cons p q ps qs h t ih =>
    obtain ⟨h1, _, h2⟩ := h
    by_cases e : keyD p.1 = k
    · have e' : q.1 = k := h1.symm.trans e
      have b : atKey (q :: qs) k = some q.2 := by simp [atKey, List.find?_cons, e']
      have c : nval (p :: ps) k = some p.2.2 := by simp [nval, List.find?_cons, e]
      rw [b, c]; exact h2
    · have e' : ¬ q.1 = k := fun z => e (h1.trans z)
      have b : atKey (q :: qs) k = atKey qs k := by simp [atKey, List.find?_cons, e']
      have c : nval (p :: ps) k = nval ps k := by simp [nval, List.find?_cons, e]
      rw [b, c]; exact ih
/-- such a dict at a -/
def NDp (P : Program) (w : World) (a : Addr) (kvs : List NE) (h : Heap) : Prop := kvs.length ≤ sizeLine ∧ (a == sysModules) = false ∧ ∃ xs : List (NestedKey × Addr × Value), NP kvs xs ∧
  ∃ o es ep, h.get? a = some o ∧ o.ExactDict ∧ o.data = .dict es ep ∧ es.toList = xs.map (entryOfKey (nestedKind P w)) ∧ (xs.map (·.1)).Nodup
def ndo (P : Program) (w : World) (a : Addr) (kvs : List NE) : HO := .ext (NDp P w a kvs)
theorem ndo_nc {P : Program} {w : World} {a : Addr} {kvs : List NE} : NY a (ndo P w a kvs) := by
  refine ⟨True.intro, fun q z => ?_⟩
  unfold ndo LamX.CodeO at z
  injection z with e
  have g : (⟨Array.replicate (a + 1) { cls := .none, data := .fields #[.none, .str q default] }, {}⟩ : Heap).get? a = some { cls := .none, data := .fields #[.none, .str q default] } := by
    unfold Heap.get?
    simp
  have r := congrFun e ⟨Array.replicate (a + 1) { cls := .none, data := .fields #[.none, .str q default] }, {}⟩
  have r2 : NDp P w a kvs ⟨Array.replicate (a + 1) { cls := .none, data := .fields #[.none, .str q default] }, {}⟩ := by
    rw [r]
    exact ⟨_, _, default, g, rfl, rfl⟩
  obtain ⟨_, _, xs, _, o, es, ep, g', _, d, _⟩ := r2
  rw [g] at g'
  cases g'
  cases d
theorem ndo_ok {P : Program} {w : World} {H : Hp} {h : Heap} {a : Addr} {kvs : List NE} (x : NDp P w a kvs h) : ObjOk P w H h a (ndo P w a kvs) := by
  refine ⟨x, ?_, fun h1 h2 y k => ?_⟩
  · obtain ⟨_, _, xs, _, o, es, ep, e, _⟩ := x
    exact ⟨o, e⟩
  · obtain ⟨z, y1, xs, r, o, es, ep, e, q⟩ := y
    exact ⟨z, y1, xs, r, o, es, ep, k _ e, q⟩
theorem ndo_of {P : Program} {w : World} {H : Hp} {h : Heap} {a : Addr} {kvs : List NE} (ok : HOk P w H h) (e : H a = some (ndo P w a kvs)) : NDp P w a kvs h := (ok a _ e).1
section
variable {S : Sc} {X : Cx} {pins : List (Addr × Obj)} {σ : L2.St} {H : Hp} {s : Shared} {a b : Addr} {kvs : List NE} {d : D} {A : Around} {E : Value → Shared → Prop}
theorem keyAt_is (hK : S.K = X.K) (I : Inv X pins σ H s) (k : KeyAt S H d b) : (nestedKind X.prog X.w).is s.heap (keyD d) b := ⟨nis hK I d (.ref b) (.ref b) k.1 k.2.2 rfl, k.2.1⟩
theorem np_all (hK : S.K = X.K) (I : Inv X pins σ H s) : ∀ {kvs : List NE} {xs : List (NestedKey × Addr × Value)}, NP kvs xs → (∀ e ∈ kvs, KeyAt S H e.1 e.2.1) → ∀ x ∈ xs, (nestedKind X.prog X.w).is s.heap x.1 x.2.1 := by
  intro kvs xs q
  induction q with
  | nil => intro _ x hx; exact nomatch hx
  | @cons p q ps qs hq t ih =>
    intro all x hx
    rcases List.mem_cons.mp hx with e | hx
    · subst e
      rw [← hq.1, ← hq.2.1]
      exact keyAt_is hK I (all p List.mem_cons_self)
    · exact ih (fun e he => all e (List.mem_cons_of_mem _ he)) x hx
theorem nd_at (hK : S.K = X.K) (I : Inv X pins σ H s) (e : H a = some (ndo X.prog X.w a kvs)) (all : ∀ e ∈ kvs, KeyAt S H e.1 e.2.1) : kvs.length ≤ sizeLine ∧ (a == sysModules) = false ∧ ∃ xs, NP kvs xs ∧ s.heap.DictOfH (nestedKind X.prog X.w) a xs := by
  obtain ⟨z, y, xs, r, o, es, ep, h1, h2, h3, h4, h5⟩ := ndo_of I.hok e
  exact ⟨z, y, xs, r, o, es, ep, h1, h2, h3, h4, np_all hK I r all, h5⟩
theorem nd_in {Q : Value → Shared → Prop} (hu : (nestedKind X.prog X.w).room A.in1) (hK : S.K = X.K) (I : Inv X pins σ H s) (e : H a = some (ndo X.prog X.w a kvs)) (all : ∀ e ∈ kvs, KeyAt S H e.1 e.2.1) (k : KeyAt S H d b) (h : ∀ s', Inv X pins σ H s' → Q (.bool (nval kvs (keyD d)).isSome) s') :
    wpAny (model X.prog X.w) A (compareOp .In (.ref b) (.ref a)) Q E s := by
  obtain ⟨z, hd, xs, rel, dd⟩ := nd_at hK I e all
  refine wpAny_in_heap hu (keyAt_is hK I k) hd dd ?_
  have q := (NP.val rel (keyD d)).isSome_eq
  rw [Option.isSome_map] at q
  rw [← q]
  exact h _ (I.tok _)
theorem nd_getItem {v : V} {Q : Value → Shared → Prop} (hu : (nestedKind X.prog X.w).room A.in1) (hK : S.K = X.K) (I : Inv X pins σ H s) (e : H a = some (ndo X.prog X.w a kvs)) (all : ∀ e ∈ kvs, KeyAt S H e.1 e.2.1) (k : KeyAt S H d b) (l : nval kvs (keyD d) = some v) (h : ∀ w' s', Inv X pins σ H s' → RelV v w' → Q w' s') :
    wpAny (model X.prog X.w) A (getItem (.ref a) (.ref b)) Q E s := by
  obtain ⟨z, hd, xs, rel, dd⟩ := nd_at hK I e all
  obtain ⟨w', hw, rw'⟩ := RelO.some_of (v := v) (o := (atKey xs (keyD d)).map (·.2)) (by rw [← l]; exact NP.val rel (keyD d))
  obtain ⟨p, hp, hp2⟩ := Option.map_eq_some_iff.mp hw
  refine wpAny_getItem_heap hu (keyAt_is hK I k) dd hp ?_
  rw [hp2]
  exact h w' _ (I.tok _) rw'
theorem nd_setItem {v : V} {r : Value} {Q : Unit → Shared → Prop} (hu : (nestedKind X.prog X.w).room A.in1) (hK : S.K = X.K) (I : Inv X pins σ H s) (e : H a = some (ndo X.prog X.w a kvs)) (all : ∀ e ∈ kvs, KeyAt S H e.1 e.2.1) (k : KeyAt S H d b) (l : nval kvs (keyD d) = none) (hz : kvs.length < sizeLine) (rv : RelV v r)
    (h : ∀ s', Inv X pins σ (upd H a (ndo X.prog X.w a (kvs ++ [(d, b, v)]))) s' → Q () s') :
    wpAny (model X.prog X.w) A (setItem (.ref a) (.ref b) r) Q E s := by
  obtain ⟨z, hd, xs, rel, dd⟩ := nd_at hK I e all
  have hl : xs.length = kvs.length := (Paired.length rel).symm
  refine wpAny_setItem_heap (hsz := by omega) hu (keyAt_is hK I k) dd fun h' dd' hs => h _ ?_
  have hn : atKey xs (keyD d) = none := by
    have q := (NP.val rel (keyD d)).isSome_eq
    rw [Option.isSome_map, l] at q
    cases w : atKey xs (keyD d) with
    | none => rfl
    | some _ => rw [w] at q; cases q
  rw [storedH_new hn] at dd'
  obtain ⟨q, es, ep, hq, h2, h3, h4, _, h5⟩ := dd'
  refine d_write I (by rw [e]; exact True.intro) hs ⟨q, hq⟩ (ndo_ok ⟨?_, hd, _, Paired.snoc rel ⟨rfl, rfl, rv⟩, q, es, ep, hq, h2, h3, h4, h5⟩)
  rw [List.length_append, List.length_singleton]
  omega
end
end Mir
namespace Mir
open PySem PySem.Spec PyProof.Rows L2
variable [Tbl]
/-! readings -/
/-- y in d -/
def tNIn (S : Sc) (X : Cx) (ty td : TE) : TE := fun σ H Q => ty σ H fun y H1 => td σ H1 fun x H2 => ∃ a kvs d b, x = .ref a ∧ y = .ref b ∧ H2 a = some (ndo X.prog X.w a kvs) ∧ (∀ e ∈ kvs, KeyAt S H2 e.1 e.2.1) ∧ KeyAt S H2 d b ∧ Q (.bl (nval kvs (keyD d)).isSome) H2
/-- d[y] -/
def tNGet (S : Sc) (X : Cx) (td ty : TE) : TE := fun σ H Q => td σ H fun x H1 => ty σ H1 fun y H2 => ∃ a kvs d b v, x = .ref a ∧ y = .ref b ∧ H2 a = some (ndo X.prog X.w a kvs) ∧ (∀ e ∈ kvs, KeyAt S H2 e.1 e.2.1) ∧ KeyAt S H2 d b ∧ nval kvs (keyD d) = some v ∧ Q v H2
/-- d[y] = v, a new key -/
def sNPut (S : Sc) (X : Cx) (td ty tv : TE) : TS := fun D σ H => tv σ H fun v H1 => td σ H1 fun x H2 => ty σ H2 fun y H3 => ∃ a kvs d b, x = .ref a ∧ y = .ref b ∧ H3 a = some (ndo X.prog X.w a kvs) ∧ (∀ e ∈ kvs, KeyAt S H3 e.1 e.2.1) ∧ KeyAt S H3 d b ∧ nval kvs (keyD d) = none ∧ kvs.length < sizeLine ∧ D.nx σ (upd H3 a (ndo X.prog X.w a (kvs ++ [(d, b, v)])))
/-- {} -/
def tNNew (X : Cx) : TE := fun _ H Q => ∀ p, H p = none → Q (.ref p) (upd H p (ndo X.prog X.w p []))
section
variable {S : Sc} {X : Cx} {o i value : Expr} {pos pos' : Pos} {td ty tv : TE}
theorem nd_typeIs {pins : List (Addr × Obj)} {σ : L2.St} {H : Hp} {s : Shared} {a : Addr} {kvs : List NE} (I : Inv X pins σ H s) (e : H a = some (ndo X.prog X.w a kvs)) : s.TypeIs (.ref a) "dict" := by
  obtain ⟨_, _, xs, _, ob, _, _, h1, h2, _⟩ := ndo_of I.hok e
  exact ⟨ob, h1, h2.1⟩
theorem pe_nget (hu : (nestedKind X.prog X.w).room X.A.in1) (hK : S.K = X.K) (ho : PE X o td) (hi : PE X i ty) (hs : NoSl i) : PE X (.Subscript o i pos) (tNGet S X td ty) := by
  refine ⟨fun pins s σ H Q I h => ?_⟩
  refine subD_of PySem.F.slot_dict_getitem.lookup hs (thn (ho.run pins s σ H _ I h) fun u s1 ⟨x, H1, I1, rx, q1⟩ => thn (hi.run pins s1 σ H1 _ I1 q1) fun iv s2 ⟨y, H2, I2, ry, a, kvs, d, b, v, ex, ey, e, all, k, l, q2⟩ => ?_)
  subst ex ey
  obtain rfl : u = Value.ref a := rx
  obtain rfl : iv = Value.ref b := ry
  exact ⟨nd_typeIs I2 e, nd_getItem hu hK I2 e all k l fun w' s3 I3 rw' => ⟨v, H2, I3, rw', q2⟩⟩
theorem pc_nin (hu : (nestedKind X.prog X.w).room X.A.in1) (hK : S.K = X.K) (hi : PE X i ty) (ho : PE X o td) : PC X .In i o (tNIn S X ty td) := by
  refine ⟨fun pins s σ H Q I h => ?_⟩
  refine thn (hi.run pins s σ H _ I h) fun iv s1 ⟨y, H1, I1, ry, q1⟩ => thn (ho.run pins s1 σ H1 _ I1 q1) fun u s2 ⟨x, H2, I2, rx, a, kvs, d, b, ex, ey, e, all, k, q2⟩ => ?_
  subst ex ey
  obtain rfl : u = Value.ref a := rx
  obtain rfl : iv = Value.ref b := ry
  exact nd_in hu hK I2 e all k fun s3 I3 => ⟨.bl (nval kvs (keyD d)).isSome, H2, I3, rfl, q2⟩
theorem ps_nput (hu : (nestedKind X.prog X.w).room X.A.in1) (hK : S.K = X.K) (ho : PE X o td) (hi : PE X i ty) (hv : PE X value tv) (hs : swapsWith value (some (.Subscript o i pos')) pos.line X.env = pure false) :
    PS X (.Assign [.Subscript o i pos'] value pos) (sNPut S X td ty tv) := by
  refine ⟨fun pins s σ H D I h => ?_⟩
  refine wpAny_Assign_Subscript (thn (hv.run pins s σ H _ I h) fun r s1 ⟨v, H1, I1, rv, q1⟩ => thn (ho.run pins s1 σ H1 _ I1 q1) fun u s2 ⟨x, H2, I2, rx, q2⟩ => thn (hi.run pins s2 σ H2 _ I2 q2) fun iv s3 ⟨y, H3, I3, ry, a, kvs, d, b, ex, ey, e, all, k, l, hz, q3⟩ => ?_) hs
  subst ex ey
  obtain rfl : u = Value.ref a := rx
  obtain rfl : iv = Value.ref b := ry
  exact nd_setItem hu hK I3 e all k l hz rv fun s4 I4 => ⟨σ, _, I4, q3⟩
theorem nd_empty {P : Program} {w : World} {H : Hp} (h : Heap) (hb : sysModules < h.objs.size) : ObjOk P w H (h.push { cls := .type "dict", data := .dict #[] }) h.objs.size (ndo P w h.objs.size []) :=
  ndo_ok ⟨Nat.zero_le _, beq_eq_false_iff_ne.mpr (Ne.symm (Nat.ne_of_lt hb)), [], .nil, _, #[], 0, Heap.get?_push_size _ rfl, ⟨rfl, rfl, rfl⟩, rfl, rfl, List.nodup_nil⟩
theorem pe_nnew : PE X (.Dict [] [] pos) (tNNew X) := ⟨fun pins s σ H Q I h =>
  wpAny_Dict_empty ⟨.ref s.heap.objs.size, _, I.laid (a := s.heap.objs.size) (o := ndo X.prog X.w s.heap.objs.size []) (t' := s.toks) (fun _ _ q => Heap.get?_push_of_some _ q) (Nat.le_refl _) (nd_empty s.heap I.big), rfl, h _ (I.hok.fresh (Nat.le_refl _))⟩⟩
end
end Mir
/-! MirU -/
/-! MirU: frames with no own slot, whose forbidden things are changed by hand. -/
namespace Mir
open PySem PySem.Spec PyProof.Rows L2
variable [Tbl]
/-- a frame without own slots; G: what no slot meets -/
def GRel (S : Sc) (G : Addr → Prop) (σ : L2.St) (H : Hp) (env : Env) : Prop := Rel S [] [] ⟨G, Nil, H⟩ σ H (fun _ => []) env
section
variable {S : Sc} {G G' : Addr → Prop} {σ σ' : L2.St} {H H' : Hp} {env env' : Env} {R : Rx} {fp : Fp}
theorem fs_none {R : Rx} {a : Addr} (h : Fs R (fun _ => []) a) : R.G a := h.elim id fun ⟨_, z⟩ => nomatch z
theorem fp_none (I : Rel S [] [] R σ H fp env) : fp = fun _ => [] := funext fun i => I.non i (.inl (List.not_mem_nil))
theorem GRel.of (I : Rel S [] [] R σ H fp env) (hg : R.G = G) : GRel S G σ H env := by
  subst hg
  have e := fp_none I
  subst e
  exact ⟨I.len, fun i d h1 h2 => let ⟨v, a, b⟩ := I.val i d h1 h2; ⟨v, a, b.less fun x z => .inl (.inl (fs_none z))⟩, fun i d _ h2 => (nomatch h2), fun _ _ => rfl, fun i j a h => (nomatch h), fun _ => List.nodup_nil, fun i a h => (nomatch h),
    Ext.refl _ _, I.gl, fun i a h => (nomatch h), fun _ h => h, fun a h => h.elim, I.tb, ⟨I.hbH, fun a h => h.elim⟩⟩
/-- what is forbidden is changed -/
theorem GRel.mut (I : GRel S G σ H env) (e : Ext G H H') (hbe : Ext Nil S.Hb H') (g : ∀ a, G a → H' a ≠ none) (dom : ∀ a, H a ≠ none → H' a ≠ none) : GRel S G σ H' env := by
  have w : Fwd (Fs ⟨G, Nil, H⟩ (fun _ => [])) H (Fs ⟨G, Nil, H'⟩ (fun _ => [])) H' := ⟨e.mono fun a z => .inl z, fun a z => .inl (.inl (fs_none z)), dom⟩
  exact ⟨I.len, fun i d h1 h2 => let ⟨v, a, b⟩ := I.val i d h1 h2; ⟨v, a, Rep.fwd w _ _ b⟩, fun i d _ h2 => (nomatch h2), fun _ _ => rfl, fun i j a h => (nomatch h), fun _ => List.nodup_nil, fun i a h => (nomatch h),
    Ext.refl _ _, g, fun i a h => (nomatch h), fun _ h => h, fun a h => h.elim, tb_ext e I.tb, ⟨hbe, fun a h => h.elim⟩⟩
/-- one thing in G is written -/
theorem GRel.upd (I : GRel S G σ H env) {a : Addr} (ga : G a) (o : HO) {o0 : HO} (ha : H a = some o0) (nb : S.Hb a = none) (mu : Mut (some o0) := by trivial) (ny : NY a o0 := by first | exact NX.y (by trivial) | exact ndo_nc) : GRel S G σ (L2.upd H a o) env := by
  refine I.mut (ext_againY (Ext.refl _ _) ha (.inl ga) mu ny) (ext_againY I.hbH ha (.inr nb) mu ny) (fun b h => ?_) fun b h => ?_
  · by_cases e : b = a
    · rw [e, upd_same]; exact fun z => nomatch z
    · rw [upd_ne e]; exact I.gl b h
  · by_cases e : b = a
    · rw [e, upd_same]; exact fun z => nomatch z
    · rw [upd_ne e]; exact h
/-- one more thing is forbidden, a new one -/
theorem GRel.new (I : GRel S G σ H env) {p : Addr} {o : HO} (hp : H p = none) : GRel S (fun x => G x ∨ x = p) σ (L2.upd H p o) env :=
  GRel.of (R := Rx.plus ⟨G, Nil, H⟩ p) (I.plus (H' := L2.upd H p o) hp (Ext.new hp) (by rw [upd_same]; exact fun z => nomatch z)) rfl
/-- a ghost slot is set -/
theorem GRel.ghost (I : GRel S G σ H env) {i : Nat} {v : V} (hi : ∀ d, env[i]? ≠ some (some d)) : GRel S G (σ.set i (some v)) H env := by
  refine ⟨by rw [List.length_set]; exact I.len, fun j d h1 h2 => ?_, fun j d _ h2 => (nomatch h2), fun _ _ => rfl, fun i j a h => (nomatch h), fun _ => List.nodup_nil, fun i a h => (nomatch h), I.ext, I.gl, fun i a h => (nomatch h), I.dom, I.mh, I.tb, ⟨I.hb.e, I.hb.m⟩⟩
  have ne : i ≠ j := fun z => hi d (by rw [z]; exact h1)
  rw [List.getElem?_set_ne ne]
  exact I.val j d h1 h2
end
end Mir
/-! MirV -/
/-! MirV: the walk through Story.__init__: own fields with lists, and a dict of keys. -/
namespace Mir
open PySem PySem.Spec PyProof.Rows L2
variable [Tbl]
section
variable {S : Sc}
mutual
theorem rep_pureX {M F F' : Addr → Prop} {H H' : Hp} (e : Ext M H H') : ∀ (d : D) (v : V), d.pure = true → Rep S F H d v → Rep S F' H' d v
  | .non, _, _, h => h
  | .bl _, _, _, h => h
  | .int _, _, _, h => h
  | .str _, _, _, h => h
  | .tup ds, v, p, h => by
    obtain ⟨a, vs, rfl, h1, h2⟩ := h
    exact ⟨a, vs, rfl, sqt_ext e h1, repL_pureX e ds vs p h2⟩
  | .lst _, _, p, _ => by cases p
  | .ins _ _, _, p, _ => by cases p
  | .dic _ _, _, p, _ => by cases p
theorem repL_pureX {M F F' : Addr → Prop} {H H' : Hp} (e : Ext M H H') : ∀ (ds : List D) (vs : List V), D.pureL ds = true → RepL S F H ds vs → RepL S F' H' ds vs
  | [], _, _, h => h
  | d :: ds, vs, p, h => by
    obtain ⟨v, r, rfl, h1, h2⟩ := h
    have p := (Bool.and_eq_true_iff.mp p)
    exact ⟨v, r, rfl, rep_pureX e d v p.1 h1, repL_pureX e ds r p.2 h2⟩
end
theorem KeyAt.ext {M : Addr → Prop} {H H' : Hp} {d : D} {a : Addr} (h : KeyAt S H d a) (e : Ext M H H') : KeyAt S H' d a := ⟨h.1, h.2.1, rep_pureX e d _ h.1 h.2.2⟩
theorem GRel.expr {E : XK} {G : Addr → Prop} {t : TE} {m : EM} {σ : L2.St} {H : Hp} {env : Env} {d : D} {Q : VK} (hr : RefE S [] [] E none false t m) (I : GRel S G σ H env) (hm : m env = .ok d env) (k : ∀ v H', GRel S G σ H' env → Ext Nil H H' → Rep S G H' d v → Q v H') : t σ H Q := by
  refine hr ⟨G, Nil, H⟩ σ H (fun _ => []) env I Q ?_
  rw [hm]
  intro H' fp' I' s' v hv _
  have s : Fwd (Lv fun _ => []) H (Lv fp') H' := s'
  exact k v H' (GRel.of I' rfl) (s.1.mono fun a ⟨i, z⟩ => nomatch z) (hv.rep.less fun a z => .inl (.inl z))
theorem GRel.set {G : Addr → Prop} {σ : L2.St} {H : Hp} {env : Env} {i : Nat} {d : D} {v : V} (I : GRel S G σ H env) (r : Rep S G H d v) : GRel S G (σ.set i (some v)) H (env.set i (some d)) :=
  Rel.set I (by simp) (r.less fun a z => .inl (fs_none z))
theorem GRel.get {G : Addr → Prop} {σ : L2.St} {H : Hp} {env : Env} {i : Nat} {d : D} (I : GRel S G σ H env) (h : env[i]? = some (some d)) : ∃ v, σ[i]? = some (some v) ∧ Rep S G H d v := by
  obtain ⟨v, h1, h2⟩ := I.val i d h (by simp)
  exact ⟨v, h1, h2.less fun a z => .inl (.inl z)⟩
end
/-! ### the story told plainly -/
structure StR where
  scs : List D
  evs : List D
  start : Nat
  last : D
/-- nx: (scene, tick) to (the next scene, events); ky: the key -/
def storyGo (nx : D → Nat → Option (D × D)) (ky : D → Nat → Option (List D)) : Nat → D → List D → List D → List D → Option StR
  | 0, _, _, _, _ => none
  | n + 1, sc, ks, scs, evs => (nx sc ks.length).bind fun p => (ky p.1 ks.length).bind fun l =>
    if (D.tup l).pure = true ∧ (keyD (.tup l)).depth ≤ 8 ∧ ks.length < sizeLine then
      match ks.findIdx? (fun d => decide (keyD d = keyD (.tup l))) with
      | some i => some ⟨scs, evs, i, p.2⟩
      | none => storyGo nx ky n p.1 (ks ++ [.tup l]) (scs ++ [p.1]) (evs ++ [p.2])
    else none
theorem storyGo_mono {nx : D → Nat → Option (D × D)} {ky : D → Nat → Option (List D)} : ∀ {n m : Nat} {sc : D} {ks scs evs : List D} {r : StR}, n ≤ m → storyGo nx ky n sc ks scs evs = some r → storyGo nx ky m sc ks scs evs = some r
  | 0, _, _, _, _, _, _, _, h => by cases h
  | n + 1, 0, _, _, _, _, _, hm, _ => by omega
  | n + 1, m + 1, sc, ks, scs, evs, r, hm, h => by
    unfold storyGo at h ⊢
    cases h1 : nx sc ks.length with
    | none => rw [h1] at h; cases h
    | some p =>
      rw [h1] at h
      simp only [Option.bind_some] at h ⊢
      cases h2 : ky p.1 ks.length with
      | none => rw [h2] at h; cases h
      | some l =>
        rw [h2] at h
        simp only [Option.bind_some] at h ⊢
        split at h
        · rename_i c
          rw [if_pos c]
          split at h
          · rename_i i e
            exact h
          · rename_i e
            exact storyGo_mono (by omega) h
        · cases h
open Classical in
noncomputable def storyRun (nx : D → Nat → Option (D × D)) (ky : D → Nat → Option (List D)) (sc : D) : Option StR :=
  if x : ∃ n r, storyGo nx ky n sc [] [] [] = some r then some (Classical.choose (Classical.choose_spec x)) else none
theorem storyRun_go {nx : D → Nat → Option (D × D)} {ky : D → Nat → Option (List D)} {sc : D} {r : StR} (h : storyRun nx ky sc = some r) : ∃ n, storyGo nx ky n sc [] [] [] = some r := by
  unfold storyRun at h
  split at h
  · rename_i x
    have := Classical.choose_spec (Classical.choose_spec x)
    cases h
    exact ⟨_, this⟩
  · cases h
theorem storyRun_of {nx : D → Nat → Option (D × D)} {ky : D → Nat → Option (List D)} {sc : D} {n : Nat} {r : StR} (h : storyGo nx ky n sc [] [] [] = some r) : storyRun nx ky sc = some r := by
  have x : ∃ n r, storyGo nx ky n sc [] [] [] = some r := ⟨n, r, h⟩
  unfold storyRun
  rw [dif_pos x]
  have e := Classical.choose_spec (Classical.choose_spec x)
  have e1 := storyGo_mono (Nat.le_max_left n (Classical.choose x)) h
  have e2 := storyGo_mono (Nat.le_max_right n (Classical.choose x)) e
  rw [e1] at e2
  cases e2
  rfl
end Mir
namespace Mir
open PySem PySem.Spec PyProof.Rows L2
variable [Tbl]
/-! ### the heap of a story in the making -/
def storyG (G0 : Addr → Prop) (a la lb sn : Addr) : Addr → Prop := fun x => G0 x ∨ x = a ∨ x = la ∨ x = lb ∨ x = sn
structure SH (S : Sc) (X : Cx) (c : Nat) (G0 : Addr → Prop) (H0 : Hp) (a la lb sn : Addr) (H : Hp) (ks scs evs : List D) (st : V) : Prop where
  ins : ∃ dx, H a = some (.ins (S.ca c) dx [("scenes", .ref la), ("events", .ref lb), ("start", st)])
  hla : ∃ vs, H la = some (.lst vs) ∧ RepL S (storyG G0 a la lb sn) H scs vs
  hlb : ∃ vs, H lb = some (.lst vs) ∧ RepL S (storyG G0 a la lb sn) H evs vs
  kv : ∃ kvs : List NE, H sn = some (ndo X.prog X.w sn kvs) ∧ (∀ e ∈ kvs, KeyAt S H e.1 e.2.1) ∧ kvs.map (·.1) = ks ∧ ∀ (i : Nat) (e : NE), kvs[i]? = some e → e.2.2 = .int i
  ext : Ext (Ls [a]) H0 H
  dom : ∀ b, H0 b ≠ none → H b ≠ none
  gl : ∀ b, G0 b → H b ≠ none
section
variable {S : Sc} {X : Cx} {c : Nat} {G0 : Addr → Prop} {H0 : Hp} {a la lb sn : Addr} {H H' : Hp} {ks scs evs : List D} {st : V}
theorem SH.grow (h : SH S X c G0 H0 a la lb sn H ks scs evs st) (e : Ext Nil H H') : SH S X c G0 H0 a la lb sn H' ks scs evs st := by
  obtain ⟨⟨dx, h1⟩, ⟨v1, h2, h3⟩, ⟨v2, h4, h5⟩, ⟨kvs, h6, h7, h8, h9⟩, hx, hd, hg⟩ := h
  exact ⟨⟨dx, e.nil _ _ h1⟩, ⟨v1, e.nil _ _ h2, h3.grow e⟩, ⟨v2, e.nil _ _ h4, h5.grow e⟩, ⟨kvs, e.nil _ _ h6, fun x hx => (h7 x hx).ext e, h8, h9⟩, hx.trans (e.mono fun _ z => z.elim), fun b hb => e.dom (hd b hb), fun b hb => e.dom (hg b hb)⟩
theorem storyG_live (h : SH S X c G0 H0 a la lb sn H ks scs evs st) : ∀ b, storyG G0 a la lb sn b → H b ≠ none := by
  intro b hb
  rcases hb with hb | rfl | rfl | rfl | rfl
  · exact h.gl b hb
  · obtain ⟨dx, q⟩ := h.ins
    rw [q]; exact fun z => nomatch z
  · obtain ⟨dx, q, _⟩ := h.hla
    rw [q]; exact fun z => nomatch z
  · obtain ⟨dx, q, _⟩ := h.hlb
    rw [q]; exact fun z => nomatch z
  · obtain ⟨dx, q, _⟩ := h.kv
    rw [q]; exact fun z => nomatch z
theorem upd_ext {M : Addr → Prop} {H : Hp} {p : Addr} {o o0 : HO} (m : M p) (h0 : H p = some o0) (mu : Mut (some o0) := by trivial) (ny : NY p o0 := by first | exact NX.y (by trivial) | exact ndo_nc) : Ext M H (L2.upd H p o) := ext_againY (Ext.refl _ _) h0 (.inl m) mu ny
theorem fwd_upd {M : Addr → Prop} {H : Hp} {p : Addr} {o o0 : HO} (m : M p) (h0 : H p = some o0) (mu : Mut (some o0) := by trivial) (ny : NY p o0 := by first | exact NX.y (by trivial) | exact ndo_nc) : Fwd M H M (L2.upd H p o) := ⟨upd_ext m h0 mu ny, fun _ z => .inl z, fun b z => Mir.upd_dom z⟩
theorem ndo_ins {P : Program} {w : World} {b C dx : Addr} {kvs : List NE} {fs : List (Str × V)} (h : some (HO.ins C dx fs) = some (ndo P w b kvs)) : False := nomatch (show some (HO.ins C dx fs) = some (HO.ext (NDp P w b kvs)) from h)
theorem ndo_lst {P : Program} {w : World} {b : Addr} {kvs : List NE} {fs : List V} (h : some (HO.lst fs) = some (ndo P w b kvs)) : False := nomatch (show some (HO.lst fs) = some (HO.ext (NDp P w b kvs)) from h)
theorem putF_start {l1 l2 x y : V} : putF "start" y [(("scenes" : Str), l1), (("events" : Str), l2), (("start" : Str), x)] = [(("scenes" : Str), l1), (("events" : Str), l2), (("start" : Str), y)] := by
  unfold putF
  rw [if_neg (by decide +kernel)]
  unfold putF
  rw [if_neg (by decide +kernel)]
  unfold putF
  rw [if_pos rfl]
theorem SH.start (h : SH S X c G0 H0 a la lb sn H ks scs evs st) (nl : la ≠ lb) (y : V) : ∃ dx, H a = some (.ins (S.ca c) dx [("scenes", .ref la), ("events", .ref lb), ("start", st)]) ∧ SH S X c G0 H0 a la lb sn (L2.upd H a (.ins (S.ca c) dx [("scenes", .ref la), ("events", .ref lb), ("start", y)])) ks scs evs y := by
  obtain ⟨⟨dx, h1⟩, ⟨v1, h2, h3⟩, ⟨v2, h4, h5⟩, ⟨kvs, h6, h7, h8, h9⟩, hx, hd, hg⟩ := h
  have mu := h1
  have n1 : la ≠ a := fun z => by rw [z, h1] at h2; cases h2
  have n2 : lb ≠ a := fun z => by rw [z, h1] at h4; cases h4
  have n3 : sn ≠ a := fun z => by rw [z, h1] at h6; exact ndo_ins h6
  have w := fwd_upd (M := storyG G0 a la lb sn) (o := .ins (S.ca c) dx [("scenes", .ref la), ("events", .ref lb), ("start", y)]) (.inr (.inl rfl)) mu
  refine ⟨dx, h1, ⟨dx, upd_same⟩, ⟨v1, by rw [upd_ne n1]; exact h2, RepL.fwd w _ _ h3⟩, ⟨v2, by rw [upd_ne n2]; exact h4, RepL.fwd w _ _ h5⟩, ⟨kvs, by rw [upd_ne n3]; exact h6, fun x hx => (h7 x hx).ext w.1, h8, h9⟩,
    hx.trans (upd_ext (M := Ls [a]) List.mem_cons_self mu), fun b hb => Mir.upd_dom (hd b hb), fun b hb => Mir.upd_dom (hg b hb)⟩
theorem out_ext (hx : Ext (Ls [a]) H0 H) {p : Addr} {o o0 : HO} (n : H0 p = none) (h0 : H p = some o0) (mu : Mut (some o0) := by trivial) (ny : NY p o0 := by first | exact NX.y (by trivial) | exact ndo_nc) : Ext (Ls [a]) H0 (L2.upd H p o) := ext_againY hx h0 (.inr n) mu ny
/-- the dict is told a key -/
theorem SH.key (h : SH S X c G0 H0 a la lb sn H ks scs evs st) (n0 : H0 sn = none) {kvs : List NE} (h6 : H sn = some (ndo X.prog X.w sn kvs)) (h7 : ∀ e ∈ kvs, KeyAt S H e.1 e.2.1) (h8 : kvs.map (·.1) = ks) (h9 : ∀ (i : Nat) (e : NE), kvs[i]? = some e → e.2.2 = .int i) {d : D} {b : Addr} (ka : KeyAt S H d b) {j : Int} (hj : j = (ks.length : Int)) :
    SH S X c G0 H0 a la lb sn (L2.upd H sn (ndo X.prog X.w sn (kvs ++ [(d, b, .int j)]))) (ks ++ [d]) scs evs st := by
  subst hj
  obtain ⟨⟨dx, h1⟩, ⟨v1, h2, h3⟩, ⟨v2, h4, h5⟩, _, hx, hd, hg⟩ := h
  have mu := h6
  have n1 : la ≠ sn := fun z => by rw [z, h6] at h2; exact ndo_lst h2.symm
  have n2 : lb ≠ sn := fun z => by rw [z, h6] at h4; exact ndo_lst h4.symm
  have n3 : a ≠ sn := fun z => by rw [z, h6] at h1; exact ndo_ins h1.symm
  have w := fwd_upd (M := storyG G0 a la lb sn) (o := ndo X.prog X.w sn (kvs ++ [(d, b, .int ks.length)])) (.inr (.inr (.inr (.inr rfl)))) mu
  refine ⟨⟨dx, by rw [upd_ne n3]; exact h1⟩, ⟨v1, by rw [upd_ne n1]; exact h2, RepL.fwd w _ _ h3⟩, ⟨v2, by rw [upd_ne n2]; exact h4, RepL.fwd w _ _ h5⟩, ⟨_, upd_same, fun x hx => ?_, by rw [List.map_append, h8]; rfl, fun i e he => ?_⟩,
    out_ext hx n0 mu, fun b hb => Mir.upd_dom (hd b hb), fun b hb => Mir.upd_dom (hg b hb)⟩
  · rcases List.mem_append.mp hx with hx | hx
    · exact (h7 x hx).ext w.1
    · rw [List.mem_singleton.mp hx]
      exact ka.ext w.1
  · rcases Nat.lt_or_ge i kvs.length with q | q
    · rw [List.getElem?_append_left q] at he
      exact h9 i e he
    · rw [List.getElem?_append_right q] at he
      have hl : kvs.length = ks.length := by rw [← h8, List.length_map]
      cases hq : i - kvs.length with
      | zero =>
        rw [hq] at he
        cases he
        have : i = ks.length := by omega
        rw [this]
      | succ k => rw [hq] at he; cases he
theorem SH.app1 (h : SH S X c G0 H0 a la lb sn H ks scs evs st) (n0 : H0 la = none) (nl : la ≠ lb) {vs : List V} (h2 : H la = some (.lst vs)) (h3 : RepL S (storyG G0 a la lb sn) H scs vs) {d : D} {v : V} (r : Rep S (storyG G0 a la lb sn) H d v) :
    SH S X c G0 H0 a la lb sn (L2.upd H la (.lst (vs ++ [v]))) ks (scs ++ [d]) evs st := by
  obtain ⟨⟨dx, h1⟩, _, ⟨v2, h4, h5⟩, ⟨kvs, h6, h7, h8, h9⟩, hx, hd, hg⟩ := h
  have mu := h2
  have n1 : sn ≠ la := fun z => by rw [z, h2] at h6; exact ndo_lst h6
  have n3 : a ≠ la := fun z => by rw [z, h2] at h1; cases h1
  have w := fwd_upd (M := storyG G0 a la lb sn) (o := .lst (vs ++ [v])) (.inr (.inr (.inl rfl))) mu
  exact ⟨⟨dx, by rw [upd_ne n3]; exact h1⟩, ⟨_, upd_same, (RepL.fwd w _ _ h3).snoc (Rep.fwd w _ _ r)⟩, ⟨v2, by rw [upd_ne (Ne.symm nl)]; exact h4, RepL.fwd w _ _ h5⟩, ⟨kvs, by rw [upd_ne n1]; exact h6, fun x hx => (h7 x hx).ext w.1, h8, h9⟩,
    out_ext hx n0 mu, fun b hb => Mir.upd_dom (hd b hb), fun b hb => Mir.upd_dom (hg b hb)⟩
theorem SH.app2 (h : SH S X c G0 H0 a la lb sn H ks scs evs st) (n0 : H0 lb = none) (nl : la ≠ lb) {vs : List V} (h4 : H lb = some (.lst vs)) (h5 : RepL S (storyG G0 a la lb sn) H evs vs) {d : D} {v : V} (r : Rep S (storyG G0 a la lb sn) H d v) :
    SH S X c G0 H0 a la lb sn (L2.upd H lb (.lst (vs ++ [v]))) ks scs (evs ++ [d]) st := by
  obtain ⟨⟨dx, h1⟩, ⟨v1, h2, h3⟩, _, ⟨kvs, h6, h7, h8, h9⟩, hx, hd, hg⟩ := h
  have mu := h4
  have n1 : sn ≠ lb := fun z => by rw [z, h4] at h6; exact ndo_lst h6
  have n3 : a ≠ lb := fun z => by rw [z, h4] at h1; cases h1
  have w := fwd_upd (M := storyG G0 a la lb sn) (o := .lst (vs ++ [v])) (.inr (.inr (.inr (.inl rfl)))) mu
  exact ⟨⟨dx, by rw [upd_ne n3]; exact h1⟩, ⟨v1, by rw [upd_ne nl]; exact h2, RepL.fwd w _ _ h3⟩, ⟨_, upd_same, (RepL.fwd w _ _ h5).snoc (Rep.fwd w _ _ r)⟩, ⟨kvs, by rw [upd_ne n1]; exact h6, fun x hx => (h7 x hx).ext w.1, h8, h9⟩,
    out_ext hx n0 mu, fun b hb => Mir.upd_dom (hd b hb), fun b hb => Mir.upd_dom (hg b hb)⟩
/-- what the dict answers -/
theorem nval_ix {kvs : List NE} {ks : List D} (k : NestedKey) : ∀ (o : Nat), (kvs.map (·.1) = ks) → (∀ (i : Nat) (e : NE), kvs[i]? = some e → e.2.2 = .int ((o + i : Nat) : Int)) → nval kvs k = (ks.findIdx? (fun d => decide (keyD d = k))).map fun i : Nat => V.int ((o + i : Nat) : Int) := by
  intro o h8 h9
  subst h8
  induction kvs generalizing o with
  | nil => rfl
  | cons e r ih =>
    by_cases q : keyD e.1 = k
    · have h0 := h9 0 e rfl
      simp [nval, List.find?_cons, List.findIdx?_cons, q, h0]
    · have ih := ih (o + 1) fun i x hx => by
        have := h9 (i + 1) x hx
        rw [this, show o + 1 + i = o + (i + 1) by omega]
      have e1 : nval (e :: r) k = nval r k := by simp [nval, List.find?_cons, q]
      rw [e1, ih, List.map_cons, List.findIdx?_cons, if_neg (by simpa using q), Option.map_map]
      congr 1
      funext i
      show V.int ((o + 1 + i : Nat) : Int) = V.int ((o + (i + 1) : Nat) : Int)
      rw [show o + 1 + i = o + (i + 1) by omega]
theorem nval_at {kvs : List NE} {ks : List D} (k : NestedKey) (h8 : kvs.map (·.1) = ks) (h9 : ∀ (i : Nat) (e : NE), kvs[i]? = some e → e.2.2 = .int i) : nval kvs k = (ks.findIdx? (fun d => decide (keyD d = k))).map fun i : Nat => V.int (i : Int) := by
  have := nval_ix (kvs := kvs) (ks := ks) k 0 h8 (fun i e he => by rw [h9 i e he, Nat.zero_add])
  rw [this]
  congr 1
  funext i
  rw [Nat.zero_add]
end
end Mir
/-! MirW -/
/-! MirW: Story.__init__ as it is read, and its promise. -/
namespace Mir
open PySem PySem.Spec PyProof.Rows L2
variable [Tbl]
def storyB (S : Sc) (X : Cx) (ta tk : TE) : TS :=
  tSeq (tAsg ta (gTup S.K 2 (gCons (gName 2) (gCons (gName 6) gNil)))) <|
  tSeq (tAsg tk (gName 5)) <|
  tIfS (tB (tNIn S X (tVar 5) (tVar 4)))
    (sFld S.K (tVar 0) (tNGet S X (tVar 4) (tVar 5)) "start")
    (tSeq (sNPut S X (tVar 4) (tVar 5) (tVar 3)) <|
     tSeq (tDrop (tBM S.K "list" rAppend (tFld S.K (tVar 0) "scenes") (tCons (tVar 2) tNil))) <|
     tSeq (tDrop (tBM S.K "list" rAppend (tFld S.K (tVar 0) "events") (tCons (tVar 6) tNil))) <|
     tAug 3 (tC (.int 1)) (ipI fun i j => i + j))
def storyT (S : Sc) (X : Cx) (tf ta tk : TE) : TS :=
  tSeq (sFld S.K (tVar 0) (tLst tNil) "scenes") <|
  tSeq (sFld S.K (tVar 0) (tLst tNil) "events") <|
  tSeq (sFld S.K (tVar 0) (tC .non) "start") <|
  tSeq (tPar3 2 3 4 (tCons tf (tCons (tC (.int 0)) (tCons (tNNew X) tNil)))) <|
  tSeq (tWhile (tB (tIsN (tFld S.K (tVar 0) "start"))) (storyB S X ta tk))
  (sFld S.K (tVar 0) (tVar 6) "last")
def stE0 (h : D) : Env := [none, some h, none, none, none, none, none]
def stE1 (h sc : D) (t : Nat) (k ev : Option D) : Env := [none, some h, some sc, some (.int (t : Int)), none, k, ev]
noncomputable def dStory (c : Nat) (fs : D → Option D) (nx : D → D → Nat → Option (D × D)) (ky : D → D → Nat → Option (List D)) : DM0 := fun d ds => match d, ds with
  | .ins c' [], [h] => if c' = c then (match (fs h).bind (storyRun (nx h) (ky h)) with
    | some r => .ok .non (.ins c [.lst r.scs, .lst r.evs, .int (r.start : Int), r.last])
    | none => .bad) else .bad
  | _, _ => .bad
/-- the loop's state -/
structure SW (S : Sc) (X : Cx) (c : Nat) (h : D) (G0 : Addr → Prop) (H0 : Hp) (a la lb sn : Addr) (r : StR) (m : Nat) (σ : L2.St) (H : Hp) (sc : D) (k ev : Option D) (ks scs evs : List D) (st : V) : Prop where
  rel : GRel S (storyG G0 a la lb sn) σ H (stE1 h sc ks.length k ev)
  s0 : σ[0]? = some (some (.ref a))
  s4 : σ[4]? = some (some (.ref sn))
  sh : SH S X c G0 H0 a la lb sn H ks scs evs st
  ls : scs.length = ks.length
  le : evs.length = ks.length
def SW1 (S : Sc) (X : Cx) (c : Nat) (h : D) (G0 : Addr → Prop) (H0 : Hp) (a la lb sn : Addr) (nx : D → Nat → Option (D × D)) (ky : D → Nat → Option (List D)) (r : StR) (m : Nat) (σ : L2.St) (H : Hp) : Prop :=
  (∃ n sc k ev ks scs evs, m = n + 1 ∧ storyGo nx ky n sc ks scs evs = some r ∧ SW S X c h G0 H0 a la lb sn r m σ H sc k ev ks scs evs .non) ∨
  (∃ sc k ks, m = 0 ∧ SW S X c h G0 H0 a la lb sn r m σ H sc k (some r.last) ks r.scs r.evs (.int (r.start : Int)))
section
variable {S : Sc} {X : Cx} {c : Nat} {h : D} {G0 : Addr → Prop} {H0 : Hp} {a la lb sn : Addr} {E : XK} {ta tk tf : TE} {ma mk mf : EM} {r : StR}
theorem story_turn (hbe : Ext Nil S.Hb H0) (hba : S.Hb a = none) (cl : Cls S.K (S.ca c)) (n1 : NoAttr S.K (S.ca c) "scenes") (n2 : NoAttr S.K (S.ca c) "events") (n3 : NoAttr S.K (S.ca c) "start")
    (nl : la ≠ lb) (z1 : H0 la = none) (z2 : H0 lb = none) (z3 : H0 sn = none)
    {nx : D → Nat → Option (D × D)} {ky : D → Nat → Option (List D)}
    (ra : RefE S [] [] E none false ta ma) (rk : RefE S [] [] E none false tk mk)
    (ha : ∀ sc t k ev p, nx sc t = some p → ma (stE1 h sc t k ev) = .ok (.tup [p.1, p.2]) (stE1 h sc t k ev))
    (hk : ∀ sc t k ev l, ky sc t = some l → mk (stE1 h sc t k ev) = .ok (.tup l) (stE1 h sc t k ev))
    {D : Ends} {m : Nat} {σ : L2.St} {H : Hp} (w : SW1 S X c h G0 H0 a la lb sn nx ky r m σ H)
    (fin : ∀ σ H sc k ks, SW S X c h G0 H0 a la lb sn r 0 σ H sc k (some r.last) ks r.scs r.evs (.int (r.start : Int)) → D.nx σ H) :
    tB (tIsN (tFld S.K (tVar 0) "start")) σ H fun b H1 => if b = true then ∃ N : L2.St → Hp → Prop, (∀ σ' H', N σ' H' → ∃ m', m' < m ∧ SW1 S X c h G0 H0 a la lb sn nx ky r m' σ' H') ∧ storyB S X ta tk { D with nx := N, ct := N, bk := D.nx } σ H1 else D.nx σ H1 := by
  rcases w with ⟨n, sc, k, ev, ks, scs, evs, rfl, hgo, w⟩ | ⟨sc, k, ks, rfl, w⟩
  · obtain ⟨dx, hin⟩ := w.sh.ins
    refine ⟨_, w.s0, a, S.ca c, dx, _, .non, rfl, hin, cl, n3, rfl, ?_⟩
    refine ⟨_, rfl, ?_⟩
    dsimp only
    rw [if_pos (by simp)]
    refine ⟨fun σ' H' => ∃ m', m' < n + 1 ∧ SW1 S X c h G0 H0 a la lb sn nx ky r m' σ' H', fun σ' H' x => x, ?_⟩
    cases n with
    | zero => cases hgo
    | succ n =>
    unfold storyGo at hgo
    cases q1 : nx sc ks.length with
    | none => rw [q1] at hgo; cases hgo
    | some p =>
    rw [q1] at hgo
    simp only [Option.bind_some] at hgo
    cases q2 : ky p.1 ks.length with
    | none => rw [q2] at hgo; cases hgo
    | some l =>
    rw [q2] at hgo
    simp only [Option.bind_some] at hgo
    split at hgo
    case isFalse => cases hgo
    rename_i hc
    obtain ⟨hp, hd, hz⟩ := hc
    refine GRel.expr ra w.rel (ha sc ks.length k ev p q1) fun v H1 I1 e1 rv => ?_
    obtain ⟨b1, vs1, rfl, t1, rv⟩ := rv
    obtain ⟨u1, w1, rfl, ru1, v2, w2, rfl, ru2, rfl⟩ := rv
    refine ⟨b1, _, rfl, t1, rfl, u1, _, rfl, v2, _, rfl, rfl, ?_⟩
    have I2 : GRel S (storyG G0 a la lb sn) ((σ.set 2 (some u1)).set 6 (some v2)) H1 (stE1 h p.1 ks.length k (some p.2)) := (I1.set (i := 2) ru1).set (i := 6) ru2
    refine GRel.expr rk I2 (hk p.1 ks.length k (some p.2) l q2) fun v H2 I3 e2 rv2 => ?_
    have rv3 := rv2
    obtain ⟨b2, vs2, rfl, _, _⟩ := rv3
    have KA : KeyAt S H2 (.tup l) b2 := ⟨hp, hd, rep_pureX (Ext.refl Nil _) _ _ hp rv2⟩
    have I4 : GRel S (storyG G0 a la lb sn) (((σ.set 2 (some u1)).set 6 (some v2)).set 5 (some (.ref b2))) H2 (stE1 h p.1 ks.length (some (.tup l)) (some p.2)) := I3.set (i := 5) rv2
    have hlen : σ.length = 7 := w.rel.len.symm
    have sh2 := (w.sh.grow e1).grow e2
    have s0 : (((σ.set 2 (some u1)).set 6 (some v2)).set 5 (some (.ref b2)))[0]? = some (some (.ref a)) := by
      rw [List.getElem?_set_ne (by decide), List.getElem?_set_ne (by decide), List.getElem?_set_ne (by decide)]; exact w.s0
    have s4 : (((σ.set 2 (some u1)).set 6 (some v2)).set 5 (some (.ref b2)))[4]? = some (some (.ref sn)) := by
      rw [List.getElem?_set_ne (by decide), List.getElem?_set_ne (by decide), List.getElem?_set_ne (by decide)]; exact w.s4
    have s5 : (((σ.set 2 (some u1)).set 6 (some v2)).set 5 (some (.ref b2)))[5]? = some (some (.ref b2)) := by
      rw [List.getElem?_set_self (by rw [List.length_set, List.length_set, hlen]; decide)]
    show tIfS (tB (tNIn S X (tVar 5) (tVar 4))) _ _ _ (((σ.set 2 (some u1)).set 6 (some v2)).set 5 (some (.ref b2))) H2
    generalize (((σ.set 2 (some u1)).set 6 (some v2)).set 5 (some (.ref b2))) = σ3 at I4 s0 s4 s5 ⊢
    obtain ⟨kvs, hkv, hall, h8, h9⟩ := sh2.kv
    have hnv := nval_at (keyD (.tup l)) h8 h9
    refine ⟨.ref b2, s5, .ref sn, s4, sn, kvs, .tup l, b2, rfl, rfl, hkv, hall, KA, ?_⟩
    refine ⟨_, rfl, ?_⟩
    cases qi : ks.findIdx? (fun d => decide (keyD d = keyD (.tup l))) with
    | some i =>
      rw [qi] at hgo hnv
      cases hgo
      rw [hnv, if_pos (by rfl)]
      obtain ⟨dx, hin2, sh3⟩ := sh2.start nl (.int (i : Int))
      refine ⟨.ref sn, s4, .ref b2, s5, sn, kvs, .tup l, b2, .int i, rfl, rfl, hkv, hall, KA, hnv, .ref a, s0, a, S.ca c, dx, _, rfl, hin2, cl, n3, by simp, ?_⟩
      rw [putF_start]
      exact ⟨0, by omega, .inr ⟨p.1, some (.tup l), ks, rfl, I4.upd (.inr (.inl rfl)) _ hin2 hba, s0, s4, sh3, w.ls, w.le⟩⟩
    | none =>
      rw [qi] at hgo hnv
      rw [hnv, if_neg (by simp)]
      obtain ⟨v3, s3, r3⟩ := I4.get (i := 3) rfl
      cases (show v3 = _ from r3)
      have hl : kvs.length = ks.length := by rw [← h8, List.length_map]
      refine ⟨_, s3, .ref sn, s4, .ref b2, s5, sn, kvs, .tup l, b2, rfl, rfl, hkv, hall, KA, hnv, by rw [hl]; exact hz, ?_⟩
      have sh3 := sh2.key z3 hkv hall h8 h9 KA (j := (ks.length : Int)) rfl
      have I5 := I4.upd (a := sn) (.inr (.inr (.inr (.inr rfl)))) (ndo X.prog X.w sn (kvs ++ [(.tup l, b2, .int (ks.length : Int))])) hkv (hb_new hbe z3)
      generalize L2.upd H2 sn (ndo X.prog X.w sn (kvs ++ [(.tup l, b2, .int (ks.length : Int))])) = H3 at sh3 I5 ⊢
      obtain ⟨dx, hin3⟩ := sh3.ins
      obtain ⟨xs, hxs, rxs⟩ := sh3.hla
      obtain ⟨y2, s2, r2⟩ := I5.get (i := 2) rfl
      refine ⟨.ref a, s0, a, S.ca c, dx, _, .ref la, rfl, hin3, cl, n1, rfl, .inl ⟨rfl, xs, .inl (.inl hxs)⟩, y2, s2, la, xs, y2, rfl, rfl, hxs, by rw [rxs.length, w.ls]; exact hz, ?_⟩
      have sh4 := sh3.app1 z1 nl hxs rxs r2
      have I6 := I5.upd (a := la) (.inr (.inr (.inl rfl))) (.lst (xs ++ [y2])) hxs (hb_new hbe z1)
      generalize L2.upd H3 la (.lst (xs ++ [y2])) = H4 at sh4 I6 ⊢
      obtain ⟨dx, hin4⟩ := sh4.ins
      obtain ⟨ys, hys, rys⟩ := sh4.hlb
      obtain ⟨y6, s6, r6⟩ := I6.get (i := 6) rfl
      refine ⟨.ref a, s0, a, S.ca c, dx, _, .ref lb, rfl, hin4, cl, n2, rfl, .inl ⟨rfl, ys, .inl (.inl hys)⟩, y6, s6, lb, ys, y6, rfl, rfl, hys, by rw [rys.length, w.le]; exact hz, ?_⟩
      have sh5 := sh4.app2 z2 nl hys rys r6
      have I7 := I6.upd (a := lb) (.inr (.inr (.inr (.inl rfl)))) (.lst (ys ++ [y6])) hys (hb_new hbe z2)
      refine ⟨_, s3, (ks.length : Int), 1, rfl, rfl, n + 1, by omega, .inl ⟨n, p.1, some (.tup l), some p.2, ks ++ [.tup l], scs ++ [p.1], evs ++ [p.2], rfl, hgo, ?_⟩⟩
      have ht : ((ks ++ [Mir.D.tup l]).length : Int) = (ks.length : Int) + 1 := by rw [List.length_append, List.length_singleton]; omega
      have I8 := I7.set (i := 3) (d := .int ((ks.length : Int) + 1)) (v := .int ((ks.length : Int) + 1)) rfl
      refine ⟨?_, by rw [List.getElem?_set_ne (by decide)]; exact s0, by rw [List.getElem?_set_ne (by decide)]; exact s4, sh5, by rw [List.length_append, List.length_append, w.ls, List.length_singleton, List.length_singleton], by rw [List.length_append, List.length_append, w.le, List.length_singleton, List.length_singleton]⟩
      unfold stE1
      rw [ht]
      exact I8
  · obtain ⟨dx, hin⟩ := w.sh.ins
    refine ⟨_, w.s0, a, S.ca c, dx, _, .int r.start, rfl, hin, cl, n3, rfl, ?_⟩
    refine ⟨_, rfl, ?_⟩
    dsimp only
    rw [if_neg (by simp)]
    exact fin σ H sc k ks w
theorem putF_last {l1 l2 x y : V} : putF "last" y [("scenes", l1), ("events", l2), ("start", x)] = [(("scenes" : Str), l1), (("events" : Str), l2), (("start" : Str), x), (("last" : Str), y)] := by
  unfold putF
  rw [if_neg (by decide +kernel)]
  unfold putF
  rw [if_neg (by decide +kernel)]
  unfold putF
  rw [if_neg (by decide +kernel)]
  unfold putF
  rfl
theorem putF_events {l1 y : V} : putF "events" y [("scenes", l1)] = [(("scenes" : Str), l1), (("events" : Str), y)] := by
  unfold putF
  rw [if_neg (by decide +kernel)]
  unfold putF
  rfl
theorem putF_start0 {l1 l2 y : V} : putF "start" y [("scenes", l1), ("events", l2)] = [(("scenes" : Str), l1), (("events" : Str), l2), (("start" : Str), y)] := by
  unfold putF
  rw [if_neg (by decide +kernel)]
  unfold putF
  rw [if_neg (by decide +kernel)]
  unfold putF
  rfl
theorem GRel.congr {G G' : Addr → Prop} {σ : L2.St} {H : Hp} {env : Env} (I : GRel S G σ H env) (e : ∀ x, G x ↔ G' x) : GRel S G' σ H env := by
  have : G = G' := funext fun x => propext (e x)
  rw [← this]
  exact I
theorem story_run (hfn : S.fn c = (["scenes", "events", "start", "last"] : List Str)) (cl : Cls S.K (S.ca c)) (n1 : NoAttr S.K (S.ca c) "scenes") (n2 : NoAttr S.K (S.ca c) "events") (n3 : NoAttr S.K (S.ca c) "start") (n4 : NoAttr S.K (S.ca c) "last")
    {fs : Mir.D → Option Mir.D} {nx : Mir.D → Mir.D → Nat → Option (Mir.D × Mir.D)} {ky : Mir.D → Mir.D → Nat → Option (List Mir.D)}
    (rf : RefE S [] [] E none false tf mf) (ra : RefE S [] [] E none false ta ma) (rk : RefE S [] [] E none false tk mk)
    (hf : ∀ h s, fs h = some s → mf (stE0 h) = .ok s (stE0 h))
    (ha : ∀ h sc t k ev p, nx h sc t = some p → ma (stE1 h sc t k ev) = .ok (.tup [p.1, p.2]) (stE1 h sc t k ev))
    (hk : ∀ h sc t k ev l, ky h sc t = some l → mk (stE1 h sc t k ev) = .ok (.tup l) (stE1 h sc t k ev))
    {N : List Str} (hN : N.length = 7) {vs : List V} {H : Hp} {Q : VK} (sp : spM0 S 2 (dStory c fs nx ky) vs H Q E) :
    storyT S X tf ta tk { nx := fun _ H' => Q .non H', rt := Q } (L2.start N vs) H := by
  obtain ⟨G0, d0, ds, a, us, l, rfl, hl, hG, hL, hnd, hOw, hR, hw, htb⟩ := sp
  unfold dStory at hw
  split at hw
  case h_2 => exact hw.elim
  rename_i c' h
  split at hw
  case isFalse => exact hw.elim
  rename_i ec
  subst ec
  cases q0 : fs h with
  | none => rw [q0] at hw; exact hw.elim
  | some sc0 =>
  rw [q0] at hw
  simp only [Option.bind_some] at hw
  cases q1 : storyRun (nx h) (ky h) sc0 with
  | none => rw [q1] at hw; exact hw.elim
  | some r =>
  rw [q1] at hw
  obtain ⟨n, hgo⟩ := storyRun_go q1
  obtain ⟨rfl, dx, fs0, ha0, hfs, _⟩ := hOw
  have hfs0 : fs0 = [] := by simpa using hfs
  subst hfs0
  obtain ⟨vh, w0, rfl, rh, hw0⟩ := hR
  cases (show w0 = [] from hw0)
  have eσ : L2.start N [V.ref a, vh] = [some (.ref a), some vh, none, none, none, none, none] := by
    unfold L2.start
    rw [hN]
    rfl
  rw [eσ]
  have e0 : ∀ {i : Nat} {d : Mir.D}, (stE0 h)[i]? = some (some d) → i = 1 ∧ d = h := fun {i d} z => by
    match i, z with
    | 0, z => cases z
    | 1, z => cases z; exact ⟨rfl, rfl⟩
    | 2, z => cases z
    | 3, z => cases z
    | 4, z => cases z
    | 5, z => cases z
    | 6, z => cases z
    | n + 7, z => simp [stE0] at z
  have hba : S.Hb a = none := htb.2.2 a List.mem_cons_self
  have I0 : GRel S (fun x => G0 x ∨ x = a) [some (.ref a), some vh, none, none, none, none, none] H (stE0 h) := by
    refine ⟨rfl, fun i d z _ => ?_, fun i d _ z => (nomatch z), fun _ _ => rfl, fun i j a h => (nomatch h), fun _ => List.nodup_nil, fun i a h => (nomatch h), Ext.refl _ _, fun x z => ?_, fun i a h => (nomatch h), fun _ z => z, fun x z => z.elim, htb.1, ⟨htb.2.1, fun x z => z.elim⟩⟩
    · obtain ⟨rfl, rfl⟩ := e0 z
      exact ⟨vh, rfl, rh.less fun x z => .inl ((fs_none z).imp id fun e => by rw [e]; exact List.mem_cons_self)⟩
    · rcases z with z | rfl
      · exact hG x z
      · rw [ha0]; exact fun z => nomatch z
  -- self.scenes
  refine ⟨Nat.zero_le _, fun la hla => ?_⟩
  have nla : a ≠ la := fun z => by rw [z, hla] at ha0; cases ha0
  have a1 : L2.upd H la (.lst []) a = some (.ins (S.ca c') dx []) := by rw [upd_ne nla]; exact ha0
  refine ⟨_, rfl, a, S.ca c', dx, [], rfl, a1, cl, n1, by decide, ?_⟩
  have I1 := (I0.new (o := .lst []) hla).upd (a := a) (.inl (.inr rfl)) (.ins (S.ca c') dx (putF "scenes" (.ref la) [])) a1 hba
  have x1 : Ext (Ls [a]) H (L2.upd (L2.upd H la (.lst [])) a (.ins (S.ca c') dx (putF "scenes" (.ref la) []))) := (Ext.new hla).trans (upd_ext List.mem_cons_self a1)
  have a2 : L2.upd (L2.upd H la (.lst [])) a (.ins (S.ca c') dx (putF "scenes" (.ref la) [])) a = some (.ins (S.ca c') dx [("scenes", .ref la)]) := upd_same
  have b2 : L2.upd (L2.upd H la (.lst [])) a (.ins (S.ca c') dx (putF "scenes" (.ref la) [])) la = some (.lst []) := by rw [upd_ne (Ne.symm nla), upd_same]
  have d2 : ∀ b, H b ≠ none → L2.upd (L2.upd H la (.lst [])) a (.ins (S.ca c') dx (putF "scenes" (.ref la) [])) b ≠ none := fun b z => Mir.upd_dom (Mir.upd_dom z)
  generalize L2.upd (L2.upd H la (.lst [])) a (.ins (S.ca c') dx (putF "scenes" (.ref la) [])) = H2 at I1 x1 a2 b2 d2 ⊢
  -- self.events
  refine ⟨Nat.zero_le _, fun lb hlb => ?_⟩
  have nlb : a ≠ lb := fun z => by rw [z, hlb] at a2; cases a2
  have nl : la ≠ lb := fun z => by rw [z, hlb] at b2; cases b2
  have zlb : H lb = none := by
    cases q : H lb with
    | none => rfl
    | some o => exact absurd hlb (d2 lb (by rw [q]; exact fun z => nomatch z))
  have a3 : L2.upd H2 lb (.lst []) a = some (.ins (S.ca c') dx [("scenes", .ref la)]) := by rw [upd_ne nlb]; exact a2
  refine ⟨_, rfl, a, S.ca c', dx, _, rfl, a3, cl, n2, by simp, ?_⟩
  rw [putF_events]
  have I3 := (I1.new (o := .lst []) hlb).upd (a := a) (.inl (.inl (.inr rfl))) (.ins (S.ca c') dx [("scenes", .ref la), ("events", .ref lb)]) a3 hba
  have x3 : Ext (Ls [a]) H (L2.upd (L2.upd H2 lb (.lst [])) a (.ins (S.ca c') dx [("scenes", .ref la), ("events", .ref lb)])) := x1.trans ((Ext.new hlb).trans (upd_ext List.mem_cons_self a3))
  have a4 : L2.upd (L2.upd H2 lb (.lst [])) a (.ins (S.ca c') dx [("scenes", .ref la), ("events", .ref lb)]) a = some (.ins (S.ca c') dx [("scenes", .ref la), ("events", .ref lb)]) := upd_same
  have b4 : L2.upd (L2.upd H2 lb (.lst [])) a (.ins (S.ca c') dx [("scenes", .ref la), ("events", .ref lb)]) la = some (.lst []) := by rw [upd_ne (Ne.symm nla), upd_ne nl]; exact b2
  have c4 : L2.upd (L2.upd H2 lb (.lst [])) a (.ins (S.ca c') dx [("scenes", .ref la), ("events", .ref lb)]) lb = some (.lst []) := by rw [upd_ne (Ne.symm nlb), upd_same]
  have d4 : ∀ b, H b ≠ none → L2.upd (L2.upd H2 lb (.lst [])) a (.ins (S.ca c') dx [("scenes", .ref la), ("events", .ref lb)]) b ≠ none := fun b z => Mir.upd_dom (Mir.upd_dom (d2 b z))
  generalize L2.upd (L2.upd H2 lb (.lst [])) a (.ins (S.ca c') dx [("scenes", .ref la), ("events", .ref lb)]) = H4 at I3 x3 a4 b4 c4 d4 ⊢
  -- self.start
  refine ⟨_, rfl, a, S.ca c', dx, _, rfl, a4, cl, n3, by simp, ?_⟩
  rw [putF_start0]
  have I5 := I3.upd (a := a) (.inl (.inl (.inr rfl))) (.ins (S.ca c') dx [("scenes", .ref la), ("events", .ref lb), ("start", .non)]) a4 hba
  have x5 : Ext (Ls [a]) H (L2.upd H4 a (.ins (S.ca c') dx [("scenes", .ref la), ("events", .ref lb), ("start", .non)])) := x3.trans (upd_ext List.mem_cons_self a4)
  have a6 : L2.upd H4 a (.ins (S.ca c') dx [("scenes", .ref la), ("events", .ref lb), ("start", .non)]) a = some (.ins (S.ca c') dx [("scenes", .ref la), ("events", .ref lb), ("start", .non)]) := upd_same
  have b6 : L2.upd H4 a (.ins (S.ca c') dx [("scenes", .ref la), ("events", .ref lb), ("start", .non)]) la = some (.lst []) := by rw [upd_ne (Ne.symm nla)]; exact b4
  have c6 : L2.upd H4 a (.ins (S.ca c') dx [("scenes", .ref la), ("events", .ref lb), ("start", .non)]) lb = some (.lst []) := by rw [upd_ne (Ne.symm nlb)]; exact c4
  have d6 : ∀ b, H b ≠ none → L2.upd H4 a (.ins (S.ca c') dx [("scenes", .ref la), ("events", .ref lb), ("start", .non)]) b ≠ none := fun b z => Mir.upd_dom (d4 b z)
  generalize L2.upd H4 a (.ins (S.ca c') dx [("scenes", .ref la), ("events", .ref lb), ("start", .non)]) = H6 at I5 x5 a6 b6 c6 d6 ⊢
  -- scene, tick, seen
  refine GRel.expr rf I5 (hf h sc0 q0) fun v H7 I7 e7 rv => ?_
  intro sn hsn
  refine ⟨v, _, _, rfl, ?_⟩
  have zsn : H sn = none := by
    cases q : H sn with
    | none => rfl
    | some o => exact absurd hsn (e7.dom (d6 sn (by rw [q]; exact fun z => nomatch z)))
  have rv8 := (rv.less (F' := fun x => (((G0 x ∨ x = a) ∨ x = la) ∨ x = lb) ∨ x = sn) fun x z => z.imp id fun e => by rw [e]; exact hsn).grow (Ext.new (o := ndo X.prog X.w sn []) hsn)
  have I8 := I7.new (o := ndo X.prog X.w sn []) hsn
  have I9 := (((I8.set (i := 2) rv8).set (i := 3) (d := .int 0) (v := .int 0) rfl).ghost (i := 4) (v := .ref sn) (fun d z => by cases z)).congr (G' := storyG G0 a la lb sn) fun x => by
    unfold storyG
    constructor
    · rintro ((((z | z) | z) | z) | z)
      · exact .inl z
      · exact .inr (.inl z)
      · exact .inr (.inr (.inl z))
      · exact .inr (.inr (.inr (.inl z)))
      · exact .inr (.inr (.inr (.inr z)))
    · rintro (z | z | z | z | z)
      · exact .inl (.inl (.inl (.inl z)))
      · exact .inl (.inl (.inl (.inr z)))
      · exact .inl (.inl (.inr z))
      · exact .inl (.inr z)
      · exact .inr z
  have nsa : a ≠ sn := fun z => by rw [← z, e7.nil _ _ a6] at hsn; cases hsn
  have nsl : la ≠ sn := fun z => by rw [← z, e7.nil _ _ b6] at hsn; cases hsn
  have nsb : lb ≠ sn := fun z => by rw [← z, e7.nil _ _ c6] at hsn; cases hsn
  have sh : SH S X c' G0 H a la lb sn (L2.upd H7 sn (ndo X.prog X.w sn [])) [] [] [] .non :=
    ⟨⟨dx, by rw [upd_ne nsa]; exact e7.nil _ _ a6⟩, ⟨[], by rw [upd_ne nsl]; exact e7.nil _ _ b6, RepL.nil⟩, ⟨[], by rw [upd_ne nsb]; exact e7.nil _ _ c6, RepL.nil⟩, ⟨([] : List NE), upd_same, fun _ z => (nomatch z), rfl, fun i e z => (by simp at z)⟩,
      x5.trans ((e7.mono fun _ z => z.elim).trans (Ext.new hsn)), fun b z => Mir.upd_dom (e7.dom (d6 b z)), fun b z => Mir.upd_dom (e7.dom (d6 b (hG b z)))⟩
  refine ⟨SW1 S X c' h G0 H a la lb sn (nx h) (ky h) r, ⟨n + 1, .inl ⟨n, sc0, none, none, [], [], [], rfl, hgo, I9, rfl, rfl, sh, rfl, rfl⟩⟩, fun m σ H9 w => ?_⟩
  refine story_turn htb.2.1 hba cl n1 n2 n3 nl hla zlb zsn ra rk (ha h) (hk h) w fun σ H9 sc k ks w => ?_
  obtain ⟨y6, s6, r6⟩ := w.rel.get (i := 6) rfl
  obtain ⟨dx2, hin⟩ := w.sh.ins
  refine ⟨y6, s6, _, w.s0, a, S.ca c', dx2, _, rfl, hin, cl, n4, by simp, ?_⟩
  rw [putF_last]
  have mu := hin
  have hw : WantF0 S E G0 H a [a] Q (.ok .non (.ins c' [.lst r.scs, .lst r.evs, .int (r.start : Int), r.last])) := hw
  have wf := fwd_upd (M := storyG G0 a la lb sn) (o := .ins (S.ca c') dx2 [("scenes", .ref la), ("events", .ref lb), ("start", .int (r.start : Int)), ("last", y6)]) (.inr (.inl rfl)) mu
  obtain ⟨v1, h2, h3⟩ := w.sh.hla
  obtain ⟨v2, h4, h5⟩ := w.sh.hlb
  have sub : ∀ x, (G0 x ∨ x ∈ [a]) → storyG G0 a la lb sn x := fun x z => z.imp id fun z => .inl (List.mem_singleton.mp z)
  have nf1 : ¬ (G0 la ∨ la ∈ [a]) := fun z => z.elim (fun z => hG la z hla) fun z => nla (List.mem_singleton.mp z).symm
  have nf2 : ¬ (G0 lb ∨ lb ∈ [a]) := fun z => z.elim (fun z => hG lb z zlb) fun z => nlb (List.mem_singleton.mp z).symm
  refine hw .non _ [a] ⟨w.sh.ext.trans (upd_ext (M := Ls [a]) List.mem_cons_self mu), fun x z => .inl z, fun b z => Mir.upd_dom (w.sh.dom b z)⟩ ⟨rfl, dx2, _, upd_same, by rw [hfn]; rfl, ?_⟩ (by simp) (fun b z => by rw [List.mem_singleton.mp z, upd_same]; exact fun z => nomatch z) rfl
  refine .cons ⟨la, v1, rfl, nf1, by rw [upd_ne (Ne.symm nla)]; exact h2, (RepL.fwd wf _ _ h3).less fun x z => .inl (sub x z)⟩ (.cons ⟨lb, v2, rfl, nf2, by rw [upd_ne (Ne.symm nlb)]; exact h4, (RepL.fwd wf _ _ h5).less fun x z => .inl (sub x z)⟩ (.cons rfl (.cons ((Rep.fwd wf _ _ r6).less fun x z => .inl (sub x z)) .nil)))
end
end Mir
/-! MirX -/
/-! MirX: the promise of Story.__init__ from the defs that it calls. -/
namespace Mir
open PySem PySem.Spec PyProof.Rows L2
variable [Tbl]
section
variable {P : Program} {w : World} {K : PySem.W.Frag} {mg : Str → Option Value} {base : Heap} {S : Sc}
/-- a def that changes parameter 0, walked by hand -/
theorem fnD_okH {x qual : Str} {params : Arguments} {body : List Stmt} {scope : Scope} {dvs : List V} {kws : List (Str × V)} {f : Addr} {fd : FuncData} {N ps : List Str} {k : Nat} {m : DM0} (F : FunD K x qual params body scope dvs kws f fd) (sc : FnScope N ps scope)
    (hb : ∀ (cdv : Value) (A : Around) (outer : List PySem.Env) (s : Shared) (H : Hp) (E : XK), Room k (A.deeper (envOfC qual scope s.heap.objs.size f cdv)) →
      ∃ t, PSs (cxOf CX0 P w K mg base N qual scope f cdv A outer s H E).nox body t ∧ ∀ vs H Q, spM0 S ps.length m vs H Q E → t { nx := fun _ H' => Q .non H', rt := Q } (L2.start N vs) H) :
    FnOk P w K mg base CX0 (k + 1) f fd ps (spM0 S ps.length m) := by
  obtain ⟨oc, od, dV, kV, doc, pm, an, cdv, ct, osl, rfl, lk, hcd, _, _⟩ := F.ex
  refine fn_of lk hcd sc (fun vs H Q E h => ?_) fun A outer s H vs Q E hr hsp => ?_
  · obtain ⟨G, d0, ds, a, us, l, _, h, _⟩ := h
    exact h
  · obtain ⟨t, h1, h2⟩ := hb cdv A outer s H E hr
    exact ⟨t, h1.nox, h2 _ _ _ hsp⟩
end
theorem room_n {X : Cx} (h : X.A.units + 64 < cLine) : (nestedKind X.prog X.w).room X.A.in1 := by
  show X.A.units + 1 + 8 < cLine
  omega
def stF (f : DM) (h : D) : Option D := match f [h] with
  | .ok s => some s
  | _ => none
def stN (f : DM) (h sc : D) (t : Nat) : Option (D × D) := match f [h, sc, .int (t : Int)] with
  | .ok (.tup [s, e]) => some (s, e)
  | _ => none
def stK (c : Nat) (f : DM) (h sc : D) (t : Nat) : Option (List D) := match h with
  | .ins c' ds => if c' = c then (match f [.ins c' ds] with
    | .ok (.int p) => if p ≠ 0 then some [.int ((t : Int).fmod p), sc] else none
    | _ => none) else none
  | _ => none
theorem stF_ok {f : DM} {h s : D} (q : stF f h = some s) : (eCall f [] (aCons (eVar 1) aNil)) (stE0 h) = .ok s (stE0 h) := by
  show (f [h]).out (stE0 h) = _
  unfold stF at q
  split at q
  · rename_i s' e
    cases q
    rw [e]
    rfl
  · cases q
theorem stN_ok {f : DM} {h sc : D} {t : Nat} {k ev : Option D} {p : D × D} (q : stN f h sc t = some p) : (eCall f [] (aCons (eVar 1) (aCons (eVar 2) (aCons (eVar 3) aNil)))) (stE1 h sc t k ev) = .ok (.tup [p.1, p.2]) (stE1 h sc t k ev) := by
  show (f [h, sc, .int (t : Int)]).out (stE1 h sc t k ev) = _
  unfold stN at q
  split at q
  · rename_i s' e' e
    cases q
    rw [e]
    rfl
  · cases q
theorem stK_ok {c : Nat} {f : DM} {h sc : D} {t : Nat} {k ev : Option D} {l : List D} (q : stK c f h sc t = some l) : (eTup (aCons (e2 oMod (eVar 3) (eProp c f (eVar 1))) (aCons (eVar 2) aNil))) (stE1 h sc t k ev) = .ok (.tup l) (stE1 h sc t k ev) := by
  unfold stK at q
  split at q
  case h_2 => cases q
  rename_i c' ds
  split at q
  case isFalse => cases q
  rename_i ec
  split at q
  case h_2 => cases q
  rename_i p e
  split at q
  case isFalse => cases q
  rename_i hp
  cases q
  have h1 : (eProp c f (eVar 1)) (stE1 (.ins c' ds) sc t k ev) = .ok (.int p) (stE1 (.ins c' ds) sc t k ev) := by
    unfold eProp
    show (if c' = c then (match f [.ins c' ds] with
      | .ok d => Out.ok d _
      | _ => .bad) else .bad) = _
    rw [if_pos ec, e]
  have h2 : (e2 oMod (eVar 3) (eProp c f (eVar 1))) (stE1 (.ins c' ds) sc t k ev) = .ok (.int ((t : Int).fmod p)) (stE1 (.ins c' ds) sc t k ev) := by
    show Out.bind (eProp c f (eVar 1) (stE1 (.ins c' ds) sc t k ev)) (fun y e' => .opt (oMod (.int (t : Int)) y) e') = _
    rw [h1]
    show Out.opt (if p ≠ 0 then some (D.int ((t : Int).fmod p)) else none) _ = _
    rw [if_pos hp]
    rfl
  show Out.bind (Out.bind (e2 oMod (eVar 3) (eProp c f (eVar 1)) (stE1 (.ins c' ds) sc t k ev)) (fun x e => (aCons (eVar 2) aNil e).bind fun xs e' => .ok (x :: xs) e')) _ = _
  rw [h2]
  rfl
theorem ar_dStory {c : Nat} {fs : D → Option D} {nx : D → D → Nat → Option (D × D)} {ky : D → D → Nat → Option (List D)} {d : D} {ds : List D} (h : dStory c fs nx ky d ds ≠ .bad) : ds.length + 1 = 2 := by
  unfold dStory at h
  split at h
  · rfl
  · exact absurd rfl h
section
variable {S : Sc} {X : Cx} {c : Nat} {E : XK} {ta tk tf : TE} {ma mk mf : EM} {body : List Stmt}
theorem story_pair (h1 : PSs X body (storyT S X tf ta tk)) (rf : RefE S [] [] E none false tf mf) (ra : RefE S [] [] E none false ta ma) (rk : RefE S [] [] E none false tk mk)
    (hfn : S.fn c = (["scenes", "events", "start", "last"] : List Str)) (cl : Cls S.K (S.ca c)) (n1 : NoAttr S.K (S.ca c) "scenes") (n2 : NoAttr S.K (S.ca c) "events") (n3 : NoAttr S.K (S.ca c) "start") (n4 : NoAttr S.K (S.ca c) "last")
    {fs : Mir.D → Option Mir.D} {nx : Mir.D → Mir.D → Nat → Option (Mir.D × Mir.D)} {ky : Mir.D → Mir.D → Nat → Option (List Mir.D)}
    (hf : ∀ h s, fs h = some s → mf (stE0 h) = .ok s (stE0 h))
    (ha : ∀ h sc t k ev p, nx h sc t = some p → ma (stE1 h sc t k ev) = .ok (.tup [p.1, p.2]) (stE1 h sc t k ev))
    (hk : ∀ h sc t k ev l, ky h sc t = some l → mk (stE1 h sc t k ev) = .ok (.tup l) (stE1 h sc t k ev))
    {N : List Str} (hN : N.length = 7) :
    ∃ t, PSs X body t ∧ ∀ vs H Q, spM0 S 2 (dStory c fs nx ky) vs H Q E → t { nx := fun _ H' => Q .non H', rt := Q } (L2.start N vs) H :=
  ⟨_, h1, fun vs H Q sp => story_run hfn cl n1 n2 n3 n4 rf ra rk hf ha hk hN sp⟩
end
end Mir
/-! MirY -/
/-! MirY: mirrors without effect, evaluated by terms. -/
namespace Mir
open PySem PySem.Spec PyProof.Rows L2
variable [Tbl]
section
variable {env : Env} {a b c : EM} {m n : SM} {t u : TM} {ar : AM} {x y z d : D} {i : Nat} {p q : Bool} {ds es : List D}
theorem k_var (h : env[i]? = some (some d)) : eVar i env = .ok d env := by rw [ap_eVar, h]
theorem k_c : eC d env = .ok d env := rfl
theorem k_e1 {f : D → Option D} (ha : a env = .ok x env) (hf : f x = some z) : e1 f a env = .ok z env := by rw [ap_e1, ha, Out.bind_ok, hf]; rfl
theorem k_e2 {f : D → D → Option D} (ha : a env = .ok x env) (hb : b env = .ok y env) (hf : f x y = some z) : e2 f a b env = .ok z env := by rw [ap_e2, ha, Out.bind_ok, hb, Out.bind_ok, hf]; rfl
theorem k_eA {f : List D → Option D} (ha : ar env = .ok ds env) (hf : f ds = some z) : eA f ar env = .ok z env := by rw [ap_eA, ha, Out.bind_ok, hf]; rfl
theorem k_nil : aNil env = .ok [] env := rfl
theorem k_cons (ha : a env = .ok x env) (hr : ar env = .ok ds env) : aCons a ar env = .ok (x :: ds) env := by rw [ap_aCons, ha, Out.bind_ok, hr]; rfl
theorem k_one (ha : a env = .ok x env) : aCons a aNil env = .ok [x] env := k_cons ha k_nil
theorem k_two (ha : a env = .ok x env) (hb : b env = .ok y env) : aCons a (aCons b aNil) env = .ok [x, y] env := k_cons ha (k_one hb)
theorem k_three (ha : a env = .ok x env) (hb : b env = .ok y env) (hc : c env = .ok z env) : aCons a (aCons b (aCons c aNil)) env = .ok [x, y, z] env := k_cons ha (k_two hb hc)
theorem k_A1 {f : D → Option D} (ha : a env = .ok x env) (hf : f x = some z) : eA (A1 f) (aCons a aNil) env = .ok z env := k_eA (k_one ha) hf
theorem k_A2 {f : D → D → Option D} (ha : a env = .ok x env) (hb : b env = .ok y env) (hf : f x y = some z) : eA (A2 f) (aCons a (aCons b aNil)) env = .ok z env := k_eA (k_two ha hb) hf
theorem k_tup (ha : ar env = .ok ds env) (hl : ds.length ≤ 100000 := by simp) : eTup ar env = .ok (.tup ds) env := by rw [ap_eTup, ha, Out.bind_ok, if_pos hl]; rfl
theorem k_lst (ha : ar env = .ok ds env) (hl : ds.length ≤ 100000 := by simp) : eLst ar env = .ok (.lst ds) env := by rw [ap_eLst, ha, Out.bind_ok, if_pos hl]; rfl
theorem k_up (ha : a env = .ok x env) (hp : x.pure = true) : eUp a env = .ok x env := by rw [ap_eUp, ha, Out.bind_ok, if_pos hp]
theorem k_upL (ha : a env = .ok (.lst ds) env) (hp : D.pureL ds = true) : eUpL a env = .ok (.lst ds) env := by rw [ap_eUpL, ha, Out.bind_ok]; dsimp only; rw [if_pos hp]
theorem k_test (ha : a env = .ok (.bl p) env) : mTest a env = .ok p env := by rw [ap_mTest, ha]; rfl
theorem k_and (ha : t env = .ok p env) (hb : p = true → u env = .ok q env) : mAnd t u env = .ok (p && q) env := by
  rw [ap_mAnd, ha, Out.bind_ok]
  cases p with
  | true => rw [if_pos rfl, hb rfl]; rfl
  | false => rfl
theorem k_or (ha : t env = .ok p env) (hb : p = false → u env = .ok q env) : mOr t u env = .ok (p || q) env := by
  rw [ap_mOr, ha, Out.bind_ok]
  cases p with
  | true => rfl
  | false => rw [if_neg (by decide), hb rfl]; rfl
theorem k_not (ha : t env = .ok p env) : mNot t env = .ok (!p) env := by rw [ap_mNot, ha]; rfl
theorem k_yes : mYes env = .ok true env := rfl
theorem k_andV (ha : a env = .ok (.bl p) env) (hb : p = true → b env = .ok (.bl q) env) : eAndV a b env = .ok (.bl (p && q)) env := by
  rw [ap_eAndV, ha, Out.bind_ok, dd_boo, Out.opt_some, Out.bind_ok]
  cases p with
  | true => rw [if_pos rfl, hb rfl]; rfl
  | false => rfl
theorem k_orV (ha : a env = .ok (.bl p) env) (hb : p = false → b env = .ok (.bl q) env) : eOrV a b env = .ok (.bl (p || q)) env := by
  rw [ap_eOrV, ha, Out.bind_ok, dd_boo, Out.opt_some, Out.bind_ok]
  cases p with
  | true => rfl
  | false => rw [if_neg (by decide), hb rfl]; rfl
theorem k_if (ht : t env = .ok p env) : eIf t a b env = if p then a env else b env := by rw [ap_eIf, ht]; rfl
theorem k_call {f : DM} {dds : List D} (ha : ar env = .ok ds env) (hf : f (ds ++ dds) = .ok d) : eCall f dds ar env = .ok d env := by rw [ap_eCall, ha, Out.bind_ok, hf]; rfl
theorem k_call0 {f : DM} (ha : ar env = .ok ds env) (hf : f ds = .ok d) : eCall f [] ar env = .ok d env := k_call ha (by rw [List.append_nil]; exact hf)
theorem k_meth {f : DM} {k : Nat} (ho : a env = .ok (.ins k es) env) (ha : ar env = .ok ds env) (hf : f (.ins k es :: ds) = .ok d) : eMeth k f [] a ar env = .ok d env := by
  rw [ap_eMeth, ho, Out.bind_ok]; dsimp only; rw [if_pos rfl, ha, Out.bind_ok, List.append_nil, hf]; rfl
theorem k_prop {f : DM} {k : Nat} (ho : a env = .ok (.ins k es) env) (hf : f [.ins k es] = .ok d) : eProp k f a env = .ok d env := by
  rw [ap_eProp, ho, Out.bind_ok]; dsimp only; rw [if_pos rfl, hf]
theorem k_fld {k j : Nat} (ho : a env = .ok (.ins k es) env) (h : es[j]? = some d) : eFld k j a env = .ok d env := by
  rw [ap_eFld, ho, Out.bind_ok]; unfold D.fld; dsimp only; rw [if_pos rfl, h]; rfl
theorem k_make {f : DM0} {k : Nat} (ha : ar env = .ok ds env) (hf : f (.ins k []) ds = .ok .non (.ins k es)) : eMake k f [] ar env = .ok (.ins k es) env := by
  rw [ap_eMake, ha, Out.bind_ok, List.append_nil, hf]; dsimp only; rw [if_pos rfl]
theorem k_rgL {k : Int} (ha : a env = .ok (.int k) env) (h : 0 ≤ k ∧ k ≤ 1000) : eRg false a env = .ok (.lst (rangeL 0 k.toNat)) env := by
  rw [ap_eRg, ha, Out.bind_ok, dd_toI, Out.opt_some, Out.bind_ok, if_pos (by omega)]; rfl
theorem k_rgT {k : Int} (ha : a env = .ok (.int k) env) (h : 0 ≤ k ∧ k ≤ 1000) : eRg true a env = .ok (.tup (rangeL 0 k.toNat)) env := by
  rw [ap_eRg, ha, Out.bind_ok, dd_toI, Out.opt_some, Out.bind_ok, if_pos (by omega)]; rfl
theorem k_itM (ha : a env = .ok x env) (h : x.items = some ds) : iSeqM a env = .ok ds env := by rw [ap_iSeqM, ha, Out.bind_ok, h]; rfl
theorem k_rng1 {k : Int} (ha : a env = .ok (.int k) env) (h : -(2 ^ 62) ≤ k ∧ k < 2 ^ 62) : iRng1M (aCons a aNil) env = .ok (rangeL 0 k.toNat) env := by
  rw [ap_iRng1M, k_one ha, Out.bind_ok]; unfold rng1; dsimp only; rw [if_pos h]; rfl
/-! statements -/
theorem w_asg (ha : a env = .ok d env) : sAsg a (gSet i) env = .next (env.set i (some d)) := by rw [ap_sAsg, ha]; rfl
theorem w_own (ha : a env = .ok d env) (hi : i < env.length) : sOwn a i env = .next (env.set i (some d)) := by rw [ap_sOwn, ha, Out.fl_ok, if_pos hi]
theorem w_ret (ha : a env = .ok d env) : sRet a env = .ret d env := by rw [ap_sRet, ha]; rfl
theorem w_drop (ha : a env = .ok d env) : sDrop a env = .next env := by rw [ap_sDrop, ha]; rfl
theorem w_retOwn (h : env[i]? = some (some (.lst ds))) : sRetOwn i env = .ret (.lst ds) env := by rw [ap_sRetOwn, h]
theorem w_app (h : env[i]? = some (some (.lst ds))) (ha : a env = .ok d env) (hl : ds.length < 100000) : sApp i a env = .next (env.set i (some (.lst (ds ++ [d])))) := by
  rw [ap_sApp, h]; dsimp only; rw [ha, Out.fl_ok, h]; dsimp only; rw [if_pos hl]
theorem w_ext (h : env[i]? = some (some (.lst ds))) (ha : a env = .ok (.lst es) env) (hl : ds.length + es.length ≤ 100000) : sExt i a env = .next (env.set i (some (.lst (ds ++ es)))) := by
  rw [ap_sExt, h]; dsimp only; rw [ha, Out.fl_ok, h]; dsimp only; rw [if_pos hl]
theorem w_aug {f : Int → Int → Int} {k l : Int} (h : env[i]? = some (some (.int k))) (ha : a env = .ok (.int l) env) : sAug i a f env = .next (env.set i (some (.int (f k l)))) := by
  rw [ap_sAug, h]; dsimp only; rw [ha, Out.fl_ok]
theorem w_parO {j : Nat} (ha : a env = .ok d env) (hb : b env = .ok x env) (hj : j < env.length) : sParO i a j b env = .next ((env.set i (some d)).set j (some x)) := by
  rw [ap_sParO, ha, Out.fl_ok, hb, Out.fl_ok, if_pos hj]
theorem w_par {j : Nat} (ha : a env = .ok d env) (hb : b env = .ok x env) : sPar i a j b env = .next ((env.set i (some d)).set j (some x)) := by rw [show sPar i a j b env = (a env).fl fun d e => (b e).fl fun c e1 => .next ((e1.set i (some d)).set j (some c)) from rfl, ha, Out.fl_ok, hb, Out.fl_ok]
theorem w_seq {e : Env} (h : m env = .next e) : sSeq m n env = n e := by rw [ap_sSeq, h]; rfl
theorem w_seqR {e : Env} (h : m env = .ret d e) : sSeq m n env = .ret d e := by rw [ap_sSeq, h]; rfl
theorem w_ex {e : Env} (h : m env = .next e) (k : ∃ e', n e = .ret d e') : ∃ e', sSeq m n env = .ret d e' := let ⟨e', k⟩ := k; ⟨e', (w_seq h).trans k⟩
theorem w_if (ht : t env = .ok p env) : sIf t m n env = if p then m env else n env := by rw [ap_sIf, ht]; rfl
/-! a comprehension over told things, without effect -/
theorem lcGo_pure {α : Type} (inj : α → D) (p : α → Bool) (f : α → D) {w : Env} {c : TM} {e : EM} : ∀ (xs : List α) (acc : List D), acc.length + xs.length ≤ 100000 → w[i]? = some none →
    (∀ x ∈ xs, c (w.set i (some (inj x))) = .ok (p x) (w.set i (some (inj x)))) → (∀ x ∈ xs, p x = true → e (w.set i (some (inj x))) = .ok (f x) (w.set i (some (inj x)))) →
    lcGo [i] (gSet i) c e (xs.map inj) acc w = .ok (acc ++ (xs.filter p).map f) w
  | [], acc, _, _, _, _ => by rw [List.map_nil, List.filter_nil, List.map_nil, List.append_nil]; rfl
  | x :: xs, acc, hl, hw, hc, he => by
    rw [List.length_cons] at hl
    have hr : wipeE (w.set i (some (inj x))) [i] = w := by
      show (w.set i (some (inj x))).set i none = w
      rw [List.set_set]
      apply List.ext_getElem?
      intro j
      by_cases hj : i = j
      · subst hj
        rw [List.getElem?_set_self (List.getElem?_eq_some_iff.mp hw).1, hw]
      · rw [List.getElem?_set_ne hj]
    rw [List.map_cons]
    unfold lcGo
    rw [ap_gSet]
    dsimp only
    rw [hc x List.mem_cons_self, Out.noX_ok, Out.bind_ok]
    cases q : p x with
    | true =>
      rw [if_pos rfl, he x List.mem_cons_self q, Out.noX_ok, Out.bind_ok, if_pos (by omega), hr, List.filter_cons_of_pos q, List.map_cons,
        lcGo_pure inj p f xs (acc ++ [f x]) (by rw [List.length_append]; simp only [List.length_cons, List.length_nil]; omega) hw (fun y m => hc y (List.mem_cons_of_mem _ m)) (fun y m => he y (List.mem_cons_of_mem _ m))]
      simp
    | false =>
      rw [if_neg (by decide), hr, List.filter_cons_of_neg (by rw [q]; decide),
        lcGo_pure inj p f xs acc (by omega) hw (fun y m => hc y (List.mem_cons_of_mem _ m)) (fun y m => he y (List.mem_cons_of_mem _ m))]
theorem k_lc {α : Type} (inj : α → D) (p : α → Bool) (f : α → D) {it : IM} {c : TM} {e : EM} {xs : List α} (hi : i < env.length) (hit : it env = .ok (xs.map inj) env) (hl : xs.length ≤ 100000)
    (hc : ∀ x ∈ xs, c (env.set i (some (inj x))) = .ok (p x) (env.set i (some (inj x)))) (he : ∀ x ∈ xs, p x = true → e (env.set i (some (inj x))) = .ok (f x) (env.set i (some (inj x)))) :
    eLc [i] it (gSet i) c e env = .ok (.lst ((xs.filter p).map f)) env := by
  rw [ap_eLc, hit, Out.bind_ok]
  have h1 : ∀ v : Option D, (wipeE env [i]).set i v = env.set i v := fun v => by
    show (env.set i none).set i v = _
    rw [List.set_set]
  have h2 := lcGo_pure (i := i) inj p f (w := wipeE env [i]) (c := c) (e := e) xs [] (by simpa using hl) (by show (env.set i none)[i]? = _; rw [List.getElem?_set_self hi]) (fun x m => by rw [h1]; exact hc x m) (fun x m hp => by rw [h1]; exact he x m hp)
  rw [h2, Out.bind_ok, List.nil_append]
  congr 1
  show ((env.set i none)).set i (env.getD i none) = env
  rw [List.set_set]
  apply List.ext_getElem?
  intro j
  by_cases hj : i = j
  · subst hj
    rw [List.getElem?_set_self hi, List.getD_eq_getElem?_getD, List.getElem?_eq_getElem hi]
    rfl
  · rw [List.getElem?_set_ne hj]
/-- without a test -/
theorem k_lcM {α : Type} (inj : α → D) (f : α → D) {it : IM} {e : EM} {xs : List α} (hi : i < env.length) (hit : it env = .ok (xs.map inj) env) (hl : xs.length ≤ 100000)
    (he : ∀ x ∈ xs, e (env.set i (some (inj x))) = .ok (f x) (env.set i (some (inj x)))) : eLc [i] it (gSet i) mYes e env = .ok (.lst (xs.map f)) env := by
  rw [k_lc (c := mYes) inj (fun _ => true) f hi hit hl (fun _ _ => rfl) (fun x m _ => he x m)]
  congr 3
  exact List.filter_eq_self.mpr fun _ _ => rfl
end
/-! ranges as ints -/
def rgI (n : Nat) : List Int := (List.range n).map Int.ofNat
theorem rangeL_rgI (n : Nat) : rangeL 0 n = (rgI n).map .int := by
  unfold rangeL rgI
  rw [List.map_map]
  apply List.map_congr_left
  intro j _
  show D.int (0 + (j : Int)) = D.int (Int.ofNat j)
  rw [Int.zero_add]
  rfl
theorem mem_rgI {n : Nat} {k : Int} : k ∈ rgI n ↔ 0 ≤ k ∧ k < n := by
  unfold rgI
  rw [List.mem_map]
  constructor
  · rintro ⟨j, hj, rfl⟩
    have := List.mem_range.mp hj
    exact ⟨Int.natCast_nonneg j, by show (j : Int) < n; omega⟩
  · rintro ⟨h1, h2⟩
    exact ⟨k.toNat, List.mem_range.mpr (by omega), by show ((k.toNat : Nat) : Int) = k; omega⟩
theorem len_rgI (n : Nat) : (rgI n).length = n := by unfold rgI; rw [List.length_map, List.length_range]
/-! what lists of ints and pairs answer -/
theorem any_ints (k : Int) (xs : List Int) : ((xs.map D.int).any fun z => z.eqb (.int k)) = decide (k ∈ xs) := by
  induction xs with
  | nil => simp
  | cons x xs ih =>
    rw [List.map_cons, List.any_cons, ih, eq_int]
    by_cases h : x = k
    · subst h; simp
    · have h1 : (x == k) = false := beq_eq_false_iff_ne.mpr h
      have h2 : ¬ k = x := fun z => h z.symm
      simp [h1, h2]
theorem oIn_intsT (k : Int) (xs : List Int) : oIn (.int k) (.tup (xs.map .int)) = some (.bl (decide (k ∈ xs))) := by
  unfold oIn oInB
  simp only [fit_int, fit_intsT, Bool.and_self, if_true, Option.map_some, any_ints]
theorem oIn_intsL (k : Int) (xs : List Int) : oIn (.int k) (.lst (xs.map .int)) = some (.bl (decide (k ∈ xs))) := by
  unfold oIn oInB
  simp only [fit_int, fit_ints, Bool.and_self, if_true, Option.map_some, any_ints]
theorem oNotIn_intsT (k : Int) (xs : List Int) : oNotIn (.int k) (.tup (xs.map .int)) = some (.bl (!decide (k ∈ xs))) := by
  unfold oNotIn oInB
  simp only [fit_int, fit_intsT, Bool.and_self, if_true, Option.map_some, any_ints]
theorem oNotIn_intsL (k : Int) (xs : List Int) : oNotIn (.int k) (.lst (xs.map .int)) = some (.bl (!decide (k ∈ xs))) := by
  unfold oNotIn oInB
  simp only [fit_int, fit_ints, Bool.and_self, if_true, Option.map_some, any_ints]
theorem eqb_pairs (a b : Int × Int) : (pairD a).eqb (pairD b) = decide (a = b) := by
  simp only [pairD, D.eqb, D.eqbL, Bool.and_true]
  by_cases h : a = b
  · subst h; simp
  · rw [decide_eq_false h]
    by_cases h1 : a.1 = b.1
    · have h2 : ¬ a.2 = b.2 := fun z => h (Prod.ext h1 z)
      simp [h2]
    · simp [h1]
theorem any_pairs (k : Int × Int) (xs : List (Int × Int)) : ((xs.map pairD).any fun z => z.eqb (pairD k)) = decide (k ∈ xs) := by
  induction xs with
  | nil => simp
  | cons x xs ih =>
    rw [List.map_cons, List.any_cons, ih, eqb_pairs]
    by_cases h : x = k
    · subst h; simp
    · have h2 : ¬ k = x := fun z => h z.symm
      simp [h, h2]
theorem fit_pairsT (xs : List (Int × Int)) : (D.tup (xs.map pairD)).fit = true := fit_of (by simp) (by rw [de_tup]; have := de_pairs xs; omega)
theorem fit_pairsL (xs : List (Int × Int)) : (D.lst (xs.map pairD)).fit = true := fit_of (by simp) (by rw [de_lst]; have := de_pairs xs; omega)
theorem fit_pair (p : Int × Int) : (pairD p).fit = true := fit_of rfl (by show 1 ≤ 64; omega)
theorem oIn_pairsT (k : Int × Int) (xs : List (Int × Int)) : oIn (pairD k) (.tup (xs.map pairD)) = some (.bl (decide (k ∈ xs))) := by
  have e : oInB (pairD k) (.tup (xs.map pairD)) = some (decide (k ∈ xs)) := by
    unfold oInB
    show (if (pairD k).fit && (D.tup (xs.map pairD)).fit then some ((xs.map pairD).any fun z => z.eqb (pairD k)) else none) = _
    simp only [fit_pair, fit_pairsT, Bool.and_self, if_true, any_pairs]
  unfold oIn
  rw [e]; rfl
theorem oIn_pairsL (k : Int × Int) (xs : List (Int × Int)) : oIn (pairD k) (.lst (xs.map pairD)) = some (.bl (decide (k ∈ xs))) := by
  have e : oInB (pairD k) (.lst (xs.map pairD)) = some (decide (k ∈ xs)) := by
    unfold oInB
    show (if (pairD k).fit && (D.lst (xs.map pairD)).fit then some ((xs.map pairD).any fun z => z.eqb (pairD k)) else none) = _
    simp only [fit_pair, fit_pairsL, Bool.and_self, if_true, any_pairs]
  unfold oIn
  rw [e]; rfl
theorem oNotIn_pairsL (k : Int × Int) (xs : List (Int × Int)) : oNotIn (pairD k) (.lst (xs.map pairD)) = some (.bl (!decide (k ∈ xs))) := by
  have e : oInB (pairD k) (.lst (xs.map pairD)) = some (decide (k ∈ xs)) := by
    unfold oInB
    show (if (pairD k).fit && (D.lst (xs.map pairD)).fit then some ((xs.map pairD).any fun z => z.eqb (pairD k)) else none) = _
    simp only [fit_pair, fit_pairsL, Bool.and_self, if_true, any_pairs]
  unfold oNotIn
  rw [e]; rfl
theorem oNe_pair (a b : Int × Int) : oNe (pairD a) (pairD b) = some (.bl (!decide (a = b))) := by
  unfold oNe oEqB
  show Option.map (fun b => D.bl !b) (if (pairD a).fit && (pairD b).fit then some ((pairD a).eqb (pairD b)) else none) = _
  simp only [fit_pair, Bool.and_self, if_true, eqb_pairs, Option.map_some]
theorem oNe_ints (xs ys : List Int) : oNe (.lst (xs.map .int)) (.lst (ys.map .int)) = some (.bl (!decide (xs = ys))) := by
  unfold oNe oEqB
  simp only [fit_ints, Bool.and_self, if_true, Option.map_some, D.eqb, eqbL_refl_int]
theorem oEq_ints (xs ys : List Int) : oEq (.lst (xs.map .int)) (.lst (ys.map .int)) = some (.bl (decide (xs = ys))) := by
  unfold oEq oEqB
  simp only [fit_ints, Bool.and_self, if_true, Option.map_some, D.eqb, eqbL_refl_int]
theorem oNe_intsT (xs ys : List Int) : oNe (.tup (xs.map .int)) (.tup (ys.map .int)) = some (.bl (!decide (xs = ys))) := by
  unfold oNe oEqB
  simp only [fit_intsT, Bool.and_self, if_true, Option.map_some, D.eqb, eqbL_refl_int]
theorem oEq_intsT (xs ys : List Int) : oEq (.tup (xs.map .int)) (.tup (ys.map .int)) = some (.bl (decide (xs = ys))) := by
  unfold oEq oEqB
  simp only [fit_intsT, Bool.and_self, if_true, Option.map_some, D.eqb, eqbL_refl_int]
theorem blsOf_bls (bs : List Bool) : blsOf (bs.map D.bl) = some bs := by
  induction bs with
  | nil => rfl
  | cons b bs ih => unfold blsOf; rw [List.map_cons] ; simp [blsOf, ih]
theorem oAny_bls (bs : List Bool) : oAny (.lst (bs.map .bl)) = some (.bl (bs.any id)) := by unfold oAny; dsimp only; rw [blsOf_bls]; rfl
theorem oAll_bls (bs : List Bool) : oAll (.lst (bs.map .bl)) = some (.bl (bs.all id)) := by unfold oAll; dsimp only; rw [blsOf_bls]; rfl
theorem intsOf_ints (xs : List Int) : intsOf (xs.map D.int) = some xs := by
  induction xs with
  | nil => rfl
  | cons b bs ih => rw [List.map_cons]; simp [intsOf, ih]
theorem oSort_ints (xs : List Int) : oSort (.lst (xs.map .int)) = some (.lst ((sortI xs).map .int)) := by unfold oSort; dsimp only; rw [intsOf_ints]
theorem oAdd_intsL {xs ys : List Int} (h : xs.length + ys.length ≤ 100000) : oAdd (.lst (xs.map .int)) (.lst (ys.map .int)) = some (.lst ((xs ++ ys).map .int)) := by
  rw [List.map_append]
  unfold oAdd
  dsimp only
  rw [List.length_map, List.length_map, if_pos h]
end Mir
/-! MirZ -/
/-! MirZ: own empty lists beside other targets; x.index(y); tuples of ints by < -/
namespace Mir
open PySem PySem.Spec PyProof.Rows L2
variable [Tbl]
section
variable {S : Sc} {O P : List Nat} {E : XK} {μ : Mo} {fr fa fb fc : Bool} {ta tb tc : TE} {ma mb mc : EM}
theorem fpSet_sub {fp : Fp} {j : Nat} {a x : Addr} {i : Nat} (z : x ∈ fpSet fp j [a] i) : (i = j ∧ x = a) ∨ (i ≠ j ∧ x ∈ fp i) := by
  unfold fpSet at z
  split at z
  · rename_i e
    exact .inl ⟨e, List.mem_singleton.mp z⟩
  · rename_i e
    exact .inr ⟨e, z⟩
/-- an own slot gets a new empty list -/
theorem Rel.newOwn {R : Rx} {σ : L2.St} {H : Hp} {fp : Fp} {env : Env} {j : Nat} {p : Addr} (I : Rel S O P R σ H fp env) (hO : j ∈ O) (hP : j ∉ P) (hj : j < env.length) (hp : H p = none) :
    Rel S O P R (σ.set j (some (.ref p))) (L2.upd H p (.lst [])) (fpSet fp j [p]) (env.set j (some (.lst []))) ∧ Fwd (Lv fp) H (Lv (fpSet fp j [p])) (L2.upd H p (.lst [])) := by
  have n0 : R.H0 p = none := by
    cases q : R.H0 p with
    | none => rfl
    | some o => exact absurd hp (I.dom p (by rw [q]; exact fun z => nomatch z))
  have nf : ¬ Fs R fp p := fun z => I.fs z hp
  have g : Ext Nil H (L2.upd H p (.lst [])) := Ext.new hp
  have Ig := I.grow g
  have w : ∀ x, (Fs R fp x ∨ x = p) → Fs R fp x ∨ H x = none := fun x z => z.imp id fun e => by rw [e]; exact hp
  refine ⟨Ig.setOwn hO hP hj n0 nf upd_same .nil fun k d h1 hk => ⟨fun h2 => ?_, fun h2 => ?_⟩, g.mono fun x z => z.elim, fun x z => ?_, fun x z => g.dom z⟩
  · obtain ⟨v, q1, q2⟩ := I.val k d h1 h2
    exact ⟨v, q1, (q2.less w).grow g⟩
  · obtain ⟨v, q1, q2⟩ := I.own k d h1 h2
    exact ⟨v, q1, q2.fwd g w⟩
  · obtain ⟨i, z⟩ := z
    rcases fpSet_sub z with ⟨_, z⟩ | ⟨_, z⟩
    · exact .inr (by rw [z]; exact hp)
    · exact .inl ⟨i, z⟩
/-- x, y = [], []: both own -/
def sParOO (i j : Nat) : SM := fun env => if i < env.length ∧ j < env.length then .next ((env.set i (some (.lst []))).set j (some (.lst []))) else .bad
theorem rs_parOO {i j : Nat} (hi : i ∈ O) (hj : j ∈ O) (hPi : i ∉ P) (hPj : j ∉ P) : RefS S O P E fr (tPar i j (tCons (tLst tNil) (tCons (tLst tNil) tNil))) (sParOO i j) := by
  intro R σ H fp env I D h
  unfold sParOO at h
  split at h
  · rename_i c
    refine ⟨Nat.zero_le _, fun p hp => ⟨Nat.zero_le _, fun q hq => ⟨_, _, rfl, ?_⟩⟩⟩
    obtain ⟨I1, w1⟩ := I.newOwn hi hPi c.1 hp
    obtain ⟨I2, w2⟩ := I1.newOwn hj hPj (by rw [List.length_set]; exact c.2) hq
    exact h _ _ _ I2 (w1.trans w2)
  · exact h.elim
/-- x, y = [], b: x own -/
def sParO1 (i j : Nat) (b : EM) : SM := fun env => (b env).fl fun c e => if i < e.length then .next ((e.set i (some (.lst []))).set j (some c)) else .bad
theorem rs_parO1 {i j : Nat} (hi : i ∈ O) (hj : j ∉ O) (hP : i ∉ P) (hb : RefE S O P E none fb tb mb) : RefS S O P E fr (tPar i j (tCons (tLst tNil) (tCons tb tNil))) (sParO1 i j mb) := by
  intro R σ H fp env I D h
  refine ⟨Nat.zero_le _, fun p hp => ?_⟩
  have g : Ext Nil H (L2.upd H p (.lst [])) := Ext.new hp
  have n0 : R.H0 p = none := by
    cases q : R.H0 p with
    | none => rfl
    | some o => exact absurd hp (I.dom p (by rw [q]; exact fun z => nomatch z))
  have Ip : Rel S O P (R.plus p) σ (L2.upd H p (.lst [])) fp env := I.plus hp g (by rw [upd_same]; exact fun z => nomatch z)
  have un : ∀ {H' : Hp} {fp' : Fp} {e : Env}, Rel S O P (R.plus p) σ H' fp' e → Rel S O P R σ H' fp' e := fun {H' fp' e} J =>
    ⟨J.len, fun i d h1 h2 => let ⟨v, a, b⟩ := J.val i d h1 h2; ⟨v, a, b.less fun x z => .inl (fs_plus.mpr (.inl z))⟩, fun i d h1 h2 => let ⟨v, a, b⟩ := J.own i d h1 h2; ⟨v, a, b.fwd (Ext.refl _ _) fun x z => .inl (fs_plus.mpr (.inl z))⟩, J.non, J.dist, J.nd,
      fun i b hb => ⟨(J.src i b hb).1, fun hp => ⟨((J.src i b hb).2 hp).1, fun z => ((J.src i b hb).2 hp).2 (.inl z)⟩⟩, J.ext, fun b z => J.gl b (.inl z), J.live, J.dom, J.mh, J.tb, ⟨J.hb.e, J.hb.m⟩⟩
  refine hb (R.plus p) σ (L2.upd H p (.lst [])) fp env Ip _ ?_
  cases q : mb env with
  | bad => unfold sParO1 at h; rw [q] at h; exact h
  | exc x e =>
    unfold sParO1 at h
    rw [q] at h
    intro cls dd H' fp' J s r
    exact h cls dd σ H' fp' (un J) ((Fwd.grow g).trans s.strong) r
  | ok c e =>
    unfold sParO1 at h
    rw [q] at h
    intro H2 fp2 J s u hu _
    have h : WantS S O P E fr R H fp (if i < e.length then Fl.next ((e.set i (some (.lst []))).set j (some c)) else .bad) D σ := h
    split at h
    · rename_i hl
      refine ⟨_, _, rfl, ?_⟩
      have s : Fwd (Lv fp) (L2.upd H p (.lst [])) (Lv fp2) H2 := s
      have np : ¬ Lv fp p := fun ⟨k, z⟩ => I.live k p z hp
      have hp2 : H2 p = some (.lst []) := s.1.k p _ upd_same (.inl np) trivial
      have nf : ¬ Fs R fp2 p := fun z => by
        rcases z with z | ⟨k, z⟩
        · exact I.gl p z hp
        · by_cases hk : k ∈ P
          · exact I.mh p ((J.src k p z).1 hk) n0
          · exact ((J.src k p z).2 hk).2 (.inr rfl)
      have w : ∀ x, (Fs R fp2 x ∨ x = p) → Fs (R.plus p) fp2 x ∨ H2 x = none := fun x z => .inl (fs_plus.mpr z)
      have ru : Rep S (Fs (R.plus p) fp2) H2 c u := hu.rep
      have I3 : Rel S O P R (σ.set i (some (.ref p))) H2 (fpSet fp2 i [p]) (e.set i (some (.lst []))) := (un J).setOwn hi hP hl n0 nf hp2 .nil fun k d h1 hk =>
        ⟨fun h2 => let ⟨v, q1, q2⟩ := J.val k d h1 h2; ⟨v, q1, q2.less w⟩, fun h2 => let ⟨v, q1, q2⟩ := J.own k d h1 h2; ⟨v, q1, q2.fwd (Ext.refl _ _) w⟩⟩
      have I4 := I3.set (i := j) hj (ru.less fun x z => by
        rcases z with z | ⟨k, z⟩
        · exact .inl (fs_plus.mpr (.inl (.inl z)))
        · rcases fpSet_sub z with ⟨_, z⟩ | ⟨_, z⟩
          · exact .inl (fs_plus.mpr (.inr z))
          · exact .inl (fs_plus.mpr (.inl (.inr ⟨k, z⟩))))
      have wt : Fwd (Lv fp) H (Lv fp2) H2 := (Fwd.grow g).trans s
      refine h _ H2 _ I4 ⟨wt.1, fun x z => ?_, wt.2.2⟩
      obtain ⟨k, z⟩ := z
      rcases fpSet_sub z with ⟨_, z⟩ | ⟨_, z⟩
      · exact .inr (by rw [z]; exact hp)
      · exact wt.2.1 x ⟨k, z⟩
    · exact h.elim
/-- the same by way of a tuple -/
theorem rs_tupO1 {i j : Nat} (hi : i ∈ O) (hj : j ∉ O) (hP : i ∉ P) (hb : RefE S O P E none fb tb mb) : RefS S O P E fr (tAsg (tTup (tCons (tLst tNil) (tCons tb tNil))) (gTup S.K 2 (gCons (gName i) (gCons (gName j) gNil)))) (sParO1 i j mb) := by
  intro R σ H fp env I D h
  refine ⟨Nat.zero_le _, fun p hp => ?_⟩
  have g : Ext Nil H (L2.upd H p (.lst [])) := Ext.new hp
  have n0 : R.H0 p = none := by
    cases q : R.H0 p with
    | none => rfl
    | some o => exact absurd hp (I.dom p (by rw [q]; exact fun z => nomatch z))
  have Ip : Rel S O P (R.plus p) σ (L2.upd H p (.lst [])) fp env := I.plus hp g (by rw [upd_same]; exact fun z => nomatch z)
  have un : ∀ {H' : Hp} {fp' : Fp} {e : Env}, Rel S O P (R.plus p) σ H' fp' e → Rel S O P R σ H' fp' e := fun {H' fp' e} J =>
    ⟨J.len, fun i d h1 h2 => let ⟨v, a, b⟩ := J.val i d h1 h2; ⟨v, a, b.less fun x z => .inl (fs_plus.mpr (.inl z))⟩, fun i d h1 h2 => let ⟨v, a, b⟩ := J.own i d h1 h2; ⟨v, a, b.fwd (Ext.refl _ _) fun x z => .inl (fs_plus.mpr (.inl z))⟩, J.non, J.dist, J.nd,
      fun i b hb => ⟨(J.src i b hb).1, fun hp => ⟨((J.src i b hb).2 hp).1, fun z => ((J.src i b hb).2 hp).2 (.inl z)⟩⟩, J.ext, fun b z => J.gl b (.inl z), J.live, J.dom, J.mh, J.tb, ⟨J.hb.e, J.hb.m⟩⟩
  refine hb (R.plus p) σ (L2.upd H p (.lst [])) fp env Ip _ ?_
  cases q : mb env with
  | bad => unfold sParO1 at h; rw [q] at h; exact h
  | exc x e =>
    unfold sParO1 at h
    rw [q] at h
    intro cls dd H' fp' J s r
    exact h cls dd σ H' fp' (un J) ((Fwd.grow g).trans s.strong) r
  | ok c e =>
    unfold sParO1 at h
    rw [q] at h
    intro H2 fp2 J s u hu _
    have h : WantS S O P E fr R H fp (if i < e.length then Fl.next ((e.set i (some (.lst []))).set j (some c)) else .bad) D σ := h
    split at h
    · rename_i hl
      refine ⟨by show 2 ≤ sizeLine; decide, fun t ht => ⟨t, _, rfl, .inl (.inl upd_same), rfl, _, _, rfl, _, _, rfl, rfl, ?_⟩⟩
      have s : Fwd (Lv fp) (L2.upd H p (.lst [])) (Lv fp2) H2 := s
      have np : ¬ Lv fp p := fun ⟨k, z⟩ => I.live k p z hp
      have hp2 : H2 p = some (.lst []) := s.1.k p _ upd_same (.inl np) trivial
      have nf : ¬ Fs R fp2 p := fun z => by
        rcases z with z | ⟨k, z⟩
        · exact I.gl p z hp
        · by_cases hk : k ∈ P
          · exact I.mh p ((J.src k p z).1 hk) n0
          · exact ((J.src k p z).2 hk).2 (.inr rfl)
      have w : ∀ x, (Fs R fp2 x ∨ x = p) → Fs (R.plus p) fp2 x ∨ H2 x = none := fun x z => .inl (fs_plus.mpr z)
      have ru : Rep S (Fs (R.plus p) fp2) H2 c u := hu.rep
      have I3 : Rel S O P R (σ.set i (some (.ref p))) H2 (fpSet fp2 i [p]) (e.set i (some (.lst []))) := (un J).setOwn hi hP hl n0 nf hp2 .nil fun k d h1 hk =>
        ⟨fun h2 => let ⟨v, q1, q2⟩ := J.val k d h1 h2; ⟨v, q1, q2.less w⟩, fun h2 => let ⟨v, q1, q2⟩ := J.own k d h1 h2; ⟨v, q1, q2.fwd (Ext.refl _ _) w⟩⟩
      have I4 := I3.set (i := j) hj (ru.less fun x z => by
        rcases z with z | ⟨k, z⟩
        · exact .inl (fs_plus.mpr (.inl (.inl z)))
        · rcases fpSet_sub z with ⟨_, z⟩ | ⟨_, z⟩
          · exact .inl (fs_plus.mpr (.inr z))
          · exact .inl (fs_plus.mpr (.inl (.inr ⟨k, z⟩))))
      have wt : Fwd (Lv fp) H (Lv fp2) H2 := (Fwd.grow g).trans s
      have w4 : Fwd (Lv fp) H (Lv (fpSet fp2 i [p])) H2 := ⟨wt.1, fun x z => by
        obtain ⟨k, z⟩ := z
        rcases fpSet_sub z with ⟨_, z⟩ | ⟨_, z⟩
        · exact .inr (by rw [z]; exact hp)
        · exact wt.2.1 x ⟨k, z⟩, wt.2.2⟩
      exact h _ _ _ (I4.grow (Ext.new ht)) (w4.trans (Fwd.grow (Ext.new ht)))
    · exact h.elim
/-- x, y, z = a, b, c -/
def sPar3 (i : Nat) (a : EM) (j : Nat) (b : EM) (l : Nat) (c : EM) : SM := fun env => (a env).fl fun x e => (b e).fl fun y e1 => (c e1).fl fun z e2 => .next (((e2.set i (some x)).set j (some y)).set l (some z))
theorem rs_par3 {i j l : Nat} (hi : i ∉ O) (hj : j ∉ O) (hl : l ∉ O) (ha : RefE S O P E none fa ta ma) (hb : RefE S O P E none fb tb mb) (hc : RefE S O P E none fc tc mc) : RefS S O P E fr (tPar3 i j l (tCons ta (tCons tb (tCons tc tNil)))) (sPar3 i ma j mb l mc) := by
  intro R σ H fp env I D h
  refine ha R σ H fp env I _ ((want_fl h).mono fun x e1 H1 f1 I1 s1 hp v hv _ => ?_)
  refine hb R σ H1 f1 e1 I1 _ ((want_fl hp).mono fun y e2 H2 f2 I2 s2 hq u hu _ => ?_)
  refine hc R σ H2 f2 e2 I2 _ ((want_fl0 hq).mono fun z e3 H3 f3 I3 s3 hr w hw _ => ?_)
  refine ⟨v, u, w, rfl, hr _ H3 f3 (((I3.set hi (Rep.fwd s3.fwd _ _ (Rep.fwd s2.fwd _ _ hv.rep))).set hj (Rep.fwd s3.fwd _ _ hu.rep)).set hl hw.rep) s3.strong⟩
/-- x, y, z, w = a, [], [], d: y and z own -/
def sPar4E (i : Nat) (a : EM) (j k l : Nat) (d : D) : SM := fun env => (a env).fl fun x e => if j < e.length ∧ k < e.length then .next ((((e.set i (some x)).set j (some (.lst []))).set k (some (.lst []))).set l (some d)) else .bad
theorem rs_par4E {i j k l : Nat} {c : Int} (hi : i ∉ O) (hj : j ∈ O) (hk : k ∈ O) (hl : l ∉ O) (hPj : j ∉ P) (hPk : k ∉ P) (ha : RefE S O P E none fa ta ma) :
    RefS S O P E fr (tAsg (tTup (tCons ta (tCons (tLst tNil) (tCons (tLst tNil) (tCons (tC (.int c)) tNil))))) (gTup S.K 4 (gCons (gName i) (gCons (gName j) (gCons (gName k) (gCons (gName l) gNil)))))) (sPar4E i ma j k l (.int c)) := by
  intro R σ H fp env I D h
  refine ha R σ H fp env I _ ((want_fl h).mono fun x e1 H1 f1 I1 s1 hp v hv _ => ?_)
  split at hp
  · rename_i c2
    refine ⟨Nat.zero_le _, fun p hp1 => ⟨Nat.zero_le _, fun q hq1 => ⟨by show 4 ≤ sizeLine; decide, fun t ht => ?_⟩⟩⟩
    refine ⟨t, _, rfl, .inl (.inl upd_same), rfl, v, _, rfl, _, _, rfl, _, _, rfl, _, _, rfl, rfl, ?_⟩
    obtain ⟨J1, w1⟩ := (I1.set (i := i) hi hv.rep).newOwn hj hPj (by rw [List.length_set]; exact c2.1) hp1
    obtain ⟨J2, w2⟩ := J1.newOwn hk hPk (by rw [List.length_set, List.length_set]; exact c2.2) hq1
    have g : Ext Nil (L2.upd (L2.upd H1 p (.lst [])) q (.lst [])) (L2.upd (L2.upd (L2.upd H1 p (.lst [])) q (.lst [])) t (.tup [v, .ref p, .ref q, .int c])) := Ext.new ht
    have J3 := (J2.grow g).set (i := l) (d := .int c) (v := .int c) hl rfl
    exact hp _ _ _ J3 ((w1.trans w2).trans (Fwd.grow g))
  · exact hp.elim
/-! x.index(y) -/
theorem index_py {y : D} {p : PyData} (hp : y.py = some p) : ∀ {ds : List D} {ps : List PyData} {j : Nat}, D.pyL ds = some ps → ds.findIdx? (fun z => z.eqb y) = some j → ∃ z, ps[j]? = some z ∧ PyData.eqv z p = true ∧ ∀ m z', m < j → ps[m]? = some z' → PyData.eqv z' p = false
  | [], _, _, _, h => by cases h
  | d :: ds, ps, j, h, hj => by
    have h : (d.py.bind fun p => (D.pyL ds).map (p :: ·)) = some ps := h
    obtain ⟨q, z1, z2⟩ := Option.bind_eq_some_iff.mp h
    cases z : D.pyL ds with
    | none => rw [z] at z2; cases z2
    | some rs =>
      rw [z] at z2
      cases z2
      have e := eqv_py _ _ _ _ z1 hp
      rw [List.findIdx?_cons] at hj
      cases c : d.eqb y with
      | true =>
        rw [c, if_pos rfl] at hj
        cases hj
        exact ⟨q, rfl, by rw [e, c], fun m z' hm => by omega⟩
      | false =>
        rw [c, if_neg (by decide)] at hj
        cases r : ds.findIdx? (fun z => z.eqb y) with
        | none => rw [r] at hj; cases hj
        | some i =>
          rw [r] at hj
          cases hj
          obtain ⟨w, w1, w2, w3⟩ := index_py hp z r
          refine ⟨w, w1, w2, fun m z' hm hz => ?_⟩
          cases m with
          | zero =>
            cases (show q = z' from by simpa using hz)
            rw [e, c]
          | succ m => exact w3 m z' (Nat.lt_of_succ_lt_succ hm) (by simpa using hz)
def oIndex : List D → D → Option D := fun ds y => if (D.lst ds).fit && y.fit then (ds.findIdx? fun z => z.eqb y).map fun j => .int (j : Int) else none
def eIndex (a b : EM) : EM := fun env => (a env).bind fun x e => match x with
  | .lst ds => (b e).bind fun y e' => .opt (oIndex ds y) e'
  | _ => .bad
theorem ref_index (ha : RefE S O P E μ fa ta ma) (hb : RefE S O P E μ fb tb mb) : RefE S O P E μ false (tBM S.K "list" (rIndexD S.K) ta (tCons tb tNil)) (eIndex ma mb) := by
  intro R σ H fp env I Q h
  refine ha R σ H fp env I _ ((Want.bind h).mono fun x e1 H1 f1 I1 s1 h1 v hv _ => ?_)
  cases x with
  | lst ds =>
    have hv := hv.rep
    have hv' := hv
    obtain ⟨a, vs, rfl, n, q1, q2⟩ := hv'
    refine ⟨.inl ⟨rfl, vs, .inl (.inl q1)⟩, ?_⟩
    refine hb R σ H1 f1 e1 I1 _ ((Want.bind h1).mono fun y e2 H2 f2 I2 s2 h2 u hu _ => ?_)
    have hx : Rep S (FM R f2 μ) H2 (.lst ds) (.ref a) := Rep.fwd s2.fwd _ _ hv
    obtain ⟨z, hz⟩ := want_some h2
    have hz' := hz
    unfold oIndex at hz
    split at hz
    · rename_i c
      have c := Bool.and_eq_true_iff.mp c
      obtain ⟨p, p1, p2⟩ := fit_py c.1
      obtain ⟨q, r1, r2⟩ := fit_py c.2
      have p3 := p1
      have p1 : (D.pyL ds).map PyData.list = some p := p1
      cases w : D.pyL ds with
      | none => rw [w] at p1; cases p1
      | some ps =>
        rw [w] at p1
        cases p1
        cases fi : ds.findIdx? (fun z => z.eqb y) with
        | none => rw [fi] at hz; cases hz
        | some j =>
          rw [fi] at hz
          cases hz
          obtain ⟨zz, y1, y2, y3⟩ := index_py r1 w fi
          exact ⟨a, u, q, ps, j, zz, rfl, rfl, rep_dp hx p3, rep_dp hu.rep r1, p2, r2, y1, y2, y3, want_opt h2 hz' I2 (fun a q => (s1.trans s2).dom q) (Ext.refl _ _) rfl⟩
    · cases hz
  | _ => exact h1.elim
/-! < of ints and of tuples of ints -/
def oLt : D → D → Option D
  | .int i, .int j => some (.bl (decide (i < j)))
  | .tup xs, .tup ys => (intsOf xs).bind fun ns => (intsOf ys).bind fun ms => some (.bl (HT.lexLt ns ms))
  | _, _ => none
def rLtX (K : PySem.W.Frag) : R2 := fun x y H Q => rLtI x y H Q ∨ rLtT K x y H Q
theorem op_ltX {X : Cx} (hu : X.A.units < cLine) : OpR X (compareOp .Lt) (rLtX X.K) := opr_or op_lt (op_ltT hu)
theorem o2_lt : Op2 S false (rLtX S.K) oLt := fun F H x y v u z Q hF hx hy hz k => by
  unfold oLt at hz
  split at hz
  · cases hz
    cases (show v = _ from hx)
    cases (show u = _ from hy)
    exact .inl ⟨_, _, rfl, rfl, k _ H (Ext.refl _ _) rfl⟩
  · rename_i xs ys
    obtain ⟨ns, e1, e2⟩ := Option.bind_eq_some_iff.mp hz
    obtain ⟨ms, e3, e4⟩ := Option.bind_eq_some_iff.mp e2
    cases e4
    obtain ⟨a, vs, rfl, h1, h2⟩ := hx
    obtain ⟨b, us, rfl, h3, h4⟩ := hy
    have f1 := intsOf_some e1
    have f2 := intsOf_some e3
    subst f1 f2
    rw [h2.ints] at h1
    rw [h4.ints] at h3
    exact .inr ⟨a, b, ns, ms, rfl, rfl, h1, h3, k _ H (Ext.refl _ _) rfl⟩
  · cases hz
end
section
variable {env : Env} {a b c : EM} {x y z : D} {i j l : Nat}
theorem w_par3 (ha : a env = .ok x env) (hb : b env = .ok y env) (hc : c env = .ok z env) : sPar3 i a j b l c env = .next (((env.set i (some x)).set j (some y)).set l (some z)) := by
  unfold sPar3
  rw [ha, Out.fl_ok, hb, Out.fl_ok, hc, Out.fl_ok]
theorem w_parOO (h : i < env.length ∧ j < env.length) : sParOO i j env = .next ((env.set i (some (.lst []))).set j (some (.lst []))) := by
  unfold sParOO
  rw [if_pos h]
theorem w_parO1 (hb : b env = .ok y env) (h : i < env.length) : sParO1 i j b env = .next ((env.set i (some (.lst []))).set j (some y)) := by
  unfold sParO1
  rw [hb, Out.fl_ok, if_pos h]
theorem w_par4E {k : Nat} {d : D} (ha : a env = .ok x env) (h : j < env.length ∧ k < env.length) : sPar4E i a j k l d env = .next ((((env.set i (some x)).set j (some (.lst []))).set k (some (.lst []))).set l (some d)) := by
  unfold sPar4E
  rw [ha, Out.fl_ok, if_pos h]
theorem k_index {ds : List D} (ha : a env = .ok (.lst ds) env) (hb : b env = .ok y env) (hf : oIndex ds y = some z) : eIndex a b env = .ok z env := by
  unfold eIndex
  rw [ha, Out.bind_ok]
  dsimp only
  rw [hb, Out.bind_ok, hf]
  rfl
end
end Mir
/-! MirGa -/
/-! MirGa: a for loop in a generator's body, whose body hands out. -/
namespace Mir
open PySem PySem.Spec PyProof.Rows L2 GenW
section
variable {prog : Program} {w : World} {A : Around} {R : GenEnd} {Y : Protocol} {n : Nat} {s₀ : Shared} {fs : List Frame} {s : Shared} {env : PySem.Env}
theorem gseg_forLoop {target : Expr} {it : Value} {body orelse : List Stmt}
    (h : wpAny (model prog w) (A.over (.forLoop target it body orelse env) fs) (pyNext it) (fun r s1 => match r with
        | none => Seg (model prog w) A R Y n s₀ (.forLoop target it body orelse env) (.pure (.again (.block orelse env))) fs s1
        | some v => wpAny (model prog w) (A.over (.forLoop target it body orelse env) fs) (letOwnedTupleGo target it v) (fun _ s1' => wpAny (model prog w) (A.over (.forLoop target it body orelse env) fs) (assign target env v) (fun _ s2 =>
            Seg (model prog w) A R Y n s₀ (.forLoop target it body orelse env) ((execs body env).wrap (fun f => match f with
            | .next | .cont => .pure (.again (.forLoop target it body orelse env))
            | .brk => .pure (.done .next)
            | .ret v => .pure (.done (.ret v))) (fun e => (do noteFrame e env; theTreesLotGoes e : Sem Unit).wrap (fun _ => .raise e) .raise id id) id id) fs s2)
          (fun x s' => Seg (model prog w) A R Y n s₀ (.forLoop target it body orelse env) ((do noteFrame x env; theTreesLotGoes x : Sem Unit).wrap (fun _ => .raise x) .raise id id) fs s') s1')
          (fun x s' => Seg (model prog w) A R Y n s₀ (.forLoop target it body orelse env) ((do noteFrame x env; theTreesLotGoes x : Sem Unit).wrap (fun _ => .raise x) .raise id id) fs s') s1)
      (fun x s' => Seg (model prog w) A R Y n s₀ (.forLoop target it body orelse env) ((do noteFrame x env; theTreesLotGoes x : Sem Unit).wrap (fun _ => .raise x) .raise id id) fs s') s) :
    Seg (model prog w) A R Y n s₀ (.forLoop target it body orelse env) ((model prog w).den (.forLoop target it body orelse env)) fs s := by
  show Seg _ A R Y n s₀ _ ((forTurn target it body orelse env).onRaise (fun x => do noteFrame x env; theTreesLotGoes x)) fs s
  have fix : ∀ (e : Value), (do noteFrame e env; theTreesLotGoes e : Sem Unit).bind (fun _ => (Sem.raise e : Sem PySem.Fin)) = (do noteFrame e env; theTreesLotGoes e : Sem Unit).wrap (fun _ => .raise e) .raise id id := fun e => Sem.bind_eq_wrap _ _
  rw [Sem.onRaise_eq_wrap]
  unfold forTurn
  refine seg_bind_wrap (wpAny_standAt ?_)
  refine seg_bind_wrap (wpAny_onRaise (wpAny_mono h (fun r s1 h1 => ?_) fun x s' hx => wpAny_standAt ?_))
  · cases r with
    | none => exact h1
    | some v =>
      refine seg_bind_wrap (wpAny_mono h1 (fun _ s1' h2 => ?_) fun x s' hx => ?_)
      · refine seg_bind_wrap (wpAny_mono h2 (fun _ s2 h3 => ?_) fun x s' hx => ?_)
        · show Seg _ A R Y n s₀ _ ((execs body env >>= _).wrap _ _ id id) fs s2
          rw [Sem.bind_eq_wrap', Sem.wrap_wrap]
          rw [Sem.wrap_congr (execs body env) _ _ (K' := fun f => match f with
            | .next | .cont => .pure (.again (.forLoop target it body orelse env))
            | .brk => .pure (.done .next)
            | .ret v => .pure (.done (.ret v))) (H' := (fun e => (do noteFrame e env; theTreesLotGoes e : Sem Unit).wrap (fun _ => .raise e) .raise id id))
            (fun f => by cases f <;> rfl) (fun e => by exact fix e)]
          exact h3
        · rw [fix]; exact hx
      · rw [fix]; exact hx
  · rw [fix]; exact hx
theorem gseg_block {stmts : List Stmt} (h : Seg (model prog w) A R Y n s₀ (.block stmts env) ((execs stmts env).wrap (fun f => .pure (.done f)) (fun e => (do noteFrame e env; theTreesLotGoes e : Sem Unit).wrap (fun _ => .raise e) .raise id id) id id) fs s) :
    Seg (model prog w) A R Y n s₀ (.block stmts env) ((model prog w).den (.block stmts env)) fs s := by
  show Seg _ A R Y n s₀ _ (((execs stmts env).onRaise (fun x => do noteFrame x env; theTreesLotGoes x)) >>= fun f => Sem.pure (Fin.done f)) fs s
  rw [Sem.onRaise_eq_wrap, Sem.bind_eq_wrap', Sem.wrap_wrap]
  rw [Sem.wrap_congr (execs stmts env) _ _ (K' := fun f => (.pure (.done f) : Sem PySem.Fin)) (H' := (fun e => (do noteFrame e env; theTreesLotGoes e : Sem Unit).wrap (fun _ => .raise e) .raise id id))
    (fun f => by exact rfl) (fun e => by rw [Sem.bind_eq_wrap, Sem.wrap_wrap]; rfl)]
  exact h
end
/-! ### the rule -/
section
variable {X : Cx}
def tGFor (wi : TI) (g : TG) (tb : TGn) : TGn := fun D ys σ H => wi σ H fun J H1 => ∃ W : Nat → Nat → List V → L2.St → Hp → Prop, (∃ m, W 0 m ys σ H1) ∧ ∀ i m ys σ H, W i m ys σ H →
  (J.stop i H ∧ D.nx ys σ H) ∨ (J.go i H ∧ ∃ N : List V → L2.St → Hp → Prop, (∀ ys' σ' H', N ys' σ' H' → ∃ m', m' < m ∧ W (i + 1) m' ys' σ' H') ∧ ∀ x H', J.yld i H x H' → g x σ H' fun σ2 H2 => tb { D with nx := N, ct := N, bk := D.nx } ys σ2 H2)
theorem gs_for {tg iter : Expr} {body : List Stmt} {pos : Pos} {wi : TI} {g : TG} {tb : TGn} (hp : PassesOwn (model X.prog X.w) X.A X.env X.xe) (hc : X.calm = true) (hi : PI X tg iter wi) (hg : PG X tg g) (hb : GSs X body tb)
    (hs : ∀ x, foldedSetIterable iter X.env x = pure x := by intro _; rfl) : GS X (.For tg iter body [] pos) (tGFor wi g tb) := by
  refine ⟨fun A S ip R n ys s₀ c fs K J gd lv s σ H D gg hn k hI ht => ?_⟩
  rw [exec_For]
  refine seg_bind_wrap (wpAny_standAt ?_)
  obtain ⟨acc, cc, r, I⟩ := hI
  have e0 : ∀ (x : Value) (s' : Shared), X.xe x s' → Seg (model X.prog X.w) A R (GY X S) n s₀ c (J x) fs s' := fun x s' hx => k.exc n s₀ x s' hx
  refine seg_bind_wrap ?_
  rw [gg.over]
  refine wpAny_mono (hi.run _ s σ H _ I ht) (fun v s1 h1 => ?_) e0
  refine seg_bind_wrap (wpAny_of_eq (hs v) ?_)
  refine seg_bind_wrap (wpAny_standAt ?_)
  refine seg_bind_wrap (wpAny_holding ?_)
  rw [gg.over]
  refine wpAny_mono h1 (fun itv s2 h2 => ?_) e0
  obtain ⟨it, fp, tn, Jt, H2, e, I2, T, st2, f2, W, ⟨m0, w0⟩, turn⟩ := h2
  subst e
  refine seg_call fun p => ?_
  have gl := fun (kk : Result → Sem PySem.Fin) => gc_loop (k := kk) (c' := .forLoop tg (.ref it) body [] X.env) (l := lv []) (kp := []) (p := p) gg rfl rfl
  have stat : ∀ {H' : Hp}, (∀ b ∈ fp, H' b = none) → ∀ {ac : Array Value} {ac2 : Nat}, ∀ b ∈ fp, FpOk X ((S, lstObj ac ac2) :: ip) H' b := fun {H'} hn {ac ac2} b hb => ⟨hn b hb, (f2 b hb).2.1, (f2 b hb).2.2.1, (f2 b hb).2.2.2.1, (f2 b hb).2.2.2.2.1, fun q hq => by
    rcases List.mem_append.mp hq with z | z
    · exact (f2 b hb).2.2.2.2.2 q (List.mem_append_left _ z)
    · rcases List.mem_cons.mp z with z | z
      · rw [z]; exact (f2 b hb).2.2.2.2.2 (S, lstObj acc cc) (List.mem_append_right _ List.mem_cons_self)
      · exact (f2 b hb).2.2.2.2.2 q (List.mem_append_right _ (List.mem_cons_of_mem _ z))⟩
  have nS : ∀ b ∈ fp, b ≠ S := fun b hb => Ne.symm ((f2 b hb).2.2.2.2.2 (S, lstObj acc cc) (List.mem_append_right _ List.mem_cons_self))
  have loop : ∀ (m i n : Nat) (ys : List V) (s₀ s : Shared) (σ : L2.St) (H : Hp), n + ys.length = sizeLine → W i m ys σ H → GI X S ip ys σ H s → tn i s.heap → (∀ b ∈ fp, H b = none) →
      Seg (model X.prog X.w) A R (GY X S) n s₀ (.forLoop tg (.ref it) body [] X.env) ((model X.prog X.w).den (.forLoop tg (.ref it) body [] X.env))
        (.ret (fun r => ((match r with | .ok f => (.pure f : Sem Flow) | .error e => .raise e).onRaise (cameBack X.env)).wrap K J gd lv) none (gd false) (lv []) c p [] :: fs) s := by
    intro m
    induction m using Nat.strongRecOn with
    | ind m ih =>
      intro i n ys s₀ s σ H hn w hI st fr
      have ee : ∀ (n : Nat) (s₀ : Shared) (x : Value) (s' : Shared), X.xe x s' → Seg (model X.prog X.w) A R (GY X S) n s₀ (.forLoop tg (.ref it) body [] X.env)
          ((do noteFrame x X.env; theTreesLotGoes x : Sem Unit).wrap (fun _ => .raise x) .raise id id)
          (.ret (fun r => ((match r with | .ok f => (.pure f : Sem Flow) | .error e => .raise e).onRaise (cameBack X.env)).wrap K J gd lv) none (gd false) (lv []) c p [] :: fs) s' := fun n s₀ x s' hx => by
        refine seg_wrap ?_
        rw [(gl _).over]
        refine wpAny_bind (wpAny_mono (hp x s' hx) (fun _ s'' hcb => wpAny_theTreesLotGoes ?_) fun y s'' hcb => ?_)
        · exact seg_leaf (.error x) (seg_cameBack gg k hcb)
        · exact seg_leaf (.error y) (seg_cameBack gg k hcb)
      refine gseg_forLoop ?_
      rw [(gl _).over]
      obtain ⟨ac, ac2, r, I⟩ := hI
      rcases turn i m ys σ H w with ⟨stop, qn⟩ | ⟨go, N, hN, step⟩
      · refine wpAny_mono (T.done X rfl rfl rfl hc i _ s σ H X.xe I (stat fr) st stop) (fun r0 s4 ⟨hr, I4⟩ => ?_) fun x s' hx => ee n s₀ x s' hx
        subst hr
        refine seg_again rfl (gseg_block (seg_execs_nil ?_))
        exact seg_leaf (.ok .next) (k.ok n ys s₀ s4 .next hn ⟨σ, H, ⟨ac, ac2, r, I4⟩, qn⟩)
      · refine wpAny_mono (T.item X rfl rfl rfl hc i _ s σ H X.xe I (stat fr) st go) (fun r0 s4 ⟨u, hr, h4⟩ => ?_) fun x s' hx => ee n s₀ x s' hx
        subst hr
        refine wpAny_mono h4 (fun _ s5 ⟨x, H5, I5, r5, y5, st5, fr5⟩ => ?_) fun x s' hx => ee n s₀ x s' hx
        have I5' := I5.pinned (stat fr5) (T.obj _ _ st5)
        refine wpAny_mono (hg.run _ s5 σ H5 x u _ I5' r5 (step x H5 y5)) (fun _ s6 ⟨σ6, H6, I6, q6⟩ => ?_) fun x s' hx => ee n s₀ x s' hx
        have gc' : GC X S (ip ++ pinsAt fp s5.heap) A (.forLoop tg (.ref it) body [] X.env) (.ret (fun r => ((match r with | .ok f => (.pure f : Sem Flow) | .error e => .raise e).onRaise (cameBack X.env)).wrap K J gd lv) none (gd false) (lv []) c p [] :: fs) id := by
          obtain ⟨a1, a2, a3, a4, a5, a6, a7⟩ := gl (fun r => ((match r with | .ok f => (.pure f : Sem Flow) | .error e => .raise e).onRaise (cameBack X.env)).wrap K J gd lv)
          refine ⟨a1, fun q hq => ?_, a3, a4, a5, a6, a7⟩
          rcases List.mem_append.mp hq with z | z
          · exact a2 q z
          · exact nS _ (of_pinsAt z).1
        have unp : ∀ {ys' : List V} {σ7 : L2.St} {H7 : Hp} {s7 : Shared}, GI X S (ip ++ pinsAt fp s5.heap) ys' σ7 H7 s7 → GI X S ip ys' σ7 H7 s7 ∧ tn (i + 1) s7.heap ∧ ∀ b ∈ fp, H7 b = none := fun {ys' σ7 H7 s7} ⟨b1, b2, b3, I7⟩ => by
          refine ⟨⟨b1, b2, b3, I7.pins_of fun q hq => I7.pin q (List.mem_append_right _ ?_)⟩, T.keep _ _ _ st5 fun b hb o e => (I7.pin (b, o) (List.mem_append_right _ (List.mem_cons_of_mem _ (List.mem_append_right _ (mem_pinsAt hb e))))).1, fun b hb => ?_⟩
          · rcases List.mem_cons.mp hq with z | z
            · rw [z]; exact List.mem_cons_self
            · exact List.mem_cons_of_mem _ (List.mem_append_left _ z)
          · obtain ⟨o, e, d⟩ := T.obj _ _ st5 b hb
            exact (I7.pin (b, o) (List.mem_append_right _ (List.mem_cons_of_mem _ (List.mem_append_right _ (mem_pinsAt hb e))))).2.1
        refine hb.run A S (ip ++ pinsAt fp s5.heap) R n ys s₀ _ _ _ _ id id s6 σ6 H6 { D with nx := N, ct := N, bk := D.nx } gc' hn ⟨fun n' ys' s₀' s3 f hn' hs => ?_, fun n' s₀' x s3 hx => ee n' s₀' x s3 hx⟩ ⟨ac, ac2, r, I6⟩ q6
        cases f with
        | next =>
          obtain ⟨σ3, H3, I3, n3⟩ := hs
          obtain ⟨m', hm, w3⟩ := hN ys' σ3 H3 n3
          obtain ⟨u1, u2, u3⟩ := unp I3
          exact seg_again rfl (ih m' hm (i + 1) n' ys' s₀' s3 σ3 H3 hn' w3 u1 u2 u3)
        | cont =>
          obtain ⟨σ3, H3, I3, n3⟩ := hs
          obtain ⟨m', hm, w3⟩ := hN ys' σ3 H3 n3
          obtain ⟨u1, u2, u3⟩ := unp I3
          exact seg_again rfl (ih m' hm (i + 1) n' ys' s₀' s3 σ3 H3 hn' w3 u1 u2 u3)
        | brk =>
          obtain ⟨σ3, H3, I3, n3⟩ := hs
          exact seg_leaf (.ok .next) (k.ok n' ys' s₀' s3 .next hn' ⟨σ3, H3, (unp I3).1, n3⟩)
        | ret v =>
          obtain ⟨x7, σ3, H3, I3, r7, n3⟩ := hs
          exact seg_leaf (.ok (.ret v)) (k.ok n' ys' s₀' s3 (.ret v) hn' ⟨x7, σ3, H3, (unp I3).1, r7, n3⟩)
  exact loop m0 0 n ys s₀ s2 σ H2 hn w0 ⟨acc, cc, r, I2⟩ st2 fun b hb => (f2 b hb).1
end
end Mir
/-! MirGb -/
/-! MirGb: generator defs and list(g(..)), told plainly. -/
namespace Mir
open PySem PySem.Spec PyProof.Rows L2 GenW
variable [Tbl]
abbrev GMr := Env → Option (List D × Env)
/-- the generator's reading t hands out what m says; no own slots -/
def RefGn (S : Sc) (t : TGn) (m : GMr) : Prop := ∀ (G : Addr → Prop) (σ : L2.St) (H : Hp) (env : Env), GRel S G σ H env → ∀ (D : GEnds) (ys : List V) (ds : List Mir.D) (env' : Env), m env = some (ds, env') → ys.length + ds.length ≤ sizeLine →
  (∀ σ' H' us, GRel S G σ' H' env' → Ext Nil H H' → RepL S G H' ds us → D.nx (ys ++ us) σ' H') → t D ys σ H
def gSeq (m n : GMr) : GMr := fun env => (m env).bind fun p => (n p.2).map fun q => (p.1 ++ q.1, q.2)
def gPlain (m : SM) : GMr := fun env => match m env with
  | .next e => some ([], e)
  | _ => none
def gYield (m : EM) : GMr := fun env => match m env with
  | .ok d e => some ([d], e)
  | _ => none
def gForGo (g : GM) (b : GMr) : List D → Env → Option (List D × Env)
  | [], env => some ([], env)
  | d :: ds, env => (g d env).bind fun e => (b e).bind fun p => (gForGo g b ds p.2).map fun q => (p.1 ++ q.1, q.2)
def gFor (it : IM) (g : GM) (b : GMr) : GMr := fun env => match it env with
  | .ok ds e => gForGo g b ds e
  | _ => none
section
variable {S : Sc} {E : XK} {t u : TGn} {m n : GMr}
theorem rgn_seq (a : RefGn S t m) (b : RefGn S u n) : RefGn S (tGThen t u) (gSeq m n) := by
  intro G σ H env I D ys ds env' hm hl k
  unfold gSeq at hm
  obtain ⟨⟨d1, e1⟩, h1, hm⟩ := Option.bind_eq_some_iff.mp hm
  obtain ⟨⟨d2, e2⟩, h2, hm⟩ := Option.map_eq_some_iff.mp hm
  cases hm
  have hl : ys.length + (d1.length + d2.length) ≤ sizeLine := by rw [← List.length_append]; exact hl
  refine a G σ H env I _ ys d1 e1 h1 (by omega) fun σ1 H1 us1 I1 x1 r1 => ?_
  refine b G σ1 H1 e1 I1 D (ys ++ us1) d2 e2 h2 (by rw [List.length_append, r1.length]; omega) fun σ2 H2 us2 I2 x2 r2 => ?_
  rw [List.append_assoc]
  exact k σ2 H2 (us1 ++ us2) I2 (x1.trans x2) ((r1.grow x2).append r2)
theorem rgn_plain {ts : TS} {ms : SM} (hr : RefS S [] [] E false ts ms) : RefGn S (tPlain ts) (gPlain ms) := by
  intro G σ H env I D ys ds env' hm hl k
  unfold gPlain at hm
  split at hm
  · rename_i e he
    cases hm
    refine hr ⟨G, Nil, H⟩ σ H (fun _ => []) env I (D.at ys) ?_
    rw [he]
    intro σ' H' fp' I' w
    have := k σ' H' [] (GRel.of I' rfl) (w.1.mono fun a ⟨i, z⟩ => nomatch z) RepL.nil
    rw [List.append_nil] at this
    exact this
  · cases hm
theorem GRel.exprE {G : Addr → Prop} {te : TE} {me : EM} {σ : L2.St} {H : Hp} {env env' : Env} {d : D} {Q : VK} (hr : RefE S [] [] E none false te me) (I : GRel S G σ H env) (hm : me env = .ok d env') (k : ∀ v H', GRel S G σ H' env' → Ext Nil H H' → Rep S G H' d v → Q v H') : te σ H Q := by
  refine hr ⟨G, Nil, H⟩ σ H (fun _ => []) env I Q ?_
  rw [hm]
  intro H' fp' I' s' v hv _
  have s : Fwd (Lv fun _ => []) H (Lv fp') H' := s'
  exact k v H' (GRel.of I' rfl) (s.1.mono fun a ⟨i, z⟩ => nomatch z) (hv.rep.less fun a z => .inl (.inl z))
theorem rgn_yield {te : TE} {me : EM} (hr : RefE S [] [] E none false te me) : RefGn S (tGYield te) (gYield me) := by
  intro G σ H env I D ys ds env' hm hl k
  unfold gYield at hm
  split at hm
  · rename_i d e he
    cases hm
    rw [List.length_singleton] at hl
    exact ⟨by omega, GRel.exprE hr I he fun v H' I' x r => k σ H' [v] I' x (.cons r .nil)⟩
  · cases hm
theorem rgn_one {st : Stmt} (a : RefGn S t m) : RefGn S (tGThen t tG0) m := by
  intro G σ H env I D ys ds env' hm hl k
  exact a G σ H env I _ ys ds env' hm hl fun σ1 H1 us1 I1 x1 r1 => k σ1 H1 us1 I1 x1 r1
theorem rgn_for {ws : List Nat} {wi : TI} {it : IM} {tg : TG} {g : GM} (hi : RefI S [] [] E none wi it) (hg : RefG S [] [] ws tg g) (hb : RefGn S t m) : RefGn S (tGFor wi tg t) (gFor it g m) := by
  intro G σ H env I D ys ds env' hm hl k
  unfold gFor at hm
  split at hm
  case h_2 => cases hm
  rename_i xs e1 he
  refine hi ⟨G, Nil, H⟩ σ H (fun _ => []) env I _ ?_
  rw [he]
  intro H1 f1 I1 s1 J hJ
  have s1 : Fwd (Lv fun _ => []) H (Lv f1) H1 := s1
  have x1 : Ext Nil H H1 := s1.1.mono fun a ⟨i, z⟩ => nomatch z
  refine ⟨fun i k ys' σ' H' => i + k = xs.length ∧ ∃ env1 done us rest, GRel S G σ' H' env1 ∧ Ext Nil H1 H' ∧ ys' = ys ++ us ∧ RepL S G H' done us ∧ gForGo g m (xs.drop i) env1 = some (rest, env') ∧ done ++ rest = ds,
    ⟨xs.length, by omega, e1, [], [], ds, GRel.of I1 rfl, Ext.refl _ _, (List.append_nil _).symm, .nil, hm, rfl⟩, fun i c ys' σ' H' hW => ?_⟩
  obtain ⟨hk, env1, done, us, rest, I2, x2, rfl, r2, hg2, hd⟩ := hW
  have lv : ∀ a, Fs ⟨G, Nil, H⟩ f1 a → H' a ≠ none := fun a z => x2.dom (I1.fs z)
  obtain ⟨j1, j2, j3⟩ := hJ (Fs ⟨G, Nil, H⟩ f1) H' (Fwd.grow x2) lv
  by_cases cc : i < xs.length
  · refine .inr ⟨j1 i cc, fun ys3 σ3 H3 => ∃ k', k' < c ∧ (i + 1 + k' = xs.length ∧ ∃ env1 done us rest, GRel S G σ3 H3 env1 ∧ Ext Nil H1 H3 ∧ ys3 = ys ++ us ∧ RepL S G H3 done us ∧ gForGo g m (xs.drop (i + 1)) env1 = some (rest, env') ∧ done ++ rest = ds), fun _ _ _ z => z, fun x H3 hy => ?_⟩
    have hdx : xs[i]? = some xs[i] := List.getElem?_eq_getElem cc
    obtain ⟨x3, r3⟩ := j2 i x H3 _ hy hdx
    rw [List.drop_eq_getElem_cons cc] at hg2
    unfold gForGo at hg2
    obtain ⟨e3, q3, hg2⟩ := Option.bind_eq_some_iff.mp hg2
    obtain ⟨⟨o1, e4⟩, q4, hg2⟩ := Option.bind_eq_some_iff.mp hg2
    obtain ⟨⟨o2, e5⟩, q5, hg2⟩ := Option.map_eq_some_iff.mp hg2
    cases hg2
    have I3 : GRel S G σ' H3 env1 := GRel.of (Rel.grow I2 x3) rfl
    have r3' : Rep S (Fs ⟨G, Nil, H3⟩ (fun _ => [])) H3 xs[i] x := r3.less fun a z => .inl (.inl (fs_none z))
    refine hg.run ⟨G, Nil, H3⟩ σ' H3 (fun _ => []) env1 _ x e3 I3 r3' q3 _ fun σ4 I4 _ => ?_
    have hlen : (done ++ (o1 ++ o2)).length = ds.length := by rw [hd]
    rw [List.length_append, List.length_append] at hlen
    refine hb G σ4 H3 e3 I4 _ (ys ++ us) o1 e4 q4 (by rw [List.length_append, r2.length]; omega) fun σ5 H5 us5 I5 x5 r5 => ?_
    exact ⟨c - 1, by omega, by omega, e4, done ++ o1, us ++ us5, o2, I5, x2.trans (x3.trans x5), List.append_assoc .., (r2.grow (x3.trans x5)).append r5, q5, by rw [List.append_assoc]; exact hd⟩
  · rw [List.drop_eq_nil_of_le (by omega)] at hg2
    cases hg2
    rw [List.append_nil] at hd
    subst hd
    exact .inl ⟨j3 i (by omega), k σ' H' us I2 (x1.trans x2) r2⟩
end
/-! ### the promise of a generator def -/
def spGm (S : Sc) (n : Nat) (m : List D → Option (List D)) : SpG := fun vs H Q _ => ∃ (G : Addr → Prop) (ds outs : List D), vs.length = n ∧ (∀ a, G a → H a ≠ none) ∧ RepL S G H ds vs ∧ m ds = some outs ∧ (∀ us H', Ext Nil H H' → RepL S G H' outs us → Q us H') ∧ LamX.Tabs Tbl.T H ∧ Ext Nil S.Hb H
def runG (k n : Nat) (m : GMr) : List D → Option (List D) := fun ds => if ds.length = k then (m (ds.map some ++ List.replicate (n - ds.length) none)).bind fun p => if p.1.length ≤ 100000 then some p.1 else none else none
section
variable {P : Program} {w : World} {K : PySem.W.Frag} {mg : Str → Option Value} {base : Heap} {S : Sc}
theorem gfnD_ok {x qual : Str} {params : Arguments} {body : List Stmt} {scope : Scope} {dvs : List V} {kws : List (Str × V)} {f : Addr} {fd : FuncData} {N ps : List Str} {k : Nat} {m : GMr} (F : FunD K x qual params body scope dvs kws f fd) (sc : GScope N ps scope) (hN : ps.length ≤ N.length)
    (hb : ∀ (cdv : Value) (A : Around) (outer : List PySem.Env) (s : Shared) (H : Hp) (E : XK) (pn : List (Addr × Obj)), Room k (A.deeper (envOfC qual scope s.heap.objs.size f cdv)) →
      ∃ t, GSs (gcxOf P w K mg base N qual scope f cdv A outer s H E pn) body t ∧ RefGn S t m) :
    GFn P w K mg base (k + 1) f fd ps (spGm S ps.length (runG ps.length N.length m)) := by
  obtain ⟨oc, od, dV, kV, doc, pm, an, cdv, ct, osl, rfl, lk, hcd, _, _⟩ := F.ex
  refine gfn_of lk hcd sc (fun vs H Q E h => h.choose_spec.choose_spec.choose_spec.1) fun A outer s H vs Q E pn hr hsp => ?_
  obtain ⟨t, h1, h2⟩ := hb cdv A outer s H E pn hr
  refine ⟨t, h1, ?_⟩
  obtain ⟨G, ds, outs, hl, hG, hR, hm, k, htb⟩ := hsp
  have hl2 := hR.length
  unfold runG at hm
  rw [if_pos (by omega)] at hm
  obtain ⟨⟨o, e⟩, q1, q2⟩ := Option.bind_eq_some_iff.mp hm
  split at q2
  case isFalse => cases q2
  rename_i hz
  cases q2
  have I0 : GRel S G (L2.start N vs) H (ds.map some ++ List.replicate (N.length - ds.length) none) := by
    refine ⟨?_, fun i d h1 h2 => ?_, fun i d h1 h2 => (nomatch h2), fun _ _ => rfl, fun i j a h => (nomatch h), fun i => List.nodup_nil, fun i a h => (nomatch h), Ext.refl _ _, hG, fun i a h => (nomatch h), fun _ h => h, fun a h => h.elim, htb.1, ⟨htb.2, fun a h => h.elim⟩⟩
    · unfold L2.start
      rw [List.length_append, List.length_append, List.length_map, List.length_map, List.length_replicate, List.length_replicate]
      omega
    · obtain ⟨v, e1, e2⟩ := hR.get (env_get h1)
      exact ⟨v, start_get e1, e2.less fun a z => .inl (fs_none z)⟩
  exact h2 G _ H _ I0 _ [] o e q1 (Nat.le_trans (by simpa using hz) (show 100000 ≤ sizeLine by decide)) fun σ' H' us I' x r => k us H' x r
end
abbrev noE : XK := fun _ _ _ => False
/-- list(f(..)) of a generator def -/
def eListG (m : List D → Option (List D)) (a : AM) : EM := fun env => (a env).bind fun ds e => .opt ((m ds).map .lst) e
section
variable {S : Sc} {O P : List Nat} {E : XK} {μ : Mo} {tA : TA} {mA : AM}
theorem ref_listG {n : Nat} {m : List D → Option (List D)} (har : ∀ ds o, m ds = some o → ds.length = n) (ha : RefA S O P E μ tA mA) : RefE S O P E μ true (tListG (tCallG (spGm S n m) [] noE tA)) (eListG m mA) := by
  intro R σ H fp env I Q h
  refine ha R σ H fp env I _ ((Want.bind h).mono fun ds e1 H1 f1 I1 s1 h1 vs hv => ?_)
  obtain ⟨z, hz⟩ := want_some h1
  obtain ⟨outs, ho, rfl⟩ := Option.map_eq_some_iff.mp hz
  refine ⟨FM R f1 μ, ds, outs, by rw [List.append_nil, hv.length]; exact har _ _ ho, fun a q => I1.fm q, by rw [List.append_nil]; exact hv, ho, fun us H2 x r p hp => ?_, I1.tb, I1.hbH⟩
  have hp1 : H1 p = none := by
    cases q : H1 p with
    | none => rfl
    | some o => exact absurd hp (x.dom (by rw [q]; exact fun z => nomatch z))
  refine want_opt h1 hz I1 (fun a q => s1.dom q) (x.trans (Ext.new hp)) ⟨p, us, outs, rfl, hp1, rfl, upd_same, fun z => I1.fm z hp1, ?_⟩
  exact (r.less (F' := fun y => FM R f1 μ y ∨ y = p) fun a z => z.imp id fun e => by rw [e]; exact hp).grow (Ext.new hp)
end
theorem passG {X : Cx} : Passes (CX X.prog X.w) X noE := by
  rintro _ _ _ _ _ _ _ ⟨_, _, _, _, _, _, _, _, _, _, _, _, h⟩
  exact h.elim
theorem nostopG {K : PySem.W.Frag} : NoStop K noE := fun _ _ _ h => h.elim
theorem runG_ar {k n : Nat} {m : GMr} {ds o : List D} (h : runG k n m ds = some o) : ds.length = k := by
  unfold runG at h
  split at h
  · assumption
  · cases h
end Mir
/-! MirHa -/
/-! MirHa: range with a step; a new list of new things whose first thing, a new list, is lengthened at the end. -/
namespace Mir
open PySem PySem.Spec PyProof.Rows L2
variable [Tbl]
section
variable {S : Sc} {O P : List Nat} {R : Rx} {σ : L2.St} {H H' : Hp} {fp : Fp} {env : Env}
/-- a slot's value is forgotten -/
theorem Rel.drop (I : Rel S O P R σ H fp env) (i : Nat) : Rel S O P R σ H (fpSet fp i []) (env.set i none) ∧ Fwd (Lv fp) H (Lv (fpSet fp i [])) H := by
  have sub : ∀ x, Lv (fpSet fp i []) x → Lv fp x := fun x ⟨j, z⟩ => by
    unfold fpSet at z
    split at z
    · cases z
    · exact ⟨j, z⟩
  have get : ∀ {j : Nat} {d : D}, (env.set i none)[j]? = some (some d) → j ≠ i ∧ env[j]? = some (some d) := fun {j d} h => by
    by_cases e : i = j
    · subst e
      by_cases hl : i < env.length
      · rw [List.getElem?_set_self hl] at h; cases h
      · rw [List.getElem?_eq_none (by rw [List.length_set]; omega)] at h; cases h
    · rw [List.getElem?_set_ne e] at h
      exact ⟨Ne.symm e, h⟩
  have fsub : ∀ x, Fs R (fpSet fp i []) x → Fs R fp x ∨ H x = none := fun x z => .inl (z.imp id (sub x))
  refine ⟨⟨by rw [List.length_set, I.len], fun j d h1 h2 => ?_, fun j d h1 h2 => ?_, fun j h => ?_, fun j k a h1 h2 => ?_, fun j => ?_, fun j a h => ?_, I.ext, I.gl, fun j a h => ?_, I.dom, I.mh, I.tb, ⟨I.hb.e, I.hb.m⟩⟩, Ext.refl _ _, fun x z => .inl (sub x z), fun _ z => z⟩
  · obtain ⟨_, h1⟩ := get h1
    obtain ⟨v, q1, q2⟩ := I.val j d h1 h2
    exact ⟨v, q1, q2.less fsub⟩
  · obtain ⟨ne, h1⟩ := get h1
    obtain ⟨v, q1, q2⟩ := I.own j d h1 h2
    refine ⟨v, q1, ?_⟩
    unfold fpSet
    rw [if_neg ne]
    exact q2.fwd (Ext.refl _ _) fsub
  · unfold fpSet
    split
    · rfl
    · rename_i ne
      exact I.non j (h.imp id fun h d z => h d (by rw [List.getElem?_set_ne (Ne.symm ne)]; exact z))
  · unfold fpSet at h1 h2
    split at h1
    · cases h1
    · split at h2
      · cases h2
      · exact I.dist j k a h1 h2
  · unfold fpSet
    split
    · exact List.nodup_nil
    · exact I.nd j
  · unfold fpSet at h
    split at h
    · cases h
    · exact I.src j a h
  · unfold fpSet at h
    split at h
    · cases h
    · exact I.live j a h
/-- a slot without a told value may hold anything -/
theorem Rel.ghostS (I : Rel S O P R σ H fp env) {i : Nat} {v : Option V} (hi : ∀ d, env[i]? ≠ some (some d)) : Rel S O P R (σ.set i v) H fp env := by
  refine ⟨by rw [List.length_set, I.len], fun j d h1 h2 => ?_, fun j d h1 h2 => ?_, I.non, I.dist, I.nd, I.src, I.ext, I.gl, I.live, I.dom, I.mh, I.tb, ⟨I.hb.e, I.hb.m⟩⟩
  · have ne : i ≠ j := fun z => hi d (by rw [z]; exact h1)
    rw [List.getElem?_set_ne ne]
    exact I.val j d h1 h2
  · have ne : i ≠ j := fun z => hi d (by rw [z]; exact h1)
    rw [List.getElem?_set_ne ne]
    exact I.own j d h1 h2
/-- no slot's footprint has what is forbidden and new -/
theorem Rel.apart (I : Rel S O P R σ H fp env) {a : Addr} (ga : R.G a) (n0 : R.H0 a = none) : ¬ Lv fp a := fun ⟨j, z⟩ => by
  by_cases hj : j ∈ P
  · exact I.mh a ((I.src j a z).1 hj) n0
  · exact ((I.src j a z).2 hj).2 ga
/-- what is forbidden and new is written -/
theorem Rel.updG2 (I : Rel S O P R σ H fp env) {a : Addr} (ga : R.G a) (n0 : R.H0 a = none) (o : HO) {o0 : HO} (h0 : H a = some o0) (mu : Mut (some o0) := by trivial) (ny : NY a o0 := by exact NX.y (by trivial)) : Rel S O P R σ (L2.upd H a o) fp env := by
  have na := I.apart ga n0
  have w : Fwd (Fs R fp) H (Fs R fp) (L2.upd H a o) := fwd_upd (.inl ga) h0 mu ny
  refine ⟨I.len, fun i d h1 h2 => ?_, fun i d h1 h2 => ?_, I.non, I.dist, I.nd, I.src, ext_againY I.ext h0 (.inr n0) mu ny, fun b h => Mir.upd_dom (I.gl b h), fun i b h => Mir.upd_dom (I.live i b h), fun b h => Mir.upd_dom (I.dom b h), I.mh, tb_ext w.1 I.tb, ⟨I.hb.e, I.hb.m⟩⟩
  · obtain ⟨v, q1, q2⟩ := I.val i d h1 h2
    exact ⟨v, q1, Rep.fwd w _ _ q2⟩
  · obtain ⟨b, q1, q2⟩ := I.own i d h1 h2
    refine ⟨b, q1, ?_⟩
    have nb : ∀ c, c ∈ fp i → c ≠ a := fun c hc z => na ⟨i, by rw [← z]; exact hc⟩
    cases d with
    | lst es =>
      obtain ⟨y1, us, y2, y3⟩ := q2
      exact ⟨y1, us, by rw [upd_ne (nb b (by rw [y1]; exact List.mem_cons_self))]; exact y2, RepL.fwd w _ _ y3⟩
    | ins k es =>
      obtain ⟨y1, dx, us, y2, y3, y4⟩ := q2
      exact ⟨y1, dx, us, by rw [upd_ne (nb b (by rw [y1]; exact List.mem_cons_self))]; exact y2, y3, RepL.fwd w _ _ y4⟩
    | _ => exact q2.elim
theorem fwd_plus {a : Addr} {o : HO} (n : H a = none) : Fwd (Fs R fp) H (Fs (R.plus a) fp) (L2.upd H a o) := ⟨Ext.new n, fun x z => (fs_plus.mp z).imp id fun e => by rw [e]; exact n, fun x z => Mir.upd_dom z⟩
/-- a chain of steps, one new thing is written again -/
theorem fwd_again {M M' : Addr → Prop} {a : Addr} {o o0 : HO} (w : Fwd M H M' H') (n : H a = none) (h0 : H' a = some o0) (mu : Mut (some o0) := by trivial) (ny : NY a o0 := by exact NX.y (by trivial)) : Fwd M H M' (L2.upd H' a o) := ⟨ext_againY w.1 h0 (.inr n) mu ny, w.2.1, fun b h => Mir.upd_dom (w.2.2 b h)⟩
/-! ### range(i, j, c) -/
def stepL (lo c : Int) (n : Nat) : List D := (List.range n).map fun i => D.int (lo + (i : Nat) * c)
def rng3 : List D → Option (List D)
  | [.int i, .int j, .int c] => if c ≠ 0 ∧ c.natAbs < 1073741824 ∧ Builtin.Range.small i j c = true ∧ Builtin.Range.rangeSize i j c = ((Builtin.Range.rangeSize i j c).toNat : Int) then some (stepL i c (Builtin.Range.rangeSize i j c).toNat) else none
  | _ => none
def iRng3M (a : AM) : IM := fun env => (a env).bind fun xs e => .opt (rng3 xs) e
theorem ap_iRng3M {ar : AM} {env : Env} : iRng3M ar env = (ar env).bind fun xs e => .opt (rng3 xs) e := rfl
theorem itok_rangeC {μ : Mo} {F : Addr → Prop} {H : Hp} {lo c : Int} {n : Nat} : ItOk S μ F H (Itc lo c n) (stepL lo c n) := fun F' H' w al => by
  refine ⟨fun k hk => ?_, fun k x H3 d y hd => ?_, fun k hk => ?_⟩
  · unfold stepL at hk
    rw [List.length_map, List.length_range] at hk
    exact hk
  · obtain ⟨rfl, rfl⟩ := y
    unfold stepL at hd
    rw [List.getElem?_map] at hd
    cases q : (List.range n)[k]? with
    | none => rw [q] at hd; cases hd
    | some j =>
      rw [q] at hd
      cases hd
      have e := List.getElem?_eq_some_iff.mp q
      obtain ⟨h1, h2⟩ := e
      rw [List.getElem_range] at h2
      subst h2
      exact ⟨Ext.refl _ _, rfl⟩
  · unfold stepL at hk
    rw [List.length_map, List.length_range] at hk
    exact hk
theorem ri_range3 {E : XK} {μ : Mo} {tA : TA} {mA : AM} (ha : RefA S O P E μ tA mA) : RefI S O P E μ (iRng3 tA) (iRng3M mA) := by
  intro R σ H fp env I Q h
  refine ha R σ H fp env I _ ((Want.bind h).mono fun xs e1 H1 f1 I1 s1 h1 vs hv => ?_)
  obtain ⟨ds, hd⟩ := want_some h1
  rw [hd] at h1
  unfold rng3 at hd
  split at hd
  · rename_i i j k
    split at hd
    · rename_i c
      cases hd
      obtain ⟨v, r, rfl, e1, v2, r2, rfl, e2, v3, r3, rfl, e3, e4⟩ := hv
      cases (show v = _ from e1)
      cases (show v2 = _ from e2)
      cases (show v3 = _ from e3)
      cases (show r3 = _ from e4)
      exact ⟨i, j, k, _, rfl, c, h1 H1 f1 I1 Stp.refl _ itok_rangeC⟩
    · cases hd
  · cases hd
/-! ### x = [E0, ..]; x.append(E4); if test: return ..; x[0].append(k): E0 a new list; x holds no told value behind -/
def isHole : Option (Option D) → Bool
  | some none => true
  | _ => false
theorem isHole_eq {x : Option (Option D)} (h : isHole x = true) : x = some none := by
  match x, h with
  | some none, _ => rfl
def sFresh (i : Nat) (m0 : EM) (mA : AM) (m4 : EM) (mt : TM) (mu : SM) (k : Int) : SM := fun env => (m0 (env.set i none)).fl fun d0 e1 => match d0 with
  | .lst d0s => (mA e1).fl fun ds e3 => if d0s.length < 100000 ∧ ds.length < 90000 ∧ isHole e3[i]? = true then
      (m4 e3).fl fun d4 e4 => if isHole e4[i]? = true then
        (mt (e4.set i (some (.lst (.lst d0s :: ds ++ [d4]))))).fl fun c e6 => if c then (match mu e6 with | .ret d e => .ret d e | _ => .bad) else .next e4 else .bad
    else .bad
  | _ => .bad
theorem stp_keep {R : Rx} {H H' : Hp} {fp fp' : Fp} {env env' : Env} {a : Addr} {o : HO} {σ : L2.St} (I : Rel S O P R σ H fp env) (s : Stp none R H fp env H' fp' env') (ga : R.G a) (n0 : R.H0 a = none) (h : H a = some o) (nt : NT o := by trivial) : H' a = some o :=
  s.1.k a o h (.inl (I.apart ga n0)) nt
theorem want_flQ {R R' : Rx} {E : XK} {fr : Bool} {μ : Mo} {σ σ1 : L2.St} {H H1 : Hp} {fp f1 : Fp} {env : Env} {α : Type} {o : Out α} {f : α → Env → Fl} {D : Ends} (up : ∀ σ H fp env, Rel S O P R' σ H fp env → Rel S O P R σ H fp env) (w : Fwd (Lv fp) H (Lv f1) H1)
    (h : WantS S O P E fr R H fp (o.fl f) D σ) : Want S O P E μ R' σ1 H1 f1 env o (fun a e2 H2 f2 => WantS S O P E fr R H fp (f a e2) D σ) := by
  cases o with
  | bad => exact h
  | exc x e => exact fun cls dd H' fp' I' s' r => h cls dd σ1 H' fp' (up _ _ _ _ I') (w.trans s'.strong) r
  | ok a e1 => exact fun H1 f1 I1 s1 => h
theorem rs_fresh {i : Nat} {k : Int} {E : XK} {fr fa : Bool} {t0 t4 : TE} {m0 m4 : EM} {tA : TA} {mA : AM} {tt : TT} {mt : TM} {tu : TS} {mu : SM} (hO : i ∉ O) (h0 : RefE S O P E none true t0 m0) (hA : RefA S O P E none tA mA) (h4 : RefE S O P E none fa t4 m4)
    (ht : RefT S O P E (some []) tt mt) (hu : RefS S O P E fr tu mu) :
    RefS S O P E fr (tSeq (tAsg (tLst (tCons t0 tA)) (gName i)) (tSeq (tDrop (tBM S.K "list" rAppend (tVar i) (tCons t4 tNil))) (tSeq (tIfS tt tu tNext) (tDrop (tBM S.K "list" rAppend (tOp (rIx S.K) (tVar i) (tC (.int 0))) (tCons (tC (.int k)) tNil)))))) (sFresh i m0 mA m4 mt mu k) := by
  intro R σ H fp env I D h
  obtain ⟨Id, wd⟩ := I.drop i
  have fpe : fpSet fp i [] = fp := by
    funext j
    unfold fpSet
    split
    · rename_i e
      exact (I.non j (.inl (by rw [e]; exact hO))).symm
    · rfl
  rw [fpe] at Id
  unfold sFresh at h
  refine h0 R σ H fp (env.set i none) Id _ ((want_flQ (fun _ _ _ _ z => z) (Fwd.refl _ _) h).mono fun d0 e1 H1 f1 I1 s1 h v0 hv0 sp => ?_)
  obtain ⟨c, vs0, d0s, rfl, newc, rfl, hc1, nfc, rc⟩ := hv0
  have Ic : Rel S O P (R.plus c) σ H1 f1 e1 := sp rfl c rfl
  have c0 : R.H0 c = none := by
    cases q : R.H0 c with
    | none => rfl
    | some o => exact absurd newc (Id.dom c (by rw [q]; exact fun z => nomatch z))
  have w1 : Fwd (Lv fp) H (Lv f1) H1 := s1
  refine hA (R.plus c) σ H1 f1 e1 Ic _ ((want_flQ (fun _ _ _ _ z => z.unplus) w1 h).mono fun ds e3 H3 f3 I3 s3 h vs hvs => ?_)
  split at h
  case isFalse => exact h.elim
  rename_i hz
  obtain ⟨z1, z2, he3⟩ := hz
  have he3 := isHole_eq he3
  have hvs : RepL S (Fs (R.plus c) f3) H3 ds vs := hvs
  have hl : vs.length = ds.length := hvs.length
  have hc3 : H3 c = some (.lst vs0) := stp_keep Ic s3 (.inr rfl) c0 hc1
  refine ⟨sz_of (by rw [List.length_cons, hl]; omega), fun p np => ?_⟩
  have w3 : Fwd (Lv fp) H (Lv f3) H3 := w1.trans s3
  have cp : c ≠ p := fun z => by rw [z, np] at hc3; cases hc3
  have p0 : R.H0 p = none := by
    cases q : R.H0 p with
    | none => rfl
    | some o => exact absurd np (I3.dom p (by show R.H0 p ≠ none; rw [q]; exact fun z => nomatch z))
  have pH : H p = none := by
    cases q : H p with
    | none => rfl
    | some o => exact absurd np (w3.2.2 p (by rw [q]; exact fun z => nomatch z))
  have I3b : Rel S O P ((R.plus c).plus p) σ (L2.upd H3 p (.lst (.ref c :: vs))) f3 e3 := I3.plus np (Ext.new np) (by rw [upd_same]; exact fun z => nomatch z)
  have il : i < σ.length := by rw [← I3.len]; exact (List.getElem?_eq_some_iff.mp he3).1
  have I3c := I3b.ghostS (i := i) (v := some (.ref p)) (by rw [he3]; intro d z; cases z)
  have hs1 : (σ.set i (some (.ref p)))[i]? = some (some (V.ref p)) := List.getElem?_set_self il
  refine ⟨_, hs1, .inl ⟨rfl, _, .inl (.inl upd_same)⟩, ?_⟩
  have w3b : Fwd (Lv fp) H (Lv f3) (L2.upd H3 p (.lst (.ref c :: vs))) := w3.trans (Fwd.grow (Ext.new np))
  refine h4 _ _ _ f3 e3 I3c _ ((want_flQ (fun _ _ _ _ z => z.unplus.unplus) w3b h).mono fun d4 e4 H4 f4 I4 s4 h v4 hv4 _ => ?_)
  split at h
  case isFalse => exact h.elim
  rename_i he4
  have he4 := isHole_eq he4
  have hp4 : H4 p = some (.lst (.ref c :: vs)) := stp_keep I3c s4 (.inr rfl) p0 upd_same
  have hc4 : H4 c = some (.lst vs0) := stp_keep I3c s4 (.inl (.inr rfl)) c0 (by rw [upd_ne cp]; exact hc3)
  refine ⟨p, _, v4, rfl, rfl, hp4, lt_line (by rw [List.length_cons, hl]; omega), ?_⟩
  have mu4 : Mut (H4 p) := by rw [hp4]; trivial
  have I5 := I4.updG2 (.inr rfl) p0 (.lst (.ref c :: vs ++ [v4])) hp4
  have w5 : Fwd (Lv fp) H (Lv f4) (L2.upd H4 p (.lst (.ref c :: vs ++ [v4]))) := fwd_again (w3b.trans s4) pH hp4
  have w35 : Fwd (Fs (R.plus c) f3) H3 (Fs ((R.plus c).plus p) f4) (L2.upd H4 p (.lst (.ref c :: vs ++ [v4]))) := (fwd_plus np).trans ((adv_fs s4).trans (fwd_upd (.inl (.inr rfl)) hp4))
  have less : ∀ x, Fs R f4 x → Fs ((R.plus c).plus p) f4 x ∨ L2.upd H4 p (.lst (.ref c :: vs ++ [v4])) x = none := fun x z => .inl (fs_plus.mpr (.inl (fs_plus.mpr (.inl z))))
  have rvs := (RepL.fwd w35 _ _ hvs).less less
  have rc1 : RepL S (Fs (R.plus c) f1) H1 d0s vs0 := rc.less fun x z => .inl (fs_plus.mp z)
  have rd0 := (RepL.fwd w35 _ _ (RepL.fwd (adv_fs s3) _ _ rc1)).less less
  have rv4 : Rep S (Fs R f4) (L2.upd H4 p (.lst (.ref c :: vs ++ [v4]))) d4 v4 := (Rep.fwd (fwd_upd (.inl (.inr rfl)) hp4) _ _ (show Rep S (Fs ((R.plus c).plus p) f4) H4 d4 v4 from hv4.rep)).less less
  have hc5 : L2.upd H4 p (.lst (.ref c :: vs ++ [v4])) c = some (.lst vs0) := by rw [upd_ne cp]; exact hc4
  have nc : ¬ Fs R f4 c := fun z => z.elim (fun g => Id.gl c g newc) (I5.apart (.inl (.inr rfl)) c0)
  have np' : ¬ Fs R f4 p := fun z => z.elim (fun g => I3.gl p (.inl g) np) (I5.apart (.inr rfl) p0)
  have I6 := I5.unplus.unplus.set (i := i) (d := .lst (.lst d0s :: ds ++ [d4])) (v := .ref p) hO ⟨p, _, rfl, np', upd_same, .cons ⟨c, vs0, rfl, nc, hc5, rd0⟩ (rvs.snoc rv4)⟩
  rw [List.set_set] at I6
  refine ht R _ _ f4 _ I6 _ ((want_flQ (fun _ _ _ _ z => z) w5 h).mono fun bb e6 H6 f6 I7 s6 h => ?_)
  obtain ⟨x6, rfl, rfl⟩ := s6
  have w6 := w5.trans (Fwd.grow x6)
  cases bb with
  | true =>
    refine hu R _ H6 _ _ I7 _ ?_
    rw [if_pos rfl] at h
    generalize mu _ = o at h ⊢
    cases o with
    | ret d e => exact fun σ' v H' fp' I' w' r => h σ' v H' fp' I' (w6.trans w') r
    | _ => exact h.elim
  | false =>
    rw [if_neg (by decide)] at h
    have hc6 := x6.nil _ _ hc5
    have hp6 := x6.nil _ _ (show L2.upd H4 p (.lst (.ref c :: vs ++ [v4])) p = some (.lst (.ref c :: vs ++ [v4])) from upd_same)
    refine ⟨_, hs1, .inl ⟨p, _, 0, .ref c, rfl, rfl, .inl (.inl hp6), atI_nat (j := 0) rfl, .inl ⟨rfl, _, .inl (.inl hc6)⟩, c, vs0, .int k, rfl, rfl, hc6, ?_, ?_⟩⟩
    · exact lt_line (by rw [rc.length]; exact z1)
    · have cH : H c = none := newc
      have I8 := (I5.grow x6).updG2 (.inl (.inr rfl)) c0 (.lst (vs0 ++ [.int k])) hc6
      exact h _ _ _ I8.unplus.unplus (fwd_again w6 cH hc6)
end
end Mir
/-! MirHb -/
/-! MirHb: (int, tuple of ints) by <; a comprehension with two fors (in a frame with no own slot) -/
namespace Mir
open PySem PySem.Spec PyProof.Rows L2
variable [Tbl]
/-! ### (n, t) < (m, u) -/
def rLtIT (K : PySem.W.Frag) : R2 := fun x y H Q => ∃ (a b c d : Addr) (n m : Int) (ns ms : List Int), x = .ref a ∧ y = .ref b ∧ SqT K H a [.int n, .ref c] ∧ SqT K H b [.int m, .ref d] ∧ SqT K H c (ns.map V.int) ∧ SqT K H d (ms.map V.int) ∧
  Q (.bl (if n = m then HT.lexLt ns ms else decide (n < m))) H
theorem lexLt_irrefl : ∀ ns : List Int, HT.lexLt ns ns = false
  | [] => rfl
  | n :: ns => by rw [HT.lexLt_cons, if_pos rfl]; exact lexLt_irrefl ns
theorem beq_dec (a b : Int) : (a == b) = decide (a = b) := by
  by_cases q : a = b
  · rw [decide_eq_true q]; exact beq_iff_eq.mpr q
  · rw [decide_eq_false q]; exact beq_eq_false_iff_ne.mpr q
theorem eqInts {A : Around} {s : Shared} {l b : Addr} {its its2 : List Value} {ns ms : List Int} (hl : s.heap.IsTuple l its.toArray) (hb : s.heap.IsTuple b its2.toArray) (hi : IntsAre its ns) (hj : IntsAre its2 ms) (hu : A.units < cLine) :
    SeqAt.EqAt A s (.ref l) (.ref b) (decide (ns = ms)) := by
  by_cases e : l = b
  · subst e
    obtain ⟨o, ho, hc, n, hd⟩ := hl
    obtain ⟨o2, ho2, hc2, n2, hd2⟩ := hb
    rw [ho] at ho2
    cases ho2
    rw [hd] at hd2
    have e2 : its = its2 := by
      injection hd2 with e3
      simpa using e3
    subst e2
    have : ns = ms := by
      have key : ∀ (its : List Value) (ns ms : List Int), IntsAre its ns → IntsAre its ms → ns = ms := by
        intro its
        induction its with
        | nil => intro ns ms h1 h2; cases h1; cases h2; rfl
        | cons v its ih =>
          intro ns ms h1 h2
          cases h1
          cases h2
          congr 1
          exact ih _ _ (by assumption) (by assumption)
      exact key _ _ _ hi hj
    rw [decide_eq_true this]
    exact SeqAt.EqAt.same _
  · have e1 : its.toArray.size = ns.length := by rw [List.size_toArray]; exact hi.length
    have e2 : its2.toArray.size = ms.length := by rw [List.size_toArray]; exact hj.length
    have R := SeqAt.RcAt.tuples (A := A) (s := s) (e := fun j => decide (ns.getD j 0 = ms.getD j 0)) hl hb hu (fun j h1 h2 => by
      have at1 : ∃ t, its.toArray[j] = .int (ns.getD j 0) t := PyProof.Rows.IntsAre.int_at hi _ _ (by simp at h1; simp [h1])
      have at2 : ∃ t, its2.toArray[j] = .int (ms.getD j 0) t := PyProof.Rows.IntsAre.int_at hj _ _ (by simp at h2; simp [h2])
      obtain ⟨t, q1⟩ := at1
      obtain ⟨t', q2⟩ := at2
      rw [q1, q2, ← beq_dec]
      exact SeqAt.EqAt.int_int _ _ _ _)
    rw [e1, e2] at R
    have z : ((List.range (min ns.length ms.length)).all (fun j => decide (ns.getD j 0 = ms.getD j 0)) && ns.length == ms.length) = decide (ns = ms) := by
      rw [Bool.eq_iff_iff, Bool.and_eq_true, List.all_eq_true, decide_eq_true_iff]
      constructor
      · rintro ⟨h1, h2⟩
        have h2 : ns.length = ms.length := by simpa using h2
        refine List.ext_getElem h2 fun j a b => ?_
        have := h1 j (List.mem_range.mpr (by omega))
        have := of_decide_eq_true this
        simpa [a, b] using this
      · rintro rfl
        exact ⟨fun j _ => by simp, by simp⟩
    rw [z] at R
    exact SeqAt.EqAt.of_refs e R
theorem op_ltIT {X : Cx} (hu : X.A.units + 64 < cLine) : OpR X (compareOp .Lt) (rLtIT X.K) := by
  intro pins s σ H x y v u Q I rx ry h
  obtain ⟨a, b, c, d, n, m, ns, ms, rfl, rfl, ha, hb, hc, hd, q⟩ := h
  cases rx
  cases ry
  obtain ⟨its, r1, p1, _⟩ := I.tuple ha
  obtain ⟨its2, r2, p2, _⟩ := I.tuple hb
  obtain ⟨jts, r3, p3, _⟩ := I.tuple hc
  obtain ⟨jts2, r4, p4, _⟩ := I.tuple hd
  obtain ⟨v1, v2, rfl, q1, q2⟩ := r1.two
  obtain ⟨u1, u2, rfl, q3, q4⟩ := r2.two
  obtain ⟨t1, rfl⟩ := q1
  obtain ⟨t3, rfl⟩ := q3
  cases q2
  cases q4
  have i3 : IntsAre jts ns := Vals.ints r3
  have i4 : IntsAre jts2 ms := Vals.ints r4
  have hu1 : X.A.in1.units < cLine := by show X.A.units + 1 < cLine; omega
  have R := Ob.RcOp.tuples_lt (A := X.A) (s := s) (e := fun j => if j = 0 then decide (n = m) else decide (ns = ms)) (r := fun j => if j = 0 then decide (n < m) else HT.lexLt ns ms) p1 p2 (by omega) (fun j h1 h2 => by
    have : j = 0 ∨ j = 1 := by simp at h1; omega
    rcases this with rfl | rfl
    · show SeqAt.EqAt X.A.in1 s (.int n t1) (.int m t3) (decide (n = m))
      rw [← beq_dec]
      exact SeqAt.EqAt.int_int _ _ _ _
    · show SeqAt.EqAt X.A.in1 s (.ref c) (.ref d) (decide (ns = ms))
      exact eqInts p3 p4 i3 i4 hu1) (fun j h1 h2 _ => by
    have : j = 0 ∨ j = 1 := by simp at h1; omega
    rcases this with rfl | rfl
    · show Ob.RcOp .Lt X.A.in1 s (.int n t1) (.int m t3) (decide (n < m))
      exact Ob.RcOp.lt_int _ _ _ _
    · show Ob.RcOp .Lt X.A.in1 s (.ref c) (.ref d) (HT.lexLt ns ms)
      exact fun prog w E Q h => HT.lt_tupInts p3 p4 (by simpa using i3) (by simpa using i4) hu1 h)
  have z : wpAny (model X.prog X.w) X.A (compareOp .Lt (.ref a) (.ref b)) (EP X pins σ Q) X.xe s := R X.prog X.w X.xe (EP X pins σ Q) ⟨.bl _, H, I, rfl, by
    have e : Ob.lexAt (fun j => if j = 0 then decide (n = m) else decide (ns = ms)) (fun j => if j = 0 then decide (n < m) else HT.lexLt ns ms) (decide ([Value.int n t1, Value.ref c].toArray.size < [Value.int m t3, Value.ref d].toArray.size)) 0 (min [Value.int n t1, Value.ref c].toArray.size [Value.int m t3, Value.ref d].toArray.size) = if n = m then HT.lexLt ns ms else decide (n < m) := by
      show Ob.lexAt _ _ (decide (2 < 2)) 0 2 = _
      rw [Ob.lexAt_succ, Ob.lexAt_succ, Ob.lexAt_zero]
      by_cases c1 : n = m
      · rw [if_pos c1]
        simp only [if_true, c1, decide_true]
        by_cases c2 : ns = ms
        · simp [c2, lexLt_irrefl]
        · simp [c2]
      · rw [if_neg c1]
        simp [c1]
    rw [e]
    exact q⟩
  exact z
section
variable {S : Sc} {O P : List Nat} {E : XK} {μ : Mo}
def oLtIT : D → D → Option D
  | .tup [.int n, .tup xs], .tup [.int m, .tup ys] => (intsOf xs).bind fun ns => (intsOf ys).bind fun ms => some (.bl (if n = m then HT.lexLt ns ms else decide (n < m)))
  | _, _ => none
theorem o2_ltIT : Op2 S false (rLtIT S.K) oLtIT := fun F H x y v u z Q hF hx hy hz k => by
  unfold oLtIT at hz
  split at hz
  · rename_i n xs m ys
    obtain ⟨ns, e1, e2⟩ := Option.bind_eq_some_iff.mp hz
    obtain ⟨ms, e3, e4⟩ := Option.bind_eq_some_iff.mp e2
    cases e4
    obtain ⟨a, vs, rfl, h1, v1, r1, rfl, w1, v2, r2, rfl, w2, w3⟩ := hx
    obtain ⟨b, us, rfl, h3, u1, s1, rfl, y1, u2, s2, rfl, y2, y3⟩ := hy
    cases (show v1 = _ from w1)
    cases (show u1 = _ from y1)
    cases (show r2 = _ from w3)
    cases (show s2 = _ from y3)
    obtain ⟨c, vs2, rfl, g1, g2⟩ := w2
    obtain ⟨d, us2, rfl, g3, g4⟩ := y2
    have f1 := intsOf_some e1
    have f2 := intsOf_some e3
    subst f1 f2
    rw [g2.ints] at g1
    rw [g4.ints] at g3
    exact ⟨a, b, c, d, n, m, ns, ms, rfl, rfl, h1, h3, g1, g3, k _ H (Ext.refl _ _) rfl⟩
  · cases hz
end
/-! ### [e for x in a if c for y in b if d] -/
def lc2In (g1 : GM) (c1 : TM) (e : EM) (env : Env) : List D → List D → Option (List D)
  | [], acc => some acc
  | d :: ds, acc => match g1 d env with
    | none => none
    | some e1 => match c1 e1 with
      | .ok true _ => match e e1 with
        | .ok x _ => if acc.length < 100000 then lc2In g1 c1 e env ds (acc ++ [x]) else none
        | _ => none
      | .ok false _ => lc2In g1 c1 e env ds acc
      | _ => none
def lc2Go (g : GM) (c : TM) (vs1 : List Nat) (it1 : IM) (g1 : GM) (c1 : TM) (e : EM) (env : Env) : List D → List D → Option (List D)
  | [], acc => some acc
  | d :: ds, acc => match g d env with
    | none => none
    | some e1 => match c e1 with
      | .ok true _ => match it1 e1 with
        | .ok ds1 _ => match lc2In g1 c1 e (wipeE e1 vs1) ds1 acc with
          | some acc' => lc2Go g c vs1 it1 g1 c1 e env ds acc'
          | none => none
        | _ => none
      | .ok false _ => lc2Go g c vs1 it1 g1 c1 e env ds acc
      | _ => none
def eLc2 (vs : List Nat) (it : IM) (g : GM) (c : TM) (vs1 : List Nat) (it1 : IM) (g1 : GM) (c1 : TM) (e : EM) : EM := fun env => (it env).bind fun ds e0 => match lc2Go g c vs1 it1 g1 c1 e (wipeE e0 vs) ds [] with
  | some xs => .ok (.lst xs) e0
  | none => .bad
section
variable {S : Sc} {E : XK} {R : Rx} {σ : L2.St} {H H' : Hp} {fp f1 : Fp} {env e1 : Env}
theorem lv0 (I : Rel S [] [] R σ H fp env) (x : Addr) : ¬ Lv fp x := fun ⟨i, z⟩ => by rw [I.non i (.inl (fun h => nomatch h))] at z; cases z
theorem ext0 (I : Rel S [] [] R σ H fp env) (w : Fwd (Lv fp) H (Lv f1) H') : Ext Nil H H' := w.1.mono fun x z => absurd z (lv0 I x)
theorem ref_lc2 {E1 E2 E3 E4 : XK} {fe : Bool} {vs ws vs1 ws1 : List Nat} {wi wi1 : TI} {it it1 : IM} {tg tg1 : TG} {g g1 : GM} {tt tt1 : TT} {mt mt1 : TM} {te : TE} {me : EM}
    (hi : RefI S [] [] E none wi it) (hg : RefG S [] [] ws tg g) (ht : RefT S [] [] E1 none tt mt) (hi1 : RefI S [] [] E2 none wi1 it1) (hg1 : RefG S [] [] ws1 tg1 g1) (ht1 : RefT S [] [] E3 none tt1 mt1) (he : RefE S [] [] E4 none fe te me) (hw : ∀ i ∈ ws, i ∈ vs) (hw1 : ∀ i ∈ ws1, i ∈ vs1) :
    RefE S [] [] E none true (tLc2 wi tg tt wi1 tg1 tt1 te vs vs1) (eLc2 vs it g mt vs1 it1 g1 mt1 me) := by
  intro R σ H fp env I Q h
  refine hi R σ H fp env I _ ((Want.bind h).mono fun ds e1 H1 f1 I1 s1 hp J hJ => ?_)
  intro Dl hD
  have h0D : R.H0 Dl = none := by
    cases q : R.H0 Dl with
    | none => rfl
    | some o => exact absurd hD (I1.dom Dl (by rw [q]; exact fun z => nomatch z))
  have hv : ∀ v ∈ vs, v ∉ ([] : List Nat) := fun _ _ z => nomatch z
  have hv1 : ∀ v ∈ vs1, v ∉ ([] : List Nat) := fun _ _ z => nomatch z
  cases hx : lc2Go g mt vs1 it1 g1 mt1 me (wipeE e1 vs) ds [] with
  | none => rw [hx] at hp; exact hp.elim
  | some xs =>
  rw [hx] at hp
  have hp : ∀ H' fp', Rel S [] [] R σ H' fp' e1 → Stp none R H1 f1 e1 H' fp' e1 → PostE S [] [] R σ none true H Q (.lst xs) e1 H' fp' := hp
  refine ⟨fun i k H' => i + k = ds.length ∧ ∃ acc vacc, Ext Nil H1 H' ∧ H' Dl = some (.lst vacc) ∧ RepL S (Fs (R.plus Dl) f1) H' acc vacc ∧ lc2Go g mt vs1 it1 g1 mt1 me (wipeE e1 vs) (ds.drop i) acc = some xs,
    ⟨ds.length, by omega, [], [], Ext.new hD, upd_same, .nil, hx⟩, fun i k H' hW => ?_⟩
  obtain ⟨hk, acc, vacc, x2, a2, r2, l2⟩ := hW
  have live : H' Dl ≠ none := by rw [a2]; exact fun z => nomatch z
  have J2 : Rel S [] [] (R.plus Dl) (wipe σ vs) H' f1 (wipeE e1 vs) := (I1.plus hD x2 live).wipe hv
  obtain ⟨j1, j2, j3⟩ := hJ (Fs (R.plus Dl) f1) H' (stq_of (μ := none) hD (Fwd.grow x2) fun z => absurd rfl z) fun a q => J2.fs q
  by_cases c : i < ds.length
  · refine .inr ⟨j1 i c, fun H3 => ∃ k', k' < k ∧ (i + 1 + k' = ds.length ∧ ∃ acc vacc, Ext Nil H1 H3 ∧ H3 Dl = some (.lst vacc) ∧ RepL S (Fs (R.plus Dl) f1) H3 acc vacc ∧ lc2Go g mt vs1 it1 g1 mt1 me (wipeE e1 vs) (ds.drop (i + 1)) acc = some xs), fun _ z => z, fun x H3 hy => ?_⟩
    have hd : ds[i]? = some ds[i] := List.getElem?_eq_getElem c
    obtain ⟨x3, r3⟩ := j2 i x H3 _ hy hd
    have I4 := J2.grow x3
    rw [List.drop_eq_getElem_cons c] at l2
    unfold lc2Go at l2
    cases q4 : g ds[i] (wipeE e1 vs) with
    | none => rw [q4] at l2; cases l2
    | some e4 =>
    rw [q4] at l2
    dsimp only at l2
    obtain ⟨lo1, lo2⟩ := hg.loc _ _ _ q4
    refine hg.run (R.plus Dl) (wipe σ vs) H3 f1 (wipeE e1 vs) _ x e4 I4 r3 q4 _ fun σ5 I5 s5 => ?_
    have sg : wipe σ5 vs = wipe σ vs := by
      rw [wipe_same (σ := σ5) (τ := wipe σ vs) (by rw [← I5.len, ← I4.len, lo1]) (fun j hj => s5 j fun z => hj (hw j z)), wipe_wipe]
    refine ⟨sg, ?_⟩
    refine ht (R.plus Dl) σ5 H3 f1 e4 I5 _ ?_
    cases qc : mt e4 with
    | bad => rw [qc] at l2; cases l2
    | exc y e => rw [qc] at l2; cases l2
    | ok b e5 =>
      rw [qc] at l2
      intro H5 f5 _ s6
      have x5 : Ext Nil H3 H5 := ext0 I5 s6
      have x13 : Ext Nil H1 H5 := (x2.trans x3).trans x5
      have a5 : H5 Dl = some (.lst vacc) := x5.nil _ _ (x3.nil _ _ a2)
      have r5 := (r2.grow x3).grow x5
      cases b with
      | false => exact ⟨k - 1, by omega, by omega, acc, vacc, x13, a5, r5, l2⟩
      | true =>
        dsimp only at l2
        rw [if_pos rfl]
        have I6 := I5.grow x5
        refine hi1 (R.plus Dl) σ5 H5 f1 e4 I6 _ ?_
        cases qi : it1 e4 with
        | bad => rw [qi] at l2; cases l2
        | exc y e => rw [qi] at l2; cases l2
        | ok ds1 e6 =>
        rw [qi] at l2
        intro H6 f6 I7' s7 J1 hJ1
        have x6 : Ext Nil H5 H6 := ext0 I6 s7
        have f6e : ∀ x, Fs (R.plus Dl) f6 x ↔ Fs (R.plus Dl) f1 x := fun x => by
          constructor
          · rintro (z | z)
            · exact .inl z
            · exact absurd z (lv0 I7' x)
          · rintro (z | z)
            · exact .inl z
            · exact absurd z (lv0 I6 x)
        have I7 := I6.grow x6
        dsimp only at l2
        cases ql : lc2In g1 mt1 me (wipeE e4 vs1) ds1 acc with
        | none => rw [ql] at l2; cases l2
        | some acc2 =>
        rw [ql] at l2
        dsimp only at l2
        refine ⟨fun j k1 H7 => j + k1 = ds1.length ∧ ∃ acc1 vacc1, Rel S [] [] (R.plus Dl) σ5 H7 f1 e4 ∧ Ext Nil H1 H7 ∧ Fwd (Fs (R.plus Dl) f1) H6 (Fs (R.plus Dl) f1) H7 ∧ H7 Dl = some (.lst vacc1) ∧ RepL S (Fs (R.plus Dl) f1) H7 acc1 vacc1 ∧ lc2In g1 mt1 me (wipeE e4 vs1) (ds1.drop j) acc1 = some acc2,
          ⟨ds1.length, by omega, acc, vacc, I7, x13.trans x6, Fwd.refl _ _, x6.nil _ _ a5, r5.grow x6, ql⟩, fun j k1 H7 hW1 => ?_⟩
        obtain ⟨hk1, acc1, vacc1, I8, x8, w8, a8, r8, l8⟩ := hW1
        have w8' : Stq none (Fs (R.plus Dl) f6) H6 (Fs (R.plus Dl) f1) H7 := ⟨w8.1.mono fun x z => (f6e x).mpr z, fun x z => .inl ((f6e x).mpr z), w8.2.2⟩
        obtain ⟨m1, m2, m3⟩ := hJ1 (Fs (R.plus Dl) f1) H7 w8' fun a q => I8.fs q
        by_cases c1 : j < ds1.length
        · refine .inr ⟨m1 j c1, fun H8 => ∃ k', k' < k1 ∧ (j + 1 + k' = ds1.length ∧ ∃ acc1 vacc1, Rel S [] [] (R.plus Dl) σ5 H8 f1 e4 ∧ Ext Nil H1 H8 ∧ Fwd (Fs (R.plus Dl) f1) H6 (Fs (R.plus Dl) f1) H8 ∧ H8 Dl = some (.lst vacc1) ∧ RepL S (Fs (R.plus Dl) f1) H8 acc1 vacc1 ∧ lc2In g1 mt1 me (wipeE e4 vs1) (ds1.drop (j + 1)) acc1 = some acc2), fun _ z => z, fun x' H8 hy1 => ?_⟩
          have hd1 : ds1[j]? = some ds1[j] := List.getElem?_eq_getElem c1
          obtain ⟨x9, r9⟩ := m2 j x' H8 _ hy1 hd1
          have J9 : Rel S [] [] (R.plus Dl) (wipe σ5 vs1) H8 f1 (wipeE e4 vs1) := (I8.grow x9).wipe hv1
          rw [List.drop_eq_getElem_cons c1] at l8
          unfold lc2In at l8
          cases q9 : g1 ds1[j] (wipeE e4 vs1) with
          | none => rw [q9] at l8; cases l8
          | some e9 =>
          rw [q9] at l8
          dsimp only at l8
          obtain ⟨lo3, lo4⟩ := hg1.loc _ _ _ q9
          refine hg1.run (R.plus Dl) (wipe σ5 vs1) H8 f1 (wipeE e4 vs1) _ x' e9 J9 r9 q9 _ fun σ9 I9 s9 => ?_
          have sg1 : wipe σ9 vs1 = wipe σ5 vs1 := by
            rw [wipe_same (σ := σ9) (τ := wipe σ5 vs1) (by rw [← I9.len, ← J9.len, lo3]) (fun i hi => s9 i fun z => hi (hw1 i z)), wipe_wipe]
          refine ⟨sg1, ?_⟩
          refine ht1 (R.plus Dl) σ9 H8 f1 e9 I9 _ ?_
          cases qd : mt1 e9 with
          | bad => rw [qd] at l8; cases l8
          | exc y e => rw [qd] at l8; cases l8
          | ok b1 e10 =>
            rw [qd] at l8
            intro H10 f10 _ s10
            have x10 : Ext Nil H8 H10 := ext0 I9 s10
            have y10 : Ext Nil H7 H10 := x9.trans x10
            have a10 := y10.nil _ _ a8
            have r10 := r8.grow y10
            have I10 := I8.grow y10
            have w10 := w8.trans (Fwd.grow (F := Fs (R.plus Dl) f1) y10)
            cases b1 with
            | false => exact ⟨k1 - 1, by omega, by omega, acc1, vacc1, I10, x8.trans y10, w10, a10, r10, l8⟩
            | true =>
              dsimp only at l8
              rw [if_pos rfl]
              have I11 := I9.grow x10
              refine he (R.plus Dl) σ9 H10 f1 e9 I11 _ ?_
              cases qe : me e9 with
              | bad => rw [qe] at l8; cases l8
              | exc y e => rw [qe] at l8; cases l8
              | ok y e12 =>
                rw [qe] at l8
                dsimp only at l8
                intro H12 f12 I12' s12 v hv12 _
                have x12 : Ext Nil H10 H12 := ext0 I11 s12
                split at l8
                case isFalse => cases l8
                rename_i hz
                have a12 := x12.nil _ _ a10
                have r12 := r10.grow x12
                have I12 := I10.grow x12
                have rv : Rep S (Fs (R.plus Dl) f1) H12 y v := hv12.rep.less fun x z => .inl (show Fs (R.plus Dl) f12 x from z.elim .inl fun z => absurd z (lv0 I12 x))
                obtain ⟨u1, u2⟩ := I12.updG (a := Dl) (vs' := vacc1 ++ [v]) (.inr rfl) (fun i z => lv0 I12 Dl ⟨i, z⟩) h0D a12
                have uf := u2 (Fs (R.plus Dl) f1) (.inl (.inr rfl))
                refine ⟨vacc1, a12, by rw [r12.length]; exact lt_line hz, k1 - 1, by omega, by omega, acc1 ++ [y], vacc1 ++ [v], u1, ?_, (w10.trans (Fwd.grow (F := Fs (R.plus Dl) f1) x12)).trans uf, upd_same, RepL.fwd uf _ _ (r12.snoc rv), l8⟩
                exact ext_again ((x8.trans y10).trans x12) a12 (.inr hD) trivial trivial
        · refine .inl ⟨m3 j (by omega), ?_⟩
          rw [List.drop_eq_nil_of_le (by omega)] at l8
          cases l8
          exact ⟨k - 1, by omega, by omega, _, vacc1, x8, a8, r8, l2⟩
  · refine .inl ⟨j3 i (by omega), ?_⟩
    rw [List.drop_eq_nil_of_le (by omega)] at l2
    cases l2
    refine hp H' f1 (I1.grow x2) (Fwd.grow x2) _ ⟨Dl, vacc, _, rfl, s1.dom hD, rfl, a2, fun z => I1.fs z hD, r2.less fun x z => .inl (fs_plus.mpr z)⟩ fun _ a ea => ?_
    cases ea
    exact I1.plus hD x2 live
end
end Mir
/-! MirIa -/
/-! MirIa: mirrors evaluated step by step, the slots handed on; what a run of statements must end in. -/
namespace Mir
open PySem PySem.Spec PyProof.Rows L2
variable [Tbl]
theorem len_ok {a b : Nat} (h : Nat.ble a b = true) : a ≤ b := Nat.le_of_ble_eq_true h
section
variable {env e1 e2 e3 : Env} {a b c : EM} {m n : SM} {t u : TM} {ar : AM} {x y z d : D} {i j : Nat} {p q : Bool} {ds es : List D}
theorem t_var (h : env[i]? = some (some d)) : eVar i env = .ok d env := k_var h
theorem t_e1 {f : D → Option D} (ha : a env = .ok x e1) (hf : f x = some z) : Mir.e1 f a env = .ok z e1 := by rw [ap_e1, ha, Out.bind_ok, hf]; rfl
theorem t_e2 {f : D → D → Option D} (ha : a env = .ok x e1) (hb : b e1 = .ok y e2) (hf : f x y = some z) : Mir.e2 f a b env = .ok z e2 := by rw [ap_e2, ha, Out.bind_ok, hb, Out.bind_ok, hf]; rfl
theorem t_eA {f : List D → Option D} (ha : ar env = .ok ds e1) (hf : f ds = some z) : eA f ar env = .ok z e1 := by rw [ap_eA, ha, Out.bind_ok, hf]; rfl
theorem t_A1 {f : D → Option D} (ha : a env = .ok x e1) (hf : f x = some z) : eA (A1 f) (aCons a aNil) env = .ok z e1 := by rw [ap_eA, ap_aCons, ha]; exact (by rw [Out.bind_ok, ap_aNil, Out.bind_ok, Out.bind_ok, ap_A1, hf]; rfl)
theorem t_A2 {f : D → D → Option D} (ha : a env = .ok x e1) (hb : b e1 = .ok y e2) (hf : f x y = some z) : eA (A2 f) (aCons a (aCons b aNil)) env = .ok z e2 := by
  rw [ap_eA, ap_aCons, ha, Out.bind_ok, ap_aCons, hb, Out.bind_ok, ap_aNil, Out.bind_ok, Out.bind_ok, Out.bind_ok, ap_A2, hf]; rfl
theorem t_nil : aNil env = .ok [] env := rfl
theorem t_cons (ha : a env = .ok x e1) (hr : ar e1 = .ok ds e2) : aCons a ar env = .ok (x :: ds) e2 := by rw [ap_aCons, ha, Out.bind_ok, hr]; rfl
theorem t_star (ha : a env = .ok x e1) (hs : x.seq = some es) (hr : ar e1 = .ok ds e2) : aStar a ar env = .ok (es ++ ds) e2 := by rw [ap_aStar, ha, Out.bind_ok, hs, Out.opt_some, Out.bind_ok, hr]; rfl
theorem t_tup (ha : ar env = .ok ds e1) (hl : ds.length ≤ 100000) : eTup ar env = .ok (.tup ds) e1 := by rw [ap_eTup, ha, Out.bind_ok, if_pos hl]; rfl
theorem t_lst (ha : ar env = .ok ds e1) (hl : ds.length ≤ 100000) : eLst ar env = .ok (.lst ds) e1 := by rw [ap_eLst, ha, Out.bind_ok, if_pos hl]; rfl
theorem t_up (ha : a env = .ok x e1) (hp : x.pure = true) : eUp a env = .ok x e1 := by rw [ap_eUp, ha, Out.bind_ok, if_pos hp]
theorem t_upL (ha : a env = .ok (.lst ds) e1) (hp : D.pureL ds = true) : eUpL a env = .ok (.lst ds) e1 := by rw [ap_eUpL, ha, Out.bind_ok]; dsimp only; rw [if_pos hp]
theorem t_test (ha : a env = .ok (.bl p) e1) : mTest a env = .ok p e1 := by rw [ap_mTest, ha]; rfl
theorem t_and (ha : t env = .ok p e1) (hb : p = true → u e1 = .ok q e1) : mAnd t u env = .ok (p && q) e1 := by
  rw [ap_mAnd, ha, Out.bind_ok]
  cases p with
  | true => rw [if_pos rfl, hb rfl]; rfl
  | false => rfl
theorem t_or (ha : t env = .ok p e1) (hb : p = false → u e1 = .ok q e1) : mOr t u env = .ok (p || q) e1 := by
  rw [ap_mOr, ha, Out.bind_ok]
  cases p with
  | true => rfl
  | false => rw [if_neg (by decide), hb rfl]; rfl
theorem t_not (ha : t env = .ok p e1) : mNot t env = .ok (!p) e1 := by rw [ap_mNot, ha]; rfl
theorem t_yes : mYes env = .ok true env := rfl
theorem t_andV (ha : a env = .ok (.bl p) e1) (hb : p = true → b e1 = .ok (.bl q) e1) : eAndV a b env = .ok (.bl (p && q)) e1 := by
  rw [ap_eAndV, ha, Out.bind_ok, dd_boo, Out.opt_some, Out.bind_ok]
  cases p with
  | true => rw [if_pos rfl, hb rfl]; rfl
  | false => rfl
theorem t_orV (ha : a env = .ok (.bl p) e1) (hb : p = false → b e1 = .ok (.bl q) e1) : eOrV a b env = .ok (.bl (p || q)) e1 := by
  rw [ap_eOrV, ha, Out.bind_ok, dd_boo, Out.opt_some, Out.bind_ok]
  cases p with
  | true => rfl
  | false => rw [if_neg (by decide), hb rfl]; rfl
theorem t_notV (ha : a env = .ok (.bl p) e1) : eNotV a env = .ok (.bl (!p)) e1 := by rw [ap_eNotV, ha, Out.bind_ok, dd_boo, Out.opt_some, Out.bind_ok]
theorem t_if (ht : t env = .ok p e1) (ha : p = true → a e1 = .ok x e2) (hb : p = false → b e1 = .ok y e2) : eIf t a b env = .ok (if p = true then x else y) e2 := by
  rw [ap_eIf, ht, Out.bind_ok]
  cases p with
  | true => rw [if_pos rfl, if_pos rfl]; exact ha rfl
  | false => rw [if_neg (by decide), if_neg (by decide)]; exact hb rfl
theorem t_call0 {f : DM} (ha : ar env = .ok ds e1) (hf : f ds = .ok d) : eCall f [] ar env = .ok d e1 := by rw [ap_eCall, ha, Out.bind_ok, List.append_nil, hf]; rfl
theorem t_meth {f : DM} {k : Nat} (ho : a env = .ok (.ins k es) e1) (ha : ar e1 = .ok ds e2) (hf : f (.ins k es :: ds) = .ok d) : eMeth k f [] a ar env = .ok d e2 := by
  rw [ap_eMeth, ho, Out.bind_ok]; dsimp only; rw [if_pos rfl, ha, Out.bind_ok, List.append_nil, hf]; rfl
theorem t_prop {f : DM} {k : Nat} (ho : a env = .ok (.ins k es) e1) (hf : f [.ins k es] = .ok d) : eProp k f a env = .ok d e1 := by
  rw [ap_eProp, ho, Out.bind_ok]; dsimp only; rw [if_pos rfl, hf]
theorem t_fld {k : Nat} (ho : a env = .ok (.ins k es) e1) (h : es[j]? = some d) : eFld k j a env = .ok d e1 := by
  rw [ap_eFld, ho, Out.bind_ok]; unfold D.fld; dsimp only; rw [if_pos rfl, h]; rfl
theorem t_make {f : DM0} {k : Nat} (ha : ar env = .ok ds e1) (hf : f (.ins k []) ds = .ok .non (.ins k es)) : eMake k f [] ar env = .ok (.ins k es) e1 := by
  rw [ap_eMake, ha, Out.bind_ok, List.append_nil, hf]; dsimp only; rw [if_pos rfl]
theorem t_makeD {f : DM0} {k : Nat} {dds : List D} (ha : ar env = .ok ds e1) (hf : f (.ins k []) (ds ++ dds) = .ok .non (.ins k es)) : eMake k f dds ar env = .ok (.ins k es) e1 := by
  rw [ap_eMake, ha, Out.bind_ok, hf]; dsimp only; rw [if_pos rfl]
theorem t_callO {f : DM0} {o o' : D} (h0 : env[j]? = some (some z)) (ha : ar env = .ok ds e1) (h1 : e1[j]? = some (some o)) (hf : f o ds = .ok d o') (hs : e1.set j (some o') = e2) : eCallO f j ar env = .ok d e2 := by
  rw [ap_eCallO, h0]; dsimp only; rw [ha, Out.bind_ok, h1]; dsimp only; rw [hf]; dsimp only; rw [hs]
theorem t_rgL {k : Int} (ha : a env = .ok (.int k) e1) (h : -1000 ≤ k ∧ k ≤ 1000) : eRg false a env = .ok (.lst (rangeL 0 k.toNat)) e1 := by
  rw [ap_eRg, ha, Out.bind_ok, dd_toI, Out.opt_some, Out.bind_ok, if_pos (by omega)]; rfl
theorem t_rgT {k : Int} (ha : a env = .ok (.int k) e1) (h : -1000 ≤ k ∧ k ≤ 1000) : eRg true a env = .ok (.tup (rangeL 0 k.toNat)) e1 := by
  rw [ap_eRg, ha, Out.bind_ok, dd_toI, Out.opt_some, Out.bind_ok, if_pos (by omega)]; rfl
theorem t_itM (ha : a env = .ok x e1) (h : x.items = some ds) : iSeqM a env = .ok ds e1 := by rw [ap_iSeqM, ha, Out.bind_ok, h]; rfl
theorem t_itP (ha : a env = .ok x e1) (h : x.items = some ds) (hp : D.pureL ds = true) : iSeqP a env = .ok ds e1 := by rw [ap_iSeqP, ha, Out.bind_ok, h, Out.opt_some, Out.bind_ok, if_pos hp]
theorem t_itL (ha : a env = .ok (.lst ds) e1) : iLst a env = .ok ds e1 := by rw [ap_iLst, ha]; rfl
theorem t_enL (ha : a env = .ok (.lst ds) e1) : Mir.iEnumL a env = .ok (enumL 0 ds) e1 := by
  show (a env).bind _ = _
  rw [ha]; rfl
theorem t_enT (ha : a env = .ok (.tup ds) e1) : Mir.iEnumT a env = .ok (enumL 0 ds) e1 := by
  show (a env).bind _ = _
  rw [ha]; rfl
theorem t_rng1 {k : Int} (ha : a env = .ok (.int k) e1) (h : -(2 ^ 62) ≤ k ∧ k < 2 ^ 62) : iRng1M (aCons a aNil) env = .ok (rangeL 0 k.toNat) e1 := by
  rw [ap_iRng1M, t_cons ha t_nil, Out.bind_ok]; unfold rng1; dsimp only; rw [if_pos h]; rfl
theorem t_rng2 {k l : Int} (ha : a env = .ok (.int k) e1) (hb : b e1 = .ok (.int l) e2) (h : -(2 ^ 62) ≤ k ∧ k < 2 ^ 62 ∧ -(2 ^ 62) ≤ l ∧ l < 2 ^ 62) : iRng2M (aCons a (aCons b aNil)) env = .ok (rangeL k (l - k).toNat) e2 := by
  rw [ap_iRng2M, t_cons ha (t_cons hb t_nil), Out.bind_ok]; unfold rng2; dsimp only; rw [if_pos h]; rfl
theorem t_chain {f g : D → D → Option D} (ha : a env = .ok x e1) (hb : b e1 = .ok y e2) (hf : f x y = some (.bl p)) (hc : p = true → c e2 = .ok z e2) (hg : p = true → g y z = some (.bl q)) : eChain f g a b c env = .ok (.bl (p && q)) e2 := by
  rw [ap_eChain, ha, Out.bind_ok, hb, Out.bind_ok, hf]
  cases p with
  | true => show (if true = true then (c e2).bind (fun z e => Out.opt (g y z) e) else Out.ok (.bl false) e2) = _; rw [if_pos rfl, hc rfl, Out.bind_ok, hg rfl]; rfl
  | false => rfl
theorem t_index (ha : a env = .ok (.lst ds) e1) (hb : b e1 = .ok y e2) (hf : oIndex ds y = some z) : eIndex a b env = .ok z e2 := by
  unfold eIndex; rw [ha, Out.bind_ok]; dsimp only; rw [hb, Out.bind_ok, hf]; rfl
theorem t_pN : pNone env = .ok none env := rfl
theorem t_pS {k : Int} (ha : a env = .ok (.int k) e1) : pSome a env = .ok (some k) e1 := by rw [ap_pSome, ha]; rfl
theorem t_sl {f : D → Option Int → Option Int → Option D} {lo hi : PM} {l r : Option Int} (ha : a env = .ok x e1) (hl : lo e1 = .ok l e2) (hr : hi e2 = .ok r e3) (hf : f x l r = some z) : eSl f a lo hi env = .ok z e3 := by
  rw [ap_eSl, ha, Out.bind_ok, hl, Out.bind_ok, hr, Out.bind_ok, hf]; rfl
theorem t_m1 {f : D → D → Option D} (ha : a env = .ok x e1) (hs : x.isS = true) (hb : b e1 = .ok y e2) (hf : f x y = some z) : eM1 f a b env = .ok z e2 := by
  rw [ap_eM1, ha, Out.bind_ok, if_pos hs, hb, Out.bind_ok, hf]; rfl
/-! statements -/
theorem s_asg (ha : a env = .ok d e1) (hs : e1.set i (some d) = e2) : sAsg a (gSet i) env = .next e2 := by rw [ap_sAsg, ha]; exact congrArg Fl.next hs
theorem s_asg2 {g h : GM} {x y : D} (ha : a env = .ok (.tup [x, y]) e1) (hg : g x e1 = some e2) (hh : h y e2 = some e3) : sAsg a (gTupleM [g, h]) env = .next e3 := by
  rw [ap_sAsg, ha, Out.fl_ok, ap_gTupleM, ap_gTupM1, hg, Option.bind_some, ap_gTupM1, hh]; rfl
theorem s_own (ha : a env = .ok d e1) (hi : i < e1.length) (hs : e1.set i (some d) = e2) : sOwn a i env = .next e2 := by rw [ap_sOwn, ha, Out.fl_ok, if_pos hi, hs]
theorem s_drop (ha : a env = .ok d e1) : sDrop a env = .next e1 := by rw [ap_sDrop, ha]; rfl
theorem s_app (h0 : env[i]? = some (some (.lst es))) (ha : a env = .ok d e1) (h : e1[i]? = some (some (.lst ds))) (hl : ds.length < 100000) (hs : e1.set i (some (.lst (ds ++ [d]))) = e2) : sApp i a env = .next e2 := by
  rw [ap_sApp, h0]; dsimp only; rw [ha, Out.fl_ok, h]; dsimp only; rw [if_pos hl, hs]
theorem s_aug {f : Int → Int → Int} {k l : Int} (h : env[i]? = some (some (.int k))) (ha : a env = .ok (.int l) e1) (hs : e1.set i (some (.int (f k l))) = e2) : sAug i a f env = .next e2 := by
  rw [ap_sAug, h]; dsimp only; rw [ha, Out.fl_ok]; dsimp only; rw [hs]
theorem s_par (ha : a env = .ok d e1) (hb : b e1 = .ok x e2) (hs : (e2.set i (some d)).set j (some x) = e3) : sPar i a j b env = .next e3 := by
  rw [show sPar i a j b env = (a env).fl fun d e => (b e).fl fun c e1 => .next ((e1.set i (some d)).set j (some c)) from rfl, ha, Out.fl_ok, hb, Out.fl_ok, hs]
theorem s_parO (ha : a env = .ok d e1) (hb : b e1 = .ok x e2) (hj : j < e2.length) (hs : (e2.set i (some d)).set j (some x) = e3) : sParO i a j b env = .next e3 := by
  rw [ap_sParO, ha, Out.fl_ok, hb, Out.fl_ok, if_pos hj, hs]
theorem s_parOO (h : i < env.length ∧ j < env.length) (hs : (env.set i (some (.lst []))).set j (some (.lst [])) = e1) : sParOO i j env = .next e1 := by rw [w_parOO h, hs]
theorem s_par3 {l : Nat} {e4 : Env} (ha : a env = .ok x e1) (hb : b e1 = .ok y e2) (hc : c e2 = .ok z e3) (hs : ((e3.set i (some x)).set j (some y)).set l (some z) = e4) : sPar3 i a j b l c env = .next e4 := by
  unfold sPar3; rw [ha, Out.fl_ok, hb, Out.fl_ok, hc, Out.fl_ok, hs]
theorem s_for {it : IM} {g : GM} {o : Fl} (hi : it env = .ok ds e1) (hf : forGo g m ds e1 = o) : sFor it g m env = o := by rw [ap_sFor, hi]; exact hf
/-! runs -/
def Run (m : SM) (env : Env) (Q : Fl → Prop) : Prop := Q (m env)
variable {Q : Fl → Prop} {r : SM}
theorem r_seq (h : m env = .next e1) (k : Run r e1 Q) : Run (sSeq m r) env Q := by unfold Run at *; rw [ap_sSeq, h]; exact k
theorem r_one (h : m env = .next e1) (k : Q (.next e1)) : Run m env Q := by unfold Run; rw [h]; exact k
theorem r_ret (h : a env = .ok d e1) (k : Q (.ret d e1)) : Run (sRet a) env Q := by unfold Run; rw [ap_sRet, h]; exact k
theorem r_retO (h : env[i]? = some (some (.lst ds))) (k : Q (.ret (.lst ds) env)) : Run (sRetOwn i) env Q := by unfold Run; rw [ap_sRetOwn, h]; exact k
theorem r_if (ht : t env = .ok p e1) (h1 : p = true → Run m e1 Q) (h2 : p = false → Run n e1 Q) : Run (sIf t m n) env Q := by
  unfold Run at *; rw [ap_sIf, ht, Out.fl_ok]
  cases p with
  | true => exact h1 rfl
  | false => exact h2 rfl
theorem r_ifS (ht : t env = .ok p e1) (h1 : p = true → Run (sSeq m r) e1 Q) (h2 : p = false → Run (sSeq n r) e1 Q) : Run (sSeq (sIf t m n) r) env Q := by
  unfold Run at *; rw [ap_sSeq, ap_sIf, ht, Out.fl_ok]
  cases p with
  | true => exact h1 rfl
  | false => exact h2 rfl
theorem r_chk (ht : t env = .ok p e1) (hp : p = false) (k : Run r e1 Q) : Run (sSeq (sIf t m sNext) r) env Q := by
  subst hp; unfold Run at *; rw [ap_sSeq, ap_sIf, ht]; exact k
theorem r_tru (ht : t env = .ok p e1) (hp : p = true) (k : Run (sSeq m r) e1 Q) : Run (sSeq (sIf t m n) r) env Q := by
  subst hp; unfold Run at *; rw [ap_sSeq, ap_sIf, ht]; exact k
theorem r_fls (ht : t env = .ok p e1) (hp : p = false) (k : Run (sSeq n r) e1 Q) : Run (sSeq (sIf t m n) r) env Q := by
  subst hp; unfold Run at *; rw [ap_sSeq, ap_sIf, ht]; exact k
theorem r_tru1 (ht : t env = .ok p e1) (hp : p = true) (k : Run m e1 Q) : Run (sIf t m n) env Q := by
  subst hp; unfold Run at *; rw [ap_sIf, ht]; exact k
theorem r_fls1 (ht : t env = .ok p e1) (hp : p = false) (k : Run n e1 Q) : Run (sIf t m n) env Q := by
  subst hp; unfold Run at *; rw [ap_sIf, ht]; exact k
theorem r_assoc {s : SM} (k : Run (sSeq m (sSeq n s)) env Q) : Run (sSeq (sSeq m n) s) env Q := by
  unfold Run at *; rw [ap_sSeq, ap_sSeq]; rw [ap_sSeq] at k
  cases q : m env with
  | next e => rw [q] at k; exact k
  | _ => rw [q] at k; exact k
theorem r_nextS (k : Run r env Q) : Run (sSeq sNext r) env Q := k
theorem r_next (k : Q (.next env)) : Run sNext env Q := k
theorem r_retS (h : a env = .ok d e1) (k : Q (.ret d e1)) : Run (sSeq (sRet a) r) env Q := by unfold Run; rw [ap_sSeq, ap_sRet, h]; exact k
theorem r_contS (k : Q (.cont env)) : Run (sSeq sCont r) env Q := k
theorem r_brkS (k : Q (.brk env)) : Run (sSeq sBrk r) env Q := k
/-- a loop within a run: its own law is told apart -/
theorem r_for {it : IM} {g : GM} (hi : it env = .ok ds e1) (hf : Run (forGo g m ds) e1 Q) : Run (sFor it g m) env Q := by unfold Run at *; rw [ap_sFor, hi]; exact hf
theorem r_forS {it : IM} {g : GM} (hi : it env = .ok ds e1) (hf : forGo g m ds e1 = .next e2) (k : Run r e2 Q) : Run (sSeq (sFor it g m) r) env Q := by unfold Run at *; rw [ap_sSeq, ap_sFor, hi, Out.fl_ok, hf]; exact k
/-- from a run to a def's answer -/
theorem runF_run {fr : Bool} {k N : Nat} {ds : List D} {x : D} (hr : Run m (ds.map some ++ List.replicate (N - ds.length) none) (fun o => ∃ e, o = .ret x e)) (hl : ds.length = k) : runF fr k N m ds = .ok x := by
  obtain ⟨e, h⟩ := hr
  exact runF_ret (e := e) h hl
end
/-! loops by an invariant -/
theorem for_run {g : GM} {b : SM} (I : List D → Env → Prop) : ∀ (ds done : List D) (env : Env), I done env →
    (∀ done d rest env, ds = done ++ d :: rest ∨ True → I done env → ∃ e, g d env = some e ∧ Run b e fun o => (∃ e', (o = .next e' ∨ o = .cont e') ∧ I (done ++ [d]) e')) →
    ∃ e, forGo g b ds env = .next e ∧ I (done ++ ds) e
  | [], done, env, h, _ => ⟨env, rfl, by rw [List.append_nil]; exact h⟩
  | d :: ds, done, env, h, k => by
    obtain ⟨e, h1, e', h2, h3⟩ := k done d ds env (.inr trivial) h
    obtain ⟨e'', q1, q2⟩ := for_run I ds (done ++ [d]) e' h3 fun done d rest env _ hI => k done d rest env (.inr trivial) hI
    refine ⟨e'', ?_, by rw [List.append_assoc] at q2; exact q2⟩
    unfold forGo
    rw [h1]
    dsimp only
    rcases h2 with h2 | h2 <;> (rw [h2]; exact q1)
/-- the same over a map: the invariant counts the turns -/
theorem for_at {α : Type} (inj : α → D) {i : Nat} {b : SM} (I : Nat → Env → Prop) (xs : List α) (env : Env) (h0 : I 0 env)
    (hb : ∀ (t : Nat) (x : α) (env : Env), xs[t]? = some x → I t env → Run b (env.set i (some (inj x))) fun o => ∃ e', (o = .next e' ∨ o = .cont e') ∧ I (t + 1) e') :
    ∃ e, forGo (gSet i) b (xs.map inj) env = .next e ∧ I xs.length e := by
  have key : ∀ (ys : List α) (t : Nat) (env : Env), xs.drop t = ys → I t env → ∃ e, forGo (gSet i) b (ys.map inj) env = .next e ∧ I (t + ys.length) e := by
    intro ys
    induction ys with
    | nil => intro t env _ h; exact ⟨env, rfl, h⟩
    | cons y ys ih =>
      intro t env hd h
      have hy : xs[t]? = some y := by
        have : (xs.drop t)[0]? = some y := by rw [hd]; rfl
        rw [List.getElem?_drop] at this
        simpa using this
      have hd' : xs.drop (t + 1) = ys := by
        rw [← List.drop_drop, hd]; rfl
      obtain ⟨e', h2, h3⟩ := hb t y env hy h
      obtain ⟨e'', q1, q2⟩ := ih (t + 1) e' hd' h3
      refine ⟨e'', ?_, by rw [List.length_cons, show t + (ys.length + 1) = t + 1 + ys.length by omega]; exact q2⟩
      rw [List.map_cons]
      unfold forGo
      rw [ap_gSet]
      dsimp only
      rcases h2 with h2 | h2 <;> (rw [h2]; exact q1)
  obtain ⟨e, q1, q2⟩ := key xs 0 env rfl h0
  exact ⟨e, q1, by rw [Nat.zero_add] at q2; exact q2⟩
/-- a loop within a run, by an invariant that counts the turns -/
theorem r_forI {α : Type} {Q : Fl → Prop} {m r : SM} {it : IM} {env e1 : Env} {i : Nat} (inj : α → D) (xs : List α) (I : Nat → Env → Prop) (hi : it env = .ok (xs.map inj) e1) (h0 : I 0 e1)
    (hb : ∀ (t : Nat) (x : α) (env : Env), xs[t]? = some x → I t env → Run m (env.set i (some (inj x))) fun o => ∃ e', (o = .next e' ∨ o = .cont e') ∧ I (t + 1) e')
    (k : ∀ e, I xs.length e → Run r e Q) : Run (sSeq (sFor it (gSet i) m) r) env Q := by
  obtain ⟨e, q1, q2⟩ := for_at inj I xs e1 h0 hb
  exact r_forS hi q1 (k e q2)
theorem r_forI1 {α : Type} {Q : Fl → Prop} {m : SM} {it : IM} {env e1 : Env} {i : Nat} (inj : α → D) (xs : List α) (I : Nat → Env → Prop) (hi : it env = .ok (xs.map inj) e1) (h0 : I 0 e1)
    (hb : ∀ (t : Nat) (x : α) (env : Env), xs[t]? = some x → I t env → Run m (env.set i (some (inj x))) fun o => ∃ e', (o = .next e' ∨ o = .cont e') ∧ I (t + 1) e')
    (k : ∀ e, I xs.length e → Q (.next e)) : Run (sFor it (gSet i) m) env Q := by
  obtain ⟨e, q1, q2⟩ := for_at inj I xs e1 h0 hb
  unfold Run
  rw [ap_sFor, hi]
  show Q (forGo _ _ _ _)
  rw [q1]
  exact k e q2
/-- a loop that may return: nothing more, or its return -/
theorem for_ret {α : Type} (inj : α → D) {i : Nat} {b : SM} (I : Nat → Env → Prop) (Ret : D → Prop) (xs : List α) (env : Env) (h0 : I 0 env)
    (hb : ∀ (t : Nat) (x : α) (env : Env), xs[t]? = some x → I t env → Run b (env.set i (some (inj x))) fun o => (∃ e', (o = .next e' ∨ o = .cont e') ∧ I (t + 1) e') ∨ ∃ d e', o = .ret d e' ∧ Ret d) :
    (∃ e, forGo (gSet i) b (xs.map inj) env = .next e ∧ I xs.length e) ∨ ∃ d e, forGo (gSet i) b (xs.map inj) env = .ret d e ∧ Ret d := by
  have key : ∀ (ys : List α) (t : Nat) (env : Env), xs.drop t = ys → I t env → (∃ e, forGo (gSet i) b (ys.map inj) env = .next e ∧ I (t + ys.length) e) ∨ ∃ d e, forGo (gSet i) b (ys.map inj) env = .ret d e ∧ Ret d := by
    intro ys
    induction ys with
    | nil => intro t env _ h; exact .inl ⟨env, rfl, h⟩
    | cons y ys ih =>
      intro t env hd h
      have hy : xs[t]? = some y := by
        have : (xs.drop t)[0]? = some y := by rw [hd]; rfl
        rw [List.getElem?_drop] at this
        simpa using this
      have hd' : xs.drop (t + 1) = ys := by
        rw [← List.drop_drop, hd]; rfl
      have e0 : ∀ o, b (env.set i (some (inj y))) = o → forGo (gSet i) b ((y :: ys).map inj) env = match o with
        | .next e' => forGo (gSet i) b (ys.map inj) e'
        | .cont e' => forGo (gSet i) b (ys.map inj) e'
        | .brk e' => .next e'
        | .ret x e' => .ret x e'
        | .exc x e' => .exc x e'
        | .bad => .bad := fun o ho => by
        rw [List.map_cons]
        conv => lhs; unfold forGo
        rw [ap_gSet]
        dsimp only
        rw [ho]
        all_goals (cases o <;> rfl)
      rcases hb t y env hy h with ⟨e', h2, h3⟩ | ⟨d, e', h2, h3⟩
      · have e1 : forGo (gSet i) b ((y :: ys).map inj) env = forGo (gSet i) b (ys.map inj) e' := by
          rcases h2 with h2 | h2 <;> exact e0 _ h2
        rw [e1]
        rcases ih (t + 1) e' hd' h3 with ⟨e'', q1, q2⟩ | q
        · exact .inl ⟨e'', q1, by rw [List.length_cons, show t + (ys.length + 1) = t + 1 + ys.length by omega]; exact q2⟩
        · exact .inr q
      · exact .inr ⟨d, e', e0 _ h2, h3⟩
  rcases key xs 0 env rfl h0 with ⟨e, q1, q2⟩ | q
  · exact .inl ⟨e, q1, by rw [Nat.zero_add] at q2; exact q2⟩
  · exact .inr q
/-- ranges as naturals -/
theorem rangeL_nat (n : Nat) : rangeL 0 n = (List.range n).map fun d : Nat => D.int (d : Int) := by
  unfold rangeL
  exact List.map_congr_left fun d _ => by congr 1; omega
theorem rangeL_natI (n : Nat) : rangeL 0 ((n : Int)).toNat = (List.range n).map fun d : Nat => D.int (d : Int) := rangeL_nat n
theorem oLen_mapL {α : Type} (f : α → D) (xs : List α) : oLen (.lst (xs.map f)) = some (.int (xs.length : Int)) := by rw [oLen_lst, List.length_map]
theorem oLen_mapT {α : Type} (f : α → D) (xs : List α) : oLen (.tup (xs.map f)) = some (.int (xs.length : Int)) := by rw [oLen_tup, List.length_map]
theorem oLen_rangeL {f : Nat → D} (n : Nat) : oLen (.lst ((List.range n).map f)) = some (.int (n : Int)) := by rw [oLen_lst, List.length_map, List.length_range]
theorem oIx_mapL {α : Type} (f : α → D) {xs : List α} {k : Nat} {x : α} (h : xs[k]? = some x) : oIx (.lst (xs.map f)) (.int (k : Int)) = some (f x) := by
  rw [oIx_lst]; exact atI_nn (by rw [List.getElem?_map, h]; rfl)
theorem oIx_mapT {α : Type} (f : α → D) {xs : List α} {k : Nat} {x : α} (h : xs[k]? = some x) : oIx (.tup (xs.map f)) (.int (k : Int)) = some (f x) := by
  rw [oIx_tup]; exact atI_nn (by rw [List.getElem?_map, h]; rfl)
theorem oIx_rangeL {f : Nat → D} {n k : Nat} (h : k < n) : oIx (.lst ((List.range n).map f)) (.int (k : Int)) = some (f k) := oIx_mapL f (by rw [List.getElem?_eq_getElem (by rw [List.length_range]; exact h), List.getElem_range])
end Mir
/-! MirLa -/
/-! MirLa: closures: a lambda is made, handed to a def, called there. -/
namespace Mir
open PySem PySem.Spec PyProof.Rows L2
variable [Tbl]
/-! ### all that no one may write from here on -/
def wide (h : Heap) (H : Hp) (st : List PySem.Env) : Heap := PySem.W.hideAll h (trk h H ++ frs st)
section
variable {h : Heap} {H : Hp} {st : List PySem.Env} {b : Addr} {o : Obj}
theorem wide_get (e : h.get? b = some o) (n : H b = none) (nf : b ∉ frs st) : (wide h H st).get? b = some o :=
  PySem.W.hideAll_get _ e fun hm => (List.mem_append.mp hm).elim (fun z => by
    have q := (List.mem_filter.mp z).2
    rw [n] at q
    cases q) nf
theorem of_wide (e : (wide h H st).get? b = some o) : h.get? b = some o ∧ H b = none ∧ b ∉ frs st := by
  have e' : h.get? b = some o := PySem.W.of_hideAll _ e
  have key : b ∉ trk h H ++ frs st := fun hm => by
    have z : (wide h H st).get? b = none := PySem.W.hideAll_none _ hm
    rw [z] at e
    cases e
  refine ⟨e', ?_, fun z => key (List.mem_append_right _ z)⟩
  cases q : H b with
  | none => rfl
  | some x => exact absurd (List.mem_append_left _ (List.mem_filter.mpr ⟨List.mem_range.mpr (Heap.lt_size e'), by simp [q]⟩)) key
end
theorem mod_keeps {K : PySem.W.Frag} {mg : Str → Option Value} {b b' : Heap} (m : L2.Mod K mg b) (k : ∀ a o, b.get? a = some o → b'.get? a = some o) : L2.Mod K mg b' := by
  have ns : ∀ {a : Addr} {f : Str → Option Value}, b.Ns a f → b'.Ns a f := fun ⟨o, es, ep, e, r⟩ => ⟨o, es, ep, k _ _ e, r⟩
  obtain ⟨mb, h1, h2⟩ := m.blt
  obtain ⟨mc, h3, h4⟩ := m.nolimit
  exact ⟨fun a o e => k a o (m.kin a o e), ns m.glob, ⟨mb, ns h1, h2⟩, ⟨mc, ns h3, h4⟩⟩
theorem funs_base {h b b' : Heap} (k : ∀ a, b.get? a = none → b'.get? a = none) : ∀ {l : List PySem.Env}, h.FunFrames b l → h.FunFrames b' l
  | [], _ => True.intro
  | _ :: _, ⟨h1, ⟨L, o, e1, e2, e3⟩, h3⟩ => ⟨h1, ⟨L, o, e1, k L e2, e3⟩, funs_base k h3⟩
theorem funs_hide {h b b' : Heap} : ∀ {l : List PySem.Env}, (∀ a ∈ frs l, b'.get? a = none) → h.FunFrames b l → h.FunFrames b' l
  | [], _, _ => True.intro
  | e :: l, k, ⟨h1, ⟨L, o, e1, e2, e3⟩, h3⟩ => by
    have hf : frs (e :: l) = L :: frs l := by
      unfold frs
      rw [List.filterMap_cons, e1]
    exact ⟨h1, ⟨L, o, e1, k L (by rw [hf]; exact List.mem_cons_self), e3⟩, funs_hide (fun a ha => k a (by rw [hf]; exact List.mem_cons_of_mem _ ha)) h3⟩
section
variable {X : Cx} {pins : List (Addr × Obj)} {σ : L2.St} {H : Hp} {s : Shared}
theorem base_wide (I : Inv X pins σ H s) {b : Addr} {o : Obj} (e : X.base.get? b = some o) : (wide s.heap H X.stack).get? b = some o := by
  obtain ⟨h1, h2⟩ := I.bs b o e
  refine wide_get h1 h2 fun z => ?_
  rcases List.mem_cons.mp (I.stkSub b z) with q | q
  · have := Heap.lt_size e
    have l1 := I.ok.above
    have l2 := I.ok.bsz
    rw [q] at this
    exact Nat.lt_irrefl _ (Nat.lt_of_lt_of_le this (Nat.le_trans l2 l1))
  · exact I.ok.nofr e q
theorem env0_wide (I : Inv X pins σ H s) : Env0 X.prog X.w X.K X.mg (wide s.heap H X.stack) X.A X.stack s H := by
  have e := I.env0
  refine ⟨e.frames, mod_keeps e.mod fun a o q => base_wide I q, fun b o q => ⟨(of_wide q).1, (of_wide q).2.1⟩, ?_, funs_hide (fun a ha => ?_) e.funs, e.frf, e.hok, e.bare⟩
  · exact Nat.le_of_eq (PySem.W.hideAll_size _ _)
  · cases q : (wide s.heap H X.stack).get? a with
    | none => rfl
    | some o => exact absurd ha (of_wide q).2.2
/-- less is known -/
theorem env0_less {P : Program} {w : World} {K : PySem.W.Frag} {mg : Str → Option Value} {b b' : Heap} {A : Around} {outer : List PySem.Env} (e : Env0 P w K mg b' A outer s H) (m : L2.Mod K mg b) (k : ∀ a o, b.get? a = some o → b'.get? a = some o) (sz : b.objs.size ≤ b'.objs.size) : Env0 P w K mg b A outer s H :=
  ⟨e.frames, m, fun a o q => e.bs a o (k a o q), Nat.le_trans sz e.bsz, funs_base (fun a n => by
    cases q : b.get? a with
    | none => rfl
    | some o => rw [k a o q] at n; cases n) e.funs, e.frf, e.hok, e.bare⟩
/-- the cells of the def that runs are no frames -/
theorem cell_nofr (I : Inv X pins σ H s) (hfn : ∀ x, X.fn x = true) {y : Str} {c : Addr} (e : X.env.cells.lookup y = some c) : c ∉ frs X.stack := fun z => by
  rcases List.mem_cons.mp (I.stkSub c z) with q | q
  · obtain ⟨v, o, h1, h2⟩ := I.cell y c e
    obtain ⟨m, ⟨o', es, ep, h3, h4, _⟩, _⟩ := I.loc
    rw [← q, h1] at h3
    cases h3
    rw [h2] at h4
    cases h4
  · have l := I.ok.cab y c (hfn y) e
    obtain ⟨_, o, h1, _⟩ := I.ok.funs.mem q
    exact Nat.lt_irrefl _ (Nat.lt_of_lt_of_le (Heap.lt_size h1) l)
end
/-! ### the lambda's names -/
structure LamP (sc scope : Scope) (N ps : List Str) : Prop where
  kind : scope.kind = .function
  co : scope.isCoroutine = false
  gen : scope.isGenerator = false
  own : ∀ y ∈ scope.names, y.2 ≠ .cell ∧ (y.2 = .local → y.1 ∈ ps)
  free : ∀ y ∈ scope.names, y.2 = .free → sc.names.lookup y.1 = some .cell ∨ sc.names.lookup y.1 = some .free
  par : ∀ y ∈ ps, scope.names.lookup y = some .local ∧ y ∉ N
  nd : ps.Nodup
def lamPB (sc scope : Scope) (N ps : List Str) : Bool :=
  decide (scope.kind = .function) && (!scope.isCoroutine && (!scope.isGenerator && ((scope.names.all fun y => !decide (y.2 = .cell) && (!decide (y.2 = .local) || decide (y.1 ∈ ps))) && ((scope.names.all fun y => !decide (y.2 = .free) || (decide (sc.names.lookup y.1 = some .cell) || decide (sc.names.lookup y.1 = some .free))) &&
    ((ps.all fun y => decide (scope.names.lookup y = some .local) && !decide (y ∈ N)) && decide ps.Nodup)))))
theorem lamP_by {sc scope : Scope} {N ps : List Str} (h : lamPB sc scope N ps = true) : LamP sc scope N ps := by
  unfold lamPB at h
  simp only [Bool.and_eq_true, Bool.or_eq_true, Bool.not_eq_true', decide_eq_true_eq, decide_eq_false_iff_not, List.all_eq_true] at h
  obtain ⟨h1, h2, h3, h4, h5, h6, h7⟩ := h
  exact ⟨h1, h2, h3, fun y hy => ⟨(h4 y hy).1, fun e => (h4 y hy).2.elim (fun z => absurd e z) id⟩, fun y hy e => (h5 y hy).elim (fun z => absurd e z) id, fun y hy => h6 y hy, h7⟩
abbrev lamE (X : Cx) (scope : Scope) (L f c' : Addr) : PySem.Env := PySem.W.envX (X.env.qual ++ "<lambda>") scope L f (.ref c') (cloFrom X.env.cells scope.names [])
/-- the lambda's body's context -/
def lamX (X : Cx) (ps : List Str) (A : Around) (outer : List PySem.Env) (s : Shared) (H : Hp) (E : XK) (scope : Scope) (f c' : Addr) : Cx :=
  { prog := X.prog, w := X.w, K := X.K, mg := X.mg, base := X.base, A := A.deeper (lamE X scope s.heap.objs.size f c'), N := X.N ++ ps, s_0 := s, H_0 := H, env := lamE X scope s.heap.objs.size f c', outer := outer
    stack := lamE X scope s.heap.objs.size f c' :: outer, ex := [], fn := fun _ => false, calm := true, pn := []
    xe := fun e s' => wpAny (model X.prog X.w) (A.deeper (lamE X scope s.heap.objs.size f c')) (leaving (lamE X scope s.heap.objs.size f c') e) (fun _ s'' => L2.CX X.prog X.w outer H s E e s'') (fun e' s'' => L2.CX X.prog X.w outer H s E e' s'') s' }
section
variable {X : Cx} {pins : List (Addr × Obj)} {σ : L2.St} {H HZ : Hp} {s sZ : Shared}
theorem clo_in {scope : Scope} {y : Str} {c : Addr} (hfree : ∀ y ∈ scope.names, y.2 = .free → ∃ c, X.env.cells.lookup y.1 = some c) (e : (cloFrom X.env.cells scope.names []).lookup y = some c) : X.env.cells.lookup y = some c := by
  rcases cloFrom_mem (PySem.mem_of_lookup e) with z | ⟨h1, h2⟩
  · cases z
  · obtain ⟨c1, hc⟩ := hfree _ h1 rfl
    have hc : X.env.cells.lookup y = some c1 := hc
    have : c = c1 := by
      rw [h2, hc] <;> rfl
    rw [this]
    exact hc
theorem LamP.has {scope : Scope} {ps : List Str} (L : LamP X.env.scope scope X.N ps) (ok : X.Ok) : ∀ y ∈ scope.names, y.2 = .free → ∃ c, X.env.cells.lookup y.1 = some c := fun y hy e =>
  (L.free y hy e).elim (fun k => ok.has _ (.inl k)) fun k => ok.has _ (.inr k)
/-- the frame of the lambda's call -/
theorem lam_enter {A : Around} {outer : List PySem.Env} {E : XK} {scope : Scope} {ps : List Str} {f c' : Addr} {h₁ : Heap} {tk : Nat} {us : List Value} {vs : List V} (I : Inv X pins σ H s) (hfn : ∀ x, X.fn x = true) (L : LamP X.env.scope scope X.N ps)
    (e0 : Env0 X.prog X.w X.K X.mg (wide s.heap H X.stack) A outer sZ HZ) (hd : A.handled = none) (hv : Vals vs us) (hl : vs.length = ps.length)
    (hns : h₁.Ns sZ.heap.objs.size fun y => (ps.zip us).reverse.lookup y) (kp : ∀ b o, sZ.heap.get? b = some o → h₁.get? b = some o) :
    Inv (lamX X ps A outer sZ HZ E scope f c') [] (σ ++ vs.map some) HZ { sZ with heap := h₁, toks := tk } := by
  have hfree := L.has I.ok
  have eb : Env0 X.prog X.w X.K X.mg X.base A outer sZ HZ := env0_less e0 I.ok.mod (fun a o q => base_wide I q) (Nat.le_trans (Nat.le_trans I.ok.bsz I.sz) (Nat.le_of_eq (PySem.W.hideAll_size _ _).symm))
  have look : ∀ {y}, scope.names.lookup y = some .free → ∃ c, (cloFrom X.env.cells scope.names []).lookup y = some c := fun {y} q => mem_lookup (cloFrom_has (cells := X.env.cells) (acc := []) (show (y, NameKind.free) ∈ scope.names from PySem.mem_of_lookup q))
  have cellK : ∀ {y : Str} {c : Addr} {v : Option Value}, X.env.cells.lookup y = some c → s.heap.IsCell c v → h₁.IsCell c v ∧ HZ c = none := fun {y c v} q ⟨o, ho, hdat⟩ => by
    obtain ⟨z1, z2⟩ := e0.bs c o (wide_get ho (I.freeC y c q) (cell_nofr I hfn q))
    exact ⟨⟨o, kp c o z1, hdat⟩, z2⟩
  have none_ex : ∀ b : Addr, b ∉ (lamX X ps A outer sZ HZ E scope f c').ex := fun b z => absurd (show b ∈ ([] : List Addr) from z) (by simp)
  have lenU : us.length = ps.length := by rw [← hv.length]; exact hl
  refine ⟨⟨eb.mod, L.kind, rfl, rfl, Nat.le_refl _, fun x y c q1 q2 => I.ok.inj x y c (clo_in hfree q1) (clo_in hfree q2), fun y hy => ?_, fun y c z _ => absurd (show false = true from z) (by decide), fun _ => hd, Around.frames_deeper eb.frames, .inr ⟨rfl, rfl⟩, fun b z => absurd z (none_ex b), eb.bs, eb.bsz, fun b _ _ => none_ex b,
    fun b z => absurd z (none_ex b), eb.funs, eb.frf⟩, rfl, eb.bare, Un.kept kp, ⟨_, hns, fun i y v q1 q2 q3 => ?_⟩, fun y c q => ?_, eb.hok.fresh (Nat.le_refl _), fun y c q => ?_, fun p hp => absurd (show p ∈ ([] : List (Addr × Obj)) ++ [] from hp) (by simp), eb.hok.kept kp, ?_⟩
  · have hy : scope.names.lookup y = some .cell ∨ scope.names.lookup y = some .free := hy
    rcases hy with hy | hy
    · exact absurd rfl (L.own _ (PySem.mem_of_lookup hy)).1
    · exact look hy
  · have q1 : (X.N ++ ps)[i]? = some y := q1
    have q3 : Vis scope y := q3
    rcases Nat.lt_or_ge i X.N.length with lt | ge
    · rw [List.getElem?_append_left lt] at q1
      rw [List.getElem?_append_left (by rw [I.len]; exact lt)] at q2
      rcases q3 with k | k | k
      · exact absurd (List.mem_of_getElem? q1) (L.par y ((L.own _ (PySem.mem_of_lookup k)).2 rfl)).2
      · exact absurd rfl (L.own _ (PySem.mem_of_lookup k)).1
      · obtain ⟨m, hn, hloc⟩ := I.loc
        have kf := L.free _ (PySem.mem_of_lookup k) rfl
        obtain ⟨u, r, q⟩ := hloc i y v q1 q2 (kf.elim (fun z => .inr (.inl z)) fun z => .inr (.inr z))
        obtain ⟨c2, h2⟩ := look k
        have c1 := clo_in hfree h2
        refine ⟨u, r, .inr ⟨.inr k, c2, h2, ?_⟩⟩
        rcases q with ⟨k1, _⟩ | ⟨_, c3, q5, z⟩
        · have k1 : X.env.scope.names.lookup y = some .local := k1
          rcases kf with k2 | k2 <;> rw [show X.env.scope.names.lookup y = _ from k2] at k1 <;> cases k1
        · rw [c1] at q5
          cases q5
          exact (cellK c1 z).1
    · rw [List.getElem?_append_right ge] at q1
      rw [List.getElem?_append_right (by rw [I.len]; exact ge), I.len] at q2
      generalize i - X.N.length = j at q1 q2
      have qv : vs[j]? = some v := by
        rw [List.getElem?_map] at q2
        cases q : vs[j]? with
        | none => rw [q] at q2; cases q2
        | some x => rw [q] at q2; cases q2; rfl
      obtain ⟨u, e1, e2⟩ := hv.get qv
      refine ⟨u, e2, .inl ⟨(L.par y (List.mem_of_getElem? q1)).1, ?_⟩⟩
      show (ps.zip us).reverse.lookup y = some u
      have nd : ((ps.zip us).map (·.1)).Nodup := by
        rw [List.map_fst_zip (by omega)]
        exact L.nd
      have mem : (y, u) ∈ (ps.zip us).reverse := List.mem_reverse.mpr (List.mem_of_getElem? (by rw [List.getElem?_zip_eq_some]; exact ⟨q1, e1⟩))
      have key : ∀ (l : List (Str × Value)), (l.map (·.1)).Nodup → (y, u) ∈ l → l.lookup y = some u := by
        intro l
        induction l with
        | nil => intro _ m; cases m
        | cons p r ih =>
          obtain ⟨a, b⟩ := p
          intro n m
          rcases List.mem_cons.mp m with e | m
          · cases e
            rw [List.lookup_cons, beq_self_eq_true]
          · have n : (a :: r.map (·.1)).Nodup := n
            have ne : (y == a) = false := beq_eq_false_iff_ne.mpr fun z => (List.nodup_cons.mp n).1 (by rw [← z]; exact List.mem_map.mpr ⟨_, m, rfl⟩)
            rw [List.lookup_cons, ne]
            exact ih (List.nodup_cons.mp n).2 m
      exact key _ (by rw [List.map_reverse]; exact (List.reverse_perm _).nodup_iff.mpr nd) mem
  · obtain ⟨v, z⟩ := I.cell y c (clo_in hfree q)
    exact ⟨v, (cellK (clo_in hfree q) z).1⟩
  · obtain ⟨v, z⟩ := I.cell y c (clo_in hfree q)
    exact (cellK (clo_in hfree q) z).2
  · rw [List.length_append, List.length_map, I.len, hl]
    exact List.length_append.symm
end
end Mir
/-! MirLb -/
/-! MirLb: a lambda as a def of its own; how it is made. -/
namespace Mir
open PySem PySem.Spec PyProof.Rows L2
variable [Tbl]
section
variable {X : Cx} {pins : List (Addr × Obj)} {σ : L2.St} {H : Hp} {s : Shared}
abbrev lamO (X : Cx) (params : Arguments) (body : Expr) (scope : Scope) (pm : Value) (c' : Addr) (ctv : Value) : Obj :=
  PySem.W.kla_obj "<lambda>" (X.env.qual ++ "<lambda>") params body scope (cloFrom X.env.cells scope.names []) pm c' ctv
abbrev lamF (X : Cx) (params : Arguments) (body : Expr) (scope : Scope) (pm : Value) (c' : Addr) (ctv : Value) : FuncData :=
  PySem.W.kla_fn "<lambda>" (X.env.qual ++ "<lambda>") params body scope (cloFrom X.env.cells scope.names []) pm (.ref c') ctv
/-- a lambda that was made keeps the promise that its body's reading is -/
theorem lam_fnok {params : Arguments} {body : Expr} {scope : Scope} {pm ctv : Value} {ps : List Str} {f c' : Addr} {k : Nat} {tb : XK → TE} (I : Inv X pins σ H s) (hfn : ∀ x, X.fn x = true) (L : LamP X.env.scope scope X.N ps)
    (hf : s.heap.get? f = some (lamO X params body scope pm c' ctv)) (n0 : H f = none) (nf : f ∉ frs X.stack)
    (hbody : ∀ (A : Around) (outer : List PySem.Env) (s' : Shared) (H' : Hp) (E : XK), Room k (A.deeper (lamE X scope s'.heap.objs.size f c')) → PE (lamX X ps A outer s' H' E scope f c') body (tb E)) :
    FnOk X.prog X.w X.K X.mg (wide s.heap H X.stack) (L2.CX X.prog X.w) (k + 1) f (lamF X params body scope pm c' ctv) ps (fun vs HZ Q E => vs.length = ps.length ∧ HZ c' = some (LamX.CodeO c' (X.env.qual ++ "<lambda>")) ∧ tb E (σ ++ vs.map some) HZ Q) := by
  refine ⟨fun _ _ _ _ h => h.1, fun A outer sZ HZ args us vs Q E hr e0 hb hv h => ?_⟩
  obtain ⟨hl, hc, ht⟩ := h
  have of1 := (e0.bs f _ (wide_get hf n0 nf)).1
  obtain ⟨⟨oc, ws, t, hoc, hdc, hvc⟩, _, _⟩ := e0.hok c' _ hc
  refine PySem.W.kla_callFunE hr.depth of1 rfl L.co L.gen rfl ⟨c', oc, ws, t, rfl, hoc, hdc, hvc⟩ (hb _ _ _ _ ?_)
  have lim : sZ.heap.NoLimit := e0.mod.nolimit.keeps fun b o e => (e0.bs b o e).1
  refine wpAny_newFunctionEnv (fun y hy => (L.own y hy).1) (fun y hy => (L.par y.1 (List.of_mem_zip hy).1).1) (fun h₁ hns hsb => ⟨lim.fresh _ hsb, ?_⟩) L.kind
  have kp : ∀ b o, sZ.heap.get? b = some o → h₁.get? b = some o := fun b o e => hsb.extBut b o (Nat.ne_of_lt (Heap.lt_size e)) (Heap.get?_push_of_some _ e)
  have J := lam_enter (E := E) (f := f) (c' := c') (tk := sZ.toks + (ps.zip us).length) I hfn L e0 hr.hd hv hl hns kp
  refine PySem.W.kla_codeExpr (wpAny_mono ((hbody A outer sZ HZ E (hr.deeper _)).run [] _ _ HZ Q J ht) (fun v s' hq => ?_) fun e s' hq => hq)
  obtain ⟨w', H', J', rv, q⟩ := hq
  exact ⟨w', H', J'.os, J'.bare, J'.base, J'.hok, rv, q⟩
/-- a lambda is made -/
theorem lam_new {P c : Addr} {params : Arguments} {body : Expr} {scope : Scope} {pos : Pos} {E : Value → Shared → Prop} {Q : Value → Shared → Prop} (I : Inv X pins σ H s) (TB : LamX.TabB X.base X.mg c P) (hcode : X.env.code = .ref c) (hm : (P, X.env.qual ++ "<lambda>") ∈ Tbl.T)
    (hu : ∀ p ∈ Tbl.T, p.1 = P → p.2 = X.env.qual ++ "<lambda>") (hT : LamX.Tabs Tbl.T H) (hdef : defaultsOf params X.env = ([], [])) (hfree : ∀ y ∈ scope.names, y.2 = .free → ∃ c, X.env.cells.lookup y.1 = some c)
    (h : ∀ (f c' : Addr) (pm ctv : Value) (H1 : Hp) (s' : Shared), Inv X pins σ H1 s' → Ext Nil H H1 → s'.heap.get? f = some (lamO X params body scope pm c' ctv) → H1 f = none → f ∉ frs X.stack → H1 c' = some (LamX.CodeO c' (X.env.qual ++ "<lambda>")) → Q (.ref f) s') :
    wpAny (model X.prog X.w) X.A (eval (.Lambda params body scope pos) X.env) Q E s := by
  obtain ⟨ps, hP, ht, ha⟩ := hT _ hm
  have hPs : s.heap.get? P = some { cls := .none, data := .fields ps } := I.hok P _ hP
  have apart : ∀ g, s.heap.objs.size ≤ g → g ∉ frs X.stack := fun g hg z => by
    rcases List.mem_cons.mp (I.stkSub _ z) with e | e
    · exact Nat.lt_irrefl _ (Nat.lt_of_lt_of_le I.lt (by rw [← e]; exact hg))
    · exact I.nofs hg e
  refine PySem.W.kla_eval hdef ?_
  cases found : codeAmong pos ps.toList with
  | some cv =>
    obtain ⟨c', rfl, hco⟩ := ha pos cv found
    refine PySem.W.kla_makeFunctionHit (mg := X.mg) (c := c) (P := P) (ps := ps) (closure_ok hfree) I.ok.glob (I.mod.glob.keeps I.bk) hcode (TB.code.keeps I.bk) hPs ht found (TB.bm.keeps I.bk) fun ctv h' tk keep big => ?_
    exact h h'.objs.size c' ((X.mg "__name__").getD .none) ctv H _ (I.kept fun b o e => Heap.get?_push_of_some _ (keep b o e)) (Ext.refl _ _) (Heap.get?_push_size _ rfl) (I.hok.fresh big) (apart _ big) hco
  | none =>
    refine PySem.W.kla_makeFunction (mg := X.mg) (c := c) (P := P) (ps := ps) (closure_ok hfree) I.ok.glob (I.mod.glob.keeps I.bk) hcode (TB.code.keeps I.bk) hPs ht found TB.gP (TB.bm.keeps I.bk) fun c' ctv h' tk but lo hi hrec htb => ?_
    obtain ⟨c2, oc, ws, t, e2, hoc, hd, hv⟩ := hrec
    cases e2
    have nC : H c' = none := I.hok.fresh lo
    have nPc : P ≠ c' := ne_of_none hP nC
    have big : s.heap.objs.size ≤ h'.objs.size := Nat.le_trans lo (Nat.le_of_lt hi)
    have I1 := LamX.inv_table (t' := tk) (more := #[rawInt pos.line, rawInt pos.col, .ref c']) (h' := h'.push (lamO X params body scope ((X.mg "__name__").getD .none) c' ctv)) I hP
      (fun b o nb e => Heap.get?_push_of_some _ (but b o nb e)) (Heap.get?_push_of_some _ htb) lo ⟨oc, ws, t, Heap.get?_push_of_some _ hoc, hd, hv⟩
    generalize eH : upd (upd H P (.tbl (ps ++ #[rawInt pos.line, rawInt pos.col, .ref c']))) c' (LamX.CodeO c' (X.env.qual ++ "<lambda>")) = H1 at I1
    have at_ : ∀ b, b ≠ P → b ≠ c' → H1 b = H b := fun b q1 q2 => by rw [← eH, upd_ne q2, upd_ne q1]
    have atP : H1 P = some (.tbl (ps ++ #[rawInt pos.line, rawInt pos.col, .ref c'])) := by rw [← eH, upd_ne nPc, upd_same]
    have atC : H1 c' = some (LamX.CodeO c' (X.env.qual ++ "<lambda>")) := by rw [← eH, upd_same]
    have keepO : ∀ b o, H b = some o → b ≠ P → H1 b = some o := fun b o e q => by rw [at_ b q (ne_of_none e nC)]; exact e
    have codeK : ∀ (d : Addr) (q : Str), H d = some (LamX.CodeO d q) → H1 d = some (LamX.CodeO d q) := fun d q e => keepO d _ e fun z => by
      rw [z, hP] at e
      exact LamX.codeO_ne ps (Option.some.inj e).symm
    refine h h'.objs.size c' ((X.mg "__name__").getD .none) ctv H1 _ I1 ⟨fun b o e _ n => keepO b o e fun z => ?_, fun p hp tp => ?_, fun b bs e => ?_⟩ (Heap.get?_push_size _ rfl) ?_ (apart _ big) atC
    · rw [z, hP] at e
      cases e
      exact n
    · by_cases q : p.1 = P
      · rw [hu p hp q, q]
        refine ⟨_, atP, ?_, fun p' cv hcv => ?_⟩
        · rw [Array.toList_append]
          exact PySem.TriplesOk_snoc _ _ _ _ ht
        · rw [Array.toList_append] at hcv
          rcases LamX.among_app _ ht hcv with z | z
          · obtain ⟨d, z1, z2⟩ := ha p' cv z
            exact ⟨d, z1, codeK d _ z2⟩
          · exact ⟨c', z, atC⟩
      · obtain ⟨bs, a1, a2, a3⟩ := tp
        exact ⟨bs, keepO _ _ a1 q, a2, fun p' cv hcv => let ⟨d, z1, z2⟩ := a3 p' cv hcv; ⟨d, z1, codeK d _ z2⟩⟩
    · by_cases q : b = P
      · exact ⟨_, by rw [q]; exact atP⟩
      · exact ⟨bs, keepO b _ e q⟩
    · have n1 : h'.objs.size ≠ c' := Nat.ne_of_gt hi
      have n2 : h'.objs.size ≠ P := Nat.ne_of_gt (Nat.lt_of_lt_of_le (Heap.lt_size hPs) big)
      rw [at_ _ n2 n1]
      exact I.hok.fresh big
end
end Mir
/-! MirLc -/
/-! MirLc: a def that calls what it was handed; a call that hands a lambda over. -/
namespace Mir
open PySem PySem.Spec PyProof.Rows L2
variable [Tbl]
/-! ### values in which no def is held -/
mutual
def D.nof : D → Bool
  | .tup ds => D.nofL ds
  | .lst ds => D.nofL ds
  | .ins _ ds => D.nofL ds
  | .dic ks _ => (match ks with
    | [.int _] => true
    | _ => false)
  | _ => true
def D.nofL : List D → Bool
  | [] => true
  | d :: ds => d.nof && D.nofL ds
end
mutual
theorem pure_nof : ∀ d : D, d.pure = true → d.nof = true
  | .non, _ => rfl
  | .bl _, _ => rfl
  | .int _, _ => rfl
  | .str _, _ => rfl
  | .tup ds, h => pure_nofL ds h
  | .lst _, h => by cases h
  | .ins _ _, h => by cases h
  | .dic _ _, h => by cases h
theorem pure_nofL : ∀ ds : List D, D.pureL ds = true → D.nofL ds = true
  | [], _ => rfl
  | d :: ds, h => by
    have h := Bool.and_eq_true_iff.mp h
    show (d.nof && D.nofL ds) = true
    rw [pure_nof d h.1, pure_nofL ds h.2]
    rfl
end
section
variable {S S' : Sc} (hK : S'.K = S.K) (ha : S'.ca = S.ca) (hf : S'.fn = S.fn)
include hK ha hf
mutual
theorem rep_conv {F : Addr → Prop} {H : Hp} : ∀ (d : D) (v : V), d.nof = true → Rep S F H d v → Rep S' F H d v
  | .non, _, _, h => h
  | .bl _, _, _, h => h
  | .int _, _, _, h => h
  | .str _, _, _, h => h
  | .tup ds, v, p, h => by
    obtain ⟨a, vs, rfl, h1, h2⟩ := h
    exact ⟨a, vs, rfl, by rw [hK]; exact h1, repL_conv ds vs p h2⟩
  | .lst ds, v, p, h => by
    obtain ⟨a, vs, rfl, n, h1, h2⟩ := h
    exact ⟨a, vs, rfl, n, h1, repL_conv ds vs p h2⟩
  | .ins c ds, v, p, h => by
    obtain ⟨a, dx, fs, rfl, n, h1, h2, h3⟩ := h
    exact ⟨a, dx, fs, rfl, n, by rw [ha]; exact h1, by rw [hf]; exact h2, repL_conv ds _ p h3⟩
  | .dic ks _, v, p, h => by
    rcases h with ⟨c, rfl, rfl⟩ | ⟨k, rfl, _⟩
    · exact .inl ⟨c, rfl, by rw [ha]⟩
    · cases p
theorem repL_conv {F : Addr → Prop} {H : Hp} : ∀ (ds : List D) (vs : List V), D.nofL ds = true → RepL S F H ds vs → RepL S' F H ds vs
  | [], _, _, h => h
  | d :: ds, vs, p, h => by
    obtain ⟨v, r, rfl, h1, h2⟩ := h
    have p := Bool.and_eq_true_iff.mp p
    exact ⟨v, r, rfl, rep_conv d v p.1 h1, repL_conv ds r p.2 h2⟩
end
theorem excR_conv {H : Hp} {x : Exn} {cls : Value} {dd : Option Addr} (p : D.nofL x.ds = true) (h : ExcR S H x cls dd) : ExcR S' H x cls dd := by
  obtain ⟨h1, h2⟩ := h
  refine ⟨by rw [ha]; exact h1, h2.imp id fun ⟨b, fs, e1, e2, e3, e4⟩ => ⟨b, fs, e1, e2, by rw [hf]; exact e3, repL_conv hK ha hf _ _ p e4⟩⟩
end
/-! ### what a def that was handed over promises -/
def WantD (S : Sc) (E : XK) (H : Hp) (Q : VK) : FO → Prop
  | .ok _ => ∀ v H', Ext Nil H H' → Q v H'
  | .exc x => ∀ cls dd H', Ext Nil H H' → ExcR S H' x cls dd → E cls dd H'
  | .bad => False
/-- its answer is not looked at -/
def spD (S : Sc) (n : Nat) (m : DM) : Sp := fun vs H Q E => ∃ (G : Addr → Prop) (ds : List D), vs.length = n ∧ (∀ a, G a → H a ≠ none) ∧ RepL S G H ds vs ∧ WantD S E H Q (m ds) ∧ LamX.Tabs Tbl.T H ∧ Ext Nil S.Hb H
def spL (dr : Bool) (S : Sc) (n : Nat) (m : DM) : Sp := match dr with
  | true => spD S n m
  | false => spM S false n m
theorem spL_len {dr : Bool} {S : Sc} {n : Nat} {m : DM} {vs : List V} {H : Hp} {Q : VK} {E : XK} (h : spL dr S n m vs H Q E) : vs.length = n ∧ Ext Nil S.Hb H := by
  cases dr with
  | true => obtain ⟨_, _, h1, _, _, _, _, h2⟩ := h; exact ⟨h1, h2⟩
  | false => obtain ⟨_, _, h1, _, _, _, _, h2⟩ := h; exact ⟨h1, h2⟩
/-- a def that is no thing of the written part -/
structure FnV (P : Program) (w : World) (K : PySem.W.Frag) (mg : Str → Option Value) (base : Heap) (k : Nat) (f : Addr) (ps : List Str) (sp : Sp) : Prop where
  ex : ∃ (oc : Value) (od : Option Addr) (fd : FuncData) (sl : Array (Option Value)), base.get? f = some ⟨oc, od, .func fd, sl⟩ ∧ FnOk P w K mg base (L2.CX P w) k f fd ps sp ∧ ∀ (s : Shared) (us : List Value), us.length = ps.length → BindsTo s fd ⟨us, []⟩ (ps.zip us)
/-- the slot i holds such a def, called without arguments -/
def tCallV0 (i : Nat) (f : Addr) (sp : Sp) (E : L2.St → XK) : TE := fun σ H Q => σ[i]? = some (some (.ref f)) ∧ sp [] H Q (E σ)
section
variable {X : Cx} {k i : Nat} {f : Addr} {ps : List Str} {sp : Sp} {E : XK} {x : Str} {p pos : Pos} {e : Expr} {es : List Expr} {t : TA}
theorem run_fnV {CX : CXT} {fd : FuncData} {pins : List (Addr × Obj)} {σ : L2.St} {H : Hp} {s : Shared} {Q : VK} {us : List Value} {vs : List V} {st : Heap} (F : FnOk X.prog X.w X.K X.mg st CX k f fd ps sp) (e0 : Env0 X.prog X.w X.K X.mg st X.A X.stack s H) (hr : Room k X.A)
    (hb : us.length = ps.length → BindsTo s fd ⟨us, []⟩ (ps.zip us)) (hx : L2.PassesAt CX X σ E) (I : Inv X pins σ H s) (r : Vals vs us) (h : sp vs H Q E) : wpAny (model X.prog X.w) X.A (call (.ref f) us) (EP X pins σ Q) X.xe s := by
  have hl : us.length = ps.length := by rw [← r.length]; exact F.len _ _ _ _ h
  refine wpAny_call (codeAny_mono (F.run X.A X.stack s H ⟨us, []⟩ us vs Q E hr e0 (hb hl) r h) fun r s' hq => ?_)
  match r, hq with
  | .error e, hq => exact hx pins H s e s' I hq
  | .ok (.ret u), hq => exact I.after hq
  | .ok .next, hq => exact hq.elim
  | .ok .brk, hq => exact hq.elim
  | .ok .cont, hq => exact hq.elim
theorem pe_callV (F : FnV X.prog X.w X.K X.mg X.base k f ps sp) (hr : Room k X.A) (hN : X.N[i]? = some x) (hv : Vis X.env.scope x) (hx : ∀ σ, L2.PassesAt (L2.CX X.prog X.w) X σ E) (ha : PA X (e :: es) t)
    (hdb : (x == ("__debug__" : Str)) = false := by decide) (hcd : (x == ("__classdict__" : Str)) = false := by decide)
    (he : starEach (e :: es) X.env = (false, eval e X.env) :: starEach es X.env := by rfl) (hpl : (backTo pos (starEach es X.env)).any (·.1) = false := by rfl) : PE X (.Call (.Name x p) (e :: es) [] pos) (tCallL i f sp [] E t) := by
  refine ⟨fun pins s σ H Q I h => ?_⟩
  obtain ⟨hs, ht⟩ := h
  obtain ⟨oc, od, fd, sl, ho, Ff, hb⟩ := F.ex
  refine wpAny_Call_Name_kw (thn ((pe_var (pos := p) hN hv hdb hcd).run pins s σ H (fun v H1 => v = .ref f ∧ H1 = H) I ⟨.ref f, hs, rfl, rfl⟩) fun u s1 ⟨v, H1, I1, r1, q1⟩ => ?_)
  obtain ⟨rfl, rfl⟩ := q1
  cases r1
  refine PySem.W.callWith_F ⟨_, _, _, _, (I1.bs f _ ho).1⟩ (thn (ha.run pos pins s1 σ _ _ I1 ht) fun us s2 ⟨vs, H2, I2, r, q⟩ => ⟨⟨_, _, _, _, (I2.bs f _ ho).1⟩, ?_⟩) he hpl
  have q : sp (vs ++ []) H2 Q E := q
  rw [List.append_nil] at q
  exact run_fnV Ff I2.env0 hr (hb s2 us) (hx σ) I2 r q
theorem pe_callV0 {E : L2.St → XK} (F : FnV X.prog X.w X.K X.mg X.base k f ps sp) (hr : Room k X.A) (hN : X.N[i]? = some x) (hv : Vis X.env.scope x) (hx : ∀ σ, L2.PassesAt (L2.CX X.prog X.w) X σ (E σ))
    (hdb : (x == ("__debug__" : Str)) = false := by decide) (hcd : (x == ("__classdict__" : Str)) = false := by decide) : PE X (.Call (.Name x p) [] [] pos) (tCallV0 i f sp E) := by
  refine ⟨fun pins s σ H Q I h => ?_⟩
  obtain ⟨hs, hq⟩ := h
  obtain ⟨oc, od, fd, sl, ho, Ff, hb⟩ := F.ex
  refine wpAny_Call_Name_kw (thn ((pe_var (pos := p) hN hv hdb hcd).run pins s σ H (fun v H1 => v = .ref f ∧ H1 = H) I ⟨.ref f, hs, rfl, rfl⟩) fun u s1 ⟨v, H1, I1, r1, q1⟩ => ?_)
  obtain ⟨rfl, rfl⟩ := q1
  cases r1
  exact PySem.W.callWith_F0 ⟨_, _, _, _, (I1.bs f _ ho).1⟩ (run_fnV (us := []) Ff I1.env0 hr (hb s1 []) (hx σ) I1 .nil hq)
end
/-! ### a lambda handed over -/
abbrev Sx (S : Sc) (H1 : Hp) (f : Addr) : Sc := { S with Hb := H1, lf := fun _ => f }
/-- what is asked at the call, the lambda made -/
def CloQ (dr : Bool) (S : Sc) (n j : Nat) (dg : DM → DM) (t : XK → TE) (E : XK) (σ : L2.St) (vs : List V) (H0 : Hp) (Q : VK) : Prop :=
  LamX.Tabs Tbl.T H0 ∧ ∀ (H1 : Hp) (f : Addr), Ext Nil H0 H1 → ∃ m : DM, (∀ us HZ QZ EZ, spL dr (Sx S H1 f) n m us HZ QZ EZ → t EZ (σ ++ us.map some) HZ QZ) ∧ spM (Sx S H1 f) false j (dg m) (vs ++ [.ref f]) H1 Q E
def tClo1 (dr : Bool) (S : Sc) (n : Nat) (dg : DM → DM) (t : XK → TE) (E : XK) (ta : TE) : TE := fun σ H Q => ta σ H fun v H0 => CloQ dr S n 2 dg t E σ [v] H0 Q
def tClo0 (dr : Bool) (S : Sc) (n : Nat) (dg : DM → DM) (t : XK → TE) (E : XK) : TE := fun σ H Q => CloQ dr S n 1 dg t E σ [] H Q
/-- what a def promises that is handed a def -/
def CloG (P : Program) (w : World) (K : PySem.W.Frag) (mg : Str → Option Value) (dr : Bool) (S : Sc) (kl kg : Nat) (ps gs : List Str) (g : Addr) (fdg : FuncData) (dg : DM → DM) : Prop :=
  ∀ (base' : Heap) (H1 : Hp) (f : Addr) (m : DM), FnV P w K mg base' (kl + 1) f ps (spL dr (Sx S H1 f) ps.length m) → FnOk P w K mg base' CX0 kg g fdg gs (spM (Sx S H1 f) false gs.length (dg m))
section
variable {X : Cx} {dr : Bool} {S : Sc} {kl kg : Nat} {ps gs : List Str} {x : Str} {g c P : Addr} {fdg : FuncData} {dg : DM → DM} {params : Arguments} {body : Expr} {scope : Scope} {tb : XK → TE} {E : XK} {p lpos pos : Pos} {e : Expr} {ta : TE}
/-- behind the making of the lambda -/
theorem clo_call {pins : List (Addr × Obj)} {σ : L2.St} {H H0 : Hp} {s : Shared} {Q : VK} {us : List Value} {vs : List V} {f c' : Addr} {pm ctv : Value} (hG : CloG X.prog X.w X.K X.mg dr S kl kg ps gs g fdg dg) (hb : Binds X.K fdg gs []) (hfn : ∀ x, X.fn x = true) (L : LamP X.env.scope scope X.N ps) (hr : Room kg X.A)
    (hbind : ∀ (q : Str) (cl : List (Str × Addr)) (pm cv ctv : Value) (us : List Value), us.length = ps.length → bindArgs (PySem.W.kla_fn "<lambda>" q params body scope cl pm cv ctv) ⟨us, []⟩ = pure (ps.zip us))
    (hbody : ∀ (A : Around) (outer : List PySem.Env) (s' : Shared) (H' : Hp) (E : XK) (f c' : Addr), Room kl (A.deeper (lamE X scope s'.heap.objs.size f c')) → PE (lamX X ps A outer s' H' E scope f c') body (tb E))
    (I : Inv X pins σ H s) (ex : Ext Nil H0 H) (hf : s.heap.get? f = some (lamO X params body scope pm c' ctv)) (n0 : H f = none) (nf : f ∉ frs X.stack) (hc : H c' = some (LamX.CodeO c' (X.env.qual ++ "<lambda>"))) (r : Vals vs us) (hl : vs.length + 1 = gs.length)
    (h : CloQ dr S ps.length gs.length dg tb E σ vs H0 Q) : wpAny (model X.prog X.w) X.A (call (.ref g) (us ++ [.ref f])) (EP X pins σ Q) X.xe s := by
  obtain ⟨_, h⟩ := h
  obtain ⟨m, hm, hq⟩ := h H f ex
  have F1 := lam_fnok (ctv := ctv) I hfn L hf n0 nf (fun A outer s' H' E hr => hbody A outer s' H' E f c' hr)
  have F2 : FnV X.prog X.w X.K X.mg (wide s.heap H X.stack) (kl + 1) f ps (spL dr (Sx S H f) ps.length m) := ⟨_, _, _, _, wide_get hf n0 nf, F1.imp fun us' HZ QZ EZ z => by
    obtain ⟨z1, z2⟩ := spL_len z
    exact ⟨z1, z2.nil _ _ hc, hm us' HZ QZ EZ z⟩, fun s us' hl => BindsTo.of_eq (hbind _ _ _ _ _ us' hl)⟩
  exact run_fnV (E := E) (hG _ H f m F2) (env0_wide I) hr (fun hl => by
    have q := hb s (us ++ [.ref f]) I.kIn (by rw [List.append_nil]; exact hl)
    rw [List.append_nil] at q
    exact q) (fun pins H s e s' I' c => (show False from c).elim) I (r.append (show Vals [V.ref f] [Value.ref f] from .cons rfl .nil)) hq
theorem pe_clo1 (hG : CloG X.prog X.w X.K X.mg dr S kl kg ps gs g fdg dg) (hg2 : gs.length = 2) (hg : Gl X x) (hm : X.mg x = some (.ref g)) (hk : PySem.W.keepIn X.K (.ref g) = true) (hb : Binds X.K fdg gs []) (hfn : ∀ x, X.fn x = true) (L : LamP X.env.scope scope X.N ps) (hr : Room kg X.A)
    (TB : LamX.TabB X.base X.mg c P) (hcode : X.env.code = .ref c) (hmT : (P, X.env.qual ++ "<lambda>") ∈ Tbl.T) (hu : ∀ p ∈ Tbl.T, p.1 = P → p.2 = X.env.qual ++ "<lambda>") (hdef : defaultsOf params X.env = ([], []))
    (hbind : ∀ (q : Str) (cl : List (Str × Addr)) (pm cv ctv : Value) (us : List Value), us.length = ps.length → bindArgs (PySem.W.kla_fn "<lambda>" q params body scope cl pm cv ctv) ⟨us, []⟩ = pure (ps.zip us))
    (hbody : ∀ (A : Around) (outer : List PySem.Env) (s' : Shared) (H' : Hp) (E : XK) (f c' : Addr), Room kl (A.deeper (lamE X scope s'.heap.objs.size f c')) → PE (lamX X ps A outer s' H' E scope f c') body (tb E))
    (ha : PE X e ta) (hdb : (x == ("__debug__" : Str)) = false := by decide) (he : starEach [e, .Lambda params body scope lpos] X.env = (false, eval e X.env) :: starEach [.Lambda params body scope lpos] X.env := by rfl) :
    PE X (.Call (.Name x p) [e, .Lambda params body scope lpos] [] pos) (tClo1 dr S ps.length dg tb E ta) := by
  refine ⟨fun pins s σ H Q I h => ?_⟩
  refine wpAny_Call_Name_kw (ld_glob I hg hm ?_ hdb)
  refine PySem.W.callWith_K (h₀ := X.base) I.ok.mod.kin hk ?_ he (by rfl)
  rw [he]
  show wpAny _ _ (spliced ((false, eval e X.env) :: (false, eval (.Lambda params body scope lpos) X.env) :: backTo pos (starEach [] X.env))) _ _ s
  refine Calls.spliced_cons (thn (ha.run pins s σ H _ I h) fun u s1 ⟨v, H0, I0, r0, q0⟩ => ?_)
  refine Calls.spliced_cons (lam_new I0 TB hcode hmT hu q0.1 hdef (L.has I0.ok) fun f c' pm ctv H1 s2 I1 ex hf n0 nf hc => ?_)
  refine Calls.spliced_nil ⟨I1.kIn, ?_⟩
  exact clo_call hG hb hfn L hr hbind hbody I1 ex hf n0 nf hc (.cons r0 .nil) hg2.symm (by rw [hg2]; exact q0)
theorem pe_clo0 (hG : CloG X.prog X.w X.K X.mg dr S kl kg ps gs g fdg dg) (hg1 : gs.length = 1) (hg : Gl X x) (hm : X.mg x = some (.ref g)) (hk : PySem.W.keepIn X.K (.ref g) = true) (hb : Binds X.K fdg gs []) (hfn : ∀ x, X.fn x = true) (L : LamP X.env.scope scope X.N ps) (hr : Room kg X.A)
    (TB : LamX.TabB X.base X.mg c P) (hcode : X.env.code = .ref c) (hmT : (P, X.env.qual ++ "<lambda>") ∈ Tbl.T) (hu : ∀ p ∈ Tbl.T, p.1 = P → p.2 = X.env.qual ++ "<lambda>") (hdef : defaultsOf params X.env = ([], []))
    (hbind : ∀ (q : Str) (cl : List (Str × Addr)) (pm cv ctv : Value) (us : List Value), us.length = ps.length → bindArgs (PySem.W.kla_fn "<lambda>" q params body scope cl pm cv ctv) ⟨us, []⟩ = pure (ps.zip us))
    (hbody : ∀ (A : Around) (outer : List PySem.Env) (s' : Shared) (H' : Hp) (E : XK) (f c' : Addr), Room kl (A.deeper (lamE X scope s'.heap.objs.size f c')) → PE (lamX X ps A outer s' H' E scope f c') body (tb E))
    (hdb : (x == ("__debug__" : Str)) = false := by decide) :
    PE X (.Call (.Name x p) [.Lambda params body scope lpos] [] pos) (tClo0 dr S ps.length dg tb E) := by
  refine ⟨fun pins s σ H Q I h => ?_⟩
  refine wpAny_Call_Name_kw (ld_glob I hg hm ?_ hdb)
  refine PySem.W.callWith_K (h₀ := X.base) I.ok.mod.kin hk ?_ (by rfl) (by rfl)
  show wpAny _ _ (spliced ((false, eval (.Lambda params body scope lpos) X.env) :: backTo pos (starEach [] X.env))) _ _ s
  have h : CloQ dr S ps.length 1 dg tb E σ [] H Q := h
  refine Calls.spliced_cons (lam_new I TB hcode hmT hu h.1 hdef (L.has I.ok) fun f c' pm ctv H1 s2 I1 ex hf n0 nf hc => ?_)
  refine Calls.spliced_nil ⟨I1.kIn, ?_⟩
  exact clo_call (vs := []) (us := []) hG hb hfn L hr hbind hbody I1 ex hf n0 nf hc .nil hg1.symm (by rw [hg1]; exact h)
end
end Mir
/-! MirLd -/
/-! MirLd: mirrors of calls of what was handed over, and of calls that hand a lambda over. -/
namespace Mir
open PySem PySem.Spec PyProof.Rows L2
variable [Tbl]
def fnTag (k : Nat) : D := .dic [.int 0, .int (k : Int)] []
/-- x(e, ..), x a slot that holds a def -/
def eCallV (i n : Nat) (m : DM) (a : AM) : EM := fun env => match env[i]? with
  | some (some (.dic [.int 0, .int _] [])) => (a env).bind fun ds e => (if ds.length = n then m ds else .bad).out e
  | _ => .bad
/-- what the lambda answers, told at the slots of its maker -/
def cloR (dr : Bool) (n : Nat) (mb : EM) (e : Env) : DM := fun us => if D.pureL us = true ∧ us.length = n then (match mb (e ++ us.map some) with
  | .ok d _ => if dr = true then .ok .non else if d.pure = true then .ok d else .bad
  | .exc x _ => if D.nofL x.ds = true then .exc x else .bad
  | .bad => .bad) else .bad
def eClo1 (dr : Bool) (N n : Nat) (dg : DM → DM) (ma mb : EM) : EM := fun env => (ma env).bind fun x e => if x.nof = true ∧ e.length = N then (match dg (cloR dr n mb e) [x, fnTag 0] with
  | .ok d => if d.nof = true then .ok d e else .bad
  | _ => .bad) else .bad
def eClo0 (dr : Bool) (N n : Nat) (dg : DM → DM) (mb : EM) : EM := fun env => if env.length = N then (match dg (cloR dr n mb env) [fnTag 0] with
  | .ok d => if d.nof = true then .ok d env else .bad
  | _ => .bad) else .bad
section
variable {S : Sc} {O P : List Nat} {E : XK} {μ : Mo} {fa : Bool} {ta : TE} {ma mb : EM} {tA : TA} {mA : AM}
theorem ref_callV {i n : Nat} {f : Addr} {m : DM} (hO : i ∉ O) (hl : ∀ k, S.lf k = f) (ha : RefA S O P E μ tA mA) : RefE S O P E μ false (tCallL i f (spM S false n m) [] E tA) (eCallV i n m mA) := by
  intro R σ H fp env I Q h
  unfold eCallV at h
  split at h
  · rename_i j e
    obtain ⟨v, h1, h2⟩ := I.val i _ e hO
    have hv : v = .ref f := by
      rcases h2 with ⟨c, z, _⟩ | ⟨k, _, rfl⟩
      · cases z
      · rw [hl]
    refine ⟨by rw [h1, hv], ?_⟩
    refine ha R σ H fp env I _ ((Want.bind h).mono fun ds e1 H1 f1 I1 s1 h1 vs hv => ?_)
    rw [List.append_nil]
    by_cases c : ds.length = n
    · rw [if_pos c] at h1
      exact ⟨FM R f1 μ, ds, by rw [hv.length, c], fun a q => I1.fm q, hv, want_fo h1 I1 fun a q => s1.dom q, I1.tb, I1.hbH⟩
    · rw [if_neg c] at h1
      exact h1.elim
  · exact h.elim
theorem Rel.args {R : Rx} {σ : L2.St} {H : Hp} {fp : Fp} {env : Env} {ds : List D} {us : List V} (I : Rel S O P R σ H fp env) (hO : ∀ i ∈ O, i < env.length) (r : RepL S (Fs R fp) H ds us) : Rel S O P R (σ ++ us.map some) H fp (env ++ ds.map some) := by
  have hlen : env.length = σ.length := I.len
  refine ⟨by rw [List.length_append, List.length_append, List.length_map, List.length_map, r.length, hlen], fun i d h1 h2 => ?_, fun i d h1 h2 => ?_, fun i h => ?_, I.dist, I.nd, I.src, I.ext, I.gl, I.live, I.dom, I.mh, I.tb, I.hb⟩
  · rcases Nat.lt_or_ge i env.length with lt | ge
    · rw [List.getElem?_append_left lt] at h1
      rw [List.getElem?_append_left (by rw [← hlen]; exact lt)]
      exact I.val i d h1 h2
    · rw [List.getElem?_append_right ge] at h1
      rw [List.getElem?_append_right (by rw [← hlen]; exact ge), ← hlen]
      generalize i - env.length = j at h1
      rw [List.getElem?_map] at h1
      cases q : ds[j]? with
      | none => rw [q] at h1; cases h1
      | some d' =>
        rw [q] at h1
        cases h1
        obtain ⟨v, e1, e2⟩ := r.get q
        exact ⟨v, by rw [List.getElem?_map, e1]; rfl, e2⟩
  · have lt := hO i h2
    rw [List.getElem?_append_left lt] at h1
    rw [List.getElem?_append_left (by rw [← hlen]; exact lt)]
    exact I.own i d h1 h2
  · refine I.non i (h.elim .inl fun z => ?_)
    by_cases hi : i ∈ O
    · exact .inr fun d q => z d (by rw [List.getElem?_append_left (hO i hi)]; exact q)
    · exact .inl hi
/-- the lambda's promise from its body's mirror -/
theorem clo_spL {dr : Bool} {n : Nat} {t : XK → TE} {U : List Nat} {R : Rx} {σ : L2.St} {H H2 HZ : Hp} {fp : Fp} {env : Env} {f : Addr} {us : List V} {QZ : VK} {EZ : XK} (hb : ∀ EZ, RefE S O P EZ (some U) false (t EZ) mb) (hO : ∀ i ∈ O, i < env.length) (I : Rel S O P R σ H fp env) (ex : Ext Nil H H2)
    (sp : spL dr (Sx S H2 f) n (cloR dr n mb env) us HZ QZ EZ) : t EZ (σ ++ us.map some) HZ QZ := by
  have key : ∀ (ds : List D), RepL (Sx S H2 f) Nil HZ ds us ∨ (∃ G, RepL (Sx S H2 f) G HZ ds us) → Ext Nil H2 HZ → (match cloR dr n mb env ds with
      | .ok d => ∀ v H', Ext Nil HZ H' → (dr = false → d.pure = true → Rep S Nil H' d v) → QZ v H'
      | .exc x => ∀ cls dd H', Ext Nil HZ H' → ExcR (Sx S H2 f) H' x cls dd → EZ cls dd H'
      | .bad => False) → t EZ (σ ++ us.map some) HZ QZ := by
    intro ds hR hx hw
    unfold cloR at hw
    split at hw
    case h_3 e => exact hw.elim
    all_goals
      rename_i d e
      split at e
      case isFalse => cases e
      rename_i hp
      obtain ⟨hp, hln⟩ := hp
      have r : RepL S (Fs R fp) HZ ds us := by
        rcases hR with hR | ⟨G, hR⟩ <;> exact repL_pure _ _ hp (repL_conv (S := Sx S H2 f) (S' := S) rfl rfl rfl ds us (pure_nofL ds hp) hR)
      refine hb EZ R _ HZ fp _ (((I.grow ex).grow hx).args hO r) QZ ?_
      cases q : mb (env ++ ds.map some) with
      | bad => rw [q] at e; cases e
      | exc x e' =>
        rw [q] at e
        dsimp only at e
        split at e
        · rename_i hn
          cases e
          try exact fun cls dd H' fp' I' s' r => hw cls dd H' s'.1 (excR_conv (S := S) (S' := Sx S H2 f) rfl rfl rfl hn r)
        · cases e
      | ok y e' =>
        rw [q] at e
        dsimp only at e
        split at e
        · rename_i hd
          cases e
          try exact fun H' fp' I' s' v hv _ => hw v H' s'.1 fun z => by rw [hd] at z; cases z
        · split at e
          · rename_i hpy
            cases e
            try exact fun H' fp' I' s' v hv _ => hw v H' s'.1 fun _ _ => rep_pure _ _ hpy hv.rep
          · cases e
  cases dr with
  | true =>
    obtain ⟨G, ds, hl, hG, hR, hw, ht, hx⟩ := sp
    refine key ds (.inr ⟨G, hR⟩) hx ?_
    cases q : cloR true n mb env ds with
    | bad => rw [q] at hw; exact hw
    | exc x => rw [q] at hw; exact hw
    | ok d => rw [q] at hw; exact fun v H' x _ => hw v H' x
  | false =>
    obtain ⟨G, ds, hl, hG, hR, hw, ht, hx⟩ := sp
    refine key ds (.inr ⟨G, hR⟩) hx ?_
    cases q : cloR false n mb env ds with
    | bad => rw [q] at hw; exact hw
    | exc x => rw [q] at hw; exact hw
    | ok d =>
      rw [q] at hw
      have hp : d.pure = true := by
        unfold cloR at q
        split at q
        · split at q
          · split at q
            · rename_i z; cases z
            · split at q
              · cases q; assumption
              · cases q
          · split at q <;> cases q
          · cases q
        · cases q
      exact fun v H' x r => hw v H' x (rep_pure _ _ hp (rep_conv (S := S) (S' := Sx S H2 f) rfl rfl rfl _ _ (pure_nof _ hp) (r rfl hp)))
theorem ref_clo1 {dr : Bool} {N n : Nat} {dg : DM → DM} {t : XK → TE} {U : List Nat} (hO : ∀ i ∈ O, i < N) (ha : RefE S O P E none fa ta ma) (hb : ∀ EZ, RefE S O P EZ (some U) false (t EZ) mb) : RefE S O P E none false (tClo1 dr S n dg t E ta) (eClo1 dr N n dg ma mb) := by
  intro R σ H fp env I Q h
  refine ha R σ H fp env I _ ((Want.bind h).mono fun x e1 H1 f1 I1 s1 h1 v hv _ => ?_)
  by_cases c : x.nof = true ∧ e1.length = N
  · rw [if_pos c] at h1
    refine ⟨I1.tb, fun H2 f ex => ⟨cloR dr n mb e1, fun us HZ QZ EZ sp => clo_spL hb (fun i hi => by rw [c.2]; exact hO i hi) I1 ex sp, FM R f1 none, [x, fnTag 0], rfl, fun a q => (I1.grow ex).fm q, ?_, ?_, tb_ext ex I1.tb, Ext.refl _ _⟩⟩
    · exact .cons (rep_conv (S := S) (S' := Sx S H2 f) rfl rfl rfl _ _ c.1 (hv.rep.grow ex)) (.cons (.inr ⟨0, rfl, rfl⟩) .nil)
    · cases q : dg (cloR dr n mb e1) [x, fnTag 0] with
      | bad => rw [q] at h1; exact h1
      | exc y => rw [q] at h1; exact h1.elim
      | ok d =>
        rw [q] at h1
        dsimp only at h1
        by_cases z : d.nof = true
        · rw [if_pos z] at h1
          exact fun w H' x r => h1 H' f1 (I1.grow (ex.trans x)) (Stp.grow (ex.trans x)) w (rep_conv (S := Sx S H2 f) (S' := S) rfl rfl rfl _ _ z r) sep0
        · rw [if_neg z] at h1
          exact h1.elim
  · rw [if_neg c] at h1
    exact h1.elim
theorem ref_clo0 {dr : Bool} {N n : Nat} {dg : DM → DM} {t : XK → TE} {U : List Nat} (hO : ∀ i ∈ O, i < N) (hb : ∀ EZ, RefE S O P EZ (some U) false (t EZ) mb) : RefE S O P E none false (tClo0 dr S n dg t E) (eClo0 dr N n dg mb) := by
  intro R σ H fp env I Q h
  unfold eClo0 at h
  by_cases c : env.length = N
  · rw [if_pos c] at h
    refine ⟨I.tb, fun H2 f ex => ⟨cloR dr n mb env, fun us HZ QZ EZ sp => clo_spL hb (fun i hi => by rw [c]; exact hO i hi) I ex sp, FM R fp none, [fnTag 0], rfl, fun a q => (I.grow ex).fm q, ?_, ?_, tb_ext ex I.tb, Ext.refl _ _⟩⟩
    · exact .cons (.inr ⟨0, rfl, rfl⟩) .nil
    · cases q : dg (cloR dr n mb env) [fnTag 0] with
      | bad => rw [q] at h; exact h
      | exc y => rw [q] at h; exact h.elim
      | ok d =>
        rw [q] at h
        dsimp only at h
        by_cases z : d.nof = true
        · rw [if_pos z] at h
          exact fun w H' x r => h H' fp (I.grow (ex.trans x)) (Stp.grow (ex.trans x)) w (rep_conv (S := Sx S H2 f) (S' := S) rfl rfl rfl _ _ z r) sep0
        · rw [if_neg z] at h
          exact h.elim
  · rw [if_neg c] at h
    exact h.elim
end
end Mir
/-! MirLe -/
/-! MirLe: xs[::-1]; a list, a tuple, a text times a small number; a name that held an own list gets a plain value for good. -/
namespace Mir
open PySem PySem.Spec PyProof.Rows L2
section
variable {S : Sc} [Tbl]
def oRev : D → Option D
  | .lst ds => some (.lst ds.reverse)
  | _ => none
theorem RepL.rev {F : Addr → Prop} {H : Hp} : ∀ {ds : List D} {vs : List V}, RepL S F H ds vs → RepL S F H ds.reverse vs.reverse
  | [], _, h => by cases (show _ = _ from h); exact .nil
  | d :: ds, _, h => by
    obtain ⟨v, vs, rfl, a, b⟩ := h
    rw [List.reverse_cons, List.reverse_cons]
    exact (RepL.rev b).snoc a
def rRev (K : PySem.W.Frag) : V → Hp → VK → Prop := fun x H1 Q => ∃ a xs, x = .ref a ∧ SqL K H1 a xs ∧ ∀ p, H1 p = none → Q (.ref p) (upd H1 p (.lst xs.reverse))
theorem o1_rev : Op1 S true (rRev S.K) oRev := fun F H x v z Q hF hx hz k => by
  cases x with
  | lst ds =>
    cases hz
    obtain ⟨a, vs, rfl, n, h1, h2⟩ := hx
    refine ⟨a, vs, rfl, .inl (.inl h1), fun p hp => k _ _ (Ext.new hp) ⟨p, _, _, rfl, hp, rfl, upd_same, fun z => hF p z hp, ?_⟩⟩
    exact ((RepL.rev h2).less fun x z => z.imp id fun e => by rw [e]; exact hp).grow (Ext.new hp)
  | _ => cases hz
theorem ref_rev {O P : List Nat} {E : XK} {μ : Mo} {fa : Bool} {ta : TE} {ma : EM} (ha : RefE S O P E μ fa ta ma) : RefE S O P E μ true (tRevL S.K ta) (e1 oRev ma) := ref_op1 (r := rRev S.K) o1_rev ha
/-! times -/
def rMulS : R2 := fun x y H Q => ∃ z n, x = .str z ∧ y = .int n ∧ MulOk z n ∧ Q (.str (Txt.mul z n)) H
theorem op_mulS {X : Cx} : OpR X (binaryOp .Mult) rMulS := by
  intro pins s σ H x y v u Q I rx ry h
  obtain ⟨i, j, rfl, rfl, hz, q⟩ := h
  obtain ⟨t, rfl⟩ := rx
  obtain ⟨t', rfl⟩ := ry
  exact PySem.SB.mul hz fun t' tk => ⟨.str (Txt.mul i j), H, I.tok _, ⟨_, rfl⟩, q⟩
def rMulY (K : PySem.W.Frag) : R2 := fun x y H Q => rI CMul (fun i j => .int (i * j)) x y H Q ∨ (rMulS x y H Q ∨ (rRep x y H Q ∨ rRepT K x y H Q))
theorem op_mulY {X : Cx} : OpR X (binaryOp .Mult) (rMulY X.K) := opr_or op_mul (opr_or op_mulS (opr_or op_rep op_repT))
def oMulX : D → D → Option D
  | .lst ds, .int n => if 0 ≤ n ∧ n ≤ 1000 ∧ ds.length ≤ 1000 then some (.lst (List.replicate n.toNat ds).flatten) else none
  | .tup ds, .int n => if ds ≠ [] ∧ 2 ≤ n ∧ n ≤ 1000 ∧ ds.length ≤ 1000 then some (.tup (List.replicate n.toNat ds).flatten) else none
  | .str z, .int n => if 0 ≤ n ∧ n ≤ 1000 ∧ z.length ≤ 1000 then some (.str (Txt.mul z n)) else none
  | x, y => oMul x y
theorem RepL.rep {F : Addr → Prop} {H : Hp} {ds : List D} {vs : List V} (h : RepL S F H ds vs) : ∀ n, RepL S F H (List.replicate n ds).flatten (List.replicate n vs).flatten
  | 0 => .nil
  | n + 1 => by
    rw [List.replicate_succ, List.replicate_succ, List.flatten_cons, List.flatten_cons]
    exact h.append (RepL.rep h n)
theorem mulOk {z : Str} {n : Int} (h0 : 0 ≤ n) (h1 : n ≤ 1000) (hz : z.length ≤ 1000) : MulOk z n := by
  refine ⟨?_, fun a _ => ?_, fun a _ => ?_⟩
  · rw [decide_eq_false (by omega), decide_eq_false (by omega)]; rfl
  · have : (1000 : Int) ≤ (2 ^ 63 - 1) / n := by
      rw [Int.le_ediv_iff_mul_le (by omega)]
      have : 1000 * n ≤ 1000 * 1000 := Int.mul_le_mul_of_nonneg_left h1 (by omega)
      omega
    omega
  · have : z.length * n.toNat ≤ 1000 * 1000 := Nat.mul_le_mul hz (by omega)
    unfold PySem.Builtin.Str.tooLong
    rw [sizeLine_eq]
    exact decide_eq_false (by omega)
theorem o2_mulX : Op2 S false (rMulY S.K) oMulX := fun F H x y v u z Q hF hx hy hz k => by
  unfold oMulX at hz
  split at hz
  · rename_i ds n
    split at hz
    · rename_i c
      cases hz
      obtain ⟨a, vs, rfl, n1, h1, h2⟩ := hx
      cases (show u = _ from hy)
      have hl : vs.length * n.toNat ≤ 1000 * 1000 := Nat.mul_le_mul (by rw [h2.length]; exact c.2.2) (by omega)
      refine .inr (.inr (.inl ⟨a, n, vs, rfl, rfl, h1, by omega, by omega, Nat.le_trans hl (by decide), fun p hp => k _ _ (Ext.new hp) ?_⟩))
      exact ⟨p, _, rfl, fun z => hF p z hp, upd_same, (h2.rep _).grow (Ext.new hp)⟩
    · cases hz
  · rename_i ds n
    split at hz
    · rename_i c
      cases hz
      obtain ⟨a, vs, rfl, h1, h2⟩ := hx
      cases (show u = _ from hy)
      refine .inr (.inr (.inr ⟨a, n, vs, rfl, rfl, h1, fun e => c.1 ?_, c.2.1, c.2.2.1, by rw [h2.length]; exact c.2.2.2, fun p hp => k _ _ (Ext.new hp) ?_⟩))
      · have := h2.length
        rw [e] at this
        exact List.eq_nil_of_length_eq_zero this.symm
      · exact ⟨p, _, rfl, .inl (.inl upd_same), (h2.rep _).grow (Ext.new hp)⟩
    · cases hz
  · split at hz
    · rename_i c
      cases hz
      cases (show v = _ from hx)
      cases (show u = _ from hy)
      exact .inr (.inl ⟨_, _, rfl, rfl, mulOk c.1 c.2.1 c.2.2, k _ H (Ext.refl _ _) rfl⟩)
    · cases hz
  · exact .inl (o2_mul F H x y v u z Q hF hx hy hz k)
/-! > of ints and of tuples of ints -/
def gtI (ns ms : List Int) : Bool := Ob.lexAt (fun j => decide (ns.getD j 0 = ms.getD j 0)) (fun j => decide (ms.getD j 0 < ns.getD j 0)) (decide (ns.length > ms.length)) 0 (min ns.length ms.length)
def rGtT (K : PySem.W.Frag) : R2 := fun x y H Q => ∃ (a b : Addr) (ns ms : List Int), x = .ref a ∧ y = .ref b ∧ SqT K H a (ns.map V.int) ∧ SqT K H b (ms.map V.int) ∧ Q (.bl (gtI ns ms)) H
theorem op_gtT {X : Cx} (hu : X.A.units < cLine) : OpR X (compareOp .Gt) (rGtT X.K) := by
  intro pins s σ H x y v u Q I rx ry h
  obtain ⟨a, b, ns, ms, rfl, rfl, ha, hb, q⟩ := h
  cases rx
  cases ry
  obtain ⟨its, r1, p1, _⟩ := I.tuple ha
  obtain ⟨its2, r2, p2, _⟩ := I.tuple hb
  have i1 : IntsAre its ns := Vals.ints r1
  have i2 : IntsAre its2 ms := Vals.ints r2
  have e1 : its.toArray.size = ns.length := by rw [List.size_toArray]; exact i1.length
  have e2 : its2.toArray.size = ms.length := by rw [List.size_toArray]; exact i2.length
  have at1 : ∀ j (h1 : j < its.toArray.size), ∃ t, its.toArray[j] = .int (ns.getD j 0) t := fun j h1 => PyProof.Rows.IntsAre.int_at i1 _ _ (by simp at h1; simp [h1])
  have at2 : ∀ j (h1 : j < its2.toArray.size), ∃ t, its2.toArray[j] = .int (ms.getD j 0) t := fun j h1 => PyProof.Rows.IntsAre.int_at i2 _ _ (by simp at h1; simp [h1])
  have R := Ob.RcOp.tuples_gt (A := X.A) (s := s) (e := fun j => decide (ns.getD j 0 = ms.getD j 0)) (r := fun j => decide (ms.getD j 0 < ns.getD j 0)) p1 p2 hu (fun j h1 h2 => by
    obtain ⟨t, et⟩ := at1 j h1
    obtain ⟨t', et'⟩ := at2 j h2
    rw [et, et']
    have z : (ns.getD j 0 == ms.getD j 0) = decide (ns.getD j 0 = ms.getD j 0) := by
      by_cases q : ns.getD j 0 = ms.getD j 0
      · rw [decide_eq_true q]; exact beq_iff_eq.mpr q
      · rw [decide_eq_false q]; exact beq_eq_false_iff_ne.mpr q
    rw [← z]
    exact SeqAt.EqAt.int_int _ _ _ _) (fun j h1 h2 _ => by
    obtain ⟨t, et⟩ := at1 j h1
    obtain ⟨t', et'⟩ := at2 j h2
    rw [et, et']
    exact Ob.RcOp.gt_int _ _ _ _)
  rw [e1, e2] at R
  have z : wpAny (model X.prog X.w) X.A (compareOp .Gt (.ref a) (.ref b)) (EP X pins σ Q) X.xe s := R X.prog X.w X.xe (EP X pins σ Q) ⟨.bl _, H, I, rfl, q⟩
  exact z
def oGt : D → D → Option D
  | .int i, .int j => some (.bl (decide (j < i)))
  | .tup xs, .tup ys => (intsOf xs).bind fun ns => (intsOf ys).bind fun ms => some (.bl (gtI ns ms))
  | _, _ => none
def rGtX (K : PySem.W.Frag) : R2 := fun x y H Q => rGtI x y H Q ∨ rGtT K x y H Q
theorem op_gtX {X : Cx} (hu : X.A.units < cLine) : OpR X (compareOp .Gt) (rGtX X.K) := opr_or op_gt (op_gtT hu)
theorem o2_gt : Op2 S false (rGtX S.K) oGt := fun F H x y v u z Q hF hx hy hz k => by
  unfold oGt at hz
  split at hz
  · cases hz
    cases (show v = _ from hx)
    cases (show u = _ from hy)
    exact .inl ⟨_, _, rfl, rfl, k _ H (Ext.refl _ _) rfl⟩
  · rename_i xs ys
    obtain ⟨ns, e1, e2⟩ := Option.bind_eq_some_iff.mp hz
    obtain ⟨ms, e3, e4⟩ := Option.bind_eq_some_iff.mp e2
    cases e4
    obtain ⟨a, vs, rfl, h1, h2⟩ := hx
    obtain ⟨b, us, rfl, h3, h4⟩ := hy
    have f1 := intsOf_some e1
    have f2 := intsOf_some e3
    subst f1 f2
    rw [h2.ints] at h1
    rw [h4.ints] at h3
    exact .inr ⟨a, b, ns, ms, rfl, rfl, h1, h3, k _ H (Ext.refl _ _) rfl⟩
  · cases hz
end
/-! a name that held an own list gets a plain value for good -/
def Fl.cut (j : Nat) : Fl → Fl
  | .ret d e => .ret d (e.set j none)
  | .exc x e => .exc x (e.set j none)
  | _ => .bad
def sParCut (i : Nat) (a : EM) (j : Nat) (b : EM) (m : SM) : SM := fun env => (a env).fl fun d e => (b e).fl fun c e1 => (m ((e1.set i (some d)).set j (some c))).cut j
section
variable {S : Sc} {O O' P : List Nat} [Tbl]
theorem Rel.lessO {R : Rx} {σ : L2.St} {H : Hp} {fp : Fp} {env : Env} {j : Nat} (I : Rel S O P R σ H fp env) (hO : ∀ k, k ∈ O' ↔ k ∈ O ∧ k ≠ j) (hj : ∀ d, env[j]? ≠ some (some d)) : Rel S O' P R σ H fp env where
  len := I.len
  val := fun k d h1 h2 => I.val k d h1 fun h => by
    by_cases e : k = j
    · exact hj d (e ▸ h1)
    · exact h2 ((hO k).mpr ⟨h, e⟩)
  own := fun k d h1 h2 => I.own k d h1 ((hO k).mp h2).1
  non := fun k h => by
    by_cases e : k = j
    · exact I.non k (.inr fun d z => hj d (e ▸ z))
    · exact I.non k (h.imp (fun h z => h ((hO k).mpr ⟨z, e⟩)) id)
  dist := I.dist
  nd := I.nd
  src := I.src
  ext := I.ext
  gl := I.gl
  live := I.live
  dom := I.dom
  mh := I.mh
  tb := I.tb
  hb := I.hb
theorem set_none_get {env : Env} {j k : Nat} {d : D} (h : (env.set j none)[k]? = some (some d)) : k ≠ j ∧ env[k]? = some (some d) := by
  by_cases e : j = k
  · subst e
    by_cases hl : j < env.length
    · rw [List.getElem?_set_self hl] at h; cases h
    · rw [List.getElem?_eq_none (by rw [List.length_set]; omega)] at h; cases h
  · rw [List.getElem?_set_ne e] at h
    exact ⟨Ne.symm e, h⟩
theorem Rel.moreO {R : Rx} {σ : L2.St} {H : Hp} {fp : Fp} {env : Env} {j : Nat} (I : Rel S O' P R σ H fp env) (hO : ∀ k, k ∈ O' ↔ k ∈ O ∧ k ≠ j) : Rel S O P R σ H fp (env.set j none) where
  len := by rw [List.length_set]; exact I.len
  val := fun k d h1 h2 => I.val k d (set_none_get h1).2 fun h => h2 ((hO k).mp h).1
  own := fun k d h1 h2 => I.own k d (set_none_get h1).2 ((hO k).mpr ⟨h2, (set_none_get h1).1⟩)
  non := fun k h => by
    by_cases e : k = j
    · exact I.non k (.inl fun z => ((hO k).mp z).2 e)
    · exact I.non k (h.imp (fun h z => h ((hO k).mp z).1) fun h d z => h d (by rw [List.getElem?_set_ne (Ne.symm e)]; exact z))
  dist := I.dist
  nd := I.nd
  src := I.src
  ext := I.ext
  gl := I.gl
  live := I.live
  dom := I.dom
  mh := I.mh
  tb := I.tb
  hb := I.hb
theorem rs_parCut {E : XK} {fr fa fb : Bool} {i j : Nat} {ta tb : TE} {ma mb : EM} {tB : TS} {mB : SM} (hO : ∀ k, k ∈ O' ↔ k ∈ O ∧ k ≠ j) (hi : i ∉ O') (hij : i ≠ j) (ha : RefE S O P E none fa ta ma) (hb : RefE S O P E none fb tb mb) (ht : RefS S O' P E fr tB mB) :
    RefS S O P E fr (tSeq (tPar i j (tCons ta (tCons tb tNil))) tB) (sParCut i ma j mb mB) := by
  intro R σ H fp env I D h
  refine ha R σ H fp env I _ ((want_fl h).mono fun d e1 H1 f1 I1 s1 hp v hv _ => ?_)
  refine hb R σ H1 f1 e1 I1 _ ((want_fl0 hp).mono fun c e2 H2 f2 I2 s2 hq u hu _ => ?_)
  obtain ⟨I3, w3⟩ := I2.drop j
  have sub : ∀ x, Fs R (fpSet f2 j []) x → Fs R f2 x ∨ H2 x = none := fun x z => .inl (z.imp id fun ⟨k, q⟩ => by
    unfold fpSet at q
    split at q
    · cases q
    · exact ⟨k, q⟩)
  have I4 := I3.lessO hO (fun d z => (set_none_get z).1 rfl)
  have I5 := (I4.set hi ((Rep.fwd s2.fwd _ _ hv.rep).less sub)).set (i := j) (fun z => ((hO j).mp z).2 rfl) (hu.rep.less sub)
  have eE : ((e2.set j none).set i (some d)).set j (some c) = (e2.set i (some d)).set j (some c) := by
    rw [List.set_comm _ _ (Ne.symm hij), List.set_set]
  rw [eE] at I5
  have w5 := s2.strong.trans w3
  refine ⟨v, u, rfl, ht R _ H2 _ _ I5 D ?_⟩
  revert hq
  cases mB ((e2.set i (some d)).set j (some c)) with
  | ret z e => exact fun hq σ' v' H' fp' I' w' r' => hq σ' v' H' fp' (I'.moreO hO) (w5.trans w') r'
  | exc x e => exact fun hq cls dd σ' H' fp' I' w' r' => hq cls dd σ' H' fp' (I'.moreO hO) (w5.trans w') r'
  | _ => exact fun hq => False.elim hq
end
end Mir
/-! MirLf -/
/-! MirLf: sorted of a tuple of pairs; comprehensions with two fors, told as lists. -/
namespace MirSrt
open PySem PyProof.Rows SrtO Srt
section
variable {prog : Program} {w : World} {A : Around} {E : Value → Shared → Prop} {s : Shared}
theorem collectT {t : Addr} {vs : List Value} {Q : List Value → Shared → Prop} (ht : s.heap.IsTuple t vs.toArray) (hz : vs.length ≤ sizeLine)
    (h : Q vs { s with heap := (s.heap.push (seqObj "list" #[] 0)).update s.heap.objs.size (Obj.mapSeq (· ++ vs.toArray)) }) : wpAny (model prog w) A (collect (.ref t)) Q E s := by
  obtain ⟨o, ho, hc, n, hd⟩ := ht
  have keep := Heap.get?_push_of_some (seqObj "list" #[] 0) ho
  have new := Heap.get?_push_size s.heap (o := seqObj "list" #[] 0) rfl
  unfold collect
  refine wpAny_bind (wpAny_runValue (codeAny_builtin entry_proto_collect' (?_ : wpAny _ _ (do again (.builtin "list.__iadd__" ⟨[← newList [], .ref t], []⟩)) _ _ s)))
  refine wpAny_bind (wpAny_newList (wpAny_pure ⟨Code.quiet_builtin _ (by decide +kernel), codeAny_builtin entry_list_iadd' (?_ : wpAny _ _ (Builtin.List.listExtendWith (.ref s.heap.objs.size) (.ref t) (.ref s.heap.objs.size)) _ _ { s with heap := s.heap.push (seqObj "list" #[] 0) })⟩))
  unfold Builtin.List.listExtendWith
  refine wpAny_bind (wpAny_typeOf (T := "tuple") ⟨o, keep, hc⟩ ?_)
  rw [if_pos (by rw [show (Value.type "tuple" == Value.type "tuple") = true by rfl]; simp)]
  refine wpAny_bind (listItems_at keep hd (wpAny_bind (listItems_at (xs := #[]) (n := 0) new rfl ?_)))
  rw [if_neg (by simp)]
  refine wpAny_bind (listUpdate_at (xs := #[]) (n := 0) new rfl (wpAny_pure (?_ : wpAny (model prog w) A (do
      let o ← load s.heap.objs.size
      match o.data with
      | .seq xs _ => pure xs.toList
      | _ => unsupported "internal:collect") Q E { s with heap := (s.heap.push (seqObj "list" #[] 0)).update s.heap.objs.size (Obj.mapSeq (· ++ vs.toArray)) })) (Nat.zero_le _) (by show (#[] ++ vs.toArray).size ≤ sizeLine + 1; simp only [Array.size_append, List.size_toArray, List.length_nil]; omega))
  refine wpAny_bind (wpAny_load (get?_update_seq new _) (?_ : wpAny _ _ (pure ((#[] : Array Value) ++ vs.toArray).toList) Q E _))
  rw [show ((#[] : Array Value) ++ vs.toArray).toList = vs by simp]
  exact wpAny_pure h
theorem sortedT {l : Addr} {vs : List Value} {k : Value → Int × Int} {Q : Value → Shared → Prop} (hl : s.heap.IsTuple l vs.toArray) (hz : vs.length ≤ sizeLine) (hp : ∀ v ∈ vs, IsPair s.heap v (k v).1 (k v).2)
    (h : ∀ (h' : Heap) (d : Addr) (out : List Value), Srtd (fun v u => lexB (k v) (k u)) out → Stb (fun v u => lexB (k v) (k u)) out vs → (∀ b o, s.heap.get? b = some o → h'.get? b = some o) → s.heap.objs.size ≤ d → (∃ n, h'.get? d = some (seqObj "list" out.toArray n)) → Q (.ref d) { s with heap := h' }) :
    wpAny (model prog w) A (call (.builtin "sorted") [.ref l]) Q E s := by
  have fin := fun out hs hb => h _ _ out hs hb (fun b o e => sortedAll_old e) (Nat.le_succ _) (sortedAll_at s.heap vs out.toArray)
  refine Calls.call_function_entry kind_sorted plain_sorted entry_sorted (args_sorted1 _) ?_
  unfold Builtin.«sorted»
  refine wpAny_bind (m := checkCount "sorted" 1 1 _) (wpAny_pure (wpAny_bind (collectT hl hz (wpAny_bind (wpAny_newList ?_ hz)))))
  generalize hh : (s.heap.push (seqObj "list" #[] 0)).update s.heap.objs.size (Obj.mapSeq (· ++ vs.toArray)) = h1
  have hsz : h1.objs.size = s.heap.objs.size + 1 := by rw [← hh, Heap.size_update, size_push']
  have hoL : (h1.push (seqObj "list" vs.toArray 0)).get? (s.heap.objs.size + 1) = some (seqObj "list" vs.toArray 0) := by rw [← hsz]; exact Heap.get?_push_size _ rfl
  have keep : ∀ b o, s.heap.get? b = some o → b ≠ s.heap.objs.size + 1 ∧ (h1.push (seqObj "list" vs.toArray 0)).get? b = some o := fun b o q => by
    have hlt : b < s.heap.objs.size := Heap.lt_size q
    refine ⟨Nat.ne_of_lt (Nat.lt_succ_of_lt hlt), Heap.get?_push_of_some _ ?_⟩
    rw [← hh, Heap.get?_update_ne _ _ _ _ (Nat.ne_of_lt hlt)]
    exact Heap.get?_push_of_some _ q
  show wpAny _ _ _ _ _ { s with heap := h1.push (seqObj "list" vs.toArray 0) }
  rw [hsz]
  refine wpAny_bind (wpAny_holding (wpAny_call_entry slot_list_sort ⟨_, hoL, rfl⟩ entry_list_sort (list_sort_ord (swo_lex k) hoL hz (fun h2 => ?_) fun out hs hb => ⟨_, rfl, wpAny_pure ⟨_, rfl, ?_⟩⟩) (args_list_sort _)))
  · refine pairs_sortableO (s := { s with heap := h1.push (seqObj "list" vs.toArray 0) }) (by omega) (fun v hm => (hp v hm).keeps fun b o e _ => (keep b o e).2) fun o e c => ?_
    cases (e.symm.trans hoL : some o = _)
    exact absurd (Value.type.inj c) (by decide)
  · have z := fin out hs hb
    unfold sortedAll at z
    rw [hh] at z
    exact z
end
end MirSrt
namespace Mir
open PySem PySem.Spec PyProof.Rows L2
def rSortedTT (K : PySem.W.Frag) : List V → Hp → VK → Prop := fun vs H Q => (∀ (a : Addr) (xs ys : List V), SqT K H a xs → SqT K H a ys → xs = ys) → ∃ (a : Addr) (xs : List V) (k : V → Int × Int), vs = [V.ref a] ∧ SqT K H a xs ∧ (∀ x ∈ xs, ∃ t, x = V.ref t ∧ SqT K H t [.int (k x).1, .int (k x).2]) ∧
  ∀ ys p, SrtO.Srtd (ltP k) ys → SrtO.Stb (ltP k) ys xs → H p = none → Q (.ref p) (upd H p (.lst ys))
theorem cr_sortedTT {X : Cx} : CallR X (.builtin "sorted") (rSortedTT X.K) := by
  intro pins s σ H vs us Q I r h
  obtain ⟨a, xs, k, rfl, hs, hx, q⟩ := h fun a xs ys h1 h2 => I.tuple_inj h1 h2
  obtain ⟨its, rv, hl, hz⟩ := I.tuple hs
  obtain ⟨u, rfl, ru⟩ := vals1 r
  cases (show u = Value.ref a from ru)
  obtain ⟨e1, e2⟩ := refs_back rv fun x m => let ⟨t, e, _⟩ := hx x m; ⟨t, e⟩
  refine MirSrt.sortedT (k := fun u => k (backV u)) hl (by rw [← rv.length]; exact hz) (fun v hv => ?_) fun h' d out h1 h2 kp hd hn => ?_
  · obtain ⟨t, rfl⟩ := e2 v hv
    obtain ⟨t', e, ht⟩ := hx (V.ref t) (by rw [e1]; exact List.mem_map.mpr ⟨_, hv, rfl⟩)
    cases e
    obtain ⟨its2, r2, ⟨o, ho, hc, n, hd⟩, _⟩ := I.tuple ht
    obtain ⟨u1, u2, rfl, ⟨t1, rfl⟩, ⟨t2, rfl⟩⟩ := vals2 r2
    exact ⟨t, o, t1, t2, n, rfl, ho, hc, hd⟩
  · have h3 : ∀ u ∈ out, ∃ a, u = Value.ref a := fun u hu => e2 u (h2.perm.mem_iff.mp hu)
    have hb : SrtO.Stb (ltP k) (out.map backV) xs := by rw [e1]; exact SrtO.Stb.map (ltP_swo k) backV h2
    obtain ⟨n, hn⟩ := hn
    refine ⟨.ref d, upd H d (.lst (out.map backV)), I.laid (t' := s.toks) kp hd ⟨?_, out, n, vals_back h3, hn⟩, rfl, q _ d (SrtO.srtd_map h1) hb (I.hok.fresh hd)⟩
    rw [hb.len]
    exact hz
section
variable {S : Sc} [Tbl]
/-- sorted of a list, or of a tuple of pairs -/
def oSortX : D → Option D
  | .tup ds => (pairsOf ds).map fun ps => .lst ((sortP ps).map pairD)
  | d => oSort d
def rSortXX (K : PySem.W.Frag) : List V → Hp → VK → Prop := fun xs H Q => rSortX K xs H Q ∨ rSortedTT K xs H Q
theorem cr_sortXX {X : Cx} : CallR X (.builtin "sorted") (rSortXX X.K) := callR_or cr_sortX cr_sortedTT
theorem oA_sortedX : OpA S true (rSortXX S.K) (A1 oSortX) := fun F H xs vs z Q hF hx hz k => by
  have old : (A1 oSort) xs = some z → rSortXX S.K vs H Q := fun hz => .inl (oA_sorted F H xs vs z Q hF hx hz k)
  by_cases c : ∃ ds, xs = [.tup ds]
  · obtain ⟨ds, rfl⟩ := c
    obtain ⟨v, us, rfl, h0, h9⟩ := hx
    cases (show us = [] from h9)
    have hz : (pairsOf ds).map (fun ps => D.lst ((sortP ps).map pairD)) = some z := hz
    cases e : pairsOf ds with
    | none => rw [e] at hz; cases hz
    | some ps =>
      rw [e] at hz
      cases hz
      have e := pairsOf_some e
      subst e
      obtain ⟨a, vs, rfl, h1, h2⟩ := h0
      refine .inr fun hd => ?_
      obtain ⟨kk, k1, k2⟩ := pairs_choice h2 hd
      refine ⟨a, vs, kk, rfl, h1, k2, fun ys p hs hb hn => k _ _ (Ext.new hn) ⟨p, ys, _, rfl, hn, rfl, upd_same, fun z => hF p z hn, ?_⟩⟩
      have e2 : ys.map kk = sortP ps := by
        refine sortP_uniq ?_ (List.pairwise_map.mpr (hs.imp fun {x y} h => ?_))
        · rw [← k1]
          exact hb.perm.map kk
        · unfold leB
          rw [show SrtO.lexB (kk y) (kk x) = false from h]; rfl
      rw [← e2]
      exact (repL_ofMap k2 fun x m => hb.perm.mem_iff.mp m).grow (Ext.new hn)
  · refine old ?_
    match xs, hz, c with
    | [], hz, c => cases hz
    | [.tup ds], hz, c => exact absurd ⟨ds, rfl⟩ c
    | [.lst _], hz, c => exact hz
    | [.non], hz, c => exact hz
    | [.bl _], hz, c => exact hz
    | [.int _], hz, c => exact hz
    | [.str _], hz, c => exact hz
    | [.ins _ _], hz, c => exact hz
    | [.dic _ _], hz, c => exact hz
    | _ :: _ :: _, hz, c => cases hz
end
/-! comprehensions with two fors -/
theorem lc2In_pure {α : Type} (inj : α → D) (p : α → Bool) (f : α → D) {j : Nat} {c1 : TM} {e : EM} {w : Env} : ∀ (ys : List α) (acc : List D), acc.length + ys.length ≤ 100000 →
    (∀ y ∈ ys, ∃ e', c1 (w.set j (some (inj y))) = .ok (p y) e') → (∀ y ∈ ys, p y = true → ∃ e', e (w.set j (some (inj y))) = .ok (f y) e') →
    lc2In (gSet j) c1 e w (ys.map inj) acc = some (acc ++ (ys.filter p).map f)
  | [], acc, _, _, _ => by rw [List.filter_nil, List.map_nil, List.map_nil, List.append_nil]; rfl
  | y :: ys, acc, hl, hc, he => by
    rw [List.length_cons] at hl
    have ih := fun acc h => lc2In_pure inj p f (c1 := c1) (e := e) (w := w) ys acc h (fun y m => hc y (List.mem_cons_of_mem _ m)) (fun y m => he y (List.mem_cons_of_mem _ m))
    rw [List.map_cons]
    unfold lc2In
    rw [ap_gSet]
    dsimp only
    cases q : p y with
    | true =>
      obtain ⟨e1, h1⟩ := hc y List.mem_cons_self
      obtain ⟨e2, h2⟩ := he y List.mem_cons_self q
      rw [h1, q]
      dsimp only
      rw [h2]
      dsimp only
      rw [if_pos (by omega), ih _ (by rw [List.length_append, List.length_singleton]; omega), List.filter_cons_of_pos q, List.map_cons, List.append_assoc]
      rfl
    | false =>
      obtain ⟨e1, h1⟩ := hc y List.mem_cons_self
      rw [h1, q]
      dsimp only
      rw [ih _ (by omega), List.filter_cons_of_neg (by rw [q]; decide)]
theorem lc2Go_pure {α β : Type} (inj : α → D) (injb : β → D) (ys : α → List β) (p : α → β → Bool) (f : α → β → D) {i j : Nat} {vs1 : List Nat} {it1 : IM} {c1 : TM} {e : EM} {w : Env} : ∀ (xs : List α) (acc : List D), acc.length + (xs.map fun x => (ys x).length).sum ≤ 100000 →
    (∀ x ∈ xs, ∃ e', it1 (w.set i (some (inj x))) = .ok ((ys x).map injb) e') →
    (∀ x ∈ xs, ∀ y ∈ ys x, ∃ e', c1 ((wipeE (w.set i (some (inj x))) vs1).set j (some (injb y))) = .ok (p x y) e') →
    (∀ x ∈ xs, ∀ y ∈ ys x, p x y = true → ∃ e', e ((wipeE (w.set i (some (inj x))) vs1).set j (some (injb y))) = .ok (f x y) e') →
    lc2Go (gSet i) mYes vs1 it1 (gSet j) c1 e w (xs.map inj) acc = some (acc ++ xs.flatMap fun x => ((ys x).filter (p x)).map (f x))
  | [], acc, _, _, _, _ => by rw [List.flatMap_nil, List.append_nil]; rfl
  | x :: xs, acc, hl, hi, hc, he => by
    rw [List.map_cons, List.sum_cons] at hl
    have l1 : (((ys x).filter (p x)).map (f x)).length ≤ (ys x).length := by rw [List.length_map]; exact List.length_filter_le _ _
    have ih := lc2Go_pure inj injb ys p f (i := i) (j := j) (vs1 := vs1) (it1 := it1) (c1 := c1) (e := e) (w := w) xs (acc ++ ((ys x).filter (p x)).map (f x)) (by rw [List.length_append]; omega) (fun y m => hi y (List.mem_cons_of_mem _ m)) (fun y m => hc y (List.mem_cons_of_mem _ m)) (fun y m => he y (List.mem_cons_of_mem _ m))
    obtain ⟨e1, h1⟩ := hi x List.mem_cons_self
    have h2 := lc2In_pure injb (p x) (f x) (j := j) (c1 := c1) (e := e) (w := wipeE (w.set i (some (inj x))) vs1) (ys x) acc (by omega) (hc x List.mem_cons_self) (he x List.mem_cons_self)
    rw [List.map_cons]
    unfold lc2Go
    rw [ap_gSet]
    dsimp only
    rw [show mYes (w.set i (some (inj x))) = .ok true (w.set i (some (inj x))) from rfl]
    dsimp only
    rw [h1]
    dsimp only
    rw [h2]
    dsimp only
    rw [ih, List.flatMap_cons, List.append_assoc]
theorem k_lc2 {α β : Type} (inj : α → D) (injb : β → D) (xs : List α) (ys : α → List β) (p : α → β → Bool) (f : α → β → D) {vs vs1 : List Nat} {i j : Nat} {it it1 : IM} {c1 : TM} {e : EM} {env e0 w : Env} (hit : it env = .ok (xs.map inj) e0) (hw : wipeE e0 vs = w) (hl : (xs.map fun x => (ys x).length).sum ≤ 100000)
    (hi : ∀ x ∈ xs, ∃ e', it1 (w.set i (some (inj x))) = .ok ((ys x).map injb) e')
    (hc : ∀ x ∈ xs, ∀ y ∈ ys x, ∃ e', c1 ((wipeE (w.set i (some (inj x))) vs1).set j (some (injb y))) = .ok (p x y) e')
    (he : ∀ x ∈ xs, ∀ y ∈ ys x, p x y = true → ∃ e', e ((wipeE (w.set i (some (inj x))) vs1).set j (some (injb y))) = .ok (f x y) e') :
    eLc2 vs it (gSet i) mYes vs1 it1 (gSet j) c1 e env = .ok (.lst (xs.flatMap fun x => ((ys x).filter (p x)).map (f x))) e0 := by
  subst hw
  unfold eLc2
  rw [hit, Out.bind_ok, lc2Go_pure inj injb ys p f xs [] (by rw [List.length_nil, Nat.zero_add]; exact hl) hi hc he]
  rfl
end Mir
/-! MirLg -/
/-! MirLg: the frame of a def that makes a lambda; calls of what was handed over where nothing is raised. -/
namespace Mir
open PySem PySem.Spec PyProof.Rows L2
variable [Tbl]
theorem passV {X : Cx} : ∀ σ : L2.St, L2.PassesAt (L2.CX X.prog X.w) X σ noE := by
  rintro σ _ _ _ _ _ _ ⟨_, _, _, _, _, _, _, _, _, _, _, _, h⟩
  exact h.elim
section
variable {P : Program} {w : World} {K : PySem.W.Frag} {mg : Str → Option Value} {base : Heap} {S : Sc}
/-- as fnD_ok, the code object known -/
theorem fnD_okC {x qual : Str} {params : Arguments} {body : List Stmt} {scope : Scope} {dvs : List V} {kws : List (Str × V)} {f c : Addr} {fd : FuncData} {N ps : List Str} {k : Nat} {fr : Bool} {O : List Nat} {m : SM} (hc : fd.code = .ref c) (F : FunD K x qual params body scope dvs kws f fd) (sc : FnScope N ps scope) (hN : ps.length ≤ N.length) (hO : ∀ i ∈ O, ps.length ≤ i)
    (hb : ∀ (A : Around) (outer : List PySem.Env) (s : Shared) (H : Hp) (E : XK), Room k (A.deeper (envOfC qual scope s.heap.objs.size f (.ref c))) →
      ∃ t, PSs (cxOf CX0 P w K mg base N qual scope f (.ref c) A outer s H E).nox body t ∧ RefS S O [] E fr t m) :
    FnOk P w K mg base CX0 (k + 1) f fd ps (spM S fr ps.length (runF fr ps.length N.length m)) := by
  obtain ⟨oc, od, dV, kV, doc, pm, an, cdv, ct, osl, rfl, lk, hcd, _, _⟩ := F.ex
  cases (show cdv = .ref c from hc)
  refine fn_of lk hcd sc (fun vs H Q E h => h.choose_spec.choose_spec.1) fun A outer s H vs Q E hr hsp => ?_
  obtain ⟨t, h1, h2⟩ := hb A outer s H E hr
  exact ⟨t, h1.nox, body_ok h2 hN hO hsp⟩
end
end Mir
/-! MirLh -/
/-! MirLh: divmod. -/
namespace Mir
open PySem PySem.Spec PyProof.Rows L2
def oDivmod : D → D → Option D
  | .int i, .int j => if 0 < j ∧ j < 1073741824 then some (.tup [.int (i / j), .int (i % j)]) else none
  | _, _ => none
def rDivmod : List V → Hp → VK → Prop := fun xs H Q => ∃ i j, xs = [.int i, .int j] ∧ CDiv i j ∧ ∀ p, H p = none → Q (.ref p) (upd H p (.tup [.int (i / j), .int (i % j)]))
section
variable {S : Sc} [Tbl]
theorem divmod_args {xs : List D} {z : D} (h : (A2 oDivmod) xs = some z) : ∃ i j : Int, xs = [.int i, .int j] ∧ (0 < j ∧ j < 1073741824) ∧ z = .tup [.int (i / j), .int (i % j)] := by
  match xs, h with
  | [x, y], h =>
    have h : oDivmod x y = some z := h
    unfold oDivmod at h
    split at h
    · split at h
      · cases h
        exact ⟨_, _, rfl, by assumption, rfl⟩
      · cases h
    · cases h
theorem oA_divmod : OpA S false rDivmod (A2 oDivmod) := fun F H xs vs z Q hF hx hz k => by
  obtain ⟨i, j, rfl, c, rfl⟩ := divmod_args hz
  have e := RepL.ints (ns := [i, j]) hx
  subst e
  exact ⟨i, j, rfl, c, fun p hp => k _ _ (Ext.new hp) ⟨p, [.int (i / j), .int (i % j)], rfl, .inl (.inl upd_same), RepL.ofInts (ns := [i / j, i % j])⟩⟩
end
end Mir
/-! MirLi -/
/-! MirLi: sorted of a list whose items are data (tuples of ints, nested). -/
namespace Mir
open PySem PySem.Spec PyProof.Rows L2 PySem.W
def rSortD (K : PySem.W.Frag) : List V → Hp → VK → Prop := fun xs H Q => ∃ (a : Addr) (bs : List (V × PyData)), xs = [V.ref a] ∧ SqL K H a (bs.map (·.1)) ∧ (∀ b ∈ bs, Dp K H b.1 b.2) ∧ AllAlike (bs.map (·.2)) ∧ Sortable (bs.map (·.2)) ∧ (∀ b ∈ bs, b.2.depth ≤ 60) ∧
  ∀ p, H p = none → Q (.ref p) (upd H p (.lst ((bs.mergeSort (dataLe false (·.2))).map (·.1))))
theorem each_vals : ∀ {bs : List (V × PyData)} {us : List Value}, Vals (bs.map (·.1)) us → EachIs (fun u b => L2.RelV b.1 u) us bs
  | [], _, h => by cases h; exact .nil
  | b :: bs, _, h => by
    cases h with
    | cons a r => exact .cons a (each_vals r)
theorem vals_each : ∀ {bs : List (V × PyData)} {us : List Value}, EachIs (fun u b => L2.RelV b.1 u) us bs → Vals (bs.map (·.1)) us
  | _, _, .nil => .nil
  | _, _, .cons a r => .cons a (vals_each r)
theorem each_and {R T : Value → V × PyData → Prop} : ∀ {us : List Value} {bs : List (V × PyData)}, EachIs R us bs → (∀ u b, b ∈ bs → R u b → T u b) → EachIs T us bs
  | _, _, .nil, _ => .nil
  | _, _, .cons a r, h => .cons (h _ _ List.mem_cons_self a) (each_and r fun u b m => h u b (List.mem_cons_of_mem _ m))
theorem cr_sortD {X : Cx} (hu : X.A.units + 64 < cLine) : CallR X (.builtin "sorted") (rSortD X.K) := by
  intro pins s σ H xs us Q I r h
  obtain ⟨a, bs, rfl, hs, hd, hal, hk, hdp, q⟩ := h
  obtain ⟨its, rv, hl, hz⟩ := I.list hs
  obtain ⟨u, rfl, ru⟩ := vals1 r
  cases (show u = Value.ref a from ru)
  have e := each_vals rv
  have hlen : bs.length ≤ sizeLine := by
    have := rv.length
    rw [List.length_map] at this hz
    exact hz
  refine sorted_data (enc := fun b : V × PyData => b.2) hl.isList e (each_and e fun u b m ru => Dp.reads I b.2 b.1 u (hd b m) ru) hal hk hlen (fun b m => by have := hdp b m; omega) fun out ho eo => ?_
  obtain ⟨ep, he'⟩ := sortedAll_at s.heap its out.toArray
  have hv := vals_each eo
  refine ⟨.ref _, upd H (s.heap.objs.size + 1) (.lst ((bs.mergeSort (dataLe false (·.2))).map (·.1))), I.laid (t' := s.toks) (fun _ _ => sortedAll_old) (Nat.le_succ _) ⟨?_, out, ep, hv, he'⟩, rfl, q _ (I.hok.fresh (Nat.le_succ _))⟩
  rw [List.length_map, (List.mergeSort_perm _ _).length_eq]
  exact hlen
/-! (int, tuple of ints) -/
def itD (p : Int × List Int) : D := .tup [.int p.1, .tup (p.2.map .int)]
def itP (p : Int × List Int) : PyData := .tuple [.int p.1, .tuple (p.2.map .int)]
def itOf : D → Option (Int × List Int)
  | .tup [.int n, .tup ds] => (intsOf ds).map fun ns => (n, ns)
  | _ => none
def itsOf : List D → Option (List (Int × List Int))
  | [] => some []
  | d :: ds => (itOf d).bind fun p => (itsOf ds).map (p :: ·)
theorem itOf_some {d : D} {p : Int × List Int} (h : itOf d = some p) : d = itD p := by
  unfold itOf at h
  split at h
  · obtain ⟨ns, h1, h2⟩ := Option.map_eq_some_iff.mp h
    cases h2
    rw [intsOf_some h1]
    rfl
  · cases h
theorem itsOf_some : ∀ {ds : List D} {ps : List (Int × List Int)}, itsOf ds = some ps → ds = ps.map itD
  | [], ps, h => by cases h; rfl
  | d :: ds, ps, h => by
    have h : ((itOf d).bind fun p => (itsOf ds).map (p :: ·)) = some ps := h
    obtain ⟨p, z1, z2⟩ := Option.bind_eq_some_iff.mp h
    cases z : itsOf ds with
    | none => rw [z] at z2; cases z2
    | some rs =>
      rw [z] at z2
      cases z2
      rw [itsOf_some z, itOf_some z1]; rfl
theorem itsOf_map (ps : List (Int × List Int)) : itsOf (ps.map itD) = some ps := by
  induction ps with
  | nil => rfl
  | cons p ps ih =>
    show ((itOf (itD p)).bind fun p => (itsOf (ps.map itD)).map (p :: ·)) = _
    rw [ih]
    show (((intsOf (p.2.map D.int)).map fun ns => (p.1, ns)).bind fun p => some (p :: ps)) = _
    rw [intsOf_ints]
    rfl
def sortIT (ps : List (Int × List Int)) : List (Int × List Int) := ps.mergeSort (dataLe false itP)
theorem sortIT_uniq {ps qs : List (Int × List Int)} (h1 : qs.Perm ps) (h2 : qs.Pairwise fun a b => dataLe false itP a b = true) (h3 : ∀ a ∈ qs, ∀ b ∈ qs, dataLe false itP a b = true → dataLe false itP b a = true → a = b) (tr : ∀ a b c, dataLe false itP a b = true → dataLe false itP b c = true → dataLe false itP a c = true) (tot : ∀ a b, (dataLe false itP a b || dataLe false itP b a) = true) : sortIT ps = qs := by
  have pm : (sortIT ps).Perm qs := (List.mergeSort_perm _ _).trans h1.symm
  exact List.Perm.eq_of_pairwise (fun a b ha hb x y => h3 a (pm.mem_iff.mp ha) b hb x y) (List.pairwise_mergeSort tr tot ps) h2 pm
def oSortN : D → Option D
  | .lst ds => (itsOf ds).map fun ps => .lst ((sortIT ps).map itD)
  | _ => none
theorem itD_py (p : Int × List Int) : (itD p).py = some (itP p) := by
  have h : ∀ ns : List Int, D.pyL (ns.map .int) = some (ns.map PyData.int) := by
    intro ns
    induction ns with
    | nil => rfl
    | cons n ns ih =>
      show (some (PyData.int n)).bind (fun p => (D.pyL (ns.map .int)).map (p :: ·)) = _
      rw [ih]; rfl
  show (D.pyL [.int p.1, .tup (p.2.map .int)]).map PyData.tuple = _
  show ((some (PyData.int p.1)).bind fun q => (((D.pyL (p.2.map .int)).map PyData.tuple).bind fun r => (some []).map (r :: ·)).map (q :: ·)).map PyData.tuple = _
  rw [h]
  rfl
theorem itP_alike (a b : Int × List Int) : alike (itP a) (itP b) = true := by
  unfold itP
  simp [alike, alikeAll, alike_ints]
theorem itP_depth (a : Int × List Int) : (itP a).depth ≤ 60 := by
  unfold itP
  simp [PyData.depth, PyData.depthAll, depth_ints]
section
variable {S : Sc} [Tbl]
theorem repL_zip {F : Addr → Prop} {H : Hp} : ∀ {ps : List (Int × List Int)} {vs : List V}, RepL S F H (ps.map itD) vs → ∀ c ∈ vs.zip ps, Rep S F H (itD c.2) c.1
  | [], vs, h, c, m => by cases (show vs = [] from h); cases m
  | p :: ps, vs, h, c, m => by
    obtain ⟨v, r, rfl, h1, h2⟩ := h
    rw [List.zip_cons_cons] at m
    rcases List.mem_cons.mp m with rfl | m
    · exact h1
    · exact repL_zip h2 c m
theorem repL_of {F : Addr → Prop} {H : Hp} : ∀ {cs : List (V × (Int × List Int))}, (∀ c ∈ cs, Rep S F H (itD c.2) c.1) → RepL S F H ((cs.map (·.2)).map itD) (cs.map (·.1))
  | [], _ => .nil
  | c :: cs, h => .cons (h c List.mem_cons_self) (repL_of fun d m => h d (List.mem_cons_of_mem _ m))
theorem oA_sortN : OpA S true (rSortD S.K) (A1 oSortN) := opA1 fun F H x v z Q hF hx hz k => by
  cases x with
  | lst ds =>
    have hz : (itsOf ds).map (fun ps => D.lst ((sortIT ps).map itD)) = some z := hz
    cases e : itsOf ds with
    | none => rw [e] at hz; cases hz
    | some ps =>
      rw [e] at hz
      cases hz
      have e := itsOf_some e
      subst e
      obtain ⟨a, vs, rfl, nf, h1, h2⟩ := hx
      have hl : vs.length = ps.length := by rw [h2.length, List.length_map]
      have hz := repL_zip h2
      have b1 : ((vs.zip ps).map fun c => (c.1, itP c.2)).map (·.1) = vs := by
        rw [List.map_map]
        exact List.map_fst_zip (by omega)
      have b2 : ((vs.zip ps).map fun c => (c.1, itP c.2)).map (·.2) = ps.map itP := by
        rw [List.map_map, ← List.map_snd_zip (l₁ := vs) (l₂ := ps) (by omega), List.map_map, List.map_snd_zip (l₁ := vs) (l₂ := ps) (by omega)]
        rfl
      refine ⟨a, (vs.zip ps).map fun c => (c.1, itP c.2), rfl, by rw [b1]; exact .inl (.inl h1), fun b m => ?_, by rw [b2]; exact AllAlike.of itP_alike, by rw [b2]; exact Sortable.tuples fun b => ⟨_, _, rfl⟩, fun b m => ?_, fun p hp => ?_⟩
      · obtain ⟨c, hc, rfl⟩ := List.mem_map.mp m
        exact rep_dp (hz c hc) (itD_py c.2)
      · obtain ⟨c, hc, rfl⟩ := List.mem_map.mp m
        exact itP_depth c.2
      · have m1 : ((vs.zip ps).mergeSort fun a b => dataLe false itP a.2 b.2).map (fun c => (c.1, itP c.2)) = ((vs.zip ps).map fun c => (c.1, itP c.2)).mergeSort (dataLe false (·.2)) := List.map_mergeSort fun _ _ _ _ => rfl
        have m2 : ((vs.zip ps).mergeSort fun a b => dataLe false itP a.2 b.2).map (·.2) = sortIT ps := by
          rw [List.map_mergeSort (s := dataLe false itP) fun _ _ _ _ => rfl, List.map_snd_zip (by omega)]
          rfl
        have k : ∀ w H', Ext Nil H H' → RepK S F true H H' (.lst ((sortIT ps).map itD)) w → Q w H' := k
        rw [← m2] at k
        rw [← m1, List.map_map]
        have hs : ∀ c ∈ (vs.zip ps).mergeSort fun a b => dataLe false itP a.2 b.2, Rep S F H (itD c.2) c.1 := fun c m => hz c ((List.mergeSort_perm _ _).mem_iff.mp m)
        exact k _ _ (Ext.new hp) ⟨p, _, _, rfl, hp, rfl, upd_same, fun z => hF p z hp, ((repL_of hs).less fun x z => z.imp id fun e => by rw [e]; exact hp).grow (Ext.new hp)⟩
  | _ => cases hz
end
end Mir
/-! MirLj -/
/-! MirLj: min of a list of triples of ints. -/
namespace Mir
open PySem PySem.Spec PyProof.Rows L2 PySem.W
def rMinD (K : PySem.W.Frag) : List V → Hp → VK → Prop := fun xs H Q => ∃ (a : Addr) (b0 : V × PyData) (bs : List (V × PyData)), xs = [V.ref a] ∧ SqL K H a ((b0 :: bs).map (·.1)) ∧ (∀ b ∈ b0 :: bs, Dp K H b.1 b.2) ∧ AlikeAll ((b0 :: bs).map (·.2)) ∧ (∀ b ∈ b0 :: bs, b.2.depth ≤ 60) ∧
  ∀ b ∈ b0 :: bs, b.2 = minD b0.2 (bs.map (·.2)) → Q b.1 H
theorem vals_at : ∀ {bs : List (V × PyData)} {us : List Value}, Vals (bs.map (·.1)) us → ∀ (i : Nat) (u : Value), us[i]? = some u → ∃ b ∈ bs, L2.RelV b.1 u
  | [], _, h, i, u, e => by cases h; cases e
  | b :: bs, _, h, i, u, e => by
    cases h with
    | cons a r =>
      cases i with
      | zero => cases e; exact ⟨b, List.mem_cons_self, a⟩
      | succ i =>
        obtain ⟨c, m, q⟩ := vals_at r i u e
        exact ⟨c, List.mem_cons_of_mem _ m, q⟩
theorem dp_all {K : PySem.W.Frag} {H : Hp} : ∀ {bs : List (V × PyData)}, (∀ b ∈ bs, Dp K H b.1 b.2) → DpAll K H (bs.map (·.1)) (bs.map (·.2))
  | [], _ => .nil
  | b :: bs, h => .cons (h b List.mem_cons_self) (dp_all fun c m => h c (List.mem_cons_of_mem _ m))
theorem depth_all60 : ∀ {ds : List PyData}, (∀ d ∈ ds, d.depth ≤ 60) → PyData.depthAll ds ≤ 60
  | [], _ => Nat.zero_le _
  | d :: ds, h => by
    have a := h d List.mem_cons_self
    have b := depth_all60 fun c m => h c (List.mem_cons_of_mem d m)
    rw [PyData.depthAll]
    exact Nat.max_le.mpr ⟨a, b⟩
theorem cr_minD {X : Cx} (hc : X.calm = true) (hu : X.A.units + 64 < cLine) : CallR X (.builtin "min") (rMinD X.K) := by
  intro pins s σ H xs us Q I r h
  obtain ⟨a, b0, bs, rfl, hs, hd, hal, hdp, q⟩ := h
  obtain ⟨its, rv, hl, hz⟩ := I.list hs
  obtain ⟨u, rfl, ru⟩ := vals1 r
  cases (show u = Value.ref a from ru)
  obtain ⟨as, ra⟩ := Dp.readsAll I ((b0 :: bs).map (·.2)) ((b0 :: bs).map (·.1)) its (dp_all hd) rv
  have hdep := depth_all60 (ds := (b0 :: bs).map (·.2)) fun d m => by
    obtain ⟨b, hb, rfl⟩ := List.mem_map.mp m
    exact hdp b hb
  refine min_list_data (x := b0.2) (xs := List.map (fun b : V × PyData => b.2) bs) (I.ok.hd hc) hl.isList (as := as) (by rw [List.map_cons] at ra; exact ra) hal (by
    have : PyData.depthAll (b0.2 :: bs.map (·.2)) ≤ 60 := hdep
    omega) fun i v h' tk cs hi rr hk => ?_
  obtain ⟨b, hb, rb⟩ := vals_at rv i v (by simpa using hi)
  obtain ⟨ds, rd⟩ := Dp.reads I b.2 b.1 v (hd b hb) rb
  have e : b.2 = minD b0.2 (bs.map (·.2)) := ((reads_det (fun b o h _ => hk b o h) rd rr).1).symm
  exact ⟨b.1, H, I.kept hk, rb, q b hb e⟩
/-! triples of ints -/
abbrev T3 := Int × Int × Int
def triD (p : T3) : D := .tup [.int p.1, .int p.2.1, .int p.2.2]
def triP (p : T3) : PyData := .tuple [.int p.1, .int p.2.1, .int p.2.2]
def triOf : D → Option T3
  | .tup [.int a, .int b, .int c] => some (a, b, c)
  | _ => none
def trisOf : List D → Option (List T3)
  | [] => some []
  | d :: ds => (triOf d).bind fun p => (trisOf ds).map (p :: ·)
theorem triOf_some {d : D} {p : T3} (h : triOf d = some p) : d = triD p := by
  unfold triOf at h
  split at h
  · cases h; rfl
  · cases h
theorem trisOf_some : ∀ {ds : List D} {ps : List T3}, trisOf ds = some ps → ds = ps.map triD
  | [], ps, h => by cases h; rfl
  | d :: ds, ps, h => by
    have h : ((triOf d).bind fun p => (trisOf ds).map (p :: ·)) = some ps := h
    obtain ⟨p, z1, z2⟩ := Option.bind_eq_some_iff.mp h
    cases z : trisOf ds with
    | none => rw [z] at z2; cases z2
    | some rs =>
      rw [z] at z2
      cases z2
      rw [trisOf_some z, triOf_some z1]; rfl
theorem trisOf_map (ps : List T3) : trisOf (ps.map triD) = some ps := by
  induction ps with
  | nil => rfl
  | cons p ps ih =>
    show ((some p).bind fun p => (trisOf (ps.map triD)).map (p :: ·)) = _
    rw [ih]
    rfl
def lessT (x y : T3) : Prop := x.1 < y.1 ∨ (x.1 = y.1 ∧ (x.2.1 < y.2.1 ∨ (x.2.1 = y.2.1 ∧ x.2.2 < y.2.2)))
instance (x y : T3) : Decidable (lessT x y) := by unfold lessT; infer_instance
def minT (x : T3) (xs : List T3) : T3 := xs.foldl (fun a y => if lessT y a then y else a) x
theorem tri_lt (x y : T3) : dataLt (triP x) (triP y) = decide (lessT x y) := by
  obtain ⟨a, b, c⟩ := x
  obtain ⟨u, v, w⟩ := y
  unfold dataLt triP lessT
  dsimp only
  show PyProof.Rows.lexLt itemOrd [.inl 1, .inl a, .inl 1, .inl b, .inl 1, .inl c, .inl 0] [.inl 1, .inl u, .inl 1, .inl v, .inl 1, .inl w, .inl 0] = _
  have d : ∀ {x y : Int}, x ≠ y → (Sum.inl x : Int ⊕ List Nat) ≠ Sum.inl y := fun h e => h (Sum.inl.inj e)
  rw [lex_self (O := itemOrd)]
  by_cases c1 : a = u
  · subst c1
    rw [lex_self (O := itemOrd), lex_self (O := itemOrd)]
    by_cases c2 : b = v
    · subst c2
      rw [lex_self (O := itemOrd), lex_self (O := itemOrd)]
      by_cases c3 : c = w
      · subst c3
        rw [lex_self (O := itemOrd), lex_self (O := itemOrd)]
        symm
        refine (decide_eq_false (by omega)).trans ?_
        rfl
      · rw [lex_diff (O := itemOrd) (d c3)]
        show decide (c < w) = _
        exact decide_eq_decide.mpr (by omega)
    · rw [lex_diff (O := itemOrd) (d c2)]
      show decide (b < v) = _
      exact decide_eq_decide.mpr (by omega)
  · rw [lex_diff (O := itemOrd) (d c1)]
    show decide (a < u) = _
    exact decide_eq_decide.mpr (by omega)
theorem minD_tri (x : T3) : ∀ xs : List T3, minD (triP x) (xs.map triP) = triP (minT x xs) := fun xs => by
  unfold minD minT
  induction xs generalizing x with
  | nil => rfl
  | cons y ys ih =>
    rw [List.map_cons, List.foldl_cons, List.foldl_cons, ← ih]
    rw [tri_lt]
    by_cases c : lessT y x
    · rw [if_pos (decide_eq_true c), if_pos c]
    · rw [if_neg (by rw [decide_eq_false c]; decide), if_neg c]
theorem triP_inj {x y : T3} (h : triP x = triP y) : x = y := by
  obtain ⟨a, b, c⟩ := x
  obtain ⟨u, v, w⟩ := y
  injection h with h
  injection h with h1 h
  injection h with h2 h
  injection h with h3 h
  injection h1 with h1
  injection h2 with h2
  injection h3 with h3
  dsimp only at h1 h2 h3
  rw [h1, h2, h3]
theorem triD_py (p : T3) : (triD p).py = some (triP p) := rfl
theorem triP_depth (a : T3) : (triP a).depth ≤ 60 := by
  unfold triP
  simp [PyData.depth, PyData.depthAll]
def oMinT : D → Option D
  | .lst ds => (trisOf ds).bind fun ps => match ps with
    | [] => none
    | p :: ps => some (triD (minT p ps))
  | _ => none
theorem oMinT_at (p : T3) (ps : List T3) : oMinT (.lst ((p :: ps).map triD)) = some (triD (minT p ps)) := by
  show (trisOf _).bind _ = _
  rw [trisOf_map]
  rfl
section
variable {S : Sc} [Tbl]
theorem repL_zip3 {F : Addr → Prop} {H : Hp} : ∀ {ps : List T3} {vs : List V}, RepL S F H (ps.map triD) vs → ∀ c ∈ vs.zip ps, Rep S F H (triD c.2) c.1
  | [], vs, h, c, m => by cases (show vs = [] from h); cases m
  | p :: ps, vs, h, c, m => by
    obtain ⟨v, r, rfl, h1, h2⟩ := h
    rw [List.zip_cons_cons] at m
    rcases List.mem_cons.mp m with rfl | m
    · exact h1
    · exact repL_zip3 h2 c m
theorem oA_minT : OpA S false (rMinD S.K) (A1 oMinT) := opA1 fun F H x v z Q hF hx hz k => by
  cases x with
  | lst ds =>
    have hz : ((trisOf ds).bind fun ps => match ps with
      | [] => none
      | p :: ps => some (triD (minT p ps))) = some z := hz
    cases e : trisOf ds with
    | none => rw [e] at hz; cases hz
    | some ps =>
      rw [e] at hz
      cases ps with
      | nil => cases hz
      | cons p ps =>
        cases hz
        have e := trisOf_some e
        subst e
        obtain ⟨a, vs, rfl, nf, h1, h2⟩ := hx
        have hr := repL_zip3 h2
        obtain ⟨v0, vs, rfl, h3, h4⟩ := h2
        have hl : vs.length = ps.length := by rw [h4.length, List.length_map]
        have b1 : ((vs.zip ps).map fun c => (c.1, triP c.2)).map (·.1) = vs := by
          rw [List.map_map]
          exact List.map_fst_zip (by omega)
        have b2 : ((vs.zip ps).map fun c => (c.1, triP c.2)).map (·.2) = ps.map triP := by
          rw [List.map_map, ← List.map_snd_zip (l₁ := vs) (l₂ := ps) (by omega), List.map_map, List.map_snd_zip (l₁ := vs) (l₂ := ps) (by omega)]
          rfl
        have hb : ∀ b ∈ (v0, triP p) :: (vs.zip ps).map (fun c => (c.1, triP c.2)), ∃ c : V × T3, Rep S F H (triD c.2) c.1 ∧ b = (c.1, triP c.2) := fun b m => by
          rcases List.mem_cons.mp m with rfl | m
          · exact ⟨(v0, p), h3, rfl⟩
          · obtain ⟨c, hc, rfl⟩ := List.mem_map.mp m
            exact ⟨c, hr c (by rw [List.zip_cons_cons]; exact List.mem_cons_of_mem _ hc), rfl⟩
        refine ⟨a, (v0, triP p), (vs.zip ps).map fun c => (c.1, triP c.2), rfl, by rw [List.map_cons, b1]; exact .inl (.inl h1), fun b m => ?_, ?_, fun b m => ?_, fun b m he => ?_⟩
        · obtain ⟨c, hc, rfl⟩ := hb b m
          exact rep_dp hc (triD_py c.2)
        · constructor
          · intro x hx y hy
            obtain ⟨b, mb, rfl⟩ := List.mem_map.mp hx
            obtain ⟨b', mb', rfl⟩ := List.mem_map.mp hy
            obtain ⟨c, _, rfl⟩ := hb b mb
            obtain ⟨c', _, rfl⟩ := hb b' mb'
            rfl
          · intro x hx
            obtain ⟨b, mb, rfl⟩ := List.mem_map.mp hx
            obtain ⟨c, _, rfl⟩ := hb b mb
            exact fun z => nomatch z
        · obtain ⟨c, _, rfl⟩ := hb b m
          exact triP_depth c.2
        · obtain ⟨c, hc, rfl⟩ := hb b m
          rw [b2, minD_tri] at he
          have he := triP_inj he
          rw [← he] at k
          exact k _ H (Ext.refl _ _) hc
  | _ => cases hz
end
end Mir
/-! MirMa -/
/-! MirMa: raise of own exception classes whose __init__ calls the base's by name and stores fields; defs that may raise. -/
namespace Mir
open PySem PySem.Spec PyProof.Rows L2
variable [Tbl]
/-! ### Base.__init__(self, ..) -/
structure ExB (K : PySem.W.Frag) (B : Addr) : Prop where
  rd : PySem.W.readsIn K B (.type "type") = true
  fi : PySem.W.findCls K (.ref B) (.type "type") "__init__" = some (.val (.builtin "ValueError.__init__"))
  ga : PySem.W.specialIn K (.ref B) "__getattribute__" = some (some (.builtin "type.__getattribute__"))
section
variable {X : Cx} {e : Expr} {es : List Expr} {ta : TA} {p1 p2 pos : Pos} {x : Str} {B : Addr}
theorem pe_binit {pl : Sem Bool} (T : ExB X.K B) (hg : Gl X x) (hm : X.mg x = some (.ref B)) (ha : PA X (e :: es) ta)
    (hdb : (x == ("__debug__" : Str)) = false := by decide)
    (hc : eval (.Call (.Attribute (.Name x p1) "__init__" p2) (e :: es) [] pos) X.env = (do
      let fv ← eval (.Name x p1) X.env
      standAt p2.atName
      let (g, pre) ← holding [fv] (getMethod fv "__init__" pl)
      callWith pos g pre (backTo pos (starEach (e :: es) X.env)) (backToKw pos (keywordEach [] X.env))) := by rfl)
    (he : starEach (e :: es) X.env = (false, eval e X.env) :: starEach es X.env := by rfl) (hpl : (backTo pos (starEach es X.env)).any (·.1) = false := by rfl) :
    PE X (.Call (.Attribute (.Name x p1) "__init__" p2) (e :: es) [] pos) (tVeI X.K ta) := by
  refine ⟨fun pins s σ H Q I h => ?_⟩
  refine PySem.W.methodCall_KW (ld_glob I hg hm ?_ hdb) hc
  refine PySem.W.method_cls I.kIn T.ga (PySem.W.cls_value I.kIn T.rd T.fi (by decide +kernel) ?_)
  show wpAny _ _ (callWith pos (Value.builtin "ValueError.__init__") [] (backTo pos (starEach (e :: es) X.env)) []) _ _ _
  refine PyProof.Rows.callWith_method1 (thn (ha.run pos pins _ σ H _ (I.tok _) h) fun us s1 z => ?_) he hpl
  obtain ⟨vs, H1, I1, r1, a, C, ws, ev, hl, T1, ea, q⟩ := z
  subst ev
  cases r1 with
  | @cons _ u0 _ ur ra rw' =>
    cases (show u0 = Value.ref a from ra)
    refine oinit_ok T1 I1 ea ?_ fun s' J => ⟨.non, H1, J, rfl, q⟩
    have := Paired.length rw'
    rw [sizeLine_eq]
    omega
end
/-! ### what such an __init__ promises -/
def spX (K : PySem.W.Frag) (C : Addr) (ns : List Str) : Sp := fun vs H Q _ => ∃ (a : Addr) (us : List V), vs = .ref a :: us ∧ us.length = ns.length ∧ OexC K C ∧ H a = some (exo a C none) ∧ (∀ f ∈ ns, PySem.W.findIn K (.ref C) f = some none) ∧
  ∀ dx H', H dx = none → dx ≠ a → H' a = some (exo a C (some dx)) → H' dx = some (exd dx (ns.zip us).reverse) → (∀ b, b ≠ a → b ≠ dx → H' b = H b) → Q .non H'
theorem spX_len {K : PySem.W.Frag} {C : Addr} {ns : List Str} {vs : List V} {H : Hp} {Q : VK} {E : XK} (h : spX K C ns vs H Q E) : vs.length = ns.length + 1 := by
  obtain ⟨a, us, rfl, h1, _⟩ := h
  rw [List.length_cons, h1]
section
variable {P : Program} {w : World} {K : PySem.W.Frag} {mg : Str → Option Value} {base : Heap} {S : Sc}
theorem fnD_okS {x qual : Str} {params : Arguments} {body : List Stmt} {scope : Scope} {dvs : List V} {kws : List (Str × V)} {f : Addr} {fd : FuncData} {N ps : List Str} {k : Nat} {sp : Sp} (F : FunD K x qual params body scope dvs kws f fd) (sc : FnScope N ps scope) (len : ∀ vs H Q E, sp vs H Q E → vs.length = ps.length)
    (hb : ∀ (cdv : Value) (A : Around) (outer : List PySem.Env) (s : Shared) (H : Hp) (E : XK), Room k (A.deeper (envOfC qual scope s.heap.objs.size f cdv)) →
      ∃ t, PSs (cxOf CX0 P w K mg base N qual scope f cdv A outer s H E).nox body t ∧ ∀ vs H Q, sp vs H Q E → t { nx := fun _ H' => Q .non H', rt := Q } (L2.start N vs) H) :
    FnOk P w K mg base CX0 (k + 1) f fd ps sp := by
  obtain ⟨oc, od, dV, kV, doc, pm, an, cdv, ct, osl, rfl, lk, hcd, _, _⟩ := F.ex
  refine fn_of lk hcd sc len fun A outer s H vs Q E hr hsp => ?_
  obtain ⟨t, h1, h2⟩ := hb cdv A outer s H E hr
  exact ⟨t, h1.nox, h2 _ _ _ hsp⟩
theorem run_x1 {C : Addr} {f1 : Str} {N : List Str} {E : XK} (hN : N.length = 2) (vs : List V) (H : Hp) (Q : VK) (h : spX K C [f1] vs H Q E) :
    (tSeq (tDrop (tVeI K (tCons (tVar 0) (tCons (tVar 1) tNil)))) (tOst K f1 (tVar 0) (tVar 1))) { nx := fun _ H' => Q .non H', rt := Q } (L2.start N vs) H := by
  obtain ⟨a, us, rfl, hl, T, ha, hno, q⟩ := h
  match us, hl with
  | [v], _ =>
    have n1 := hno f1 List.mem_cons_self
    refine ⟨.ref a, rfl, v, rfl, a, C, [v], rfl, by show 1 ≤ 1000; decide, T, ha, ?_⟩
    refine ⟨v, rfl, .ref a, rfl, a, C, rfl, T, n1, .inl ⟨ha, fun dx hd ne => ?_⟩⟩
    exact q dx _ hd ne upd_same (by rw [upd_ne ne, upd_same]; rfl) (fun b h1 h2 => by rw [upd_ne h1, upd_ne h2])
theorem run_x2 {C : Addr} {f1 f2 : Str} {N : List Str} {E : XK} (hN : N.length = 3) (vs : List V) (H : Hp) (Q : VK) (h : spX K C [f1, f2] vs H Q E) :
    (tSeq (tDrop (tVeI K (tCons (tVar 0) (tCons (tVar 1) (tCons (tVar 2) tNil))))) (tSeq (tOst K f1 (tVar 0) (tVar 1)) (tOst K f2 (tVar 0) (tVar 2)))) { nx := fun _ H' => Q .non H', rt := Q } (L2.start N vs) H := by
  obtain ⟨a, us, rfl, hl, T, ha, hno, q⟩ := h
  match us, hl with
  | [v, u], _ =>
    have n1 := hno f1 List.mem_cons_self
    have n2 := hno f2 (List.mem_cons_of_mem _ List.mem_cons_self)
    refine ⟨.ref a, rfl, v, rfl, u, rfl, a, C, [v, u], rfl, by show 2 ≤ 1000; decide, T, ha, ?_⟩
    refine ⟨v, rfl, .ref a, rfl, a, C, rfl, T, n1, .inl ⟨ha, fun dx hd ne => ?_⟩⟩
    refine ⟨u, rfl, .ref a, rfl, a, C, rfl, T, n2, .inr ⟨dx, [(f1, v)], upd_same, by rw [upd_ne ne, upd_same], by show 1 ≤ 900; decide, ?_⟩⟩
    refine q dx _ hd ne (by rw [upd_ne (Ne.symm ne), upd_same]) upd_same (fun b h1 h2 => by rw [upd_ne h2, upd_ne h1, upd_ne h2])
end
/-! ### raise -/
def sRaise (c n : Nat) (a : AM) : SM := fun env => (a env).fl fun ds e => if ds.length = n then .exc ⟨c, ds.reverse⟩ e else .bad
@[simp] theorem ap_sRaise {c n : Nat} {a : AM} {env : Env} : sRaise c n a env = (a env).fl fun ds e => if ds.length = n then .exc ⟨c, ds.reverse⟩ e else .bad := rfl
theorem repL_append' {S : Sc} {F : Addr → Prop} {H : Hp} : ∀ {ds es : List D} {us vs : List V}, RepL S F H ds us → RepL S F H es vs → RepL S F H (ds ++ es) (us ++ vs)
  | [], es, us, vs, h, k => by cases (show us = [] from h); exact k
  | d :: ds, es, us, vs, h, k => by
    obtain ⟨v, r, rfl, h1, h2⟩ := h
    exact ⟨v, r ++ vs, rfl, h1, repL_append' h2 k⟩
theorem repL_reverse {S : Sc} {F : Addr → Prop} {H : Hp} : ∀ {ds : List D} {us : List V}, RepL S F H ds us → RepL S F H ds.reverse us.reverse
  | [], us, h => by cases (show us = [] from h); exact .nil
  | d :: ds, us, h => by
    obtain ⟨v, r, rfl, h1, h2⟩ := h
    rw [List.reverse_cons, List.reverse_cons]
    exact repL_append' (repL_reverse h2) (.cons h1 .nil)
section
variable {S : Sc} {O P : List Nat} {E : XK} {fr : Bool} {tA : TA} {mA : AM}
theorem rs_raise {c n : Nat} {ns : List Str} (T : OexC S.K (S.ca c)) (hno : ∀ f ∈ ns, PySem.W.findIn S.K (.ref (S.ca c)) f = some none) (hfn : S.fn c = ns.reverse) (hn : ns.length = n) (hn2 : n ≤ 900) (ha : RefA S O P E none tA mA) :
    RefS S O P E fr (fun _ σ H => tMkO (S.ca c) (spX S.K (S.ca c) ns) [] tA σ H fun cls d H' => E cls d H') (sRaise c n mA) := by
  intro R σ H fp env I D h
  refine ha R σ H fp env I _ ((want_fl h).mono fun ds e1 H1 f1 I1 s1 h1 vs hv => ?_)
  by_cases hd : ds.length = n
  · rw [if_pos hd] at h1
    have hvl : vs.length = ns.length := by rw [hv.length, hd, hn]
    refine ⟨by omega, fun a han => ⟨a, vs ++ [], rfl, by rw [List.append_nil, hvl], T, upd_same, hno, fun dx H2 hdx ne h2a h2d h2o => ?_⟩⟩
    have hdn : H1 dx = none := by rw [upd_ne ne] at hdx; exact hdx
    refine ⟨rfl, dx, (ns.zip (vs ++ [])).reverse, h2a, h2d, hdn, ?_⟩
    rw [List.append_nil] at *
    have kp : ∀ b u, H1 b = some u → (upd (del H2 a) dx (.xd (ns.zip vs).reverse)) b = some u := fun b u e => by
      have b1 : b ≠ a := fun z => by rw [z, han] at e; cases e
      have b2 : b ≠ dx := fun z => by rw [z, hdn] at e; cases e
      rw [upd_ne b2, del_ne b1, h2o b b1 b2, upd_ne b1, e]
    have ex : Ext Nil H1 (upd (del H2 a) dx (.xd (ns.zip vs).reverse)) := Ext.of kp
    refine h1 (.ref (S.ca c)) (some dx) σ _ f1 (I1.grow ex) ?_ ⟨rfl, .inr ⟨dx, (ns.zip vs).reverse, rfl, upd_same, ?_, ?_⟩⟩
    · refine ⟨Ext.of kp, fun b z => .inl z, fun b z => ?_⟩
      cases q : H1 b with
      | none => exact absurd q z
      | some u => rw [kp b u q]; exact fun z => nomatch z
    · rw [hfn, List.map_reverse, List.map_fst_zip (by omega)]
    · rw [List.map_reverse, List.map_snd_zip (by omega)]
      exact repL_reverse ((hv.less fun _ z => z.elim).grow ex)
  · rw [if_neg hd] at h1
    exact h1.elim
end
end Mir
/-! MirMb -/
/-! MirMb: try: f() except C as e: suite, f handed over; in the suite isinstance(e, T), e.f, xs.count(True). -/
namespace Mir
open PySem PySem.Spec PyProof.Rows L2
variable [Tbl]
/-! ### xs.count(b) of bools -/
def rCntB (K : PySem.W.Frag) : V → List V → Hp → VK → Prop := fun x xs H Q => ∃ (p : Addr) (bs : List Bool) (k : Bool), x = .ref p ∧ xs = [.bl k] ∧ SqL K H p (bs.map V.bl) ∧ Q (.int (countIn (.bool k) (bs.map .bool))) H
theorem dp_bools {K : PySem.W.Frag} {H : Hp} : ∀ bs : List Bool, DpAll K H (bs.map V.bl) (bs.map .bool)
  | [] => .nil
  | b :: bs => .cons (.bl b) (dp_bools bs)
theorem mt_cntB {X : Cx} : MtR X "list.count" (rCntB X.K) := by
  intro pins s σ H x xs v us Q I rx rxs h
  obtain ⟨p, bs, k, rfl, rfl, hs, q⟩ := h
  cases rx
  obtain ⟨u, rfl, ru⟩ := rxs.one
  cases (show u = Value.bool k from ru)
  obtain ⟨its, rv, hl, hz⟩ := I.list hs
  obtain ⟨as, ra⟩ := Dp.readsAll I (bs.map .bool) (bs.map V.bl) its (dp_bools bs) rv
  refine count_list_bools hl.isList ra ?_ ⟨.int (countIn (.bool k) (bs.map .bool)), H, I.tok _, ⟨s.toks, rfl⟩, q⟩
  rw [List.all_map, List.all_eq_true]
  exact fun _ _ => rfl
def oCnt : D → D → Option D
  | .lst ds, .bl k => (blsOf ds).map fun bs => .int (countIn (.bool k) (bs.map .bool))
  | _, _ => none
def eCnt (a b : EM) : EM := fun env => (a env).bind fun x e => match x with
  | .lst ds => (b e).bind fun y e' => .opt (oCnt (.lst ds) y) e'
  | _ => .bad
section
variable {S : Sc} {O P : List Nat} {E : XK} {μ : Mo} {fr fa fb : Bool} {ta tb te : TE} {ma mb : EM} {t u : TT} {tA : TA} {mA : AM}
theorem ref_cnt (ha : RefE S O P E μ fa ta ma) (hb : RefE S O P E μ fb tb mb) : RefE S O P E μ false (tBM S.K "list" (rCntB S.K) ta (tCons tb tNil)) (eCnt ma mb) := by
  intro R σ H fp env I Q h
  refine ha R σ H fp env I _ ((Want.bind h).mono fun x e1 H1 f1 I1 s1 h1 v hv _ => ?_)
  cases x with
  | lst ds =>
    have hv := hv.rep
    have hv' := hv
    obtain ⟨a, vs, rfl, n, q1, q2⟩ := hv'
    refine ⟨.inl ⟨rfl, vs, .inl (.inl q1)⟩, ?_⟩
    refine hb R σ H1 f1 e1 I1 _ ((Want.bind h1).mono fun y e2 H2 f2 I2 s2 h2 u hu _ => ?_)
    have hx : Rep S (FM R f2 μ) H2 (.lst ds) (.ref a) := Rep.fwd s2.fwd _ _ hv
    obtain ⟨z, hz⟩ := want_some h2
    have hz' := hz
    cases y with
    | bl k =>
      cases (show u = V.bl k from hu.rep)
      have hz : (blsOf ds).map (fun bs => D.int (countIn (.bool k) (bs.map .bool))) = some z := hz
      cases e : blsOf ds with
      | none => rw [e] at hz; cases hz
      | some bs =>
        rw [e] at hz
        cases hz
        obtain ⟨a', vs', ea, _, w1, w2⟩ := hx
        cases ea
        have e' := blsOf_some e
        rw [e'] at w2
        rw [w2.bls] at w1
        exact ⟨a, bs, k, rfl, rfl, .inl (.inl w1), want_opt h2 hz' I2 (fun a q => (s1.trans s2).dom q) (Ext.refl _ _) rfl⟩
    | _ => cases hz
  | _ => exact h1.elim
/-! ### isinstance(e, T), e.f -/
structure XcC (K : PySem.W.Frag) (C : Addr) : Prop where
  cl : (PySem.W.clsIn K C).isSome = true
  ga : PySem.W.findIn K (.ref C) "__getattribute__" = some (some (.builtin "BaseException.__getattribute__"))
  gt : PySem.W.findIn K (.ref C) "__getattr__" = some none
  sb : PySem.W.subIn K (.ref C) (.type "BaseException") = some true
  ca : PySem.W.findIn K (.ref C) "__class__" = some (some (.builtin "object.__class__"))
  gn : PySem.W.specialIn K (.builtin "object.__class__") "__get__" = some (some (.builtin "getset_descriptor.__get__"))
  tk : PySem.W.takesIn K (.builtin "object.__class__") = some true
  mo : PySem.W.mroIn K C (.type "object") = some true
/-- how the dict of the caught one lies -/
def DdAt (H : Hp) (d : Option Addr) : Prop := d = none ∨ ∃ dd fs, d = some dd ∧ H dd = some (.xd fs)
def rIsX (K : PySem.W.Frag) (a : Addr) (cls : Value) (d : Option Addr) : List V → Hp → VK → Prop := fun xs H Q => ∃ (C : Addr) (c : V) (cv : Value) (b : Bool), xs = [.ref a, c] ∧ cls = .ref C ∧ XcC K C ∧ DdAt H d ∧ (∀ u, RelV c u → u = cv) ∧ PySem.W.kitOne K cls cv = some b ∧ Q (.bl b) H
theorem call_isX {X : Cx} {a : Addr} {cls : Value} {d : Option Addr} {oe : Obj} {pn : List (Addr × Obj)} (hz : Zc cls d oe) (hf : ∃ vs, oe.data = .fields vs) : CallR (X.suite a ((a, oe) :: pn)) (.builtin "isinstance") (rIsX X.K a cls d) := by
  intro pins s σ H xs us Q I r h
  obtain ⟨C, c, cv, b, rfl, rfl, T, hd, hcv, e, q⟩ := h
  cases r with
  | cons rx rr =>
    cases rr with
    | cons rt rr =>
      cases rr
      cases rx
      cases hcv _ rt
      have hp := (I.pin (a, oe) (List.mem_append_left _ List.mem_cons_self)).1
      obtain ⟨vs, hv⟩ := hf
      have key : ∀ od, PySem.W.InstAt s.heap a oe C od → wpAny (model X.prog X.w) (X.suite a ((a, oe) :: pn)).A (call (.builtin "isinstance") [.ref a, cv]) (EP (X.suite a ((a, oe) :: pn)) pins σ Q) (X.suite a ((a, oe) :: pn)).xe s := fun od J =>
        PySem.W.kia_one (PySem.W.kitx_exc T.cl T.ga T.gt T.sb T.ca T.gn T.tk T.mo) I.kIn J e (fun z => nomatch z) fun tk => ⟨.bl b, H, I.kept (t' := tk) fun _ _ z => z, rfl, q⟩
      rcases hd with hd | ⟨dd, fs, hd, hx⟩
      · refine key none ?_
        obtain ⟨oc, oq, oda, osl⟩ := oe
        obtain ⟨h1, h2⟩ := hz
        dsimp only at h1 h2 hv
        subst h1 h2 hv hd
        exact ⟨hp, rfl, rfl, trivial⟩
      · obtain ⟨mA, hns, _⟩ : ObjOk X.prog X.w H s.heap dd (.xd fs) := I.hok dd _ hx
        obtain ⟨od, ho, _⟩ := lookIn_ns hns
        refine key (some od) ⟨hp, hz.1, by unfold PySem.W.notCls; rw [hv], ?_⟩
        rw [hz.2, hd]
        exact ho
def tXg (K : PySem.W.Frag) (a : Addr) (cls : Value) (d : Option Addr) (f : Str) (te : TE) : TE := fun σ H Q => te σ H fun x H1 => x = .ref a ∧ ∃ C, cls = .ref C ∧ XfC K C ∧ PySem.W.findIn K (.ref C) f = some none ∧ ∃ (dd : Addr) (fs : List (Str × V)) (v : V), d = some dd ∧ H1 dd = some (.xd fs) ∧ fs.lookup f = some v ∧ Q v H1
theorem pe_xg {X : Cx} {a : Addr} {oe : Obj} {cls : Value} {d : Option Addr} {pn : List (Addr × Obj)} {e : Expr} {te : TE} {pos : Pos} {n : Str} (hz : Zc cls d oe) (hf : ∃ vs, oe.data = .fields vs) (he : PE (X.suite a ((a, oe) :: pn)) e te)
    (hb : attributeBase e n X.env (eval e X.env) = eval e X.env := by rfl) : PE (X.suite a ((a, oe) :: pn)) (.Attribute e n pos) (tXg X.K a cls d n te) := by
  refine ⟨fun pins s σ H Q I h => attr_of hb (thn (he.run pins s σ H _ I h) fun w s1 z => ?_)⟩
  obtain ⟨x, H1, I1, rx, ex, C, ec, T, hno, dd, fs, v, ed, ea, l, q⟩ := z
  cases ex
  cases (show w = Value.ref a from rx)
  obtain ⟨zc, zd⟩ := hz
  rw [ec] at zc
  rw [ed] at zd
  have hp := (I1.pin (a, oe) (List.mem_append_left _ List.mem_cons_self)).1
  obtain ⟨ws, hw⟩ := hf
  obtain ⟨mA, hns, rel⟩ : ObjOk X.prog X.w H1 s1.heap dd (.xd fs) := I1.hok dd _ ea
  obtain ⟨od, ho, lk⟩ := lookIn_ns hns
  have rn := rel n
  rw [l] at rn
  obtain ⟨u, hu, ru⟩ := RelO.some_of rn
  have J : PySem.W.InstAt s1.heap a oe C (some od) := by
    refine ⟨hp, zc, ?_, ?_⟩
    · unfold PySem.W.notCls; rw [hw]
    · rw [zd]; exact ho
  have fo : PySem.W.findObj X.K C (some od) n = _ := PySem.W.findObj_own T.hdC hno rfl (by rw [lk, hu])
  exact HandSPX.exc_get I1.kIn J T.ga T.gg T.exC fo (handed_of ru) ⟨v, H1, I1.tok _, ru, q⟩
end
end Mir
/-! MirMc -/
/-! MirMc: the suite's mirrors; try: f() except C as e; defs that may raise. -/
namespace Mir
open PySem PySem.Spec PyProof.Rows L2
variable [Tbl]
def eBad : EM := fun _ => .bad
theorem ref_bad {S : Sc} {O P : List Nat} {E : XK} {μ : Mo} {fr : Bool} {t : TE} : RefE S O P E μ fr t eBad := fun _ _ _ _ _ _ _ h => h.elim
def eIsE (i : Nat) (b : Bool) : EM := fun env => match env[i]? with
  | some (some (.dic [.int 0, .int _] [])) => .ok (.bl b) env
  | _ => .bad
def eXf (i : Nat) (d : D) : EM := fun env => match env[i]? with
  | some (some (.dic [.int 0, .int _] [])) => if d.pure = true then .ok d env else .bad
  | _ => .bad
section
variable {S : Sc} {O P : List Nat} {E : XK} {μ : Mo} {fr : Bool} {i : Nat} {a : Addr} {Hc : Hp} {cls : Value} {d : Option Addr}
theorem held_at {R : Rx} {σ : L2.St} {H : Hp} {fp : Fp} {env : Env} {k : Int} (I : Rel (Sx S Hc a) O P R σ H fp env) (hO : i ∉ O) (h : env[i]? = some (some (.dic [.int 0, .int k] []))) : σ[i]? = some (some (.ref a)) := by
  obtain ⟨v, h1, h2⟩ := I.val i _ h hO
  rcases h2 with ⟨c, z, _⟩ | ⟨k, _, rfl⟩
  · cases z
  · exact h1
theorem ref_isX {C : Addr} {c : V} {cv : Value} {b : Bool} (hO : i ∉ O) (hcls : cls = .ref C) (T : XcC S.K C) (hd : DdAt Hc d) (hcv : ∀ u, RelV c u → u = cv) (hk : PySem.W.kitOne S.K (.ref C) cv = some b) :
    RefE (Sx S Hc a) O P E μ false (tCB (rIsX S.K a cls d) (tCons (tVar i) (tCons (tC c) tNil))) (eIsE i b) := by
  intro R σ H fp env I Q h
  unfold eIsE at h
  split at h
  · rename_i k e
    refine ⟨.ref a, held_at I hO e, C, c, cv, b, rfl, hcls, T, ?_, hcv, by rw [hcls]; exact hk, ?_⟩
    · refine hd.imp id fun ⟨dd, fs, e1, e2⟩ => ⟨dd, fs, e1, ?_⟩
      exact I.hbH.nil _ _ e2
    · exact h H fp I Stp.refl (.bl b) rfl (fun z => by cases z)
  · exact h.elim
theorem ref_xg {C dd : Addr} {f : Str} {fs : List (Str × V)} {v : V} {y : D} (hO : i ∉ O) (hcls : cls = .ref C) (T : XfC S.K C) (hno : PySem.W.findIn S.K (.ref C) f = some none) (hd : d = some dd) (hH : Hc dd = some (.xd fs)) (hl : fs.lookup f = some v) (hv : Rep S Nil Hc y v) :
    RefE (Sx S Hc a) O P E μ false (tXg S.K a cls d f (tVar i)) (eXf i y) := by
  intro R σ H fp env I Q h
  unfold eXf at h
  split at h
  · rename_i k e
    split at h
    · rename_i hp
      refine ⟨.ref a, held_at I hO e, rfl, C, hcls, T, hno, dd, fs, v, hd, I.hbH.nil _ _ hH, hl, ?_⟩
      have r : Rep (Sx S Hc a) (FM R fp μ) H y v := rep_pure _ _ hp (rep_conv (S := S) (S' := Sx S Hc a) rfl rfl rfl _ _ (pure_nof _ hp) (hv.grow I.hbH))
      exact h H fp I Stp.refl v r (fun z => by cases z)
    · exact h.elim
  · exact h.elim
end
/-! ### try: f() except C as e -/
def sTryV (j i : Nat) (m : DM) (h : Exn → SM) : SM := fun env => match env[j]? with
  | some (some (.dic [.int 0, .int _] [])) => (match m [] with
    | .ok _ => .next env
    | .exc x => (match h x ((List.replicate env.length none).set i (some (fnTag 0))) with
      | .ret d _ => if d.pure = true ∧ i < env.length then .ret d env else .bad
      | _ => .bad)
    | .bad => .bad)
  | _ => .bad
section
variable {S : Sc} {E : XK} {f : Addr} {i j : Nat} {m : DM} {h : Exn → SM} {c : Value} {Wout : WX} {ts : Addr → Value → Option Addr → TS}
theorem rs_tryV (hl : ∀ k, S.lf k = f) (hs : ∀ (x : Exn) (a : Addr) (cls : Value) (dd : Option Addr) (Hc : Hp), ExcR S Hc x cls dd → RefS (Sx S Hc a) [] [] E false (ts a cls dd) (h x))
    (hx : ∀ (x : Exn) (e : Env), (∃ d e', h x e = .ret d e') → PySem.W.exmOne S.K (.ref (S.ca x.c)) c = some true) :
    RefS S [] [] E false (fun D σ H => tDrop (tCallV0 j f (spD S 0 m) (WE (wAs S.K c i ts Wout D))) D σ H) (sTryV j i m h) := by
  intro R σ H fp env I D hw
  unfold sTryV at hw
  split at hw
  case h_2 => exact hw.elim
  rename_i k e
  obtain ⟨v, h1, h2⟩ := I.val j _ e (fun z => nomatch z)
  have hv : v = .ref f := by
    rcases h2 with ⟨c, z, _⟩ | ⟨k, _, rfl⟩
    · cases z
    · rw [hl]
  refine ⟨by rw [h1, hv], Nil, [], rfl, fun a z => z.elim, rfl, ?_, I.tb, I.hbH⟩
  cases q : m [] with
  | bad => rw [q] at hw; exact hw
  | ok y =>
    rw [q] at hw
    exact fun v H1 ex => hw σ H1 fp (I.grow ex) (Fwd.grow ex)
  | exc x =>
    rw [q] at hw
    intro cls dd H1 ex xr
    dsimp only at hw
    cases q2 : h x ((List.replicate env.length none).set i (some (fnTag 0))) with
    | ret d e' =>
      rw [q2] at hw
      dsimp only at hw
      split at hw
      case isFalse => exact hw.elim
      rename_i hp
      obtain ⟨hp, hi⟩ := hp
      refine ⟨true, ?_, fun _ a ha => ?_, fun z => nomatch z⟩
      · rw [xr.1]; exact hx x _ ⟨d, e', q2⟩
      · refine hs x a cls dd H1 xr ⟨Nil, Nil, H1⟩ (σ.set i (some (.ref a))) H1 (fun _ => []) ((List.replicate env.length none).set i (some (fnTag 0))) ?_ _ ?_
        · have hlen := I.len
          refine ⟨by simp [hlen], fun k d' h3 h4 => ?_, fun k d' h3 h4 => (by cases h4), fun k _ => rfl, fun k l b z => (by cases z), fun k => List.nodup_nil, fun k b z => (by cases z), Ext.refl _ _, fun b z => z.elim, fun k b z => (by cases z), fun b z => z, fun b z => z.elim, tb_ext ex I.tb, ⟨Ext.refl _ _, fun b z => z.elim⟩⟩
          by_cases ek : i = k
          · subst ek
            rw [List.getElem?_set_self (by simpa using hi)] at h3
            cases h3
            exact ⟨.ref a, by rw [List.getElem?_set_self (by rw [← hlen]; exact hi)], .inr ⟨0, rfl, rfl⟩⟩
          · rw [List.getElem?_set_ne ek, List.getElem?_replicate] at h3
            split at h3
            · cases h3
            · cases h3
        · rw [q2]
          intro σ2 v2 H2 f2 I2 w2 r2
          have ex2 : Ext Nil H1 H2 := I2.ext
          have r3 : Rep S R.G H2 d v2 := rep_pure _ _ hp (rep_conv (S := Sx S H1 a) (S' := S) rfl rfl rfl _ _ (pure_nof _ hp) r2)
          exact hw σ v2 H2 fp ((I.grow ex).grow ex2) ((Fwd.grow ex).trans (Fwd.grow ex2)) r3
    | _ => rw [q2] at hw; exact hw.elim
end
/-! ### defs that may raise -/
theorem passX {X : Cx} {E : XK} {E₁ : Value → Shared → Prop} (hs : X.stack = X.env :: X.outer) (hf : X.env.frame = some X.env.locals) (hex : X.ex = []) (hx : X.xe = fun e s' => wpAny (model X.prog X.w) X.A (leaving X.env e) (fun _ s'' => L2.CX X.prog X.w X.outer X.H_0 X.s_0 E e s'') E₁ s') : Passes (L2.CX X.prog X.w) X E :=
  passes_call (takes_of hs hf hex hx) fun _ _ _ _ h => h
section
variable {P : Program} {w : World} {K : PySem.W.Frag} {mg : Str → Option Value} {base : Heap} {S : Sc}
theorem fnDX_ok {x qual : Str} {params : Arguments} {body : List Stmt} {scope : Scope} {dvs : List V} {kws : List (Str × V)} {f : Addr} {fd : FuncData} {N ps : List Str} {k : Nat} {fr : Bool} {O : List Nat} {m : SM} (F : FunD K x qual params body scope dvs kws f fd) (sc : FnScope N ps scope) (hN : ps.length ≤ N.length) (hO : ∀ i ∈ O, ps.length ≤ i)
    (hb : ∀ (cdv : Value) (A : Around) (outer : List PySem.Env) (s : Shared) (H : Hp) (E : XK), Room k (A.deeper (envOfC qual scope s.heap.objs.size f cdv)) →
      ∃ t, PSs (cxOf (L2.CX P w) P w K mg base N qual scope f cdv A outer s H E) body t ∧ RefS S O [] E fr t m) :
    FnOk P w K mg base (L2.CX P w) (k + 1) f fd ps (spM S fr ps.length (runF fr ps.length N.length m)) := by
  obtain ⟨oc, od, dV, kV, doc, pm, an, cdv, ct, osl, rfl, lk, hcd, _, _⟩ := F.ex
  refine fn_of lk hcd sc (fun vs H Q E h => h.choose_spec.choose_spec.1) fun A outer s H vs Q E hr hsp => ?_
  obtain ⟨t, h1, h2⟩ := hb cdv A outer s H E hr
  exact ⟨t, h1, body_ok h2 hN hO hsp⟩
theorem fnDX_ok0 {x qual : Str} {params : Arguments} {body : List Stmt} {scope : Scope} {dvs : List V} {kws : List (Str × V)} {f : Addr} {fd : FuncData} {N ps : List Str} {k : Nat} {O : List Nat} {m : SM} (F : FunD K x qual params body scope dvs kws f fd) (sc : FnScope N ps scope) (hN : ps.length ≤ N.length) (hO : ∀ i ∈ O, ps.length ≤ i)
    (hb : ∀ (cdv : Value) (A : Around) (outer : List PySem.Env) (s : Shared) (H : Hp) (E : XK), Room k (A.deeper (envOfC qual scope s.heap.objs.size f cdv)) →
      ∃ t, PSs (cxOf (L2.CX P w) P w K mg base N qual scope f cdv A outer s H E) body t ∧ RefS S (0 :: O) [0] E false t m) :
    FnOk P w K mg base (L2.CX P w) (k + 1) f fd ps (spM0 S ps.length (runF0 ps.length N.length m)) := by
  obtain ⟨oc, od, dV, kV, doc, pm, an, cdv, ct, osl, rfl, lk, hcd, _, _⟩ := F.ex
  refine fn_of lk hcd sc (fun vs H Q E h => ?_) fun A outer s H vs Q E hr hsp => ?_
  · obtain ⟨G, d0, ds, a, us, l, _, h, _⟩ := h
    exact h
  · obtain ⟨t, h1, h2⟩ := hb cdv A outer s H E hr
    exact ⟨t, h1, body_ok0 h2 hN hO hsp⟩
end
end Mir
/-! MirMd -/
/-! MirMd: suites told class by class; a call of a def that may raise, where it does not. -/
namespace Mir
open PySem PySem.Spec PyProof.Rows L2
variable [Tbl]
def hOf (L : List (Nat × (List D → SM))) : Exn → SM := fun x => match L.find? (fun p => decide (p.1 = x.c)) with
  | some p => p.2 x.ds
  | none => sBad
theorem DdAt.of {S : Sc} {H : Hp} {x : Exn} {cls : Value} {dd : Option Addr} (h : ExcR S H x cls dd) : DdAt H dd := by
  rcases h.2 with ⟨_, h⟩ | ⟨b, fs, h1, h2, _⟩
  · exact .inl h
  · exact .inr ⟨b, fs, h1, h2⟩
def eXg (i j : Nat) (ds : List D) : EM := match ds[j]? with
  | some d => eXf i d
  | none => eBad
section
variable {S : Sc} {O P : List Nat} {E : XK} {μ : Mo} {fr : Bool} {i j : Nat} {a : Addr} {Hc : Hp} {cls : Value} {d : Option Addr}
theorem ref_xgX {x : Exn} {C : Addr} {f : Str} (hO : i ∉ O) (hcls : cls = .ref C) (T : XfC S.K C) (hno : PySem.W.findIn S.K (.ref C) f = some none) (xr : ExcR S Hc x cls d) (hf : (S.fn x.c)[j]? = some f) (nd : (S.fn x.c).Nodup) :
    RefE (Sx S Hc a) O P E μ false (tXg S.K a cls d f (tVar i)) (eXg i j x.ds) := by
  unfold eXg
  cases q : x.ds[j]? with
  | none => exact ref_bad
  | some y =>
    rcases xr.2 with ⟨h, _⟩ | ⟨b, fs, h1, h2, h3, h4⟩
    · rw [h] at q; cases q
    · obtain ⟨v, e1, e2⟩ := h4.get q
      exact ref_xg hO hcls T hno h1 h2 (lookup_at (by rw [h3]; exact nd) (by rw [h3]; exact hf) e1) e2
end
section
variable {S : Sc} {E : XK} {f : Addr} {i j : Nat} {m : DM} {c : Value} {Wout : WX} {ts : Addr → Value → Option Addr → TS} {L : List (Nat × (List D → SM))}
theorem rs_tryL (hl : ∀ k, S.lf k = f) (hs : ∀ p ∈ L, ∀ (x : Exn) (a : Addr) (cls : Value) (dd : Option Addr) (Hc : Hp), x.c = p.1 → ExcR S Hc x cls dd → RefS (Sx S Hc a) [] [] E false (ts a cls dd) (p.2 x.ds))
    (hx : ∀ p ∈ L, PySem.W.exmOne S.K (.ref (S.ca p.1)) c = some true) :
    RefS S [] [] E false (fun D σ H => tDrop (tCallV0 j f (spD S 0 m) (WE (wAs S.K c i ts Wout D))) D σ H) (sTryV j i m (hOf L)) := by
  refine rs_tryV hl (fun x a cls dd Hc xr => ?_) fun x e h => ?_
  · unfold hOf
    cases q : L.find? (fun p => decide (p.1 = x.c)) with
    | none => exact fun _ _ _ _ _ _ _ h => h.elim
    | some p =>
      have q2 := List.find?_some q
      exact hs p (List.mem_of_find?_eq_some q) x a cls dd Hc (of_decide_eq_true q2).symm xr
  · obtain ⟨d, e', h⟩ := h
    unfold hOf at h
    cases q : L.find? (fun p => decide (p.1 = x.c)) with
    | none => rw [q] at h; cases h
    | some p =>
      have := hx p (List.mem_of_find?_eq_some q)
      have q2 := List.find?_some q
      rw [of_decide_eq_true q2] at this
      exact this
end
/-! where nothing is raised -/
def eNX (m : EM) : EM := fun env => (m env).noX
theorem ref_nx {S : Sc} {O P : List Nat} {E : XK} {μ : Mo} {fr : Bool} {t : TE} {m : EM} (h : RefE S O P E0 μ fr t m) : RefE S O P E μ fr t (eNX m) := by
  intro R σ H fp env I Q hw
  refine h R σ H fp env I Q ?_
  unfold eNX at hw
  cases q : m env with
  | bad => rw [q] at hw; exact hw
  | exc x e => rw [q] at hw; exact hw.elim
  | ok d e => rw [q] at hw; exact hw
theorem t_nx {m : EM} {env e1 : Env} {d : D} (h : m env = .ok d e1) : eNX m env = .ok d e1 := by
  unfold eNX
  rw [h]
  rfl
/-! rules in a suite, their readings told at the outer context -/
section
variable {X : Cx} {a : Addr} {pn : List (Addr × Obj)}
theorem op_eqXS (hu : X.A.units + 64 < cLine) : OpR (X.suite a pn) (compareOp .Eq) (rEqX X.K) := op_eqX (X := X.suite a pn) hu
theorem op_neXS (hu : X.A.units + 64 < cLine) : OpR (X.suite a pn) (compareOp .NotEq) (rNeX X.K) := op_neX (X := X.suite a pn) hu
theorem op_inXS (hu : X.A.units + 65 < cLine) : OpR (X.suite a pn) (compareOp .In) (rInX X.K) := op_inX (X := X.suite a pn) hu
theorem op_addXS : OpR (X.suite a pn) (binaryOp .Add) (rAddX X.K) := op_addX (X := X.suite a pn)
theorem mt_cntBS : MtR (X.suite a pn) "list.count" (rCntB X.K) := mt_cntB (X := X.suite a pn)
theorem mt_indexDS (hu : X.A.units + 65 < cLine) : MtR (X.suite a pn) "list.index" (rIndexD X.K) := mt_indexD (X := X.suite a pn) hu
theorem ix_seqS : IxR (X.suite a pn) (rIx X.K) := ix_seq (X := X.suite a pn)
variable {o e : Expr} {es : List Expr} {to : TE} {t : TA} {name : Str} {apos cpos : Pos} {T id : String} {r : V → List V → Hp → VK → Prop}
theorem pe_bmS (pa : PlainAttrs T) (slot : Slot T name id) (hty : typeOf (.builtin id) = pure (.type "method_descriptor")) (hm : MtR (X.suite a pn) id r) (ho : PE (X.suite a pn) o to) (ha : PA (X.suite a pn) (e :: es) t)
    (hbase : attributeBase o name X.env (eval o X.env) = eval o X.env := by rfl)
    (hfew : (((backTo cpos (starEach (e :: es) X.env)).all fun x => !x.1) && ((backToKw cpos (keywordEach [] X.env)).all fun x => x.1.isSome) && decide ((e :: es).length + ([] : List Keyword).length + (if ([] : List Keyword).isEmpty then 0 else 1) < 30)) = true := by rfl)
    (hline : (apos.endLine == cpos.line) = true := by rfl) (hs : starEach (e :: es) X.env = (false, eval e X.env) :: starEach es X.env := by rfl) (hpl : (backTo cpos (starEach es X.env)).any (·.1) = false := by rfl) :
    PE (X.suite a pn) (.Call (.Attribute o name apos) (e :: es) [] cpos) (tBM X.K T r to t) := pe_bm (X := X.suite a pn) pa slot hty hm ho ha hbase hfew hline hs hpl
end
theorem cl_of {K : PySem.W.Frag} {C : Addr} (h : PySem.W.hasDictIn K C = true) : (PySem.W.clsIn K C).isSome = true := by
  obtain ⟨cd, hc, _⟩ := PySem.W.any_some h
  rw [hc]
  rfl
theorem kit_ref {K : PySem.W.Frag} {C T : Addr} {b : Bool} (hs : PySem.W.subIn K (.ref C) (.ref C) = some true) (hd : PySem.W.hasDictIn K T = true) (ty : PySem.W.typeIn K (.ref T) = some (.type "type")) (h : PySem.W.subIn K (.ref C) (.ref T) = some b) : PySem.W.kitOne K (.ref C) (.ref T) = some b := by
  unfold PySem.W.kitOne
  by_cases e : ((Value.ref C) == (Value.ref T)) = true
  · rw [if_pos e]
    have := Value.ref.inj (beq_iff_eq.mp e)
    subst this
    rw [← h, hs]
  · rw [if_neg e]
    show (if ((PySem.W.clsIn K T).isSome && PySem.W.typeIn K (.ref T) == some (.type "type")) = true then PySem.W.subIn K (.ref C) (.ref T) else none) = _
    rw [cl_of hd, ty]
    exact h
theorem kit_blt {K : PySem.W.Frag} {C : Addr} {T : String} {b : Bool} (hm : PySem.W.kitMeta T = true) (h : PySem.W.subIn K (.ref C) (.type T) = some b) : PySem.W.kitOne K (.ref C) (.type T) = some b := by
  unfold PySem.W.kitOne
  have e : ((Value.ref C) == (Value.type T)) = false := rfl
  rw [e]
  show (if PySem.W.kitMeta T = true then PySem.W.subIn K (.ref C) (.type T) else none) = _
  rw [if_pos hm]
  exact h
theorem refsVE_base {a : Addr} : PySem.HandSPX.refsVE [.ref a, .type "ValueError", .type "Exception", .type "BaseException", .type "object"] = true := by
  show PySem.HandSPX.refsVE [.type "ValueError", .type "Exception", .type "BaseException", .type "object"] = true
  decide +kernel
theorem mem_nil {α : Type} {p : α → Prop} : ∀ x ∈ ([] : List α), p x := fun _ m => nomatch m
end Mir
/-! MirMe -/
/-! MirMe: reading an own list in full: xs[i], xs + [..], xs an own slot, whatever its items are. -/
namespace Mir
open PySem PySem.Spec PyProof.Rows L2
variable [Tbl]
def eOIx (i : Nat) (b : EM) : EM := fun env => (b env).bind fun y e => match e[i]? with
  | some (some (.lst ds)) => (match y with
    | .int k => .opt (atI ds k) e
    | _ => .bad)
  | _ => .bad
def eOCat (i : Nat) (b : EM) : EM := fun env => (b env).bind fun y e => match e[i]? with
  | some (some (.lst ds)) => (match y with
    | .lst es => if ds.length + es.length ≤ 100000 then .ok (.lst (ds ++ es)) e else .bad
    | _ => .bad)
  | _ => .bad
section
variable {S : Sc} {O P : List Nat} {E : XK} {fb : Bool} {tb : TE} {mb : EM} {i : Nat}
theorem Rel.slot {R : Rx} {σ : L2.St} {H : Hp} {fp : Fp} {env : Env} (I : Rel S O P R σ H fp env) (h : i < env.length) (n : ∃ x, σ[i]? = some (some x)) : ∃ x, σ[i]? = some (some x) := n
theorem ref_oix (hO : i ∈ O) (hb : RefE S O P E none fb tb mb) : RefE S O P E none false (fun σ H Q => tOp (rIx S.K) (tVar i) tb σ H Q) (fun env => match env[i]? with
    | some (some (.lst _)) => eOIx i mb env
    | _ => .bad) := by
  intro R σ H fp env I Q h
  dsimp only at h
  split at h
  case h_2 => exact h.elim
  rename_i ds0 e0
  obtain ⟨a, hs, _⟩ := I.own i _ e0 hO
  refine ⟨.ref a, hs, ?_⟩
  refine hb R σ H fp env I _ ((Want.bind h).mono fun y e1 H1 f1 I1 s1 h1 u hu _ => ?_)
  split at h1
  case h_2 => exact h1.elim
  rename_i ds e2
  obtain ⟨a', hs', hw⟩ := I1.own i _ e2 hO
  rw [hs] at hs'
  cases hs'
  obtain ⟨_, vs, hH, hr⟩ := hw
  cases y with
  | int k =>
    cases (show u = V.int k from hu.rep)
    obtain ⟨z, hz⟩ := want_some h1
    obtain ⟨w, ew, rw'⟩ := atI_rep hr hz
    exact .inl ⟨a, vs, k, w, rfl, rfl, .inl (.inl hH), ew, want_opt h1 hz I1 (fun a q => s1.dom q) (Ext.refl _ _) rw'⟩
  | _ => exact h1.elim
theorem ref_ocat (hO : i ∈ O) (hb : RefE S O P E none fb tb mb) : RefE S O P E none true (fun σ H Q => tOp rCat (tVar i) tb σ H Q) (fun env => match env[i]? with
    | some (some (.lst _)) => eOCat i mb env
    | _ => .bad) := by
  intro R σ H fp env I Q h
  dsimp only at h
  split at h
  case h_2 => exact h.elim
  rename_i ds0 e0
  obtain ⟨a, hs, _⟩ := I.own i _ e0 hO
  refine ⟨.ref a, hs, ?_⟩
  refine hb R σ H fp env I _ ((Want.bind h).mono fun y e1 H1 f1 I1 s1 h1 u hu _ => ?_)
  split at h1
  case h_2 => exact h1.elim
  rename_i ds e2
  obtain ⟨a', hs', hw⟩ := I1.own i _ e2 hO
  rw [hs] at hs'
  cases hs'
  obtain ⟨_, vs, hH, hr⟩ := hw
  cases y with
  | lst es =>
    dsimp only at h1
    obtain ⟨b, us, rfl, nb, hb2, hr2⟩ := hu.rep
    split at h1
    · rename_i hl
      refine ⟨a, b, vs, us, rfl, rfl, hH, hb2, by rw [hr.length, hr2.length]; exact sz_of hl, fun p hp => ?_⟩
      refine want_opt (o := some (.lst (ds ++ es))) h1 rfl I1 (fun a q => s1.dom q) (Ext.new hp) ⟨p, _, _, rfl, hp, rfl, upd_same, fun z => I1.fm z hp, ?_⟩
      exact ((hr.append hr2).less fun x z => z.imp id fun e => by rw [e]; exact hp).grow (Ext.new hp)
    · exact h1.elim
  | _ => exact h1.elim
end
/-- the mirrors: the slot must hold a list at first, too -/
def eOwnIx (i : Nat) (b : EM) : EM := fun env => match env[i]? with
  | some (some (.lst _)) => eOIx i b env
  | _ => .bad
def eOwnCat (i : Nat) (b : EM) : EM := fun env => match env[i]? with
  | some (some (.lst _)) => eOCat i b env
  | _ => .bad
section
variable {S : Sc} {O P : List Nat} {E : XK} {fb : Bool} {tb : TE} {mb : EM} {i : Nat}
theorem ref_ownIx (hO : i ∈ O) (hb : RefE S O P E none fb tb mb) : RefE S O P E none false (tOp (rIx S.K) (tVar i) tb) (eOwnIx i mb) := ref_oix hO hb
theorem ref_ownCat (hO : i ∈ O) (hb : RefE S O P E none fb tb mb) : RefE S O P E none true (tOp rCat (tVar i) tb) (eOwnCat i mb) := ref_ocat hO hb
end
section
variable {env e1 : Env} {mb : EM} {i : Nat} {ds0 ds es : List D} {d : D} {k : Int}
theorem t_ownIx (h0 : env[i]? = some (some (.lst ds0))) (hb : mb env = .ok (.int k) e1) (h1 : e1[i]? = some (some (.lst ds))) (hd : atI ds k = some d) : eOwnIx i mb env = .ok d e1 := by
  unfold eOwnIx eOIx
  rw [h0]
  dsimp only
  rw [hb, Out.bind_ok, h1]
  dsimp only
  rw [hd]
  rfl
theorem t_ownCat (h0 : env[i]? = some (some (.lst ds0))) (hb : mb env = .ok (.lst es) e1) (h1 : e1[i]? = some (some (.lst ds))) (hl : ds.length + es.length ≤ 100000) : eOwnCat i mb env = .ok (.lst (ds ++ es)) e1 := by
  unfold eOwnCat eOCat
  rw [h0]
  dsimp only
  rw [hb, Out.bind_ok, h1]
  dsimp only
  rw [if_pos hl]
end
end Mir
/-! A08 -/
namespace K08
open PySem PySem.Spec PyProof.Rows L2 Mir
noncomputable section
def c_MAX_PERSONS : D := (.int 6)
def c_LENGTHS : D := (.tup [(.int 1), (.int 2), (.int 3), (.int 4), (.int 6), (.int 8), (.int 12), (.int 24)])
def c_MAX_KEYS : D := (.int 9)
def c_MAX_REMINDERS : D := (.int 10)
def c_HOME : D := (.str "h")
def c_OUT : D := (.str "o")
def dd_House__init__2 : List D := [(.tup []), (.tup [])]
def b_is_int_in : SM := (sRet (eAndV (e1 (oIsi "int") (eVar 0)) (eAndV (eNotV (e1 (oIsi "bool") (eVar 0))) (eChain oLeI oLeI (eVar 1) (eVar 0) (eVar 2)))))
def d_is_int_in : DM := runF false 3 3 b_is_int_in
def b_is_table : SM := (sSeq (sIf (mOr (mNot (mTest (e1 (oIsi "str") (eVar 0)))) (mTest (e2 oNotIn (eA (A1 oLen) (aCons (eVar 0) aNil)) (eC c_LENGTHS)))) (sRet (eC (.bl false))) sNext)
  (sRet (eA (A1 oAll) (aCons (eLc [1] (iSeqM (eVar 0)) (gSet 1) mYes (e2 oIn (eVar 1) (eTup (aCons (eC c_HOME) (aCons (eC c_OUT) aNil))))) aNil))))
def d_is_table : DM := runF false 1 2 b_is_table
def b_common_multiple : SM := (sSeq (sAsg (eVar 0) (gSet 2))
  (sSeq (sWhile (mTest (e2 oNe (e2 oMul (e2 oFdiv (eVar 2) (eVar 1)) (eVar 1)) (eVar 2))) (sAug 2 (eVar 0) (· + ·)))
  (sRet (eVar 2))))
def d_common_multiple : DM := runF false 2 3 b_common_multiple
def b_check_persons : SM := (sSeq (sIf (mNot (mTest (e1 (oIsi "tuple") (eVar 1)))) (sRaise 1 2 (aCons (eVar 0) (aCons (eC (.int 0)) aNil))) sNext)
  (sFor (iEnumT (eVar 1)) (gTupleM [(gSet 3), (gSet 4)]) (sIf (mOr (mNot (mTest (eCall d_is_int_in [] (aCons (eVar 4) (aCons (eC (.int 0)) (aCons (e2 oSub (eVar 2) (eC (.int 1))) aNil)))))) (mAnd (mTest (e2 oGtI (eVar 3) (eC (.int 0)))) (mTest (e2 oLe (eVar 4) (e2 oIx (eVar 1) (e2 oSub (eVar 3) (eC (.int 1)))))))) (sRaise 1 2 (aCons (eVar 0) (aCons (eVar 3) aNil))) sNext)))
def d_check_persons : DM := runF false 3 5 b_check_persons
def b_is_reminder : SM := (sSeq (sIf (mOr (mNot (mTest (e1 (oIsi "tuple") (eVar 0)))) (mTest (e2 oNe (eA (A1 oLen) (aCons (eVar 0) aNil)) (eC (.int 2))))) (sRet (eC (.bl false))) sNext)
  (sRet (eAndV (eCall d_is_int_in [] (aCons (e2 oIx (eVar 0) (eC (.int 0))) (aCons (eC (.int 0)) (aCons (e2 oSub (eVar 1) (eC (.int 1))) aNil)))) (eCall d_is_int_in [] (aCons (e2 oIx (eVar 0) (eC (.int 1))) (aCons (eC (.int 0)) (aCons (e2 oSub (eVar 2) (eC (.int 1))) aNil)))))))
def d_is_reminder : DM := runF false 3 3 b_is_reminder
def b_House__init_ : SM := (sSeq (sIf (mOr (mNot (mTest (e1 (oIsi "tuple") (eVar 1)))) (mTest (e2 oEq (eVar 1) (eTup aNil)))) (sRaise 1 2 (aCons (eC (.str "tables")) (aCons (eC (.int 0)) aNil))) sNext)
  (sSeq (sAsg (eC (.int 1)) (gSet 5))
  (sSeq (sFor (iEnumT (eVar 1)) (gTupleM [(gSet 6), (gSet 7)]) (sSeq (sIf (mOr (mTest (e2 oEq (eVar 6) (eC c_MAX_PERSONS))) (mNot (mTest (eCall d_is_table [] (aCons (eVar 7) aNil))))) (sRaise 1 2 (aCons (eC (.str "tables")) (aCons (eVar 6) aNil))) sNext)
  (sAsg (eCall d_common_multiple [] (aCons (eVar 5) (aCons (eA (A1 oLen) (aCons (eVar 7) aNil)) aNil))) (gSet 5))))
  (sSeq (sIf (mNot (mTest (eCall d_is_int_in [] (aCons (eVar 2) (aCons (eC (.int 0)) (aCons (eC c_MAX_KEYS) aNil)))))) (sRaise 1 2 (aCons (eC (.str "keys")) (aCons (eC (.int 0)) aNil))) sNext)
  (sSeq (sDrop (eCall d_check_persons [] (aCons (eC (.str "careful")) (aCons (eVar 3) (aCons (eA (A1 oLen) (aCons (eVar 1) aNil)) aNil)))))
  (sSeq (sIf (mNot (mTest (e1 (oIsi "tuple") (eVar 4)))) (sRaise 1 2 (aCons (eC (.str "reminders")) (aCons (eC (.int 0)) aNil))) sNext)
  (sSeq (sFor (iEnumT (eVar 4)) (gTupleM [(gSet 6), (gSet 8)]) (sSeq (sIf (mOr (mTest (e2 oEq (eVar 6) (eC c_MAX_REMINDERS))) (mNot (mTest (eCall d_is_reminder [] (aCons (eVar 8) (aCons (eVar 5) (aCons (eA (A1 oLen) (aCons (eVar 1) aNil)) aNil))))))) (sRaise 1 2 (aCons (eC (.str "reminders")) (aCons (eVar 6) aNil))) sNext)
  (sIf (mAnd (mTest (e2 oGtI (eVar 6) (eC (.int 0)))) (mTest (e2 oLe (eVar 8) (e2 oIx (eVar 4) (e2 oSub (eVar 6) (eC (.int 1))))))) (sRaise 1 2 (aCons (eC (.str "reminders")) (aCons (eVar 6) aNil))) sNext)))
  (sSeq (sSetFld 0 0 0 (eVar 1))
  (sSeq (sSetFld 0 0 1 (eVar 2))
  (sSeq (sSetFld 0 0 2 (eVar 3))
  (sSeq (sSetFld 0 0 3 (eVar 4))
  (sSetFld 0 0 4 (eVar 5)))))))))))))
def d_House__init_ : DM0 := runF0 5 9 b_House__init_
def b_House_period : SM := (sRet (eFld 0 4 (eVar 0)))
def d_House_period : DM := runF false 1 1 b_House_period
def b_law_below : SM := (sSeq (sIf (mAnd (mTest (e2 oEq (e2 oIx (eVar 0) (eC (.int 1))) (eC (.int 0)))) (mTest (e2 oGtI (eA (A1 oLen) (aCons (eVar 0) aNil)) (eC (.int 2))))) (sSetIx 0 1 (ePopAt 0 2)) sNext)
  (sSeq (sIf (mTest (e2 oGtI (e2 oIx (eVar 0) (eC (.int 1))) (eC (.int 0)))) (sSeq (sAsg (eUp (e2 oMod (e2 oIx (eVar 0) (eC (.int 1))) (eVar 1))) (gSet 2))
  (sSeq (sSetIx 0 1 (eUp (e2 oFdiv (e2 oIx (eVar 0) (eC (.int 1))) (eVar 1))))
  (sRet (eVar 2)))) sNext)
  (sSeq (sSetIx 0 0 (eUp (e2 oMod (e2 oAdd (e2 oMul (e2 oIx (eVar 0) (eC (.int 0))) (eC (.int 48271))) (eC (.int 11))) (eC (.int 2147483647)))))
  (sRet (eUp (e2 oMod (e2 oFdiv (e2 oIx (eVar 0) (eC (.int 0))) (eC (.int 64))) (eVar 1)))))))
def d_law_below : DM0 := runF0 2 3 b_law_below
def b_law_table : SM := (sSeq (sAsg (e2 oIx (eLst (aCons (eC (.int 1)) (aCons (eC (.int 2)) (aCons (eC (.int 3)) (aCons (eC (.int 4)) (aCons (eC (.int 4)) (aCons (eC (.int 6)) (aCons (eC (.int 8)) (aCons (eC (.int 12)) (aCons (eC (.int 24)) aNil)))))))))) (eCallO d_law_below 0 (aCons (e2 oIx (eLst (aCons (eC (.int 5)) (aCons (eC (.int 7)) (aCons (eC (.int 9)) aNil)))) (eCallO d_law_below 0 (aCons (eC (.int 3)) aNil))) aNil))) (gSet 1))
  (sRet (eM1 oJoin (eC (.str "")) (eLc [2] (iRng1M (aCons (eVar 1) aNil)) (gSet 2) mYes (e2 oIx (eC (.str "ho")) (eCallO d_law_below 0 (aCons (eC (.int 2)) aNil)))))))
def d_law_table : DM0 := runF0 1 3 b_law_table
def b_law_length : SM := (sSeq (sAsg (eC (.int 1)) (gSet 1))
  (sSeq (sWhile (mTest (e2 oNe (eLc [2] (iSeqM (eVar 0)) (gSet 2) (mTest (e2 oGtI (e2 oMod (eVar 1) (eA (A1 oLen) (aCons (eVar 2) aNil))) (eC (.int 0)))) (eVar 2)) (eLst aNil))) (sAsg (e2 oAdd (eVar 1) (eC (.int 1))) (gSet 1)))
  (sRet (eVar 1))))
def d_law_length : DM := runF false 1 3 b_law_length
def b_law_parts : SM := (sSeq (sAsg (eA (A1 oTuple) (aCons (eLc [4] (iRng1M (aCons (e2 oAdd (eC (.int 1)) (eCallO d_law_below 0 (aCons (eVar 1) aNil))) aNil)) (gSet 4) mYes (eCallO d_law_table 0 aNil)) aNil)) (gSet 2))
  (sSeq (sAsg (eA (A1 oTuple) (aCons (eLc [4] (iRng1M (aCons (eA (A1 oLen) (aCons (eVar 2) aNil)) aNil)) (gSet 4) (mTest (e2 oEq (eCallO d_law_below 0 (aCons (eC (.int 3)) aNil)) (eC (.int 0)))) (eVar 4)) aNil)) (gSet 3))
  (sSeq (sParO 5 (eCall d_law_length [] (aCons (eVar 2) aNil)) 6 (eLst aNil))
  (sSeq (sFor (iRng1M (aCons (eCallO d_law_below 0 (aCons (e2 oIx (eLst (aCons (eC (.int 1)) (aCons (eC (.int 4)) (aCons (eC (.int 11)) aNil)))) (eCallO d_law_below 0 (aCons (eC (.int 3)) aNil))) aNil)) aNil)) (gSet 4) (sSeq (sAsg (eTup (aCons (eCallO d_law_below 0 (aCons (eVar 5) aNil)) (aCons (eCallO d_law_below 0 (aCons (eA (A1 oLen) (aCons (eVar 2) aNil)) aNil)) aNil))) (gSet 7))
  (sIf (mTest (e2 oNotIn (eVar 7) (eVar 6))) (sApp 6 (eVar 7)) sNext)))
  (sRet (eTup (aCons (eVar 2) (aCons (eCallO d_law_below 0 (aCons (e2 oIx (eLst (aCons (eC (.int 3)) (aCons (eC (.int 10)) aNil))) (eCallO d_law_below 0 (aCons (eC (.int 2)) aNil))) aNil)) (aCons (eVar 3) (aCons (eUp (eA (A1 oTuple) (aCons (eA (A1 oSort) (aCons (eVar 6) aNil)) aNil))) aNil))))))))))
def d_law_parts : DM0 := runF0 2 8 b_law_parts
def b_law_error_of (ft : DM) : SM := (sSeq (sTryV 0 1 ft (hOf [(1, fun ds => (sSeq (sAsg (eLst (aCons (eIsE 1 false) (aCons (eIsE 1 false) (aCons (eIsE 1 false) aNil)))) (gSet 2))
  (sSeq (sAsg (e2 oAdd (eVar 2) (eLst (aCons (eIsE 1 false) (aCons (eIsE 1 false) (aCons (eIsE 1 false) aNil))))) (gSet 2))
  (sSeq (sAsg (e2 oAdd (eVar 2) (eLst (aCons (eIsE 1 false) (aCons (eIsE 1 false) (aCons (eIsE 1 true) aNil))))) (gSet 2))
  (sSeq (sAsg (e2 oAdd (eVar 2) (eLst (aCons (eIsE 1 false) (aCons (eIsE 1 false) (aCons (eIsE 1 false) aNil))))) (gSet 2))
  (sSeq (sIf (mOr (mTest (e2 oNe (eCnt (eVar 2) (eC (.bl true))) (eC (.int 1)))) (mNot (mTest (eIsE 1 true)))) (sRet (eTup (aCons (eC (.str "other")) (aCons (eC (.int 0)) aNil)))) sNext)
  (sSeq (sAsg (eLst (aCons (eC (.str "tick")) (aCons (eC (.str "person")) (aCons (eC (.str "limit")) (aCons (eC (.str "different")) (aCons (eC (.str "waiting")) (aCons (eC (.str "contradiction")) (aCons (eC (.str "name")) (aCons (eC (.str "unknown")) (aCons (eC (.str "house")) (aCons (eC (.str "text")) aNil))))))))))) (gSet 3))
  (sSeq (sAsg (e2 oIx (e2 oAdd (eVar 3) (eLst (aCons (eC (.str "code")) (aCons (eC (.str "operation")) aNil)))) (eIndex (eVar 2) (eC (.bl true)))) (gSet 4))
  (sSeq (sIf (mTest (e2 oEq (eVar 4) (eC (.str "house")))) (sRet (eTup (aCons (eVar 4) (aCons (eTup (aCons (eXg 1 1 ds) (aCons (eXg 1 0 ds) aNil))) aNil)))) sNext)
  (sSeq (sIf (mTest (e2 oEq (eVar 4) (eC (.str "text")))) (sRet (eTup (aCons (eVar 4) (aCons eBad aNil)))) sNext)
  (sRet (eTup (aCons (eVar 4) (aCons (eIf (mTest (e2 oIn (eVar 4) (eLst (aCons (eC (.str "code")) (aCons (eC (.str "operation")) aNil))))) eBad (eC (.int 0))) aNil))))))))))))))]))
  (sRet (eC .non)))
def d_law_error_of (ft : DM) : DM := runF false 1 5 (b_law_error_of ft)
end
end K08
namespace K08
open PySem PySem.Spec PyProof.Rows L2 Mir
noncomputable section
def b_law : SM := (sSeq (sAsg (eCallO d_law_parts 1 (aCons (eC (.int 4)) aNil)) (gTupleM [(gSet 11), (gSet 12), (gSet 13), (gSet 14)]))
  (sSeq (sPar 15 (eA (A1 oLen) (aCons (eVar 11) aNil)) 16 (eCall d_law_length [] (aCons (eVar 11) aNil)))
  (sSeq (sAsg (eLst (aCons (eC (.str "")) (aCons (eC (.str "x")) (aCons (eC (.str "hox")) (aCons (eC (.str "H")) (aCons (eC (.str "hoh ho")) (aCons (eC (.str "ohohohohoh")) (aCons (eC (.int 5)) (aCons (eC .non) (aCons (eTup (aCons (eC (.str "h")) aNil)) (aCons (eLst (aCons (eC (.str "h")) aNil)) (aCons (eC (.str "hohoh")) (aCons (e2 oMulX (eC (.str "h")) (eC (.int 7))) (aCons (eC (.str "hohoo")) aNil)))))))))))))) (gSet 2))
  (sSeq (sAsg (e2 oIx (eVar 2) (eCallO d_law_below 1 (aCons (eC (.int 13)) aNil))) (gSet 3))
  (sSeq (sAsg (eCallO d_law_below 1 (aCons (e2 oAdd (eVar 15) (eC (.int 1))) aNil)) (gSet 4))
  (sSeq (sAsg (e2 oAdd (e2 oAdd (eSl oSl (eVar 11) pNone (pSome (eVar 4))) (eTup (aCons (eVar 3) (aCons (eC .non) aNil)))) (eSl oSl (eVar 11) (pSome (eVar 4)) pNone)) (gSet 5))
  (sSeq (sIf (mTest (e2 oNe (eClo0 true 20 0 d_law_error_of (eMake 0 d_House__init_ [] (aCons (eVar 5) (aCons (eC .non) (aCons (eC .non) (aCons (eC .non) aNil)))))) (eTup (aCons (eC (.str "house")) (aCons (eTup (aCons (eC (.str "tables")) (aCons (eVar 4) aNil))) aNil))))) (sRet (eC (.bl false))) sNext)
  (sSeq (sAsg (e2 oIx (eLst (aCons (eC .non) (aCons (eTup aNil) (aCons (eA (A1 oList) (aCons (eVar 11) aNil)) (aCons (eC (.str "ho")) (aCons (eC (.int 5)) aNil)))))) (eCallO d_law_below 1 (aCons (eC (.int 5)) aNil))) (gSet 6))
  (sSeq (sIf (mTest (e2 oNe (eClo0 true 20 0 d_law_error_of (eMake 0 d_House__init_ [] (aCons (eVar 6) (aCons (eC .non) (aCons (eC .non) (aCons (eC .non) aNil)))))) (eTup (aCons (eC (.str "house")) (aCons (eTup (aCons (eC (.str "tables")) (aCons (eC (.int 0)) aNil))) aNil))))) (sRet (eC (.bl false))) sNext)
  (sSeq (sIf (mTest (e2 oNe (eClo0 true 20 0 d_law_error_of (eMake 0 d_House__init_ dd_House__init__2 (aCons (e2 oMulX (eTup (aCons (eC (.str "h")) aNil)) (eC (.int 7))) (aCons (eC (.int 0)) aNil)))) (eTup (aCons (eC (.str "house")) (aCons (eTup (aCons (eC (.str "tables")) (aCons (eC (.int 6)) aNil))) aNil))))) (sRet (eC (.bl false))) sNext)
  (sSeq (sAsg (e2 oIx (eLst (aCons (e2 oSub (eC (.int 0)) (eC (.int 1))) (aCons (eC (.int 10)) (aCons (eC .non) (aCons (eC (.bl true)) (aCons (eC (.str "1")) (aCons (eTup (aCons (eC (.int 1)) aNil)) aNil))))))) (eCallO d_law_below 1 (aCons (eC (.int 6)) aNil))) (gSet 7))
  (sSeq (sIf (mTest (e2 oNe (eClo0 true 20 0 d_law_error_of (eMake 0 d_House__init_ [] (aCons (eVar 11) (aCons (eVar 7) (aCons (eC .non) (aCons (eC .non) aNil)))))) (eTup (aCons (eC (.str "house")) (aCons (eTup (aCons (eC (.str "keys")) (aCons (eC (.int 0)) aNil))) aNil))))) (sRet (eC (.bl false))) sNext)
  (sSeq (sOwn (eLst (aCons (eTup (aCons (eC .non) (aCons (eC (.int 0)) aNil))) (aCons (eTup (aCons (eC (.int 5)) (aCons (eC (.int 0)) aNil))) (aCons (eTup (aCons (eA (A1 oList) (aCons (eVar 13) aNil)) (aCons (eC (.int 0)) aNil))) (aCons (eTup (aCons (eTup (aCons (eVar 15) aNil)) (aCons (eC (.int 0)) aNil))) (aCons (eTup (aCons (eTup (aCons (e2 oSub (eC (.int 0)) (eC (.int 1))) aNil)) (aCons (eC (.int 0)) aNil))) (aCons (eTup (aCons (eTup (aCons (eC (.bl true)) aNil)) (aCons (eC (.int 0)) aNil))) (aCons (eTup (aCons (eTup (aCons (eC (.int 0)) (aCons (eC (.int 0)) aNil))) (aCons (eC (.int 1)) aNil))) (aCons (eTup (aCons (eTup (aCons (eC (.str "0")) aNil)) (aCons (eC (.int 0)) aNil))) aNil))))))))) 8)
  (sSeq (sAsg (e2 oIx (eOwnCat 8 (eLst (aCons (eTup (aCons (e2 oAdd (eRg true (eVar 15)) (eTup (aCons (eC (.int 0)) aNil))) (aCons (eVar 15) aNil))) aNil))) (eCallO d_law_below 1 (aCons (eC (.int 9)) aNil))) (gTupleM [(gSet 17), (gSet 18)]))
  (sSeq (sIf (mTest (e2 oNe (eClo0 true 20 0 d_law_error_of (eMake 0 d_House__init_ [] (aCons (eVar 11) (aCons (eVar 12) (aCons (eVar 17) (aCons (eC .non) aNil)))))) (eTup (aCons (eC (.str "house")) (aCons (eTup (aCons (eC (.str "careful")) (aCons (eVar 18) aNil))) aNil))))) (sRet (eC (.bl false))) sNext)
  (sSeq (sOwn (eLst (aCons (eTup (aCons (eC .non) (aCons (eC (.int 0)) aNil))) (aCons (eTup (aCons (eLst aNil) (aCons (eC (.int 0)) aNil))) (aCons (eTup (aCons (eTup (aCons (eTup (aCons (eVar 16) (aCons (eC (.int 0)) aNil))) aNil)) (aCons (eC (.int 0)) aNil))) (aCons (eTup (aCons (eTup (aCons (eTup (aCons (eC (.int 0)) (aCons (eVar 15) aNil))) aNil)) (aCons (eC (.int 0)) aNil))) (aCons (eTup (aCons (eTup (aCons (eTup (aCons (eC (.int 0)) (aCons (eC (.int 0)) aNil))) (aCons (eTup (aCons (eC (.int 0)) (aCons (eC (.int 0)) aNil))) aNil))) (aCons (eC (.int 1)) aNil))) (aCons (eTup (aCons (eTup (aCons (eTup (aCons (eC (.int 0)) aNil)) aNil)) (aCons (eC (.int 0)) aNil))) aNil))))))) 8)
  (sSeq (sOwn (eOwnCat 8 (eLst (aCons (eTup (aCons (eTup (aCons (eC (.int 0)) (aCons (eC (.int 0)) aNil))) (aCons (eC (.int 0)) aNil))) (aCons (eTup (aCons (eTup (aCons (eTup (aCons (eC (.int 0)) (aCons (eC (.int 0)) (aCons (eC (.int 0)) aNil)))) aNil)) (aCons (eC (.int 0)) aNil))) (aCons (eTup (aCons (eTup (aCons (eLst (aCons (eC (.int 0)) (aCons (eC (.int 0)) aNil))) aNil)) (aCons (eC (.int 0)) aNil))) (aCons (eTup (aCons (eTup (aCons (eTup (aCons (eC (.bl true)) (aCons (eC (.int 0)) aNil))) aNil)) (aCons (eC (.int 0)) aNil))) (aCons (eTup (aCons (eTup (aCons (eTup (aCons (e2 oSub (eC (.int 0)) (eC (.int 1))) (aCons (eC (.int 0)) aNil))) aNil)) (aCons (eC (.int 0)) aNil))) aNil))))))) 8)
  (sSeq (sApp 8 (eTup (aCons (eTup (aCons (eTup (aCons (eC (.int 0)) (aCons (eC .non) aNil))) aNil)) (aCons (eC (.int 0)) aNil))))
  (sSeq (sAsg (eOwnIx 8 (eCallO d_law_below 1 (aCons (eC (.int 12)) aNil))) (gTupleM [(gSet 17), (gSet 18)]))
  (sSeq (sIf (mTest (e2 oNe (eClo0 true 20 0 d_law_error_of (eMake 0 d_House__init_ [] (aCons (eVar 11) (aCons (eVar 12) (aCons (eVar 13) (aCons (eVar 17) aNil)))))) (eTup (aCons (eC (.str "house")) (aCons (eTup (aCons (eC (.str "reminders")) (aCons (eVar 18) aNil))) aNil))))) (sRet (eC (.bl false))) sNext)
  (sSeq (sAsg (eA (A1 oTuple) (aCons (eLc [19] (iRng1M (aCons (eC (.int 11)) aNil)) (gSet 19) mYes (eTup (aCons (eVar 19) (aCons (eC (.int 0)) aNil)))) aNil)) (gSet 9))
  (sSeq (sIf (mTest (e2 oNe (eClo0 true 20 0 d_law_error_of (eMake 0 d_House__init_ [] (aCons (eTup (aCons (e2 oMulX (eC (.str "ho")) (eC (.int 6))) aNil)) (aCons (eC (.int 1)) (aCons (eTup aNil) (aCons (eVar 9) aNil)))))) (eTup (aCons (eC (.str "house")) (aCons (eTup (aCons (eC (.str "reminders")) (aCons (eC (.int 10)) aNil))) aNil))))) (sRet (eC (.bl false))) sNext)
  (sSeq (sAsg (eNX (eMake 0 d_House__init_ [] (aCons (e2 oMulX (eTup (aCons (e2 oMulX (eC (.str "o")) (eC (.int 24))) aNil)) (eC (.int 6))) (aCons (eC (.int 9)) (aCons (eTup (aCons (eC (.int 0)) (aCons (eC (.int 1)) (aCons (eC (.int 2)) (aCons (eC (.int 3)) (aCons (eC (.int 4)) (aCons (eC (.int 5)) aNil))))))) (aCons (eTup aNil) aNil)))))) (gSet 10))
  (sRet (eAndV (e2 oEq (eProp 0 d_House_period (eVar 10)) (eC (.int 24))) (e2 oEq (eFld 0 2 (eNX (eMake 0 d_House__init_ [] (aCons (eTup (aCons (e2 oMulX (eC (.str "ho")) (eC (.int 6))) aNil)) (aCons (eC (.int 1)) (aCons (eTup aNil) (aCons (eSl oSl (eVar 9) pNone (pSome (eC (.int 10)))) aNil))))))) (eTup aNil)))))))))))))))))))))))))))
end
end K08
/-! B08 -/
namespace K08
open PySem PySem.Spec PyProof.Rows L2 Mir
def top (i : Nat) : Stmt := PySem.Challenge.pw_doorkeys_k08_invalid_houses.main.body.getD i (.Pass ⟨0, 0, 0, 0⟩)
abbrev st_InvalidHouse__init_ : Stmt := inClass (top 3) 0
abbrev st_is_int_in : Stmt := top 22
abbrev st_is_table : Stmt := top 23
abbrev st_common_multiple : Stmt := top 24
abbrev st_check_persons : Stmt := top 25
abbrev st_is_reminder : Stmt := top 26
abbrev st_House__init_ : Stmt := inClass (top 27) 0
abbrev st_House_period : Stmt := inClass (top 27) 3
abbrev st_law_below : Stmt := top 30
abbrev st_law_table : Stmt := top 31
abbrev st_law_length : Stmt := top 32
abbrev st_law_parts : Stmt := top 33
abbrev st_law_error_of : Stmt := top 34
abbrev st_law_random : Stmt := top 29
abbrev st_law : Stmt := top 35
structure Ad where
  f_InvalidHouse__init_ : Addr
  fd_InvalidHouse__init_ : FuncData
  f_is_int_in : Addr
  fd_is_int_in : FuncData
  f_is_table : Addr
  fd_is_table : FuncData
  f_common_multiple : Addr
  fd_common_multiple : FuncData
  f_check_persons : Addr
  fd_check_persons : FuncData
  f_is_reminder : Addr
  fd_is_reminder : FuncData
  f_House__init_ : Addr
  fd_House__init_ : FuncData
  f_House_period : Addr
  fd_House_period : FuncData
  f_law_below : Addr
  fd_law_below : FuncData
  f_law_table : Addr
  fd_law_table : FuncData
  f_law_length : Addr
  fd_law_length : FuncData
  f_law_parts : Addr
  fd_law_parts : FuncData
  f_law_error_of : Addr
  fd_law_error_of : FuncData
  f_law_random : Addr
  fd_law_random : FuncData
  f_law : Addr
  fd_law : FuncData
  C_House : Addr
  C_InvalidHouse : Addr
  C_HouseError : Addr
  C_InvalidTick : Addr
  C_UnknownPerson : Addr
  C_InvalidLimit : Addr
  C_DifferentHouses : Addr
  C_InvalidWaiting : Addr
  C_Contradiction : Addr
  C_TextFault : Addr
  C_InvalidCode : Addr
  C_InvalidName : Addr
  C_UnknownName : Addr
  C_InvalidOperation : Addr
  dv_House__init_ : List V
  p_House_period : Addr
  cc_law : Addr
  P_law : Addr
abbrev S (K : PySem.W.Frag) (A : Ad) (Hb : Hp := fun _ => none) (lf : Nat → Addr := fun _ => 0) : Sc := ⟨K, fun c => match c with | 0 => A.C_House | _ => A.C_InvalidHouse, fun c => match c with | 0 => ["tables", "key_count", "careful", "reminders", "length"] | _ => ["index", "part"], Hb, lf⟩
structure Txt (K : PySem.W.Frag) (mg : Str → Option Value) (A : Ad) : Prop where
  F_InvalidHouse__init_ : FunD K "__init__" "InvalidHouse.__init__" (defArgs st_InvalidHouse__init_) (defBody st_InvalidHouse__init_) (defScope st_InvalidHouse__init_) [] [] A.f_InvalidHouse__init_ A.fd_InvalidHouse__init_
  b_InvalidHouse__init_ : Binds K A.fd_InvalidHouse__init_ ["self", "part", "index"] []
  F_is_int_in : FunD K "is_int_in" "is_int_in" (defArgs st_is_int_in) (defBody st_is_int_in) (defScope st_is_int_in) [] [] A.f_is_int_in A.fd_is_int_in
  b_is_int_in : Binds K A.fd_is_int_in ["value", "low", "high"] []
  g_is_int_in : mg "is_int_in" = some (.ref A.f_is_int_in)
  F_is_table : FunD K "is_table" "is_table" (defArgs st_is_table) (defBody st_is_table) (defScope st_is_table) [] [] A.f_is_table A.fd_is_table
  b_is_table : Binds K A.fd_is_table ["value"] []
  g_is_table : mg "is_table" = some (.ref A.f_is_table)
  F_common_multiple : FunD K "common_multiple" "common_multiple" (defArgs st_common_multiple) (defBody st_common_multiple) (defScope st_common_multiple) [] [] A.f_common_multiple A.fd_common_multiple
  b_common_multiple : Binds K A.fd_common_multiple ["one", "other"] []
  g_common_multiple : mg "common_multiple" = some (.ref A.f_common_multiple)
  F_check_persons : FunD K "check_persons" "check_persons" (defArgs st_check_persons) (defBody st_check_persons) (defScope st_check_persons) [] [] A.f_check_persons A.fd_check_persons
  b_check_persons : Binds K A.fd_check_persons ["part", "values", "count"] []
  g_check_persons : mg "check_persons" = some (.ref A.f_check_persons)
  F_is_reminder : FunD K "is_reminder" "is_reminder" (defArgs st_is_reminder) (defBody st_is_reminder) (defScope st_is_reminder) [] [] A.f_is_reminder A.fd_is_reminder
  b_is_reminder : Binds K A.fd_is_reminder ["value", "period", "count"] []
  g_is_reminder : mg "is_reminder" = some (.ref A.f_is_reminder)
  F_House__init_ : FunD K "__init__" "House.__init__" (defArgs st_House__init_) (defBody st_House__init_) (defScope st_House__init_) A.dv_House__init_ [] A.f_House__init_ A.fd_House__init_
  b_House__init_ : Binds K A.fd_House__init_ ["self", "tables", "keys", "careful", "reminders"] []
  F_House_period : FunD K "period" "House.period" (defArgs st_House_period) (defBody st_House_period) (defScope st_House_period) [] [] A.f_House_period A.fd_House_period
  b_House_period : Binds K A.fd_House_period ["self"] []
  pr_House_period : PropOf K A.C_House "period" A.p_House_period A.f_House_period
  F_law_below : FunD K "_law_below" "_law_below" (defArgs st_law_below) (defBody st_law_below) (defScope st_law_below) [] [] A.f_law_below A.fd_law_below
  b_law_below : Binds K A.fd_law_below ["_law_d", "_law_limit"] []
  g_law_below : mg "_law_below" = some (.ref A.f_law_below)
  F_law_table : FunD K "_law_table" "_law_table" (defArgs st_law_table) (defBody st_law_table) (defScope st_law_table) [] [] A.f_law_table A.fd_law_table
  b_law_table : Binds K A.fd_law_table ["_law_d"] []
  g_law_table : mg "_law_table" = some (.ref A.f_law_table)
  F_law_length : FunD K "_law_length" "_law_length" (defArgs st_law_length) (defBody st_law_length) (defScope st_law_length) [] [] A.f_law_length A.fd_law_length
  b_law_length : Binds K A.fd_law_length ["_law_tables"] []
  g_law_length : mg "_law_length" = some (.ref A.f_law_length)
  F_law_parts : FunD K "_law_parts" "_law_parts" (defArgs st_law_parts) (defBody st_law_parts) (defScope st_law_parts) [] [] A.f_law_parts A.fd_law_parts
  b_law_parts : Binds K A.fd_law_parts ["_law_d", "_law_most"] []
  g_law_parts : mg "_law_parts" = some (.ref A.f_law_parts)
  F_law_error_of : FunD K "_law_error_of" "_law_error_of" (defArgs st_law_error_of) (defBody st_law_error_of) (defScope st_law_error_of) [] [] A.f_law_error_of A.fd_law_error_of
  b_law_error_of : Binds K A.fd_law_error_of ["_law_call"] []
  g_law_error_of : mg "_law_error_of" = some (.ref A.f_law_error_of)
  F_law_random : FunD K "_law_random" "_law_random" (defArgs st_law_random) (defBody st_law_random) (defScope st_law_random) [] [] A.f_law_random A.fd_law_random
  b_law_random : Binds K A.fd_law_random ["_law_script", "_law_salt"] []
  g_law_random : mg "_law_random" = some (.ref A.f_law_random)
  F_law : FunD K "law" "law" (defArgs st_law) (defBody st_law) (defScope st_law) [] [] A.f_law A.fd_law
  b_law : Binds K A.fd_law ["_law_script"] []
  code_law : A.fd_law.code = .ref A.cc_law
  g_law : mg "law" = some (.ref A.f_law)
  cl_House : Cls K A.C_House
  g_House : mg "House" = some (.ref A.C_House)
  mk_House : Mk K A.C_House A.f_House__init_
  na_House_tables : NoAttr K A.C_House "tables"
  na_House_key_count : NoAttr K A.C_House "key_count"
  na_House_careful : NoAttr K A.C_House "careful"
  na_House_reminders : NoAttr K A.C_House "reminders"
  na_House_length : NoAttr K A.C_House "length"
  g_InvalidHouse : mg "InvalidHouse" = some (.ref A.C_InvalidHouse)
  g_HouseError : mg "HouseError" = some (.ref A.C_HouseError)
  g_InvalidTick : mg "InvalidTick" = some (.ref A.C_InvalidTick)
  g_UnknownPerson : mg "UnknownPerson" = some (.ref A.C_UnknownPerson)
  g_InvalidLimit : mg "InvalidLimit" = some (.ref A.C_InvalidLimit)
  g_DifferentHouses : mg "DifferentHouses" = some (.ref A.C_DifferentHouses)
  g_InvalidWaiting : mg "InvalidWaiting" = some (.ref A.C_InvalidWaiting)
  g_Contradiction : mg "Contradiction" = some (.ref A.C_Contradiction)
  g_TextFault : mg "TextFault" = some (.ref A.C_TextFault)
  g_InvalidCode : mg "InvalidCode" = some (.ref A.C_InvalidCode)
  g_InvalidName : mg "InvalidName" = some (.ref A.C_InvalidName)
  g_UnknownName : mg "UnknownName" = some (.ref A.C_UnknownName)
  g_InvalidOperation : mg "InvalidOperation" = some (.ref A.C_InvalidOperation)
  xb_HouseError : ExB K A.C_HouseError
  oe_InvalidHouse : OexC K A.C_InvalidHouse
  ii_InvalidHouse : PySem.W.findIn K (.ref A.C_InvalidHouse) "__init__" = some (some (.ref A.f_InvalidHouse__init_))
  ti_InvalidHouse : PySem.W.typeIn K (.ref A.f_InvalidHouse__init_) = some (.type "function")
  no_InvalidHouse : ∀ f ∈ (["part", "index"] : List Str), PySem.W.findIn K (.ref A.C_InvalidHouse) f = some none
  xc_InvalidHouse : XcC K A.C_InvalidHouse
  xf_InvalidHouse : XfC K A.C_InvalidHouse
  ex_InvalidHouse : PySem.W.exmOne K (.ref A.C_InvalidHouse) (.ref A.C_HouseError) = some true
  kt_InvalidHouse_Contradiction : PySem.W.kitOne K (.ref A.C_InvalidHouse) (.ref A.C_Contradiction) = some false
  kt_InvalidHouse_DifferentHouses : PySem.W.kitOne K (.ref A.C_InvalidHouse) (.ref A.C_DifferentHouses) = some false
  kt_InvalidHouse_InvalidCode : PySem.W.kitOne K (.ref A.C_InvalidHouse) (.ref A.C_InvalidCode) = some false
  kt_InvalidHouse_InvalidHouse : PySem.W.kitOne K (.ref A.C_InvalidHouse) (.ref A.C_InvalidHouse) = some true
  kt_InvalidHouse_InvalidLimit : PySem.W.kitOne K (.ref A.C_InvalidHouse) (.ref A.C_InvalidLimit) = some false
  kt_InvalidHouse_InvalidName : PySem.W.kitOne K (.ref A.C_InvalidHouse) (.ref A.C_InvalidName) = some false
  kt_InvalidHouse_InvalidOperation : PySem.W.kitOne K (.ref A.C_InvalidHouse) (.ref A.C_InvalidOperation) = some false
  kt_InvalidHouse_InvalidTick : PySem.W.kitOne K (.ref A.C_InvalidHouse) (.ref A.C_InvalidTick) = some false
  kt_InvalidHouse_InvalidWaiting : PySem.W.kitOne K (.ref A.C_InvalidHouse) (.ref A.C_InvalidWaiting) = some false
  kt_InvalidHouse_TextFault : PySem.W.kitOne K (.ref A.C_InvalidHouse) (.ref A.C_TextFault) = some false
  kt_InvalidHouse_UnknownName : PySem.W.kitOne K (.ref A.C_InvalidHouse) (.ref A.C_UnknownName) = some false
  kt_InvalidHouse_UnknownPerson : PySem.W.kitOne K (.ref A.C_InvalidHouse) (.ref A.C_UnknownPerson) = some false
  kt_InvalidHouse_ValueError : PySem.W.kitOne K (.ref A.C_InvalidHouse) (.type "ValueError") = some true
  b_House__init__2 : ∃ dvs ds, (∀ Hb lf F H, RepL (S K A Hb lf) F H dd_House__init__2 dvs) ∧ Vals dvs ds ∧ Binds K A.fd_House__init_ ["self", "tables", "keys", "careful", "reminders"] ds
  z_ValueError : mg "ValueError" = none
  z_abs : mg "abs" = none
  z_all : mg "all" = none
  z_bool : mg "bool" = none
  z_enumerate : mg "enumerate" = none
  z_int : mg "int" = none
  z_isinstance : mg "isinstance" = none
  z_len : mg "len" = none
  z_list : mg "list" = none
  z_range : mg "range" = none
  z_sorted : mg "sorted" = none
  z_str : mg "str" = none
  z_tuple : mg "tuple" = none
  c_MAX_PERSONS : ∃ v u, mg "MAX_PERSONS" = some u ∧ L2.RelV v u ∧ ∀ Hb lf F H, Rep (S K A Hb lf) F H c_MAX_PERSONS v
  c_LENGTHS : ∃ v u, mg "LENGTHS" = some u ∧ L2.RelV v u ∧ ∀ Hb lf F H, Rep (S K A Hb lf) F H c_LENGTHS v
  c_MAX_KEYS : ∃ v u, mg "MAX_KEYS" = some u ∧ L2.RelV v u ∧ ∀ Hb lf F H, Rep (S K A Hb lf) F H c_MAX_KEYS v
  c_MAX_REMINDERS : ∃ v u, mg "MAX_REMINDERS" = some u ∧ L2.RelV v u ∧ ∀ Hb lf F H, Rep (S K A Hb lf) F H c_MAX_REMINDERS v
  c_HOME : ∃ v u, mg "HOME" = some u ∧ L2.RelV v u ∧ ∀ Hb lf F H, Rep (S K A Hb lf) F H c_HOME v
  c_OUT : ∃ v u, mg "OUT" = some u ∧ L2.RelV v u ∧ ∀ Hb lf F H, Rep (S K A Hb lf) F H c_OUT v
def tl (A : Ad) : List (Addr × Str) := [(A.P_law, ("law" : Str) ++ ".<locals>." ++ "<lambda>")]
def cl (A : Ad) : List (Addr × Addr) := [(A.cc_law, A.P_law)]
structure HdT (K : PySem.W.Frag) (h0 : Heap) (A : Ad) : Prop where
  u : ∀ p ∈ tl A, ∀ q ∈ tl A, p.1 = q.1 → p.2 = q.2
  h : ∀ p ∈ cl A, PySem.W.CodeHd h0 p.1 p.2
  n : ∀ p ∈ cl A, K.lookup p.2 = none
  t : ∀ p ∈ cl A, h0.get? p.2 = some { cls := .none, data := .fields #[] }
structure TBs [Tbl] (base : Heap) (mg : Str → Option Value) (A : Ad) : Prop where
  tb_law : LamX.TabB base mg A.cc_law A.P_law
  in_law : (A.P_law, ("law" : Str) ++ ".<locals>." ++ "<lambda>") ∈ Tbl.T
  un_law : ∀ p ∈ Tbl.T, p.1 = A.P_law → p.2 = ("law" : Str) ++ ".<locals>." ++ "<lambda>"
section
variable {P : Program} {w : World} {K : PySem.W.Frag} {mg : Str → Option Value} {base : Heap} {A : Ad} [Tbl] {Hb : Hp} {lf : Nat → Addr}
theorem sc_InvalidHouse__init_ : FnScope ["self", "part", "index"] ["self", "part", "index"] (defScope st_InvalidHouse__init_) := ⟨rfl, rfl, rfl, by decide +kernel, rfl, by decide +kernel, by decide +kernel⟩
theorem sc_is_int_in : FnScope ["value", "low", "high"] ["value", "low", "high"] (defScope st_is_int_in) := ⟨rfl, rfl, rfl, by decide +kernel, rfl, by decide +kernel, by decide +kernel⟩
theorem sc_is_table : FnScope ["value", "sign"] ["value"] (defScope st_is_table) := ⟨rfl, rfl, rfl, by decide +kernel, rfl, by decide +kernel, by decide +kernel⟩
theorem sc_common_multiple : FnScope ["one", "other", "multiple"] ["one", "other"] (defScope st_common_multiple) := ⟨rfl, rfl, rfl, by decide +kernel, rfl, by decide +kernel, by decide +kernel⟩
theorem sc_check_persons : FnScope ["part", "values", "count", "index", "value"] ["part", "values", "count"] (defScope st_check_persons) := ⟨rfl, rfl, rfl, by decide +kernel, rfl, by decide +kernel, by decide +kernel⟩
theorem sc_is_reminder : FnScope ["value", "period", "count"] ["value", "period", "count"] (defScope st_is_reminder) := ⟨rfl, rfl, rfl, by decide +kernel, rfl, by decide +kernel, by decide +kernel⟩
theorem sc_House__init_ : FnScope ["self", "tables", "keys", "careful", "reminders", "length", "index", "table", "reminder"] ["self", "tables", "keys", "careful", "reminders"] (defScope st_House__init_) := ⟨rfl, rfl, rfl, by decide +kernel, rfl, by decide +kernel, by decide +kernel⟩
theorem sc_House_period : FnScope ["self"] ["self"] (defScope st_House_period) := ⟨rfl, rfl, rfl, by decide +kernel, rfl, by decide +kernel, by decide +kernel⟩
theorem sc_law_below : FnScope ["_law_d", "_law_limit", "_law_result"] ["_law_d", "_law_limit"] (defScope st_law_below) := ⟨rfl, rfl, rfl, by decide +kernel, rfl, by decide +kernel, by decide +kernel⟩
theorem sc_law_table : FnScope ["_law_d", "_law_length_here", "_law_k"] ["_law_d"] (defScope st_law_table) := ⟨rfl, rfl, rfl, by decide +kernel, rfl, by decide +kernel, by decide +kernel⟩
theorem sc_law_length : FnScope ["_law_tables", "_law_length_here", "_law_table_here"] ["_law_tables"] (defScope st_law_length) := ⟨rfl, rfl, rfl, by decide +kernel, rfl, by decide +kernel, by decide +kernel⟩
theorem sc_law_parts : FnScope ["_law_d", "_law_most", "_law_tables", "_law_careful", "_law_k", "_law_length_here", "_law_reminders", "_law_reminder"] ["_law_d", "_law_most"] (defScope st_law_parts) := ⟨rfl, rfl, rfl, by decide +kernel, rfl, by decide +kernel, by decide +kernel⟩
theorem sc_law_error_of : FnScope ["_law_call", "e", "_law_kinds", "_law_names", "_law_name"] ["_law_call"] (defScope st_law_error_of) := ⟨rfl, rfl, rfl, by decide +kernel, rfl, by decide +kernel, by decide +kernel⟩
theorem sc_law_random : FnScope ["_law_script", "_law_salt", "_law_seed", "_law_cell"] ["_law_script", "_law_salt"] (defScope st_law_random) := ⟨rfl, rfl, rfl, by decide +kernel, rfl, by decide +kernel, by decide +kernel⟩
theorem sc_law : FnScope ["_law_script", "_law_d", "_law_tables_not", "_law_table_here", "_law_at", "_law_wrong", "_law_none", "_law_odd", "_law_cases", "_law_full", "_law_largest", "_law_tables", "_law_keys", "_law_careful", "_law_reminders", "_law_many", "_law_length_here", "_law_bad", "_law_index", "_law_tick"] ["_law_script"] (defScope st_law) := ⟨rfl, rfl, rfl, by decide +kernel, rfl, by decide +kernel, by decide +kernel⟩
theorem nd_House : (["tables", "key_count", "careful", "reminders", "length"] : List Str).Nodup := by decide +kernel
theorem lt_House : (["tables", "key_count", "careful", "reminders", "length"] : List Str).length < 1000 := by decide
theorem nd_InvalidHouse : (["index", "part"] : List Str).Nodup := by decide +kernel
theorem nm_House__init_ : ("__init__" : Str) ∉ (["tables", "key_count", "careful", "reminders", "length"] : List Str) := by decide +kernel
theorem ok_InvalidHouse__init_ (T : Txt K mg A) : FnOk P w K mg base CX0 1 A.f_InvalidHouse__init_ A.fd_InvalidHouse__init_ ["self", "part", "index"] (spX K A.C_InvalidHouse ["part", "index"]) :=
  fnD_okS T.F_InvalidHouse__init_ sc_InvalidHouse__init_ (fun vs H Q E h => spX_len h) fun cdv A2 outer s H E hr => ⟨_, (pss_cons (ps_expr (pe_binit T.xb_HouseError (by rfl) T.g_HouseError (pa_cons (pv 0) (pa_cons (pv 1) (pa_cons (pv 2) pa_nil))))) (pss_cons (ps_ost (pv 0) (pv 1)) (pss_one (ps_ost (pv 0) (pv 2))))), fun vs H Q h => run_x2 rfl vs H Q h⟩
theorem ok_is_int_in (T : Txt K mg A) : FnOk P w K mg base CX0 1 A.f_is_int_in A.fd_is_int_in ["value", "low", "high"] (spM (S K A Hb lf) false 3 d_is_int_in) :=
  fnD_ok (O := []) T.F_is_int_in sc_is_int_in (by decide) (by decide) fun cdv A2 outer s H E hr => ⟨_, (pss_one (ps_ret (pe_and (pe_callB call_isi (by rfl) T.z_isinstance bt_isinstance (pa_cons (pv 0) (pa_cons (pe_bltn (v := .ty "int") (by rfl) T.z_int bt_int rfl) pa_nil))) (pe_and (pe_not (pe_callB call_isi (by rfl) T.z_isinstance bt_isinstance (pa_cons (pv 0) (pa_cons (pe_bltn (v := .ty "bool") (by rfl) T.z_bool bt_bool rfl) pa_nil)))) (pe_one (pe_chain op_le op_le (pv 1) (pv 0) (pv 2))))))),
      (rs_ret (μ := none) (by intro z; cases z) (by intro _ z; cases z) (ref_andV (ref_isi (ref_var (by decide))) (ref_andV (ref_notV (ref_isi (ref_var (by decide)))) (ref_chain ok_leI o2_leI (ref_var (by decide)) (ref_var (by decide)) (ref_var (by decide))))))⟩
theorem ok_is_table (T : Txt K mg A) : FnOk P w K mg base CX0 1 A.f_is_table A.fd_is_table ["value"] (spM (S K A Hb lf) false 1 d_is_table) :=
  fnD_ok (O := []) T.F_is_table sc_is_table (by decide) (by decide) fun cdv A2 outer s H E hr => ⟨_, (pss_cons (ps_if (PW.pt (pw_or (pt_not (pt_val (pe_callB call_isi (by rfl) T.z_isinstance bt_isinstance (pa_cons (pv 0) (pa_cons (pe_bltn (v := .ty "str") (by rfl) T.z_str bt_str rfl) pa_nil))))) (pw_or1 (pt_cmpR (op_notInX (hu65 hr)) (pe_callB call_len (by rfl) T.z_len bt_len (pa_cons (pv 0) pa_nil)) (pe_glob (by rfl) T.c_LENGTHS.choose_spec.choose_spec.1 T.c_LENGTHS.choose_spec.choose_spec.2.1) (by rfl))))) (pss_one (ps_ret pe_bl)) pss_nil)
      (pss_one (ps_ret (pe_callB (cr_all rfl) (by rfl) T.z_all bt_all (pa_cons (pe_lc rfl sc_is_table.nd (pi_seqX (pv 0)) (blkOk_by (own := [("sign", 1)]) (by kernel_rfl)) (fun _ _ _ _ _ => (pg_name (i := 1) sc_is_table.nd rfl (by first | exact .inl rfl | exact .inr rfl))) (fun _ _ _ _ _ => pts_nil) (fun _ _ _ _ _ => (pe_cmpR (op_inX (hu65 hr)) (pv 1) (pe_tup (pa_cons (pe_glob (by rfl) T.c_HOME.choose_spec.choose_spec.1 T.c_HOME.choose_spec.choose_spec.2.1) (pa_cons (pe_glob (by rfl) T.c_OUT.choose_spec.choose_spec.1 T.c_OUT.choose_spec.choose_spec.2.1) pa_nil))) (by rfl)))) pa_nil))))),
      (rs_seq (rs_if (μ := none) (ref_or (ref_not (ref_testB (ref_isi (ref_var (by decide))))) (ref_test (ref_op2 o2_notIn (ref_opA oA_len (ref_acons (ref_var (by decide)) ref_anil)) (ref_c (T.c_LENGTHS.choose_spec.choose_spec.2.2 _ _))))) (rs_ret (μ := none) (by intro z; cases z) (by intro _ z; cases z) ref_bl) rs_next)
      (rs_ret (μ := none) (by intro z; cases z) (by intro _ z; cases z) (ref_opA oA_all (ref_acons (ref_lc (E1 := E) (E2 := E) (vs := [1]) (ri_seq (ref_var (by decide))) (rg_set (by decide)) rt_yes (ref_op2 o2_in (ref_var (by decide)) (ref_tup (ref_acons (ref_c (T.c_HOME.choose_spec.choose_spec.2.2 _ _)) (ref_acons (ref_c (T.c_OUT.choose_spec.choose_spec.2.2 _ _)) ref_anil)))) (by decide) (by decide)) ref_anil))))⟩
theorem ok_common_multiple (T : Txt K mg A) : FnOk P w K mg base CX0 1 A.f_common_multiple A.fd_common_multiple ["one", "other"] (spM (S K A Hb lf) false 2 d_common_multiple) :=
  fnD_ok (O := []) T.F_common_multiple sc_common_multiple (by decide) (by decide) fun cdv A2 outer s H E hr => ⟨_, (pss_cons (ps_set (i := 2) sc_common_multiple.nd rfl (by first | exact .inl rfl | exact .inr rfl) (pv 0))
      (pss_cons (ps_while PassesOwn.never (pt_cmpR (op_neX (hu64 hr)) (pe_op op_mul (pe_op op_fdivN (pv 2) (pv 1)) (pv 1)) (pv 2) (nomark _)) (pss_one (ps_aug (i := 2) sc_common_multiple.nd rfl (by first | exact .inl rfl | exact .inr rfl) (pv 0) ip_add)))
      (pss_one (ps_ret (pv 2))))),
      (rs_seq (rs_set (by decide) (ref_var (by decide)))
      (rs_seq (rs_while (ref_test (ref_op2 o2_ne (ref_op2 o2_mul (ref_op2 o2_fdiv (ref_var (by decide)) (ref_var (by decide))) (ref_var (by decide))) (ref_var (by decide)))) (rs_aug (by decide) (ref_var (by decide))))
      (rs_ret (μ := none) (by intro z; cases z) (by intro _ z; cases z) (ref_var (by decide)))))⟩
theorem ok_check_persons (T : Txt K mg A) : FnOk P w K mg base (L2.CX P w) 3 A.f_check_persons A.fd_check_persons ["part", "values", "count"] (spM (S K A Hb lf) false 3 d_check_persons) :=
  fnDX_ok (O := []) T.F_check_persons sc_check_persons (by decide) (by decide) fun cdv A2 outer s H E hr => ⟨_, (pss_cons (ps_if (pt_not (pt_val (pe_callB call_isi (by rfl) T.z_isinstance bt_isinstance (pa_cons (pv 1) (pa_cons (pe_bltn (v := .ty "tuple") (by rfl) T.z_tuple bt_tuple rfl) pa_nil))))) (pss_one (ps_raise rfl (takes_of rfl rfl rfl rfl) (pmk_oex T.oe_InvalidHouse T.ii_InvalidHouse T.ti_InvalidHouse (ok_InvalidHouse__init_ T) (hr.mono (by decide)) T.b_InvalidHouse__init_ .nil (passE (E := fun _ _ _ => False)) (by rfl) T.g_InvalidHouse (pa_cons (pv 0) (pa_cons pe_int pa_nil))))) pss_nil)
      (pss_one (ps_for (passes_of rfl) rfl (pi_enumT (by rfl) T.z_enumerate (pa_cons (pv 1) pa_nil)) (pg_tup rfl (pgs_cons (pg_name (i := 3) sc_check_persons.nd rfl (by first | exact .inl rfl | exact .inr rfl)) (pgs_cons (pg_name (i := 4) sc_check_persons.nd rfl (by first | exact .inl rfl | exact .inr rfl)) pgs_nil))) (pss_one (ps_if (PW.pt (pw_or (pt_not (pt_val (pe_call (ok_is_int_in T) (hr.mono (by decide)) (by rfl) T.g_is_int_in T.F_is_int_in.kp T.b_is_int_in .nil (passE (E := E)) (pa_cons (pv 4) (pa_cons pe_int (pa_cons (pe_op op_sub (pv 2) pe_int) pa_nil)))))) (pw_or1 (PW.pt (pw_and (pt_cmpR op_gt (pv 3) pe_int (nomark _)) (pw_and1 (pt_cmpR (op_leX (hu0 hr)) (pv 4) (pe_ix ix_seq (pv 1) (pe_op op_sub (pv 3) pe_int) (fun _ _ => rfl)) (nomark _)))))))) (pss_one (ps_raise rfl (takes_of rfl rfl rfl rfl) (pmk_oex T.oe_InvalidHouse T.ii_InvalidHouse T.ti_InvalidHouse (ok_InvalidHouse__init_ T) (hr.mono (by decide)) T.b_InvalidHouse__init_ .nil (passE (E := fun _ _ _ => False)) (by rfl) T.g_InvalidHouse (pa_cons (pv 0) (pa_cons (pv 3) pa_nil))))) pss_nil))))),
      (rs_seq (rs_if (μ := none) (ref_not (ref_testB (ref_isi (ref_var (by decide))))) (rs_raise (c := 1) T.oe_InvalidHouse T.no_InvalidHouse rfl rfl (by decide) (ref_acons (ref_var (by decide)) (ref_acons ref_int ref_anil))) rs_next)
      (rs_for (ri_enumT (ref_var (by decide))) (rg_tup (rgs_cons (rg_set (by decide)) (rgs_cons (rg_set (by decide)) rgs_nil)) rfl) (rs_if (μ := none) (ref_or (ref_not (ref_testB (ref_call (fun _ _ => RepL.nil) (fun ds => runF_ar) (ref_acons (ref_var (by decide)) (ref_acons ref_int (ref_acons (ref_op2 o2_sub (ref_var (by decide)) ref_int) ref_anil)))))) (ref_and (ref_test (ref_op2 o2_gtI (ref_var (by decide)) ref_int)) (ref_test (ref_op2 o2_le (ref_var (by decide)) (ref_op2 o2_ix (ref_var (by decide)) (ref_op2 o2_sub (ref_var (by decide)) ref_int)))))) (rs_raise (c := 1) T.oe_InvalidHouse T.no_InvalidHouse rfl rfl (by decide) (ref_acons (ref_var (by decide)) (ref_acons (ref_var (by decide)) ref_anil))) rs_next)))⟩
theorem ok_is_reminder (T : Txt K mg A) : FnOk P w K mg base CX0 2 A.f_is_reminder A.fd_is_reminder ["value", "period", "count"] (spM (S K A Hb lf) false 3 d_is_reminder) :=
  fnD_ok (O := []) T.F_is_reminder sc_is_reminder (by decide) (by decide) fun cdv A2 outer s H E hr => ⟨_, (pss_cons (ps_if (PW.pt (pw_or (pt_not (pt_val (pe_callB call_isi (by rfl) T.z_isinstance bt_isinstance (pa_cons (pv 0) (pa_cons (pe_bltn (v := .ty "tuple") (by rfl) T.z_tuple bt_tuple rfl) pa_nil))))) (pw_or1 (pt_cmpR (op_neX (hu64 hr)) (pe_callB call_len (by rfl) T.z_len bt_len (pa_cons (pv 0) pa_nil)) pe_int (nomark _))))) (pss_one (ps_ret pe_bl)) pss_nil)
      (pss_one (ps_ret (pe_and (pe_call (ok_is_int_in T) (hr.mono (by decide)) (by rfl) T.g_is_int_in T.F_is_int_in.kp T.b_is_int_in .nil (passE (E := E)) (pa_cons (pe_ix ix_seq (pv 0) pe_int (fun _ _ => rfl)) (pa_cons pe_int (pa_cons (pe_op op_sub (pv 1) pe_int) pa_nil)))) (pe_one (pe_call (ok_is_int_in T) (hr.mono (by decide)) (by rfl) T.g_is_int_in T.F_is_int_in.kp T.b_is_int_in .nil (passE (E := E)) (pa_cons (pe_ix ix_seq (pv 0) pe_int (fun _ _ => rfl)) (pa_cons pe_int (pa_cons (pe_op op_sub (pv 2) pe_int) pa_nil))))))))),
      (rs_seq (rs_if (μ := none) (ref_or (ref_not (ref_testB (ref_isi (ref_var (by decide))))) (ref_test (ref_op2 o2_ne (ref_opA oA_len (ref_acons (ref_var (by decide)) ref_anil)) ref_int))) (rs_ret (μ := none) (by intro z; cases z) (by intro _ z; cases z) ref_bl) rs_next)
      (rs_ret (μ := none) (by intro z; cases z) (by intro _ z; cases z) (ref_andV (ref_call (fun _ _ => RepL.nil) (fun ds => runF_ar) (ref_acons (ref_op2 o2_ix (ref_var (by decide)) ref_int) (ref_acons ref_int (ref_acons (ref_op2 o2_sub (ref_var (by decide)) ref_int) ref_anil)))) (ref_call (fun _ _ => RepL.nil) (fun ds => runF_ar) (ref_acons (ref_op2 o2_ix (ref_var (by decide)) ref_int) (ref_acons ref_int (ref_acons (ref_op2 o2_sub (ref_var (by decide)) ref_int) ref_anil)))))))⟩
theorem ok_House__init_ (T : Txt K mg A) : FnOk P w K mg base (L2.CX P w) 4 A.f_House__init_ A.fd_House__init_ ["self", "tables", "keys", "careful", "reminders"] (spM0 (S K A Hb lf) 5 d_House__init_) :=
  fnDX_ok0 (O := []) T.F_House__init_ sc_House__init_ (by decide) (by decide) fun cdv A2 outer s H E hr => ⟨_, (pss_cons (ps_if (PW.pt (pw_or (pt_not (pt_val (pe_callB call_isi (by rfl) T.z_isinstance bt_isinstance (pa_cons (pv 1) (pa_cons (pe_bltn (v := .ty "tuple") (by rfl) T.z_tuple bt_tuple rfl) pa_nil))))) (pw_or1 (pt_cmpR (op_eqX (hu64 hr)) (pv 1) (pe_tup pa_nil) (nomark _))))) (pss_one (ps_raise rfl (takes_of rfl rfl rfl rfl) (pmk_oex T.oe_InvalidHouse T.ii_InvalidHouse T.ti_InvalidHouse (ok_InvalidHouse__init_ T) (hr.mono (by decide)) T.b_InvalidHouse__init_ .nil (passE (E := fun _ _ _ => False)) (by rfl) T.g_InvalidHouse (pa_cons pe_str (pa_cons pe_int pa_nil))))) pss_nil)
      (pss_cons (ps_set (i := 5) sc_House__init_.nd rfl (by first | exact .inl rfl | exact .inr rfl) pe_int)
      (pss_cons (ps_for (passes_of rfl) rfl (pi_enumT (by rfl) T.z_enumerate (pa_cons (pv 1) pa_nil)) (pg_tup rfl (pgs_cons (pg_name (i := 6) sc_House__init_.nd rfl (by first | exact .inl rfl | exact .inr rfl)) (pgs_cons (pg_name (i := 7) sc_House__init_.nd rfl (by first | exact .inl rfl | exact .inr rfl)) pgs_nil))) (pss_cons (ps_if (PW.pt (pw_or (pt_cmpR (op_eqX (hu64 hr)) (pv 6) (pe_glob (by rfl) T.c_MAX_PERSONS.choose_spec.choose_spec.1 T.c_MAX_PERSONS.choose_spec.choose_spec.2.1) (nomark _)) (pw_or1 (pt_not (pt_val (pe_call (ok_is_table T) (hr.mono (by decide)) (by rfl) T.g_is_table T.F_is_table.kp T.b_is_table .nil (passE (E := E)) (pa_cons (pv 7) pa_nil))))))) (pss_one (ps_raise rfl (takes_of rfl rfl rfl rfl) (pmk_oex T.oe_InvalidHouse T.ii_InvalidHouse T.ti_InvalidHouse (ok_InvalidHouse__init_ T) (hr.mono (by decide)) T.b_InvalidHouse__init_ .nil (passE (E := fun _ _ _ => False)) (by rfl) T.g_InvalidHouse (pa_cons pe_str (pa_cons (pv 6) pa_nil))))) pss_nil)
      (pss_one (ps_set (i := 5) sc_House__init_.nd rfl (by first | exact .inl rfl | exact .inr rfl) (pe_call (ok_common_multiple T) (hr.mono (by decide)) (by rfl) T.g_common_multiple T.F_common_multiple.kp T.b_common_multiple .nil (passE (E := E)) (pa_cons (pv 5) (pa_cons (pe_callB call_len (by rfl) T.z_len bt_len (pa_cons (pv 7) pa_nil)) pa_nil)))))))
      (pss_cons (ps_if (pt_not (pt_val (pe_call (ok_is_int_in T) (hr.mono (by decide)) (by rfl) T.g_is_int_in T.F_is_int_in.kp T.b_is_int_in .nil (passE (E := E)) (pa_cons (pv 2) (pa_cons pe_int (pa_cons (pe_glob (by rfl) T.c_MAX_KEYS.choose_spec.choose_spec.1 T.c_MAX_KEYS.choose_spec.choose_spec.2.1) pa_nil)))))) (pss_one (ps_raise rfl (takes_of rfl rfl rfl rfl) (pmk_oex T.oe_InvalidHouse T.ii_InvalidHouse T.ti_InvalidHouse (ok_InvalidHouse__init_ T) (hr.mono (by decide)) T.b_InvalidHouse__init_ .nil (passE (E := fun _ _ _ => False)) (by rfl) T.g_InvalidHouse (pa_cons pe_str (pa_cons pe_int pa_nil))))) pss_nil)
      (pss_cons (ps_expr (pe_call (ok_check_persons T) (hr.mono (by decide)) (by rfl) T.g_check_persons T.F_check_persons.kp T.b_check_persons .nil (passX (E := E) rfl rfl rfl rfl) (pa_cons pe_str (pa_cons (pv 3) (pa_cons (pe_callB call_len (by rfl) T.z_len bt_len (pa_cons (pv 1) pa_nil)) pa_nil)))))
      (pss_cons (ps_if (pt_not (pt_val (pe_callB call_isi (by rfl) T.z_isinstance bt_isinstance (pa_cons (pv 4) (pa_cons (pe_bltn (v := .ty "tuple") (by rfl) T.z_tuple bt_tuple rfl) pa_nil))))) (pss_one (ps_raise rfl (takes_of rfl rfl rfl rfl) (pmk_oex T.oe_InvalidHouse T.ii_InvalidHouse T.ti_InvalidHouse (ok_InvalidHouse__init_ T) (hr.mono (by decide)) T.b_InvalidHouse__init_ .nil (passE (E := fun _ _ _ => False)) (by rfl) T.g_InvalidHouse (pa_cons pe_str (pa_cons pe_int pa_nil))))) pss_nil)
      (pss_cons (ps_for (passes_of rfl) rfl (pi_enumT (by rfl) T.z_enumerate (pa_cons (pv 4) pa_nil)) (pg_tup rfl (pgs_cons (pg_name (i := 6) sc_House__init_.nd rfl (by first | exact .inl rfl | exact .inr rfl)) (pgs_cons (pg_name (i := 8) sc_House__init_.nd rfl (by first | exact .inl rfl | exact .inr rfl)) pgs_nil))) (pss_cons (ps_if (PW.pt (pw_or (pt_cmpR (op_eqX (hu64 hr)) (pv 6) (pe_glob (by rfl) T.c_MAX_REMINDERS.choose_spec.choose_spec.1 T.c_MAX_REMINDERS.choose_spec.choose_spec.2.1) (nomark _)) (pw_or1 (pt_not (pt_val (pe_call (ok_is_reminder T) (hr.mono (by decide)) (by rfl) T.g_is_reminder T.F_is_reminder.kp T.b_is_reminder .nil (passE (E := E)) (pa_cons (pv 8) (pa_cons (pv 5) (pa_cons (pe_callB call_len (by rfl) T.z_len bt_len (pa_cons (pv 1) pa_nil)) pa_nil))))))))) (pss_one (ps_raise rfl (takes_of rfl rfl rfl rfl) (pmk_oex T.oe_InvalidHouse T.ii_InvalidHouse T.ti_InvalidHouse (ok_InvalidHouse__init_ T) (hr.mono (by decide)) T.b_InvalidHouse__init_ .nil (passE (E := fun _ _ _ => False)) (by rfl) T.g_InvalidHouse (pa_cons pe_str (pa_cons (pv 6) pa_nil))))) pss_nil)
      (pss_one (ps_if (PW.pt (pw_and (pt_cmpR op_gt (pv 6) pe_int (nomark _)) (pw_and1 (pt_cmpR (op_leX (hu0 hr)) (pv 8) (pe_ix ix_seq (pv 4) (pe_op op_sub (pv 6) pe_int) (fun _ _ => rfl)) (nomark _))))) (pss_one (ps_raise rfl (takes_of rfl rfl rfl rfl) (pmk_oex T.oe_InvalidHouse T.ii_InvalidHouse T.ti_InvalidHouse (ok_InvalidHouse__init_ T) (hr.mono (by decide)) T.b_InvalidHouse__init_ .nil (passE (E := fun _ _ _ => False)) (by rfl) T.g_InvalidHouse (pa_cons pe_str (pa_cons (pv 6) pa_nil))))) pss_nil))))
      (pss_cons (ps_fld (pv 0) (pv 1) rfl)
      (pss_cons (ps_fld (pv 0) (pv 2) rfl)
      (pss_cons (ps_fld (pv 0) (pv 3) rfl)
      (pss_cons (ps_fld (pv 0) (pv 4) rfl)
      (pss_one (ps_fld (pv 0) (pv 5) rfl))))))))))))),
      (rs_seq (rs_if (μ := none) (ref_or (ref_not (ref_testB (ref_isi (ref_var (by decide))))) (ref_test (ref_op2 o2_eq (ref_var (by decide)) (ref_tup ref_anil)))) (rs_raise (c := 1) T.oe_InvalidHouse T.no_InvalidHouse rfl rfl (by decide) (ref_acons ref_str (ref_acons ref_int ref_anil))) rs_next)
      (rs_seq (rs_set (by decide) ref_int)
      (rs_seq (rs_for (ri_enumT (ref_var (by decide))) (rg_tup (rgs_cons (rg_set (by decide)) (rgs_cons (rg_set (by decide)) rgs_nil)) rfl) (rs_seq (rs_if (μ := none) (ref_or (ref_test (ref_op2 o2_eq (ref_var (by decide)) (ref_c (T.c_MAX_PERSONS.choose_spec.choose_spec.2.2 _ _)))) (ref_not (ref_testB (ref_call (fun _ _ => RepL.nil) (fun ds => runF_ar) (ref_acons (ref_var (by decide)) ref_anil))))) (rs_raise (c := 1) T.oe_InvalidHouse T.no_InvalidHouse rfl rfl (by decide) (ref_acons ref_str (ref_acons (ref_var (by decide)) ref_anil))) rs_next)
      (rs_set (by decide) (ref_call (fun _ _ => RepL.nil) (fun ds => runF_ar) (ref_acons (ref_var (by decide)) (ref_acons (ref_opA oA_len (ref_acons (ref_var (by decide)) ref_anil)) ref_anil))))))
      (rs_seq (rs_if (μ := none) (ref_not (ref_testB (ref_call (fun _ _ => RepL.nil) (fun ds => runF_ar) (ref_acons (ref_var (by decide)) (ref_acons ref_int (ref_acons (ref_c (T.c_MAX_KEYS.choose_spec.choose_spec.2.2 _ _)) ref_anil)))))) (rs_raise (c := 1) T.oe_InvalidHouse T.no_InvalidHouse rfl rfl (by decide) (ref_acons ref_str (ref_acons ref_int ref_anil))) rs_next)
      (rs_seq (rs_drop (μ := none) (ref_call (fun _ _ => RepL.nil) (fun ds => runF_ar) (ref_acons ref_str (ref_acons (ref_var (by decide)) (ref_acons (ref_opA oA_len (ref_acons (ref_var (by decide)) ref_anil)) ref_anil)))))
      (rs_seq (rs_if (μ := none) (ref_not (ref_testB (ref_isi (ref_var (by decide))))) (rs_raise (c := 1) T.oe_InvalidHouse T.no_InvalidHouse rfl rfl (by decide) (ref_acons ref_str (ref_acons ref_int ref_anil))) rs_next)
      (rs_seq (rs_for (ri_enumT (ref_var (by decide))) (rg_tup (rgs_cons (rg_set (by decide)) (rgs_cons (rg_set (by decide)) rgs_nil)) rfl) (rs_seq (rs_if (μ := none) (ref_or (ref_test (ref_op2 o2_eq (ref_var (by decide)) (ref_c (T.c_MAX_REMINDERS.choose_spec.choose_spec.2.2 _ _)))) (ref_not (ref_testB (ref_call (fun _ _ => RepL.nil) (fun ds => runF_ar) (ref_acons (ref_var (by decide)) (ref_acons (ref_var (by decide)) (ref_acons (ref_opA oA_len (ref_acons (ref_var (by decide)) ref_anil)) ref_anil))))))) (rs_raise (c := 1) T.oe_InvalidHouse T.no_InvalidHouse rfl rfl (by decide) (ref_acons ref_str (ref_acons (ref_var (by decide)) ref_anil))) rs_next)
      (rs_if (μ := none) (ref_and (ref_test (ref_op2 o2_gtI (ref_var (by decide)) ref_int)) (ref_test (ref_op2 o2_le (ref_var (by decide)) (ref_op2 o2_ix (ref_var (by decide)) (ref_op2 o2_sub (ref_var (by decide)) ref_int))))) (rs_raise (c := 1) T.oe_InvalidHouse T.no_InvalidHouse rfl rfl (by decide) (ref_acons ref_str (ref_acons (ref_var (by decide)) ref_anil))) rs_next)))
      (rs_seq (rs_setFld T.cl_House T.na_House_tables rfl nd_House lt_House (by decide) (ref_var (by decide)))
      (rs_seq (rs_setFld T.cl_House T.na_House_key_count rfl nd_House lt_House (by decide) (ref_var (by decide)))
      (rs_seq (rs_setFld T.cl_House T.na_House_careful rfl nd_House lt_House (by decide) (ref_var (by decide)))
      (rs_seq (rs_setFld T.cl_House T.na_House_reminders rfl nd_House lt_House (by decide) (ref_var (by decide)))
      (rs_setFld T.cl_House T.na_House_length rfl nd_House lt_House (by decide) (ref_var (by decide))))))))))))))⟩
theorem ok_House_period (T : Txt K mg A) : FnOk P w K mg base CX0 1 A.f_House_period A.fd_House_period ["self"] (spM (S K A Hb lf) false 1 d_House_period) :=
  fnD_ok (O := []) T.F_House_period sc_House_period (by decide) (by decide) fun cdv A2 outer s H E hr => ⟨_, (pss_one (ps_ret (pe_fld (pv 0) rfl))),
      (rs_ret (μ := none) (by intro z; cases z) (by intro _ z; cases z) (ref_fld T.cl_House T.na_House_length rfl nd_House (ref_var (by decide))))⟩
theorem ok_law_below (T : Txt K mg A) : FnOk P w K mg base CX0 1 A.f_law_below A.fd_law_below ["_law_d", "_law_limit"] (spM0 (S K A Hb lf) 2 d_law_below) :=
  fnD_ok0 (O := []) T.F_law_below sc_law_below (by decide) (by decide) fun cdv A2 outer s H E hr => ⟨_, (pss_cons (ps_if (PW.pt (pw_and (pt_cmpR (op_eqX (hu64 hr)) (pe_ix ix_seq (pv 0) pe_int (fun _ _ => rfl)) pe_int (nomark _)) (pw_and1 (pt_cmpR op_gt (pe_callB call_len (by rfl) T.z_len bt_len (pa_cons (pv 0) pa_nil)) pe_int (nomark _))))) (pss_one (ps_asg (pe_bm PySem.F.plainAttrs_list PySem.F.slot_list_pop PySem.F.type_list_pop mt_popAt (pv 0) (pa_cons pe_int pa_nil)) (pg_sub (pv 0) pe_int set_list))) pss_nil)
      (pss_cons (ps_if (pt_cmpR op_gt (pe_ix ix_seq (pv 0) pe_int (fun _ _ => rfl)) pe_int (nomark _)) (pss_cons (ps_set (i := 2) sc_law_below.nd rfl (by first | exact .inl rfl | exact .inr rfl) (pe_op op_modN (pe_ix ix_seq (pv 0) pe_int (fun _ _ => rfl)) (pv 1)))
      (pss_cons (ps_asg (pe_op op_fdivN (pe_ix ix_seq (pv 0) pe_int (fun _ _ => rfl)) (pv 1)) (pg_sub (pv 0) pe_int set_list))
      (pss_one (ps_ret (pv 2))))) pss_nil)
      (pss_cons (ps_asg (pe_op op_modN (pe_op op_addX (pe_op op_mul (pe_ix ix_seq (pv 0) pe_int (fun _ _ => rfl)) pe_int) pe_int) pe_int) (pg_sub (pv 0) pe_int set_list))
      (pss_one (ps_ret (pe_op op_modN (pe_op op_fdivN (pe_ix ix_seq (pv 0) pe_int (fun _ _ => rfl)) pe_int) (pv 1))))))),
      (rs_seq (rs_if (μ := none) (ref_upT (U := [0]) (ref_and (ref_test (ref_op2 o2_eq (ref_op2 o2_ix (ref_own (by decide) (by decide)) ref_int) ref_int)) (ref_test (ref_op2 o2_gtI (ref_opA oA_len (ref_acons (ref_own (by decide) (by decide)) ref_anil)) ref_int)))) (rs_setIx (by decide) (ref_popAt (by decide))) rs_next)
      (rs_seq (rs_if (μ := none) (ref_upT (U := [0]) (ref_test (ref_op2 o2_gtI (ref_op2 o2_ix (ref_own (by decide) (by decide)) ref_int) ref_int))) (rs_seq (rs_set (by decide) (ref_up (U := [0]) (ref_op2 o2_mod (ref_op2 o2_ix (ref_own (by decide) (by decide)) ref_int) (ref_var (by decide)))))
      (rs_seq (rs_setIx (by decide) (ref_up (U := [0]) (ref_op2 o2_fdiv (ref_op2 o2_ix (ref_own (by decide) (by decide)) ref_int) (ref_var (by decide)))))
      (rs_ret (μ := none) (by intro z; cases z) (by intro _ z; cases z) (ref_var (by decide))))) rs_next)
      (rs_seq (rs_setIx (by decide) (ref_up (U := [0]) (ref_op2 o2_mod (ref_op2 o2_add (ref_op2 o2_mul (ref_op2 o2_ix (ref_own (by decide) (by decide)) ref_int) ref_int) ref_int) ref_int)))
      (rs_ret (μ := none) (by intro z; cases z) (by intro _ z; cases z) (ref_up (U := [0]) (ref_op2 o2_mod (ref_op2 o2_fdiv (ref_op2 o2_ix (ref_own (by decide) (by decide)) ref_int) ref_int) (ref_var (by decide))))))))⟩
theorem ok_law_table (T : Txt K mg A) : FnOk P w K mg base CX0 2 A.f_law_table A.fd_law_table ["_law_d"] (spM0 (S K A Hb lf) 1 d_law_table) :=
  fnD_ok0 (O := []) T.F_law_table sc_law_table (by decide) (by decide) fun cdv A2 outer s H E hr => ⟨_, (pss_cons (ps_set (i := 1) sc_law_table.nd rfl (by first | exact .inl rfl | exact .inr rfl) (pe_ix ix_seq (pe_lst (pa_cons pe_int (pa_cons pe_int (pa_cons pe_int (pa_cons pe_int (pa_cons pe_int (pa_cons pe_int (pa_cons pe_int (pa_cons pe_int (pa_cons pe_int pa_nil)))))))))) (pe_call (ok_law_below T) (hr.mono (by decide)) (by rfl) T.g_law_below T.F_law_below.kp T.b_law_below .nil (passE (E := E)) (pa_cons (pv 0) (pa_cons (pe_ix ix_seq (pe_lst (pa_cons pe_int (pa_cons pe_int (pa_cons pe_int pa_nil)))) (pe_call (ok_law_below T) (hr.mono (by decide)) (by rfl) T.g_law_below T.F_law_below.kp T.b_law_below .nil (passE (E := E)) (pa_cons (pv 0) (pa_cons pe_int pa_nil))) (fun _ _ => rfl)) pa_nil))) (fun _ _ => rfl)))
      (pss_one (ps_ret (pe_join pe_str (pe_lc rfl sc_law_table.nd (pi_range1 (by rfl) T.z_range (pa_cons (pv 1) pa_nil)) (blkOk_by (own := [("_law_k", 2)]) (by kernel_rfl)) (fun _ _ _ _ _ => (pg_name (i := 2) sc_law_table.nd rfl (by first | exact .inl rfl | exact .inr rfl))) (fun _ _ _ _ _ => pts_nil) (fun _ _ _ _ _ => (pe_ix ix_seq pe_str (pe_call (ok_law_below T) (hr.mono (by decide)) (by rfl) T.g_law_below T.F_law_below.kp T.b_law_below .nil (passE (E := E)) (pa_cons (pv 0) (pa_cons pe_int pa_nil))) (fun _ _ => rfl)))))))),
      (rs_seq (rs_set (by decide) (ref_op2 o2_ix (ref_lst (ref_acons ref_int (ref_acons ref_int (ref_acons ref_int (ref_acons ref_int (ref_acons ref_int (ref_acons ref_int (ref_acons ref_int (ref_acons ref_int (ref_acons ref_int ref_anil)))))))))) (ref_callO (by decide) (fun d ds => runF0_ar) (ref_acons (ref_op2 o2_ix (ref_lst (ref_acons ref_int (ref_acons ref_int (ref_acons ref_int ref_anil)))) (ref_callO (by decide) (fun d ds => runF0_ar) (ref_acons ref_int ref_anil))) ref_anil))))
      (rs_ret (μ := none) (by intro z; cases z) (by intro _ z; cases z) (ref_m1 o2_join ref_str (ref_lc (E1 := E) (E2 := E) (vs := [2]) (ri_range1 (ref_acons (ref_var (by decide)) ref_anil)) (rg_set (by decide)) rt_yes (ref_op2 o2_ix ref_str (ref_callO (by decide) (fun d ds => runF0_ar) (ref_acons ref_int ref_anil))) (by decide) (by decide)))))⟩
theorem ok_law_length (T : Txt K mg A) : FnOk P w K mg base CX0 1 A.f_law_length A.fd_law_length ["_law_tables"] (spM (S K A Hb lf) false 1 d_law_length) :=
  fnD_ok (O := []) T.F_law_length sc_law_length (by decide) (by decide) fun cdv A2 outer s H E hr => ⟨_, (pss_cons (ps_set (i := 1) sc_law_length.nd rfl (by first | exact .inl rfl | exact .inr rfl) pe_int)
      (pss_cons (ps_while PassesOwn.never (pt_cmpR (op_neX (hu64 hr)) (pe_lc rfl sc_law_length.nd (pi_seqX (pv 0)) (blkOk_by (own := [("_law_table_here", 2)]) (by kernel_rfl)) (fun _ _ _ _ _ => (pg_name (i := 2) sc_law_length.nd rfl (by first | exact .inl rfl | exact .inr rfl))) (fun _ _ _ _ _ => (pts_one (pt_cmpR op_gt (pe_op op_modN (pv 1) (pe_callB call_len (by rfl) T.z_len bt_len (pa_cons (pv 2) pa_nil))) pe_int (nomark _)))) (fun _ _ _ _ _ => (pv 2))) (pe_lst pa_nil) (nomark _)) (pss_one (ps_set (i := 1) sc_law_length.nd rfl (by first | exact .inl rfl | exact .inr rfl) (pe_op op_addX (pv 1) pe_int))))
      (pss_one (ps_ret (pv 1))))),
      (rs_seq (rs_set (by decide) ref_int)
      (rs_seq (rs_while (ref_test (ref_op2 o2_ne (ref_lc (E1 := E) (E2 := E) (vs := [2]) (ri_seq (ref_var (by decide))) (rg_set (by decide)) (ref_test (ref_op2 o2_gtI (ref_op2 o2_mod (ref_var (by decide)) (ref_opA oA_len (ref_acons (ref_var (by decide)) ref_anil))) ref_int)) (ref_var (by decide)) (by decide) (by decide)) (ref_lst ref_anil))) (rs_set (by decide) (ref_op2 o2_add (ref_var (by decide)) ref_int)))
      (rs_ret (μ := none) (by intro z; cases z) (by intro _ z; cases z) (ref_var (by decide)))))⟩
theorem ok_law_parts (T : Txt K mg A) : FnOk P w K mg base CX0 3 A.f_law_parts A.fd_law_parts ["_law_d", "_law_most"] (spM0 (S K A Hb lf) 2 d_law_parts) :=
  fnD_ok0 (O := [6]) T.F_law_parts sc_law_parts (by decide) (by decide) fun cdv A2 outer s H E hr => ⟨_, (pss_cons (ps_set (i := 2) sc_law_parts.nd rfl (by first | exact .inl rfl | exact .inr rfl) (pe_callTy call_tuple_of (by rfl) T.z_tuple bt_tuple (pa_cons (pe_lc rfl sc_law_parts.nd (pi_range1 (by rfl) T.z_range (pa_cons (pe_op op_addX pe_int (pe_call (ok_law_below T) (hr.mono (by decide)) (by rfl) T.g_law_below T.F_law_below.kp T.b_law_below .nil (passE (E := E)) (pa_cons (pv 0) (pa_cons (pv 1) pa_nil)))) pa_nil)) (blkOk_by (own := [("_law_k", 4)]) (by kernel_rfl)) (fun _ _ _ _ _ => (pg_name (i := 4) sc_law_parts.nd rfl (by first | exact .inl rfl | exact .inr rfl))) (fun _ _ _ _ _ => pts_nil) (fun _ _ _ _ _ => (pe_call (ok_law_table T) (hr.mono (by decide)) (by rfl) T.g_law_table T.F_law_table.kp T.b_law_table .nil (passE (E := E)) (pa_cons (pv 0) pa_nil)))) pa_nil)))
      (pss_cons (ps_set (i := 3) sc_law_parts.nd rfl (by first | exact .inl rfl | exact .inr rfl) (pe_callTy call_tuple_of (by rfl) T.z_tuple bt_tuple (pa_cons (pe_lc rfl sc_law_parts.nd (pi_range1 (by rfl) T.z_range (pa_cons (pe_callB call_len (by rfl) T.z_len bt_len (pa_cons (pv 2) pa_nil)) pa_nil)) (blkOk_by (own := [("_law_k", 4)]) (by kernel_rfl)) (fun _ _ _ _ _ => (pg_name (i := 4) sc_law_parts.nd rfl (by first | exact .inl rfl | exact .inr rfl))) (fun _ _ _ _ _ => (pts_one (pt_cmpR (op_eqX (hu64 hr)) (pe_call (ok_law_below T) (hr.mono (by decide)) (by rfl) T.g_law_below T.F_law_below.kp T.b_law_below .nil (passE (E := E)) (pa_cons (pv 0) (pa_cons pe_int pa_nil))) pe_int (nomark _)))) (fun _ _ _ _ _ => (pv 4))) pa_nil)))
      (pss_cons (ps_par (i := 5) (j := 6) rfl sc_law_parts.nd rfl rfl (by decide) rfl rfl (pa_cons (pe_call (ok_law_length T) (hr.mono (by decide)) (by rfl) T.g_law_length T.F_law_length.kp T.b_law_length .nil (passE (E := E)) (pa_cons (pv 2) pa_nil)) (pa_cons (pe_lst pa_nil) pa_nil)) rfl)
      (pss_cons (ps_for PassesOwn.never rfl (pi_range1 (by rfl) T.z_range (pa_cons (pe_call (ok_law_below T) (hr.mono (by decide)) (by rfl) T.g_law_below T.F_law_below.kp T.b_law_below .nil (passE (E := E)) (pa_cons (pv 0) (pa_cons (pe_ix ix_seq (pe_lst (pa_cons pe_int (pa_cons pe_int (pa_cons pe_int pa_nil)))) (pe_call (ok_law_below T) (hr.mono (by decide)) (by rfl) T.g_law_below T.F_law_below.kp T.b_law_below .nil (passE (E := E)) (pa_cons (pv 0) (pa_cons pe_int pa_nil))) (fun _ _ => rfl)) pa_nil))) pa_nil)) (pg_name (i := 4) sc_law_parts.nd rfl (by first | exact .inl rfl | exact .inr rfl)) (pss_cons (ps_set (i := 7) sc_law_parts.nd rfl (by first | exact .inl rfl | exact .inr rfl) (pe_tup (pa_cons (pe_call (ok_law_below T) (hr.mono (by decide)) (by rfl) T.g_law_below T.F_law_below.kp T.b_law_below .nil (passE (E := E)) (pa_cons (pv 0) (pa_cons (pv 5) pa_nil))) (pa_cons (pe_call (ok_law_below T) (hr.mono (by decide)) (by rfl) T.g_law_below T.F_law_below.kp T.b_law_below .nil (passE (E := E)) (pa_cons (pv 0) (pa_cons (pe_callB call_len (by rfl) T.z_len bt_len (pa_cons (pv 2) pa_nil)) pa_nil))) pa_nil))))
      (pss_one (ps_if (pt_cmpR (op_notInX (hu65 hr)) (pv 7) (pv 6) (by rfl)) (pss_one (ps_expr (pe_bm PySem.F.plainAttrs_list PySem.F.slot_list_append PySem.F.type_list_append mt_append (pv 6) (pa_cons (pv 7) pa_nil)))) pss_nil))))
      (pss_one (ps_ret (pe_tup (pa_cons (pv 2) (pa_cons (pe_call (ok_law_below T) (hr.mono (by decide)) (by rfl) T.g_law_below T.F_law_below.kp T.b_law_below .nil (passE (E := E)) (pa_cons (pv 0) (pa_cons (pe_ix ix_seq (pe_lst (pa_cons pe_int (pa_cons pe_int pa_nil))) (pe_call (ok_law_below T) (hr.mono (by decide)) (by rfl) T.g_law_below T.F_law_below.kp T.b_law_below .nil (passE (E := E)) (pa_cons (pv 0) (pa_cons pe_int pa_nil))) (fun _ _ => rfl)) pa_nil))) (pa_cons (pv 3) (pa_cons (pe_callTy call_tuple_of (by rfl) T.z_tuple bt_tuple (pa_cons (pe_callB cr_sortX (by rfl) T.z_sorted bt_sorted (pa_cons (pv 6) pa_nil)) pa_nil)) pa_nil))))))))))),
      (rs_seq (rs_set (by decide) (ref_opA oA_tuple (ref_acons (ref_lc (E1 := E) (E2 := E) (vs := [4]) (ri_range1 (ref_acons (ref_op2 o2_add ref_int (ref_callO (by decide) (fun d ds => runF0_ar) (ref_acons (ref_var (by decide)) ref_anil))) ref_anil)) (rg_set (by decide)) rt_yes (ref_callO (by decide) (fun d ds => runF0_ar) ref_anil) (by decide) (by decide)) ref_anil)))
      (rs_seq (rs_set (by decide) (ref_opA oA_tuple (ref_acons (ref_lc (E1 := E) (E2 := E) (vs := [4]) (ri_range1 (ref_acons (ref_opA oA_len (ref_acons (ref_var (by decide)) ref_anil)) ref_anil)) (rg_set (by decide)) (ref_test (ref_op2 o2_eq (ref_callO (by decide) (fun d ds => runF0_ar) (ref_acons ref_int ref_anil)) ref_int)) (ref_var (by decide)) (by decide) (by decide)) ref_anil)))
      (rs_seq (rs_parO (by decide) (by decide) (by decide) (ref_call (fun _ _ => RepL.nil) (fun ds => runF_ar) (ref_acons (ref_var (by decide)) ref_anil)) (ref_lst ref_anil))
      (rs_seq (rs_for (ri_range1 (ref_acons (ref_callO (by decide) (fun d ds => runF0_ar) (ref_acons (ref_op2 o2_ix (ref_lst (ref_acons ref_int (ref_acons ref_int (ref_acons ref_int ref_anil)))) (ref_callO (by decide) (fun d ds => runF0_ar) (ref_acons ref_int ref_anil))) ref_anil)) ref_anil)) (rg_set (by decide)) (rs_seq (rs_set (by decide) (ref_tup (ref_acons (ref_callO (by decide) (fun d ds => runF0_ar) (ref_acons (ref_var (by decide)) ref_anil)) (ref_acons (ref_callO (by decide) (fun d ds => runF0_ar) (ref_acons (ref_opA oA_len (ref_acons (ref_var (by decide)) ref_anil)) ref_anil)) ref_anil))))
      (rs_if (μ := none) (ref_upT (U := [0, 6]) (ref_test (ref_op2 o2_notIn (ref_var (by decide)) (ref_own (by decide) (by decide))))) (rs_app (by decide) (ref_var (by decide))) rs_next)))
      (rs_ret (μ := none) (by intro z; cases z) (by intro _ z; cases z) (ref_tup (ref_acons (ref_var (by decide)) (ref_acons (ref_callO (by decide) (fun d ds => runF0_ar) (ref_acons (ref_op2 o2_ix (ref_lst (ref_acons ref_int (ref_acons ref_int ref_anil))) (ref_callO (by decide) (fun d ds => runF0_ar) (ref_acons ref_int ref_anil))) ref_anil)) (ref_acons (ref_var (by decide)) (ref_acons (ref_up (U := [0, 6]) (ref_opA oA_tuple (ref_acons (ref_opA oA_sorted (ref_acons (ref_own (by decide) (by decide)) ref_anil)) ref_anil))) ref_anil))))))))))⟩
theorem ok_law_error_of (T : Txt K mg A) : CloG P w K mg true (S K A Hb lf) 6 8 [] ["_law_call"] A.f_law_error_of A.fd_law_error_of d_law_error_of :=
  fun base1 H1 f0 ft F => fnD_ok (S := S K A H1 (fun _ => f0)) (O := []) T.F_law_error_of sc_law_error_of (by decide) (by decide) fun cdv A2 outer s H E hr => ⟨_, (pss_cons (ps_try_as (i := 1) rfl rfl sc_law_error_of.nd rfl rfl ⟨rfl, by decide, .inl T.g_HouseError⟩ takes0 (fun W pn xe tk _ => pss_one (ps_expr (pe_callV0 F (hr.mono (by decide)) (by rfl) (by first | exact .inl rfl | exact .inr (.inl rfl) | exact .inr (.inr rfl)) (fun σ => passAt tk σ)))) (fun a oe cls dd pn hz hf => (pss_cons (ps_set (i := 2) sc_law_error_of.nd rfl (by first | exact .inl rfl | exact .inr rfl) (pe_lst (pa_cons (pe_callB (call_isX hz hf) (by rfl) T.z_isinstance bt_isinstance (pa_cons (pv 1) (pa_cons (pe_glob (v := .ref A.C_InvalidTick) (by rfl) T.g_InvalidTick rfl) pa_nil))) (pa_cons (pe_callB (call_isX hz hf) (by rfl) T.z_isinstance bt_isinstance (pa_cons (pv 1) (pa_cons (pe_glob (v := .ref A.C_UnknownPerson) (by rfl) T.g_UnknownPerson rfl) pa_nil))) (pa_cons (pe_callB (call_isX hz hf) (by rfl) T.z_isinstance bt_isinstance (pa_cons (pv 1) (pa_cons (pe_glob (v := .ref A.C_InvalidLimit) (by rfl) T.g_InvalidLimit rfl) pa_nil))) pa_nil)))))
      (pss_cons (ps_set (i := 2) sc_law_error_of.nd rfl (by first | exact .inl rfl | exact .inr rfl) (pe_op op_addXS (pv 2) (pe_lst (pa_cons (pe_callB (call_isX hz hf) (by rfl) T.z_isinstance bt_isinstance (pa_cons (pv 1) (pa_cons (pe_glob (v := .ref A.C_DifferentHouses) (by rfl) T.g_DifferentHouses rfl) pa_nil))) (pa_cons (pe_callB (call_isX hz hf) (by rfl) T.z_isinstance bt_isinstance (pa_cons (pv 1) (pa_cons (pe_glob (v := .ref A.C_InvalidWaiting) (by rfl) T.g_InvalidWaiting rfl) pa_nil))) (pa_cons (pe_callB (call_isX hz hf) (by rfl) T.z_isinstance bt_isinstance (pa_cons (pv 1) (pa_cons (pe_glob (v := .ref A.C_Contradiction) (by rfl) T.g_Contradiction rfl) pa_nil))) pa_nil))))))
      (pss_cons (ps_set (i := 2) sc_law_error_of.nd rfl (by first | exact .inl rfl | exact .inr rfl) (pe_op op_addXS (pv 2) (pe_lst (pa_cons (pe_callB (call_isX hz hf) (by rfl) T.z_isinstance bt_isinstance (pa_cons (pv 1) (pa_cons (pe_glob (v := .ref A.C_InvalidName) (by rfl) T.g_InvalidName rfl) pa_nil))) (pa_cons (pe_callB (call_isX hz hf) (by rfl) T.z_isinstance bt_isinstance (pa_cons (pv 1) (pa_cons (pe_glob (v := .ref A.C_UnknownName) (by rfl) T.g_UnknownName rfl) pa_nil))) (pa_cons (pe_callB (call_isX hz hf) (by rfl) T.z_isinstance bt_isinstance (pa_cons (pv 1) (pa_cons (pe_glob (v := .ref A.C_InvalidHouse) (by rfl) T.g_InvalidHouse rfl) pa_nil))) pa_nil))))))
      (pss_cons (ps_set (i := 2) sc_law_error_of.nd rfl (by first | exact .inl rfl | exact .inr rfl) (pe_op op_addXS (pv 2) (pe_lst (pa_cons (pe_callB (call_isX hz hf) (by rfl) T.z_isinstance bt_isinstance (pa_cons (pv 1) (pa_cons (pe_glob (v := .ref A.C_TextFault) (by rfl) T.g_TextFault rfl) pa_nil))) (pa_cons (pe_callB (call_isX hz hf) (by rfl) T.z_isinstance bt_isinstance (pa_cons (pv 1) (pa_cons (pe_glob (v := .ref A.C_InvalidCode) (by rfl) T.g_InvalidCode rfl) pa_nil))) (pa_cons (pe_callB (call_isX hz hf) (by rfl) T.z_isinstance bt_isinstance (pa_cons (pv 1) (pa_cons (pe_glob (v := .ref A.C_InvalidOperation) (by rfl) T.g_InvalidOperation rfl) pa_nil))) pa_nil))))))
      (pss_cons (ps_if (PW.pt (pw_or (pt_cmpR (op_neXS (hu64 hr)) (pe_bmS PySem.F.plainAttrs_list PySem.F.slot_list_count PySem.F.type_list_count mt_cntBS (pv 2) (pa_cons pe_bl pa_nil)) pe_int (nomark _)) (pw_or1 (pt_not (pt_val (pe_callB (call_isX hz hf) (by rfl) T.z_isinstance bt_isinstance (pa_cons (pv 1) (pa_cons (pe_bltn (v := .ty "ValueError") (by rfl) T.z_ValueError PyProof.Rows.Boot.«ValueError» rfl) pa_nil)))))))) (pss_one (ps_ret (pe_tup (pa_cons pe_str (pa_cons pe_int pa_nil))))) pss_nil)
      (pss_cons (ps_set (i := 3) sc_law_error_of.nd rfl (by first | exact .inl rfl | exact .inr rfl) (pe_lst (pa_cons pe_str (pa_cons pe_str (pa_cons pe_str (pa_cons pe_str (pa_cons pe_str (pa_cons pe_str (pa_cons pe_str (pa_cons pe_str (pa_cons pe_str (pa_cons pe_str pa_nil))))))))))))
      (pss_cons (ps_set (i := 4) sc_law_error_of.nd rfl (by first | exact .inl rfl | exact .inr rfl) (pe_ix ix_seqS (pe_op op_addXS (pv 3) (pe_lst (pa_cons pe_str (pa_cons pe_str pa_nil)))) (pe_bmS PySem.F.plainAttrs_list PySem.F.slot_list_index PySem.F.type_list_index (mt_indexDS (hu65 hr)) (pv 2) (pa_cons pe_bl pa_nil)) (fun _ _ => rfl)))
      (pss_cons (ps_if (pt_cmpR (op_eqXS (hu64 hr)) (pv 4) pe_str (nomark _)) (pss_one (ps_ret (pe_tup (pa_cons (pv 4) (pa_cons (pe_tup (pa_cons (pe_xg hz hf (pv 1)) (pa_cons (pe_xg hz hf (pv 1)) pa_nil))) pa_nil))))) pss_nil)
      (pss_cons (ps_if (pt_cmpR (op_eqXS (hu64 hr)) (pv 4) pe_str (nomark _)) (pss_one (ps_ret (pe_tup (pa_cons (pv 4) (pa_cons (pe_xg hz hf (pv 1)) pa_nil))))) pss_nil)
      (pss_one (ps_ret (pe_tup (pa_cons (pv 4) (pa_cons (pe_ifExp (pt_cmpR (op_inXS (hu65 hr)) (pv 4) (pe_lst (pa_cons pe_str (pa_cons pe_str pa_nil))) (by rfl)) (pe_xg hz hf (pv 1)) pe_int) pa_nil))))))))))))))))
      (pss_one (ps_ret pe_non))),
      (rs_seq (rs_tryL (fun _ => rfl) (List.forall_mem_cons.mpr ⟨(fun x a cls dd Hc ex xr => (rs_seq (rs_set (by decide) (ref_lst (ref_acons (ref_isX (by decide) (xr.1.trans (congrArg (fun n => Value.ref (Sc.ca (S K A) n)) ex)) T.xc_InvalidHouse (DdAt.of xr) (fun _ z => z) T.kt_InvalidHouse_InvalidTick) (ref_acons (ref_isX (by decide) (xr.1.trans (congrArg (fun n => Value.ref (Sc.ca (S K A) n)) ex)) T.xc_InvalidHouse (DdAt.of xr) (fun _ z => z) T.kt_InvalidHouse_UnknownPerson) (ref_acons (ref_isX (by decide) (xr.1.trans (congrArg (fun n => Value.ref (Sc.ca (S K A) n)) ex)) T.xc_InvalidHouse (DdAt.of xr) (fun _ z => z) T.kt_InvalidHouse_InvalidLimit) ref_anil)))))
      (rs_seq (rs_set (by decide) (ref_op2 o2_add (ref_var (by decide)) (ref_lst (ref_acons (ref_isX (by decide) (xr.1.trans (congrArg (fun n => Value.ref (Sc.ca (S K A) n)) ex)) T.xc_InvalidHouse (DdAt.of xr) (fun _ z => z) T.kt_InvalidHouse_DifferentHouses) (ref_acons (ref_isX (by decide) (xr.1.trans (congrArg (fun n => Value.ref (Sc.ca (S K A) n)) ex)) T.xc_InvalidHouse (DdAt.of xr) (fun _ z => z) T.kt_InvalidHouse_InvalidWaiting) (ref_acons (ref_isX (by decide) (xr.1.trans (congrArg (fun n => Value.ref (Sc.ca (S K A) n)) ex)) T.xc_InvalidHouse (DdAt.of xr) (fun _ z => z) T.kt_InvalidHouse_Contradiction) ref_anil))))))
      (rs_seq (rs_set (by decide) (ref_op2 o2_add (ref_var (by decide)) (ref_lst (ref_acons (ref_isX (by decide) (xr.1.trans (congrArg (fun n => Value.ref (Sc.ca (S K A) n)) ex)) T.xc_InvalidHouse (DdAt.of xr) (fun _ z => z) T.kt_InvalidHouse_InvalidName) (ref_acons (ref_isX (by decide) (xr.1.trans (congrArg (fun n => Value.ref (Sc.ca (S K A) n)) ex)) T.xc_InvalidHouse (DdAt.of xr) (fun _ z => z) T.kt_InvalidHouse_UnknownName) (ref_acons (ref_isX (by decide) (xr.1.trans (congrArg (fun n => Value.ref (Sc.ca (S K A) n)) ex)) T.xc_InvalidHouse (DdAt.of xr) (fun _ z => z) T.kt_InvalidHouse_InvalidHouse) ref_anil))))))
      (rs_seq (rs_set (by decide) (ref_op2 o2_add (ref_var (by decide)) (ref_lst (ref_acons (ref_isX (by decide) (xr.1.trans (congrArg (fun n => Value.ref (Sc.ca (S K A) n)) ex)) T.xc_InvalidHouse (DdAt.of xr) (fun _ z => z) T.kt_InvalidHouse_TextFault) (ref_acons (ref_isX (by decide) (xr.1.trans (congrArg (fun n => Value.ref (Sc.ca (S K A) n)) ex)) T.xc_InvalidHouse (DdAt.of xr) (fun _ z => z) T.kt_InvalidHouse_InvalidCode) (ref_acons (ref_isX (by decide) (xr.1.trans (congrArg (fun n => Value.ref (Sc.ca (S K A) n)) ex)) T.xc_InvalidHouse (DdAt.of xr) (fun _ z => z) T.kt_InvalidHouse_InvalidOperation) ref_anil))))))
      (rs_seq (rs_if (μ := none) (ref_or (ref_test (ref_op2 o2_ne (ref_cnt (ref_var (by decide)) ref_bl) ref_int)) (ref_not (ref_testB (ref_isX (by decide) (xr.1.trans (congrArg (fun n => Value.ref (Sc.ca (S K A) n)) ex)) T.xc_InvalidHouse (DdAt.of xr) (fun _ z => z) T.kt_InvalidHouse_ValueError)))) (rs_ret (μ := none) (by intro z; cases z) (by intro _ z; cases z) (ref_tup (ref_acons ref_str (ref_acons ref_int ref_anil)))) rs_next)
      (rs_seq (rs_set (by decide) (ref_lst (ref_acons ref_str (ref_acons ref_str (ref_acons ref_str (ref_acons ref_str (ref_acons ref_str (ref_acons ref_str (ref_acons ref_str (ref_acons ref_str (ref_acons ref_str (ref_acons ref_str ref_anil))))))))))))
      (rs_seq (rs_set (by decide) (ref_op2 o2_ix (ref_op2 o2_add (ref_var (by decide)) (ref_lst (ref_acons ref_str (ref_acons ref_str ref_anil)))) (ref_index (ref_var (by decide)) ref_bl)))
      (rs_seq (rs_if (μ := none) (ref_test (ref_op2 o2_eq (ref_var (by decide)) ref_str)) (rs_ret (μ := none) (by intro z; cases z) (by intro _ z; cases z) (ref_tup (ref_acons (ref_var (by decide)) (ref_acons (ref_tup (ref_acons (ref_xgX (by decide) (xr.1.trans (congrArg (fun n => Value.ref (Sc.ca (S K A) n)) ex)) T.xf_InvalidHouse (T.no_InvalidHouse _ (by decide +kernel)) xr (by rw [ex]; rfl) (by rw [ex]; exact nd_InvalidHouse)) (ref_acons (ref_xgX (by decide) (xr.1.trans (congrArg (fun n => Value.ref (Sc.ca (S K A) n)) ex)) T.xf_InvalidHouse (T.no_InvalidHouse _ (by decide +kernel)) xr (by rw [ex]; rfl) (by rw [ex]; exact nd_InvalidHouse)) ref_anil))) ref_anil)))) rs_next)
      (rs_seq (rs_if (μ := none) (ref_test (ref_op2 o2_eq (ref_var (by decide)) ref_str)) (rs_ret (μ := none) (by intro z; cases z) (by intro _ z; cases z) (ref_tup (ref_acons (ref_var (by decide)) (ref_acons (ref_bad (fr := false)) ref_anil)))) rs_next)
      (rs_ret (μ := none) (by intro z; cases z) (by intro _ z; cases z) (ref_tup (ref_acons (ref_var (by decide)) (ref_acons (ref_if (ref_test (ref_op2 o2_in (ref_var (by decide)) (ref_lst (ref_acons ref_str (ref_acons ref_str ref_anil))))) (ref_bad (fr := false)) ref_int) ref_anil)))))))))))))), mem_nil⟩) (List.forall_mem_cons.mpr ⟨T.ex_InvalidHouse, mem_nil⟩))
      (rs_ret (μ := none) (by intro z; cases z) (by intro _ z; cases z) ref_non))⟩
end
end K08
/-! C08 -/
namespace K08
open PySem PySem.Spec PyProof.Rows L2 Mir
theorem all_mk {K : PySem.W.Frag} {h : Heap} {mg : Str → Option Value} (X : K.In h) (G : h.Ns mainGlobals mg)
    {f_InvalidHouse__init_ : Addr} {oc_InvalidHouse__init_ kV_InvalidHouse__init_ dc_InvalidHouse__init_ pm_InvalidHouse__init_ cd_InvalidHouse__init_ ct_InvalidHouse__init_ : Value} {od_InvalidHouse__init_ an_InvalidHouse__init_ : Option Addr} {sl_InvalidHouse__init_ : Array (Option Value)}
    {f_is_int_in : Addr} {oc_is_int_in kV_is_int_in dc_is_int_in pm_is_int_in cd_is_int_in ct_is_int_in : Value} {od_is_int_in an_is_int_in : Option Addr} {sl_is_int_in : Array (Option Value)}
    {f_is_table : Addr} {oc_is_table kV_is_table dc_is_table pm_is_table cd_is_table ct_is_table : Value} {od_is_table an_is_table : Option Addr} {sl_is_table : Array (Option Value)}
    {f_common_multiple : Addr} {oc_common_multiple kV_common_multiple dc_common_multiple pm_common_multiple cd_common_multiple ct_common_multiple : Value} {od_common_multiple an_common_multiple : Option Addr} {sl_common_multiple : Array (Option Value)}
    {f_check_persons : Addr} {oc_check_persons kV_check_persons dc_check_persons pm_check_persons cd_check_persons ct_check_persons : Value} {od_check_persons an_check_persons : Option Addr} {sl_check_persons : Array (Option Value)}
    {f_is_reminder : Addr} {oc_is_reminder kV_is_reminder dc_is_reminder pm_is_reminder cd_is_reminder ct_is_reminder : Value} {od_is_reminder an_is_reminder : Option Addr} {sl_is_reminder : Array (Option Value)}
    {f_House__init_ : Addr} {oc_House__init_ kV_House__init_ dc_House__init_ pm_House__init_ cd_House__init_ ct_House__init_ : Value} {od_House__init_ an_House__init_ : Option Addr} {sl_House__init_ : Array (Option Value)}
    {T_House__init_ e0_House__init_ e1_House__init_ : Addr} {ocT_House__init_ : Value} {odT_House__init_ : Option Addr} {nT_House__init_ : Nat} {slT_House__init_ : Array (Option Value)}
    {ode0_House__init_ : Option Addr} {ne0_House__init_ : Nat} {sle0_House__init_ : Array (Option Value)}
    {ode1_House__init_ : Option Addr} {ne1_House__init_ : Nat} {sle1_House__init_ : Array (Option Value)}
    {f_House_period : Addr} {oc_House_period kV_House_period dc_House_period pm_House_period cd_House_period ct_House_period : Value} {od_House_period an_House_period : Option Addr} {sl_House_period : Array (Option Value)}
    {p_House_period : Addr} {re_House_period : List Value}
    {f_law_below : Addr} {oc_law_below kV_law_below dc_law_below pm_law_below cd_law_below ct_law_below : Value} {od_law_below an_law_below : Option Addr} {sl_law_below : Array (Option Value)}
    {f_law_table : Addr} {oc_law_table kV_law_table dc_law_table pm_law_table cd_law_table ct_law_table : Value} {od_law_table an_law_table : Option Addr} {sl_law_table : Array (Option Value)}
    {f_law_length : Addr} {oc_law_length kV_law_length dc_law_length pm_law_length cd_law_length ct_law_length : Value} {od_law_length an_law_length : Option Addr} {sl_law_length : Array (Option Value)}
    {f_law_parts : Addr} {oc_law_parts kV_law_parts dc_law_parts pm_law_parts cd_law_parts ct_law_parts : Value} {od_law_parts an_law_parts : Option Addr} {sl_law_parts : Array (Option Value)}
    {f_law_error_of : Addr} {oc_law_error_of kV_law_error_of dc_law_error_of pm_law_error_of cd_law_error_of ct_law_error_of : Value} {od_law_error_of an_law_error_of : Option Addr} {sl_law_error_of : Array (Option Value)}
    {f_law_random : Addr} {oc_law_random kV_law_random dc_law_random pm_law_random cd_law_random ct_law_random : Value} {od_law_random an_law_random : Option Addr} {sl_law_random : Array (Option Value)}
    {f_law cc_law P_law : Addr} {oc_law kV_law dc_law pm_law ct_law ocv_law : Value} {od_law an_law odv_law : Option Addr} {sl_law slv_law : Array (Option Value)} {vs_law : Array Value}
    {C_House : Addr}
    {C_InvalidHouse : Addr}
    {C_HouseError : Addr}
    {C_InvalidTick : Addr}
    {C_UnknownPerson : Addr}
    {C_InvalidLimit : Addr}
    {C_DifferentHouses : Addr}
    {C_InvalidWaiting : Addr}
    {C_Contradiction : Addr}
    {C_TextFault : Addr}
    {C_InvalidCode : Addr}
    {C_InvalidName : Addr}
    {C_UnknownName : Addr}
    {C_InvalidOperation : Addr}
    {nm_InvalidHouse q_InvalidHouse : Str} {N_InvalidHouse : Addr} {bs_InvalidHouse : List Value} {sn_InvalidHouse : List Str} {sub_InvalidHouse : List Value} {ab_InvalidHouse : Bool} {col_InvalidHouse : Option Bool} {ddx_InvalidHouse : Option Addr} {m0_InvalidHouse m1_InvalidHouse m2_InvalidHouse m3_InvalidHouse m5_InvalidHouse : Option Value}
    {t_MAX_PERSONS : Nat}
    {a_LENGTHS : Addr} {t0_LENGTHS t1_LENGTHS t2_LENGTHS t3_LENGTHS t4_LENGTHS t5_LENGTHS t6_LENGTHS t7_LENGTHS : Nat} {o_LENGTHS : Option Addr} {n_LENGTHS : Nat} {s_LENGTHS : Array (Option Value)}
    {t_MAX_KEYS : Nat}
    {t_MAX_REMINDERS : Nat}
    {t_HOME : Nat}
    {t_OUT : Nat}
    (a_House : PySem.W.nsIn K mainGlobals "House" = some (some (.ref C_House)))
    (a_InvalidHouse : PySem.W.nsIn K mainGlobals "InvalidHouse" = some (some (.ref C_InvalidHouse)))
    (a_HouseError : PySem.W.nsIn K mainGlobals "HouseError" = some (some (.ref C_HouseError)))
    (a_InvalidTick : PySem.W.nsIn K mainGlobals "InvalidTick" = some (some (.ref C_InvalidTick)))
    (a_UnknownPerson : PySem.W.nsIn K mainGlobals "UnknownPerson" = some (some (.ref C_UnknownPerson)))
    (a_InvalidLimit : PySem.W.nsIn K mainGlobals "InvalidLimit" = some (some (.ref C_InvalidLimit)))
    (a_DifferentHouses : PySem.W.nsIn K mainGlobals "DifferentHouses" = some (some (.ref C_DifferentHouses)))
    (a_InvalidWaiting : PySem.W.nsIn K mainGlobals "InvalidWaiting" = some (some (.ref C_InvalidWaiting)))
    (a_Contradiction : PySem.W.nsIn K mainGlobals "Contradiction" = some (some (.ref C_Contradiction)))
    (a_TextFault : PySem.W.nsIn K mainGlobals "TextFault" = some (some (.ref C_TextFault)))
    (a_InvalidCode : PySem.W.nsIn K mainGlobals "InvalidCode" = some (some (.ref C_InvalidCode)))
    (a_InvalidName : PySem.W.nsIn K mainGlobals "InvalidName" = some (some (.ref C_InvalidName)))
    (a_UnknownName : PySem.W.nsIn K mainGlobals "UnknownName" = some (some (.ref C_UnknownName)))
    (a_InvalidOperation : PySem.W.nsIn K mainGlobals "InvalidOperation" = some (some (.ref C_InvalidOperation)))
    (a_InvalidHouse__init_ : PySem.W.findIn K (.ref C_InvalidHouse) "__init__" = some (some (.ref f_InvalidHouse__init_)))
    (i_InvalidHouse__init_ : PySem.W.isFn K (.ref f_InvalidHouse__init_) = true)
    (l_InvalidHouse__init_ : K.lookup f_InvalidHouse__init_ = some ⟨oc_InvalidHouse__init_, od_InvalidHouse__init_, .func (PySem.W.fnOf "__init__" "InvalidHouse.__init__" (defArgs st_InvalidHouse__init_) (defBody st_InvalidHouse__init_) (defScope st_InvalidHouse__init_) .none kV_InvalidHouse__init_ dc_InvalidHouse__init_ pm_InvalidHouse__init_ an_InvalidHouse__init_ cd_InvalidHouse__init_ ct_InvalidHouse__init_), sl_InvalidHouse__init_⟩)
    (c_InvalidHouse__init_ : PySem.W.codeIn K cd_InvalidHouse__init_ "InvalidHouse.__init__" = true)
    (k_InvalidHouse__init_ : PySem.W.keepIn K (.ref f_InvalidHouse__init_) = true)
    (a_is_int_in : PySem.W.nsIn K mainGlobals "is_int_in" = some (some (.ref f_is_int_in)))
    (l_is_int_in : K.lookup f_is_int_in = some ⟨oc_is_int_in, od_is_int_in, .func (PySem.W.fnOf "is_int_in" "is_int_in" (defArgs st_is_int_in) (defBody st_is_int_in) (defScope st_is_int_in) .none kV_is_int_in dc_is_int_in pm_is_int_in an_is_int_in cd_is_int_in ct_is_int_in), sl_is_int_in⟩)
    (c_is_int_in : PySem.W.codeIn K cd_is_int_in "is_int_in" = true)
    (k_is_int_in : PySem.W.keepIn K (.ref f_is_int_in) = true)
    (a_is_table : PySem.W.nsIn K mainGlobals "is_table" = some (some (.ref f_is_table)))
    (l_is_table : K.lookup f_is_table = some ⟨oc_is_table, od_is_table, .func (PySem.W.fnOf "is_table" "is_table" (defArgs st_is_table) (defBody st_is_table) (defScope st_is_table) .none kV_is_table dc_is_table pm_is_table an_is_table cd_is_table ct_is_table), sl_is_table⟩)
    (c_is_table : PySem.W.codeIn K cd_is_table "is_table" = true)
    (k_is_table : PySem.W.keepIn K (.ref f_is_table) = true)
    (a_common_multiple : PySem.W.nsIn K mainGlobals "common_multiple" = some (some (.ref f_common_multiple)))
    (l_common_multiple : K.lookup f_common_multiple = some ⟨oc_common_multiple, od_common_multiple, .func (PySem.W.fnOf "common_multiple" "common_multiple" (defArgs st_common_multiple) (defBody st_common_multiple) (defScope st_common_multiple) .none kV_common_multiple dc_common_multiple pm_common_multiple an_common_multiple cd_common_multiple ct_common_multiple), sl_common_multiple⟩)
    (c_common_multiple : PySem.W.codeIn K cd_common_multiple "common_multiple" = true)
    (k_common_multiple : PySem.W.keepIn K (.ref f_common_multiple) = true)
    (a_check_persons : PySem.W.nsIn K mainGlobals "check_persons" = some (some (.ref f_check_persons)))
    (l_check_persons : K.lookup f_check_persons = some ⟨oc_check_persons, od_check_persons, .func (PySem.W.fnOf "check_persons" "check_persons" (defArgs st_check_persons) (defBody st_check_persons) (defScope st_check_persons) .none kV_check_persons dc_check_persons pm_check_persons an_check_persons cd_check_persons ct_check_persons), sl_check_persons⟩)
    (c_check_persons : PySem.W.codeIn K cd_check_persons "check_persons" = true)
    (k_check_persons : PySem.W.keepIn K (.ref f_check_persons) = true)
    (a_is_reminder : PySem.W.nsIn K mainGlobals "is_reminder" = some (some (.ref f_is_reminder)))
    (l_is_reminder : K.lookup f_is_reminder = some ⟨oc_is_reminder, od_is_reminder, .func (PySem.W.fnOf "is_reminder" "is_reminder" (defArgs st_is_reminder) (defBody st_is_reminder) (defScope st_is_reminder) .none kV_is_reminder dc_is_reminder pm_is_reminder an_is_reminder cd_is_reminder ct_is_reminder), sl_is_reminder⟩)
    (c_is_reminder : PySem.W.codeIn K cd_is_reminder "is_reminder" = true)
    (k_is_reminder : PySem.W.keepIn K (.ref f_is_reminder) = true)
    (a_House__init_ : PySem.W.findIn K (.ref C_House) "__init__" = some (some (.ref f_House__init_)))
    (i_House__init_ : PySem.W.isFn K (.ref f_House__init_) = true)
    (l_House__init_ : K.lookup f_House__init_ = some ⟨oc_House__init_, od_House__init_, .func (PySem.W.fnOf "__init__" "House.__init__" (defArgs st_House__init_) (defBody st_House__init_) (defScope st_House__init_) (.ref T_House__init_) kV_House__init_ dc_House__init_ pm_House__init_ an_House__init_ cd_House__init_ ct_House__init_), sl_House__init_⟩)
    (c_House__init_ : PySem.W.codeIn K cd_House__init_ "House.__init__" = true)
    (k_House__init_ : PySem.W.keepIn K (.ref f_House__init_) = true)
    (pa_House_period : PySem.W.findIn K (.ref C_House) "period" = some (some (.ref p_House_period)))
    (pg_House_period : PySem.W.specialIn K (.ref p_House_period) "__get__" = some (some (.builtin "property.__get__")))
    (pt_House_period : PySem.W.takesIn K (.ref p_House_period) = some true)
    (pc_House_period : PySem.W.recIn K p_House_period "property" = some (.ref f_House_period :: re_House_period))
    (l_House_period : K.lookup f_House_period = some ⟨oc_House_period, od_House_period, .func (PySem.W.fnOf "period" "House.period" (defArgs st_House_period) (defBody st_House_period) (defScope st_House_period) .none kV_House_period dc_House_period pm_House_period an_House_period cd_House_period ct_House_period), sl_House_period⟩)
    (c_House_period : PySem.W.codeIn K cd_House_period "House.period" = true)
    (k_House_period : PySem.W.keepIn K (.ref f_House_period) = true)
    (a_law_below : PySem.W.nsIn K mainGlobals "_law_below" = some (some (.ref f_law_below)))
    (l_law_below : K.lookup f_law_below = some ⟨oc_law_below, od_law_below, .func (PySem.W.fnOf "_law_below" "_law_below" (defArgs st_law_below) (defBody st_law_below) (defScope st_law_below) .none kV_law_below dc_law_below pm_law_below an_law_below cd_law_below ct_law_below), sl_law_below⟩)
    (c_law_below : PySem.W.codeIn K cd_law_below "_law_below" = true)
    (k_law_below : PySem.W.keepIn K (.ref f_law_below) = true)
    (a_law_table : PySem.W.nsIn K mainGlobals "_law_table" = some (some (.ref f_law_table)))
    (l_law_table : K.lookup f_law_table = some ⟨oc_law_table, od_law_table, .func (PySem.W.fnOf "_law_table" "_law_table" (defArgs st_law_table) (defBody st_law_table) (defScope st_law_table) .none kV_law_table dc_law_table pm_law_table an_law_table cd_law_table ct_law_table), sl_law_table⟩)
    (c_law_table : PySem.W.codeIn K cd_law_table "_law_table" = true)
    (k_law_table : PySem.W.keepIn K (.ref f_law_table) = true)
    (a_law_length : PySem.W.nsIn K mainGlobals "_law_length" = some (some (.ref f_law_length)))
    (l_law_length : K.lookup f_law_length = some ⟨oc_law_length, od_law_length, .func (PySem.W.fnOf "_law_length" "_law_length" (defArgs st_law_length) (defBody st_law_length) (defScope st_law_length) .none kV_law_length dc_law_length pm_law_length an_law_length cd_law_length ct_law_length), sl_law_length⟩)
    (c_law_length : PySem.W.codeIn K cd_law_length "_law_length" = true)
    (k_law_length : PySem.W.keepIn K (.ref f_law_length) = true)
    (a_law_parts : PySem.W.nsIn K mainGlobals "_law_parts" = some (some (.ref f_law_parts)))
    (l_law_parts : K.lookup f_law_parts = some ⟨oc_law_parts, od_law_parts, .func (PySem.W.fnOf "_law_parts" "_law_parts" (defArgs st_law_parts) (defBody st_law_parts) (defScope st_law_parts) .none kV_law_parts dc_law_parts pm_law_parts an_law_parts cd_law_parts ct_law_parts), sl_law_parts⟩)
    (c_law_parts : PySem.W.codeIn K cd_law_parts "_law_parts" = true)
    (k_law_parts : PySem.W.keepIn K (.ref f_law_parts) = true)
    (a_law_error_of : PySem.W.nsIn K mainGlobals "_law_error_of" = some (some (.ref f_law_error_of)))
    (l_law_error_of : K.lookup f_law_error_of = some ⟨oc_law_error_of, od_law_error_of, .func (PySem.W.fnOf "_law_error_of" "_law_error_of" (defArgs st_law_error_of) (defBody st_law_error_of) (defScope st_law_error_of) .none kV_law_error_of dc_law_error_of pm_law_error_of an_law_error_of cd_law_error_of ct_law_error_of), sl_law_error_of⟩)
    (c_law_error_of : PySem.W.codeIn K cd_law_error_of "_law_error_of" = true)
    (k_law_error_of : PySem.W.keepIn K (.ref f_law_error_of) = true)
    (a_law_random : PySem.W.nsIn K mainGlobals "_law_random" = some (some (.ref f_law_random)))
    (l_law_random : K.lookup f_law_random = some ⟨oc_law_random, od_law_random, .func (PySem.W.fnOf "_law_random" "_law_random" (defArgs st_law_random) (defBody st_law_random) (defScope st_law_random) .none kV_law_random dc_law_random pm_law_random an_law_random cd_law_random ct_law_random), sl_law_random⟩)
    (c_law_random : PySem.W.codeIn K cd_law_random "_law_random" = true)
    (k_law_random : PySem.W.keepIn K (.ref f_law_random) = true)
    (a_law : PySem.W.nsIn K mainGlobals "law" = some (some (.ref f_law)))
    (l_law : K.lookup f_law = some ⟨oc_law, od_law, .func (PySem.W.fnOf "law" "law" (defArgs st_law) (defBody st_law) (defScope st_law) .none kV_law dc_law pm_law an_law (.ref cc_law) ct_law), sl_law⟩)
    (c_law : PySem.W.codeIn K (.ref cc_law) "law" = true)
    (k_law : PySem.W.keepIn K (.ref f_law) = true)
    (pg_House : PySem.W.plainGet K C_House Str.empty = true)
    (hd_House : PySem.W.hasDictIn K C_House = true)
    (po_House : PySem.W.plainOver K C_House = true)
    (sa_House : PySem.W.findIn K (.ref C_House) "__setattr__" = some (some (.builtin "object.__setattr__")))
    (mk_House : PySem.W.makesIn K C_House = true)
    (kc_House : PySem.W.keepIn K (.ref C_House) = true)
    (na_House_tables : PySem.W.findIn K (.ref C_House) "tables" = some none)
    (na_House_key_count : PySem.W.findIn K (.ref C_House) "key_count" = some none)
    (na_House_careful : PySem.W.findIn K (.ref C_House) "careful" = some none)
    (na_House_reminders : PySem.W.findIn K (.ref C_House) "reminders" = some none)
    (na_House_length : PySem.W.findIn K (.ref C_House) "length" = some none)
    (xd_InvalidHouse : PySem.W.hasDictIn K C_InvalidHouse = true)
    (xy_InvalidHouse : PySem.W.typeIn K (.ref C_InvalidHouse) = some (.type "type"))
    (xd_HouseError : PySem.W.hasDictIn K C_HouseError = true)
    (xy_HouseError : PySem.W.typeIn K (.ref C_HouseError) = some (.type "type"))
    (xd_InvalidTick : PySem.W.hasDictIn K C_InvalidTick = true)
    (xy_InvalidTick : PySem.W.typeIn K (.ref C_InvalidTick) = some (.type "type"))
    (xd_UnknownPerson : PySem.W.hasDictIn K C_UnknownPerson = true)
    (xy_UnknownPerson : PySem.W.typeIn K (.ref C_UnknownPerson) = some (.type "type"))
    (xd_InvalidLimit : PySem.W.hasDictIn K C_InvalidLimit = true)
    (xy_InvalidLimit : PySem.W.typeIn K (.ref C_InvalidLimit) = some (.type "type"))
    (xd_DifferentHouses : PySem.W.hasDictIn K C_DifferentHouses = true)
    (xy_DifferentHouses : PySem.W.typeIn K (.ref C_DifferentHouses) = some (.type "type"))
    (xd_InvalidWaiting : PySem.W.hasDictIn K C_InvalidWaiting = true)
    (xy_InvalidWaiting : PySem.W.typeIn K (.ref C_InvalidWaiting) = some (.type "type"))
    (xd_Contradiction : PySem.W.hasDictIn K C_Contradiction = true)
    (xy_Contradiction : PySem.W.typeIn K (.ref C_Contradiction) = some (.type "type"))
    (xd_TextFault : PySem.W.hasDictIn K C_TextFault = true)
    (xy_TextFault : PySem.W.typeIn K (.ref C_TextFault) = some (.type "type"))
    (xd_InvalidCode : PySem.W.hasDictIn K C_InvalidCode = true)
    (xy_InvalidCode : PySem.W.typeIn K (.ref C_InvalidCode) = some (.type "type"))
    (xd_InvalidName : PySem.W.hasDictIn K C_InvalidName = true)
    (xy_InvalidName : PySem.W.typeIn K (.ref C_InvalidName) = some (.type "type"))
    (xd_UnknownName : PySem.W.hasDictIn K C_UnknownName = true)
    (xy_UnknownName : PySem.W.typeIn K (.ref C_UnknownName) = some (.type "type"))
    (xd_InvalidOperation : PySem.W.hasDictIn K C_InvalidOperation = true)
    (xy_InvalidOperation : PySem.W.typeIn K (.ref C_InvalidOperation) = some (.type "type"))
    (xe_HouseError : PySem.W.subIn K (.ref C_HouseError) (.type "BaseException") = some true)
    (xr_HouseError : PySem.W.readsIn K C_HouseError (.type "type") = true)
    (xi_HouseError : PySem.W.findCls K (.ref C_HouseError) (.type "type") "__init__" = some (.val (.builtin "ValueError.__init__")))
    (xg_HouseError : PySem.W.specialIn K (.ref C_HouseError) "__getattribute__" = some (some (.builtin "type.__getattribute__")))
    (xn_ : PySem.W.specialIn K (.builtin "object.__class__") "__get__" = some (some (.builtin "getset_descriptor.__get__")))
    (xt_ : PySem.W.takesIn K (.builtin "object.__class__") = some true)
    (x_InvalidHouse : K.lookup C_InvalidHouse = some (excClassObj nm_InvalidHouse q_InvalidHouse C_InvalidHouse N_InvalidHouse bs_InvalidHouse [.ref C_HouseError, .type "ValueError", .type "Exception", .type "BaseException", .type "object"] true sn_InvalidHouse sub_InvalidHouse ab_InvalidHouse col_InvalidHouse ddx_InvalidHouse m0_InvalidHouse m1_InvalidHouse m2_InvalidHouse m3_InvalidHouse m5_InvalidHouse "ValueError.__new__"))
    (xs_InvalidHouse : PySem.W.findIn K (.ref C_InvalidHouse) "__setattr__" = some (some (.builtin "object.__setattr__")))
    (xe_InvalidHouse : PySem.W.subIn K (.ref C_InvalidHouse) (.type "BaseException") = some true)
    (xk_InvalidHouse : PySem.W.keepIn K (.ref C_InvalidHouse) = true)
    (xa_InvalidHouse : PySem.W.findIn K (.ref C_InvalidHouse) "__getattribute__" = some (some (.builtin "BaseException.__getattribute__")))
    (xh_InvalidHouse : PySem.W.findIn K (.ref C_InvalidHouse) "__getattr__" = some none)
    (xc_InvalidHouse : PySem.W.findIn K (.ref C_InvalidHouse) "__class__" = some (some (.builtin "object.__class__")))
    (xo_InvalidHouse : PySem.W.mroIn K C_InvalidHouse (.type "object") = some true)
    (ss_InvalidHouse : PySem.W.subIn K (.ref C_InvalidHouse) (.ref C_InvalidHouse) = some true)
    (xm_InvalidHouse : PySem.W.subIn K (.ref C_InvalidHouse) (.ref C_HouseError) = some true)
    (ti_InvalidHouse : PySem.W.typeIn K (.ref f_InvalidHouse__init_) = some (.type "function"))
    (no_InvalidHouse_part : PySem.W.findIn K (.ref C_InvalidHouse) "part" = some none)
    (no_InvalidHouse_index : PySem.W.findIn K (.ref C_InvalidHouse) "index" = some none)
    (kt_InvalidHouse_Contradiction : PySem.W.subIn K (.ref C_InvalidHouse) (.ref C_Contradiction) = some false)
    (kt_InvalidHouse_DifferentHouses : PySem.W.subIn K (.ref C_InvalidHouse) (.ref C_DifferentHouses) = some false)
    (kt_InvalidHouse_InvalidCode : PySem.W.subIn K (.ref C_InvalidHouse) (.ref C_InvalidCode) = some false)
    (kt_InvalidHouse_InvalidHouse : PySem.W.subIn K (.ref C_InvalidHouse) (.ref C_InvalidHouse) = some true)
    (kt_InvalidHouse_InvalidLimit : PySem.W.subIn K (.ref C_InvalidHouse) (.ref C_InvalidLimit) = some false)
    (kt_InvalidHouse_InvalidName : PySem.W.subIn K (.ref C_InvalidHouse) (.ref C_InvalidName) = some false)
    (kt_InvalidHouse_InvalidOperation : PySem.W.subIn K (.ref C_InvalidHouse) (.ref C_InvalidOperation) = some false)
    (kt_InvalidHouse_InvalidTick : PySem.W.subIn K (.ref C_InvalidHouse) (.ref C_InvalidTick) = some false)
    (kt_InvalidHouse_InvalidWaiting : PySem.W.subIn K (.ref C_InvalidHouse) (.ref C_InvalidWaiting) = some false)
    (kt_InvalidHouse_TextFault : PySem.W.subIn K (.ref C_InvalidHouse) (.ref C_TextFault) = some false)
    (kt_InvalidHouse_UnknownName : PySem.W.subIn K (.ref C_InvalidHouse) (.ref C_UnknownName) = some false)
    (kt_InvalidHouse_UnknownPerson : PySem.W.subIn K (.ref C_InvalidHouse) (.ref C_UnknownPerson) = some false)
    (kt_InvalidHouse_ValueError : PySem.W.subIn K (.ref C_InvalidHouse) (.type "ValueError") = some true)
    (z_ValueError : PySem.W.nsIn K mainGlobals "ValueError" = some none)
    (z_abs : PySem.W.nsIn K mainGlobals "abs" = some none)
    (z_all : PySem.W.nsIn K mainGlobals "all" = some none)
    (z_bool : PySem.W.nsIn K mainGlobals "bool" = some none)
    (z_enumerate : PySem.W.nsIn K mainGlobals "enumerate" = some none)
    (z_int : PySem.W.nsIn K mainGlobals "int" = some none)
    (z_isinstance : PySem.W.nsIn K mainGlobals "isinstance" = some none)
    (z_len : PySem.W.nsIn K mainGlobals "len" = some none)
    (z_list : PySem.W.nsIn K mainGlobals "list" = some none)
    (z_range : PySem.W.nsIn K mainGlobals "range" = some none)
    (z_sorted : PySem.W.nsIn K mainGlobals "sorted" = some none)
    (z_str : PySem.W.nsIn K mainGlobals "str" = some none)
    (z_tuple : PySem.W.nsIn K mainGlobals "tuple" = some none)
    (u_MAX_PERSONS : PySem.W.nsIn K mainGlobals "MAX_PERSONS" = some (some (.int 6 t_MAX_PERSONS)))
    (u_LENGTHS : PySem.W.nsIn K mainGlobals "LENGTHS" = some (some (.ref a_LENGTHS)))
    (l_LENGTHS : K.lookup a_LENGTHS = some ⟨.type "tuple", o_LENGTHS, .seq #[.int 1 t0_LENGTHS, .int 2 t1_LENGTHS, .int 3 t2_LENGTHS, .int 4 t3_LENGTHS, .int 6 t4_LENGTHS, .int 8 t5_LENGTHS, .int 12 t6_LENGTHS, .int 24 t7_LENGTHS] n_LENGTHS, s_LENGTHS⟩)
    (u_MAX_KEYS : PySem.W.nsIn K mainGlobals "MAX_KEYS" = some (some (.int 9 t_MAX_KEYS)))
    (u_MAX_REMINDERS : PySem.W.nsIn K mainGlobals "MAX_REMINDERS" = some (some (.int 10 t_MAX_REMINDERS)))
    (u_HOME : PySem.W.nsIn K mainGlobals "HOME" = some (some (.str "h" t_HOME)))
    (u_OUT : PySem.W.nsIn K mainGlobals "OUT" = some (some (.str "o" t_OUT)))
    (lT_House__init_ : K.lookup T_House__init_ = some ⟨ocT_House__init_, odT_House__init_, .seq #[.ref e0_House__init_, .ref e1_House__init_] nT_House__init_, slT_House__init_⟩)
    (v_law : K.lookup cc_law = some ⟨ocv_law, odv_law, .fields vs_law, slv_law⟩)
    (le0_House__init_ : K.lookup e0_House__init_ = some ⟨.type "tuple", ode0_House__init_, .seq #[] ne0_House__init_, sle0_House__init_⟩)
    (le1_House__init_ : K.lookup e1_House__init_ = some ⟨.type "tuple", ode1_House__init_, .seq #[] ne1_House__init_, sle1_House__init_⟩)
    (p_law : vs_law[11]? = some (.ref P_law))
    (h_law : PySem.W.codeHdIn K cc_law P_law = true)
    (n_law : K.lookup P_law = none)
    (t_law : h.get? P_law = some { cls := .none, data := .fields #[] })
    (uT : ∀ p ∈ ([(P_law, ("law" : Str) ++ ".<locals>." ++ "<lambda>")] : List (Addr × Str)), ∀ q ∈ ([(P_law, ("law" : Str) ++ ".<locals>." ++ "<lambda>")] : List (Addr × Str)), p.1 = q.1 → p.2 = q.2) :
    ∃ A : Ad, Txt K mg A ∧ HdT K h A := by
  have F_House__init_ := funD_mkD (st := st_House__init_) (dvs := [V.ref e0_House__init_, V.ref e1_House__init_]) (its := [.ref e0_House__init_, .ref e1_House__init_]) l_House__init_ c_House__init_ k_House__init_ (by simp) lT_House__init_ rfl (.cons rfl (.cons rfl .nil))
  obtain ⟨ds_House__init__0, v_House__init__0, bb_House__init__0⟩ := FunD.binds1 (ps := ["self", "tables", "keys", "careful", "reminders"]) F_House__init_ 5 2 (by simp) (by rfl) fun T kV doc pm an cdv ct us its hu hi => match us, its, hu, hi with | [_, _, _, _, _], [_, _], _, _ => ⟨_, rfl, rfl⟩
  have vv_House__init__0 : L2.Vals ([] : List V) ds_House__init__0 := v_House__init__0
  cases vv_House__init__0
  have bf_House__init_ := bb_House__init__0
  obtain ⟨ds_House__init__2, v_House__init__2, bb_House__init__2⟩ := FunD.binds1 (ps := ["self", "tables", "keys", "careful", "reminders"]) F_House__init_ 3 0 (by simp) (by rfl) fun T kV doc pm an cdv ct us its hu hi => match us, its, hu, hi with | [_, _, _], [_, _], _, _ => ⟨_, rfl, rfl⟩
  refine ⟨{ dv_House__init_ := [V.ref e0_House__init_, V.ref e1_House__init_], cc_law := cc_law, P_law := P_law, C_InvalidHouse := C_InvalidHouse, C_HouseError := C_HouseError, C_InvalidTick := C_InvalidTick, C_UnknownPerson := C_UnknownPerson, C_InvalidLimit := C_InvalidLimit, C_DifferentHouses := C_DifferentHouses, C_InvalidWaiting := C_InvalidWaiting, C_Contradiction := C_Contradiction, C_TextFault := C_TextFault, C_InvalidCode := C_InvalidCode, C_InvalidName := C_InvalidName, C_UnknownName := C_UnknownName, C_InvalidOperation := C_InvalidOperation, f_InvalidHouse__init_ := f_InvalidHouse__init_, fd_InvalidHouse__init_ := PySem.W.fnOf "__init__" "InvalidHouse.__init__" (defArgs st_InvalidHouse__init_) (defBody st_InvalidHouse__init_) (defScope st_InvalidHouse__init_) .none kV_InvalidHouse__init_ dc_InvalidHouse__init_ pm_InvalidHouse__init_ an_InvalidHouse__init_ cd_InvalidHouse__init_ ct_InvalidHouse__init_, f_is_int_in := f_is_int_in, fd_is_int_in := PySem.W.fnOf "is_int_in" "is_int_in" (defArgs st_is_int_in) (defBody st_is_int_in) (defScope st_is_int_in) .none kV_is_int_in dc_is_int_in pm_is_int_in an_is_int_in cd_is_int_in ct_is_int_in, f_is_table := f_is_table, fd_is_table := PySem.W.fnOf "is_table" "is_table" (defArgs st_is_table) (defBody st_is_table) (defScope st_is_table) .none kV_is_table dc_is_table pm_is_table an_is_table cd_is_table ct_is_table, f_common_multiple := f_common_multiple, fd_common_multiple := PySem.W.fnOf "common_multiple" "common_multiple" (defArgs st_common_multiple) (defBody st_common_multiple) (defScope st_common_multiple) .none kV_common_multiple dc_common_multiple pm_common_multiple an_common_multiple cd_common_multiple ct_common_multiple, f_check_persons := f_check_persons, fd_check_persons := PySem.W.fnOf "check_persons" "check_persons" (defArgs st_check_persons) (defBody st_check_persons) (defScope st_check_persons) .none kV_check_persons dc_check_persons pm_check_persons an_check_persons cd_check_persons ct_check_persons, f_is_reminder := f_is_reminder, fd_is_reminder := PySem.W.fnOf "is_reminder" "is_reminder" (defArgs st_is_reminder) (defBody st_is_reminder) (defScope st_is_reminder) .none kV_is_reminder dc_is_reminder pm_is_reminder an_is_reminder cd_is_reminder ct_is_reminder, f_House__init_ := f_House__init_, fd_House__init_ := PySem.W.fnOf "__init__" "House.__init__" (defArgs st_House__init_) (defBody st_House__init_) (defScope st_House__init_) (.ref T_House__init_) kV_House__init_ dc_House__init_ pm_House__init_ an_House__init_ cd_House__init_ ct_House__init_, f_House_period := f_House_period, fd_House_period := PySem.W.fnOf "period" "House.period" (defArgs st_House_period) (defBody st_House_period) (defScope st_House_period) .none kV_House_period dc_House_period pm_House_period an_House_period cd_House_period ct_House_period, p_House_period := p_House_period, f_law_below := f_law_below, fd_law_below := PySem.W.fnOf "_law_below" "_law_below" (defArgs st_law_below) (defBody st_law_below) (defScope st_law_below) .none kV_law_below dc_law_below pm_law_below an_law_below cd_law_below ct_law_below, f_law_table := f_law_table, fd_law_table := PySem.W.fnOf "_law_table" "_law_table" (defArgs st_law_table) (defBody st_law_table) (defScope st_law_table) .none kV_law_table dc_law_table pm_law_table an_law_table cd_law_table ct_law_table, f_law_length := f_law_length, fd_law_length := PySem.W.fnOf "_law_length" "_law_length" (defArgs st_law_length) (defBody st_law_length) (defScope st_law_length) .none kV_law_length dc_law_length pm_law_length an_law_length cd_law_length ct_law_length, f_law_parts := f_law_parts, fd_law_parts := PySem.W.fnOf "_law_parts" "_law_parts" (defArgs st_law_parts) (defBody st_law_parts) (defScope st_law_parts) .none kV_law_parts dc_law_parts pm_law_parts an_law_parts cd_law_parts ct_law_parts, f_law_error_of := f_law_error_of, fd_law_error_of := PySem.W.fnOf "_law_error_of" "_law_error_of" (defArgs st_law_error_of) (defBody st_law_error_of) (defScope st_law_error_of) .none kV_law_error_of dc_law_error_of pm_law_error_of an_law_error_of cd_law_error_of ct_law_error_of, f_law_random := f_law_random, fd_law_random := PySem.W.fnOf "_law_random" "_law_random" (defArgs st_law_random) (defBody st_law_random) (defScope st_law_random) .none kV_law_random dc_law_random pm_law_random an_law_random cd_law_random ct_law_random, f_law := f_law, fd_law := PySem.W.fnOf "law" "law" (defArgs st_law) (defBody st_law) (defScope st_law) .none kV_law dc_law pm_law an_law (.ref cc_law) ct_law, C_House := C_House }, ?_, ⟨uT, (List.forall_mem_cons.mpr ⟨PySem.W.codeHd_of_K X h_law, (fun _ m => by cases m)⟩), (List.forall_mem_cons.mpr ⟨n_law, (fun _ m => by cases m)⟩), (List.forall_mem_cons.mpr ⟨t_law, (fun _ m => by cases m)⟩)⟩⟩
  refine { F_InvalidHouse__init_ := ?mF_InvalidHouse__init_, b_InvalidHouse__init_ := ?mb_InvalidHouse__init_, g_is_int_in := ?mg_is_int_in, F_is_int_in := ?mF_is_int_in, b_is_int_in := ?mb_is_int_in, g_is_table := ?mg_is_table, F_is_table := ?mF_is_table, b_is_table := ?mb_is_table, g_common_multiple := ?mg_common_multiple, F_common_multiple := ?mF_common_multiple, b_common_multiple := ?mb_common_multiple, g_check_persons := ?mg_check_persons, F_check_persons := ?mF_check_persons, b_check_persons := ?mb_check_persons, g_is_reminder := ?mg_is_reminder, F_is_reminder := ?mF_is_reminder, b_is_reminder := ?mb_is_reminder, F_House__init_ := ?mF_House__init_, b_House__init_ := ?mb_House__init_, pr_House_period := ?mpr_House_period, F_House_period := ?mF_House_period, b_House_period := ?mb_House_period, g_law_below := ?mg_law_below, F_law_below := ?mF_law_below, b_law_below := ?mb_law_below, g_law_table := ?mg_law_table, F_law_table := ?mF_law_table, b_law_table := ?mb_law_table, g_law_length := ?mg_law_length, F_law_length := ?mF_law_length, b_law_length := ?mb_law_length, g_law_parts := ?mg_law_parts, F_law_parts := ?mF_law_parts, b_law_parts := ?mb_law_parts, g_law_error_of := ?mg_law_error_of, F_law_error_of := ?mF_law_error_of, b_law_error_of := ?mb_law_error_of, g_law_random := ?mg_law_random, F_law_random := ?mF_law_random, b_law_random := ?mb_law_random, code_law := ?mcode_law, g_law := ?mg_law, F_law := ?mF_law, b_law := ?mb_law, cl_House := ?mcl_House, g_House := ?mg_House, mk_House := ?mmk_House, na_House_tables := ?mna_House_tables, na_House_key_count := ?mna_House_key_count, na_House_careful := ?mna_House_careful, na_House_reminders := ?mna_House_reminders, na_House_length := ?mna_House_length, g_InvalidHouse := ?mg_InvalidHouse, g_HouseError := ?mg_HouseError, g_InvalidTick := ?mg_InvalidTick, g_UnknownPerson := ?mg_UnknownPerson, g_InvalidLimit := ?mg_InvalidLimit, g_DifferentHouses := ?mg_DifferentHouses, g_InvalidWaiting := ?mg_InvalidWaiting, g_Contradiction := ?mg_Contradiction, g_TextFault := ?mg_TextFault, g_InvalidCode := ?mg_InvalidCode, g_InvalidName := ?mg_InvalidName, g_UnknownName := ?mg_UnknownName, g_InvalidOperation := ?mg_InvalidOperation, xb_HouseError := ?mxb_HouseError, oe_InvalidHouse := ?moe_InvalidHouse, ii_InvalidHouse := ?mii_InvalidHouse, ti_InvalidHouse := ?mti_InvalidHouse, ex_InvalidHouse := ?mex_InvalidHouse, no_InvalidHouse := ?mno_InvalidHouse, xc_InvalidHouse := ?mxc_InvalidHouse, xf_InvalidHouse := ?mxf_InvalidHouse, kt_InvalidHouse_Contradiction := ?mkt_InvalidHouse_Contradiction, kt_InvalidHouse_DifferentHouses := ?mkt_InvalidHouse_DifferentHouses, kt_InvalidHouse_InvalidCode := ?mkt_InvalidHouse_InvalidCode, kt_InvalidHouse_InvalidHouse := ?mkt_InvalidHouse_InvalidHouse, kt_InvalidHouse_InvalidLimit := ?mkt_InvalidHouse_InvalidLimit, kt_InvalidHouse_InvalidName := ?mkt_InvalidHouse_InvalidName, kt_InvalidHouse_InvalidOperation := ?mkt_InvalidHouse_InvalidOperation, kt_InvalidHouse_InvalidTick := ?mkt_InvalidHouse_InvalidTick, kt_InvalidHouse_InvalidWaiting := ?mkt_InvalidHouse_InvalidWaiting, kt_InvalidHouse_TextFault := ?mkt_InvalidHouse_TextFault, kt_InvalidHouse_UnknownName := ?mkt_InvalidHouse_UnknownName, kt_InvalidHouse_UnknownPerson := ?mkt_InvalidHouse_UnknownPerson, kt_InvalidHouse_ValueError := ?mkt_InvalidHouse_ValueError, b_House__init__2 := ?mb_House__init__2, z_ValueError := ?mz_ValueError, z_abs := ?mz_abs, z_all := ?mz_all, z_bool := ?mz_bool, z_enumerate := ?mz_enumerate, z_int := ?mz_int, z_isinstance := ?mz_isinstance, z_len := ?mz_len, z_list := ?mz_list, z_range := ?mz_range, z_sorted := ?mz_sorted, z_str := ?mz_str, z_tuple := ?mz_tuple, c_MAX_PERSONS := ?mc_MAX_PERSONS, c_LENGTHS := ?mc_LENGTHS, c_MAX_KEYS := ?mc_MAX_KEYS, c_MAX_REMINDERS := ?mc_MAX_REMINDERS, c_HOME := ?mc_HOME, c_OUT := ?mc_OUT }
  (case mF_InvalidHouse__init_ => exact funD_mk (st := st_InvalidHouse__init_) l_InvalidHouse__init_ c_InvalidHouse__init_ k_InvalidHouse__init_)
  (case mb_InvalidHouse__init_ => exact FunD.bindsN (funD_mk (st := st_InvalidHouse__init_) l_InvalidHouse__init_ c_InvalidHouse__init_ k_InvalidHouse__init_) fun _ _ _ _ _ _ us hl => match us, hl with | [_, _, _], _ => rfl)
  (case mg_is_int_in => exact PySem.W.mg_of X G a_is_int_in)
  (case mF_is_int_in => exact funD_mk (st := st_is_int_in) l_is_int_in c_is_int_in k_is_int_in)
  (case mb_is_int_in => exact FunD.bindsN (funD_mk (st := st_is_int_in) l_is_int_in c_is_int_in k_is_int_in) fun _ _ _ _ _ _ us hl => match us, hl with | [_, _, _], _ => rfl)
  (case mg_is_table => exact PySem.W.mg_of X G a_is_table)
  (case mF_is_table => exact funD_mk (st := st_is_table) l_is_table c_is_table k_is_table)
  (case mb_is_table => exact FunD.bindsN (funD_mk (st := st_is_table) l_is_table c_is_table k_is_table) fun _ _ _ _ _ _ us hl => match us, hl with | [_], _ => rfl)
  (case mg_common_multiple => exact PySem.W.mg_of X G a_common_multiple)
  (case mF_common_multiple => exact funD_mk (st := st_common_multiple) l_common_multiple c_common_multiple k_common_multiple)
  (case mb_common_multiple => exact FunD.bindsN (funD_mk (st := st_common_multiple) l_common_multiple c_common_multiple k_common_multiple) fun _ _ _ _ _ _ us hl => match us, hl with | [_, _], _ => rfl)
  (case mg_check_persons => exact PySem.W.mg_of X G a_check_persons)
  (case mF_check_persons => exact funD_mk (st := st_check_persons) l_check_persons c_check_persons k_check_persons)
  (case mb_check_persons => exact FunD.bindsN (funD_mk (st := st_check_persons) l_check_persons c_check_persons k_check_persons) fun _ _ _ _ _ _ us hl => match us, hl with | [_, _, _], _ => rfl)
  (case mg_is_reminder => exact PySem.W.mg_of X G a_is_reminder)
  (case mF_is_reminder => exact funD_mk (st := st_is_reminder) l_is_reminder c_is_reminder k_is_reminder)
  (case mb_is_reminder => exact FunD.bindsN (funD_mk (st := st_is_reminder) l_is_reminder c_is_reminder k_is_reminder) fun _ _ _ _ _ _ us hl => match us, hl with | [_, _, _], _ => rfl)
  (case mF_House__init_ => exact funD_mkD (its := [.ref e0_House__init_, .ref e1_House__init_]) l_House__init_ c_House__init_ k_House__init_ (by simp) lT_House__init_ rfl (.cons rfl (.cons rfl .nil)))
  (case mb_House__init_ => exact bf_House__init_)
  (case mpr_House_period => exact ⟨pa_House_period, pg_House_period, pt_House_period, re_House_period, pc_House_period⟩)
  (case mF_House_period => exact funD_mk (st := st_House_period) l_House_period c_House_period k_House_period)
  (case mb_House_period => exact FunD.bindsN (funD_mk (st := st_House_period) l_House_period c_House_period k_House_period) fun _ _ _ _ _ _ us hl => match us, hl with | [_], _ => rfl)
  (case mg_law_below => exact PySem.W.mg_of X G a_law_below)
  (case mF_law_below => exact funD_mk (st := st_law_below) l_law_below c_law_below k_law_below)
  (case mb_law_below => exact FunD.bindsN (funD_mk (st := st_law_below) l_law_below c_law_below k_law_below) fun _ _ _ _ _ _ us hl => match us, hl with | [_, _], _ => rfl)
  (case mg_law_table => exact PySem.W.mg_of X G a_law_table)
  (case mF_law_table => exact funD_mk (st := st_law_table) l_law_table c_law_table k_law_table)
  (case mb_law_table => exact FunD.bindsN (funD_mk (st := st_law_table) l_law_table c_law_table k_law_table) fun _ _ _ _ _ _ us hl => match us, hl with | [_], _ => rfl)
  (case mg_law_length => exact PySem.W.mg_of X G a_law_length)
  (case mF_law_length => exact funD_mk (st := st_law_length) l_law_length c_law_length k_law_length)
  (case mb_law_length => exact FunD.bindsN (funD_mk (st := st_law_length) l_law_length c_law_length k_law_length) fun _ _ _ _ _ _ us hl => match us, hl with | [_], _ => rfl)
  (case mg_law_parts => exact PySem.W.mg_of X G a_law_parts)
  (case mF_law_parts => exact funD_mk (st := st_law_parts) l_law_parts c_law_parts k_law_parts)
  (case mb_law_parts => exact FunD.bindsN (funD_mk (st := st_law_parts) l_law_parts c_law_parts k_law_parts) fun _ _ _ _ _ _ us hl => match us, hl with | [_, _], _ => rfl)
  (case mg_law_error_of => exact PySem.W.mg_of X G a_law_error_of)
  (case mF_law_error_of => exact funD_mk (st := st_law_error_of) l_law_error_of c_law_error_of k_law_error_of)
  (case mb_law_error_of => exact FunD.bindsN (funD_mk (st := st_law_error_of) l_law_error_of c_law_error_of k_law_error_of) fun _ _ _ _ _ _ us hl => match us, hl with | [_], _ => rfl)
  (case mg_law_random => exact PySem.W.mg_of X G a_law_random)
  (case mF_law_random => exact funD_mk (st := st_law_random) l_law_random c_law_random k_law_random)
  (case mb_law_random => exact FunD.bindsN (funD_mk (st := st_law_random) l_law_random c_law_random k_law_random) fun _ _ _ _ _ _ us hl => match us, hl with | [_, _], _ => rfl)
  (case mcode_law => exact rfl)
  (case mg_law => exact PySem.W.mg_of X G a_law)
  (case mF_law => exact funD_mk (st := st_law) l_law c_law k_law)
  (case mb_law => exact FunD.bindsN (funD_mk (st := st_law) l_law c_law k_law) fun _ _ _ _ _ _ us hl => match us, hl with | [_], _ => rfl)
  (case mcl_House => exact ⟨pg_House, hd_House, po_House, sa_House⟩)
  (case mg_House => exact PySem.W.mg_of X G a_House)
  (case mmk_House => exact ⟨mk_House, a_House__init_, i_House__init_, kc_House⟩)
  (case mna_House_tables => exact na_House_tables)
  (case mna_House_key_count => exact na_House_key_count)
  (case mna_House_careful => exact na_House_careful)
  (case mna_House_reminders => exact na_House_reminders)
  (case mna_House_length => exact na_House_length)
  (case mg_InvalidHouse => exact PySem.W.mg_of X G a_InvalidHouse)
  (case mg_HouseError => exact PySem.W.mg_of X G a_HouseError)
  (case mg_InvalidTick => exact PySem.W.mg_of X G a_InvalidTick)
  (case mg_UnknownPerson => exact PySem.W.mg_of X G a_UnknownPerson)
  (case mg_InvalidLimit => exact PySem.W.mg_of X G a_InvalidLimit)
  (case mg_DifferentHouses => exact PySem.W.mg_of X G a_DifferentHouses)
  (case mg_InvalidWaiting => exact PySem.W.mg_of X G a_InvalidWaiting)
  (case mg_Contradiction => exact PySem.W.mg_of X G a_Contradiction)
  (case mg_TextFault => exact PySem.W.mg_of X G a_TextFault)
  (case mg_InvalidCode => exact PySem.W.mg_of X G a_InvalidCode)
  (case mg_InvalidName => exact PySem.W.mg_of X G a_InvalidName)
  (case mg_UnknownName => exact PySem.W.mg_of X G a_UnknownName)
  (case mg_InvalidOperation => exact PySem.W.mg_of X G a_InvalidOperation)
  (case mxb_HouseError => exact ⟨xr_HouseError, xi_HouseError, xg_HouseError⟩)
  (case moe_InvalidHouse => exact ⟨⟨_, _, _, _, _, _, _, _, _, _, _, _, _, _, _, x_InvalidHouse, refsVE_base⟩, xs_InvalidHouse, xe_InvalidHouse, xy_InvalidHouse, xk_InvalidHouse⟩)
  (case mii_InvalidHouse => exact a_InvalidHouse__init_)
  (case mti_InvalidHouse => exact ti_InvalidHouse)
  (case mex_InvalidHouse => exact PySem.W.exm_ref xe_HouseError xd_HouseError xy_HouseError xm_InvalidHouse)
  (case mno_InvalidHouse => exact (List.forall_mem_cons.mpr ⟨no_InvalidHouse_part, (List.forall_mem_cons.mpr ⟨no_InvalidHouse_index, mem_nil⟩)⟩))
  (case mxc_InvalidHouse => exact ⟨cl_of xd_InvalidHouse, xa_InvalidHouse, xh_InvalidHouse, xe_InvalidHouse, xc_InvalidHouse, xn_, xt_, xo_InvalidHouse⟩)
  (case mxf_InvalidHouse => exact ⟨xa_InvalidHouse, xh_InvalidHouse, xe_InvalidHouse, xd_InvalidHouse⟩)
  (case mkt_InvalidHouse_Contradiction => exact kit_ref ss_InvalidHouse xd_Contradiction xy_Contradiction kt_InvalidHouse_Contradiction)
  (case mkt_InvalidHouse_DifferentHouses => exact kit_ref ss_InvalidHouse xd_DifferentHouses xy_DifferentHouses kt_InvalidHouse_DifferentHouses)
  (case mkt_InvalidHouse_InvalidCode => exact kit_ref ss_InvalidHouse xd_InvalidCode xy_InvalidCode kt_InvalidHouse_InvalidCode)
  (case mkt_InvalidHouse_InvalidHouse => exact kit_ref ss_InvalidHouse xd_InvalidHouse xy_InvalidHouse kt_InvalidHouse_InvalidHouse)
  (case mkt_InvalidHouse_InvalidLimit => exact kit_ref ss_InvalidHouse xd_InvalidLimit xy_InvalidLimit kt_InvalidHouse_InvalidLimit)
  (case mkt_InvalidHouse_InvalidName => exact kit_ref ss_InvalidHouse xd_InvalidName xy_InvalidName kt_InvalidHouse_InvalidName)
  (case mkt_InvalidHouse_InvalidOperation => exact kit_ref ss_InvalidHouse xd_InvalidOperation xy_InvalidOperation kt_InvalidHouse_InvalidOperation)
  (case mkt_InvalidHouse_InvalidTick => exact kit_ref ss_InvalidHouse xd_InvalidTick xy_InvalidTick kt_InvalidHouse_InvalidTick)
  (case mkt_InvalidHouse_InvalidWaiting => exact kit_ref ss_InvalidHouse xd_InvalidWaiting xy_InvalidWaiting kt_InvalidHouse_InvalidWaiting)
  (case mkt_InvalidHouse_TextFault => exact kit_ref ss_InvalidHouse xd_TextFault xy_TextFault kt_InvalidHouse_TextFault)
  (case mkt_InvalidHouse_UnknownName => exact kit_ref ss_InvalidHouse xd_UnknownName xy_UnknownName kt_InvalidHouse_UnknownName)
  (case mkt_InvalidHouse_UnknownPerson => exact kit_ref ss_InvalidHouse xd_UnknownPerson xy_UnknownPerson kt_InvalidHouse_UnknownPerson)
  (case mkt_InvalidHouse_ValueError => exact kit_blt (by decide +kernel) kt_InvalidHouse_ValueError)
  (case mb_House__init__2 => exact ⟨_, ds_House__init__2, fun _ _ F H => (.cons (rep_ktup le0_House__init_ rfl rfl (by show 0 ≤ sizeLine; decide) .nil (fun _ _ => RepL.nil) F H) (.cons (rep_ktup le1_House__init_ rfl rfl (by show 0 ≤ sizeLine; decide) .nil (fun _ _ => RepL.nil) F H) RepL.nil)), v_House__init__2, bb_House__init__2⟩)
  (case mz_ValueError => exact PySem.W.mg_none_of X G z_ValueError)
  (case mz_abs => exact PySem.W.mg_none_of X G z_abs)
  (case mz_all => exact PySem.W.mg_none_of X G z_all)
  (case mz_bool => exact PySem.W.mg_none_of X G z_bool)
  (case mz_enumerate => exact PySem.W.mg_none_of X G z_enumerate)
  (case mz_int => exact PySem.W.mg_none_of X G z_int)
  (case mz_isinstance => exact PySem.W.mg_none_of X G z_isinstance)
  (case mz_len => exact PySem.W.mg_none_of X G z_len)
  (case mz_list => exact PySem.W.mg_none_of X G z_list)
  (case mz_range => exact PySem.W.mg_none_of X G z_range)
  (case mz_sorted => exact PySem.W.mg_none_of X G z_sorted)
  (case mz_str => exact PySem.W.mg_none_of X G z_str)
  (case mz_tuple => exact PySem.W.mg_none_of X G z_tuple)
  (case mc_MAX_PERSONS => exact ⟨.int 6, _, PySem.W.mg_of X G u_MAX_PERSONS, ⟨_, rfl⟩, fun _ _ _ _ => rfl⟩)
  (case mc_LENGTHS => exact ⟨.ref a_LENGTHS, _, PySem.W.mg_of X G u_LENGTHS, rfl, fun _ _ => rep_ktup (vs := [V.int 1, V.int 2, V.int 3, V.int 4, V.int 6, V.int 8, V.int 12, V.int 24]) l_LENGTHS rfl rfl (by show 8 ≤ sizeLine; decide) (.cons ⟨_, rfl⟩ (.cons ⟨_, rfl⟩ (.cons ⟨_, rfl⟩ (.cons ⟨_, rfl⟩ (.cons ⟨_, rfl⟩ (.cons ⟨_, rfl⟩ (.cons ⟨_, rfl⟩ (.cons ⟨_, rfl⟩ .nil)))))))) (fun F H => RepL.ofInts (ns := [1, 2, 3, 4, 6, 8, 12, 24]))⟩)
  (case mc_MAX_KEYS => exact ⟨.int 9, _, PySem.W.mg_of X G u_MAX_KEYS, ⟨_, rfl⟩, fun _ _ _ _ => rfl⟩)
  (case mc_MAX_REMINDERS => exact ⟨.int 10, _, PySem.W.mg_of X G u_MAX_REMINDERS, ⟨_, rfl⟩, fun _ _ _ _ => rfl⟩)
  (case mc_HOME => exact ⟨.str "h", _, PySem.W.mg_of X G u_HOME, ⟨_, rfl⟩, fun _ _ _ _ => rfl⟩)
  (case mc_OUT => exact ⟨.str "o", _, PySem.W.mg_of X G u_OUT, ⟨_, rfl⟩, fun _ _ _ _ => rfl⟩)
end K08
/-! D08 -/
namespace K08
open PySem PySem.Spec PyProof.Rows L2 Mir
section
variable {P : Program} {w : World} {K : PySem.W.Frag} {mg : Str → Option Value} {base : Heap} {A : Ad} [Tbl]
theorem ok_law_random (T : Txt K mg A) : FnOk P w K mg base CX0 1 A.f_law_random A.fd_law_random ["_law_script", "_law_salt"] (spRnd K) := by
  obtain ⟨oc, od, dV, kV, doc, pm, an, cdv, ct, osl, e, lk, hcd, _, _⟩ := T.F_law_random.ex
  rw [e] at lk ⊢
  refine fn_of (N := ["_law_script", "_law_salt", "_law_seed", "_law_cell"]) lk hcd sc_law_random (fun vs H Q E h => by obtain ⟨a, ns, salt, h1, _⟩ := h; rw [h1]; rfl) fun A2 outer s H vs Q E hr hsp => ?_
  have hx : PSs (cxOf CX0 P w K mg base ["_law_script", "_law_salt", "_law_seed", "_law_cell"] "_law_random" (defScope st_law_random) A.f_law_random cdv A2 outer s H E).nox (defBody st_law_random) _ :=
    pss_cons (ps_set (i := 2) sc_law_random.nd rfl (by first | exact .inl rfl | exact .inr rfl) (pv 1))
      (pss_cons (ps_for PassesOwn.never rfl (pi_list (pv 0)) (pg_name (i := 3) sc_law_random.nd rfl (by first | exact .inl rfl | exact .inr rfl)) (pss_one (ps_set (i := 2) sc_law_random.nd rfl (by first | exact .inl rfl | exact .inr rfl) (pe_op op_modN (pe_op op_add (pe_op op_mul (pv 2) pe_int) (pe_callB call_abs (by rfl) T.z_abs bt_abs (pa_cons (pv 3) pa_nil))) pe_int))))
      (pss_one (ps_ret (pe_op op_cat (pe_lst (pa_cons (pv 2) (pa_cons pe_int pa_nil))) (pe_lc rfl sc_law_random.nd (pi_list (pv 0)) (blkOk_by (own := [("_law_cell", 3)]) (by kernel_rfl)) (fun _ _ _ _ _ => pg_name (i := 3) sc_law_random.nd rfl (by first | exact .inl rfl | exact .inr rfl)) (fun _ _ _ _ _ => pts_one (pt_cmpR op_ge (pv 3) (pe_op op_pow pe_int pe_int) (nomark _))) (fun _ _ _ _ _ => pv 3))))))
  exact ⟨_, hx.nox, rnd_run hsp⟩
theorem ok_law (T : Txt K mg A) (B : TBs base mg A) (hm : ∀ ns : List Int, ns.length ≤ 63 → ∃ e, b_law (env1 18 (rndL ns 8)) = .ret (.bl true) e) : FnOk P w K mg base CX0 9 A.f_law A.fd_law ["_law_script"] (spLaw K) := by
  obtain ⟨oc, od, dV, kV, doc, pm, an, cdv, ct, osl, e, lk, hcd, _, _⟩ := T.F_law.ex
  rw [e] at lk ⊢
  obtain rfl : cdv = .ref A.cc_law := by
    have h0 := T.code_law
    rw [e] at h0
    exact h0
  refine fn_of (N := ["_law_script", "_law_d", "_law_tables_not", "_law_table_here", "_law_at", "_law_wrong", "_law_none", "_law_odd", "_law_cases", "_law_full", "_law_largest", "_law_tables", "_law_keys", "_law_careful", "_law_reminders", "_law_many", "_law_length_here", "_law_bad", "_law_index", "_law_tick"]) lk hcd sc_law (fun vs H Q E h => by obtain ⟨a, ns, h1, _⟩ := h; rw [h1]; rfl) fun A2 outer s H vs Q E hr hsp => ?_
  have hx : ∃ t, PSs (cxOf CX0 P w K mg base ["_law_script", "_law_d", "_law_tables_not", "_law_table_here", "_law_at", "_law_wrong", "_law_none", "_law_odd", "_law_cases", "_law_full", "_law_largest", "_law_tables", "_law_keys", "_law_careful", "_law_reminders", "_law_many", "_law_length_here", "_law_bad", "_law_index", "_law_tick"] "law" (defScope st_law) A.f_law (.ref A.cc_law) A2 outer s H E).nox ((defBody st_law).drop 1) t ∧ RefS (S K A) [1, 8] [] E false t b_law := ⟨_, (pss_cons (ps_asg (pe_call (ok_law_parts T) (hr.mono (by decide)) (by rfl) T.g_law_parts T.F_law_parts.kp T.b_law_parts .nil (passE (E := E)) (pa_cons (pv 1) (pa_cons pe_int pa_nil))) (pg_tup rfl (pgs_cons (pg_name (i := 11) sc_law.nd rfl (by first | exact .inl rfl | exact .inr rfl)) (pgs_cons (pg_name (i := 12) sc_law.nd rfl (by first | exact .inl rfl | exact .inr rfl)) (pgs_cons (pg_name (i := 13) sc_law.nd rfl (by first | exact .inl rfl | exact .inr rfl)) (pgs_cons (pg_name (i := 14) sc_law.nd rfl (by first | exact .inl rfl | exact .inr rfl)) pgs_nil))))))
      (pss_cons (ps_par (i := 15) (j := 16) rfl sc_law.nd rfl rfl (by decide) rfl rfl (pa_cons (pe_callB call_len (by rfl) T.z_len bt_len (pa_cons (pv 11) pa_nil)) (pa_cons (pe_call (ok_law_length T) (hr.mono (by decide)) (by rfl) T.g_law_length T.F_law_length.kp T.b_law_length .nil (passE (E := E)) (pa_cons (pv 11) pa_nil)) pa_nil)) rfl)
      (pss_cons (ps_set (i := 2) sc_law.nd rfl (by first | exact .inl rfl | exact .inr rfl) (pe_lst (pa_cons pe_str (pa_cons pe_str (pa_cons pe_str (pa_cons pe_str (pa_cons pe_str (pa_cons pe_str (pa_cons pe_int (pa_cons pe_non (pa_cons (pe_tup (pa_cons pe_str pa_nil)) (pa_cons (pe_lst (pa_cons pe_str pa_nil)) (pa_cons pe_str (pa_cons (pe_op op_mulY pe_str pe_int) (pa_cons pe_str pa_nil)))))))))))))))
      (pss_cons (ps_set (i := 3) sc_law.nd rfl (by first | exact .inl rfl | exact .inr rfl) (pe_ix ix_seq (pv 2) (pe_call (ok_law_below T) (hr.mono (by decide)) (by rfl) T.g_law_below T.F_law_below.kp T.b_law_below .nil (passE (E := E)) (pa_cons (pv 1) (pa_cons pe_int pa_nil))) (fun _ _ => rfl)))
      (pss_cons (ps_set (i := 4) sc_law.nd rfl (by first | exact .inl rfl | exact .inr rfl) (pe_call (ok_law_below T) (hr.mono (by decide)) (by rfl) T.g_law_below T.F_law_below.kp T.b_law_below .nil (passE (E := E)) (pa_cons (pv 1) (pa_cons (pe_op op_addX (pv 15) pe_int) pa_nil))))
      (pss_cons (ps_set (i := 5) sc_law.nd rfl (by first | exact .inl rfl | exact .inr rfl) (pe_op op_addX (pe_op op_addX (pe_slice sl_X (pv 11) po_none (po_some (pv 4))) (pe_tup (pa_cons (pv 3) (pa_cons pe_non pa_nil)))) (pe_slice sl_X (pv 11) (po_some (pv 4)) po_none)))
      (pss_cons (ps_if (pt_cmpR (op_neX (hu64 hr)) (pe_clo0 (ok_law_error_of T) rfl (by rfl) T.g_law_error_of T.F_law_error_of.kp T.b_law_error_of (fun _ => rfl) (lamP_by (by kernel_rfl)) (hr.mono (by decide)) B.tb_law rfl B.in_law B.un_law rfl (fun q cl pm cv ctv us hl => match us, hl with | [], _ => rfl) (fun A2 outer s H E f c2 hr => (pe_make T.mk_House (ok_House__init_ T) (hr.mono (by decide)) (by rfl) T.g_House T.b_House__init_ .nil (passX (E := E) rfl rfl rfl rfl) (pa_cons (pv 5) (pa_cons pe_non (pa_cons pe_non (pa_cons pe_non pa_nil))))))) (pe_tup (pa_cons pe_str (pa_cons (pe_tup (pa_cons pe_str (pa_cons (pv 4) pa_nil))) pa_nil))) (nomark _)) (pss_one (ps_ret pe_bl)) pss_nil)
      (pss_cons (ps_set (i := 6) sc_law.nd rfl (by first | exact .inl rfl | exact .inr rfl) (pe_ix ix_seq (pe_lst (pa_cons pe_non (pa_cons (pe_tup pa_nil) (pa_cons (pe_callTy call_list_of (by rfl) T.z_list bt_list (pa_cons (pv 11) pa_nil)) (pa_cons pe_str (pa_cons pe_int pa_nil)))))) (pe_call (ok_law_below T) (hr.mono (by decide)) (by rfl) T.g_law_below T.F_law_below.kp T.b_law_below .nil (passE (E := E)) (pa_cons (pv 1) (pa_cons pe_int pa_nil))) (fun _ _ => rfl)))
      (pss_cons (ps_if (pt_cmpR (op_neX (hu64 hr)) (pe_clo0 (ok_law_error_of T) rfl (by rfl) T.g_law_error_of T.F_law_error_of.kp T.b_law_error_of (fun _ => rfl) (lamP_by (by kernel_rfl)) (hr.mono (by decide)) B.tb_law rfl B.in_law B.un_law rfl (fun q cl pm cv ctv us hl => match us, hl with | [], _ => rfl) (fun A2 outer s H E f c2 hr => (pe_make T.mk_House (ok_House__init_ T) (hr.mono (by decide)) (by rfl) T.g_House T.b_House__init_ .nil (passX (E := E) rfl rfl rfl rfl) (pa_cons (pv 6) (pa_cons pe_non (pa_cons pe_non (pa_cons pe_non pa_nil))))))) (pe_tup (pa_cons pe_str (pa_cons (pe_tup (pa_cons pe_str (pa_cons pe_int pa_nil))) pa_nil))) (nomark _)) (pss_one (ps_ret pe_bl)) pss_nil)
      (pss_cons (ps_if (pt_cmpR (op_neX (hu64 hr)) (pe_clo0 (ok_law_error_of T) rfl (by rfl) T.g_law_error_of T.F_law_error_of.kp T.b_law_error_of (fun _ => rfl) (lamP_by (by kernel_rfl)) (hr.mono (by decide)) B.tb_law rfl B.in_law B.un_law rfl (fun q cl pm cv ctv us hl => match us, hl with | [], _ => rfl) (fun A2 outer s H E f c2 hr => (pe_make T.mk_House (ok_House__init_ T) (hr.mono (by decide)) (by rfl) T.g_House T.b_House__init__2.choose_spec.choose_spec.2.2 T.b_House__init__2.choose_spec.choose_spec.2.1 (passX (E := E) rfl rfl rfl rfl) (pa_cons (pe_op op_mulY (pe_tup (pa_cons pe_str pa_nil)) pe_int) (pa_cons pe_int pa_nil))))) (pe_tup (pa_cons pe_str (pa_cons (pe_tup (pa_cons pe_str (pa_cons pe_int pa_nil))) pa_nil))) (nomark _)) (pss_one (ps_ret pe_bl)) pss_nil)
      (pss_cons (ps_set (i := 7) sc_law.nd rfl (by first | exact .inl rfl | exact .inr rfl) (pe_ix ix_seq (pe_lst (pa_cons (pe_op op_sub pe_int pe_int) (pa_cons pe_int (pa_cons pe_non (pa_cons pe_bl (pa_cons pe_str (pa_cons (pe_tup (pa_cons pe_int pa_nil)) pa_nil))))))) (pe_call (ok_law_below T) (hr.mono (by decide)) (by rfl) T.g_law_below T.F_law_below.kp T.b_law_below .nil (passE (E := E)) (pa_cons (pv 1) (pa_cons pe_int pa_nil))) (fun _ _ => rfl)))
      (pss_cons (ps_if (pt_cmpR (op_neX (hu64 hr)) (pe_clo0 (ok_law_error_of T) rfl (by rfl) T.g_law_error_of T.F_law_error_of.kp T.b_law_error_of (fun _ => rfl) (lamP_by (by kernel_rfl)) (hr.mono (by decide)) B.tb_law rfl B.in_law B.un_law rfl (fun q cl pm cv ctv us hl => match us, hl with | [], _ => rfl) (fun A2 outer s H E f c2 hr => (pe_make T.mk_House (ok_House__init_ T) (hr.mono (by decide)) (by rfl) T.g_House T.b_House__init_ .nil (passX (E := E) rfl rfl rfl rfl) (pa_cons (pv 11) (pa_cons (pv 7) (pa_cons pe_non (pa_cons pe_non pa_nil))))))) (pe_tup (pa_cons pe_str (pa_cons (pe_tup (pa_cons pe_str (pa_cons pe_int pa_nil))) pa_nil))) (nomark _)) (pss_one (ps_ret pe_bl)) pss_nil)
      (pss_cons (ps_set (i := 8) sc_law.nd rfl (by first | exact .inl rfl | exact .inr rfl) (pe_lst (pa_cons (pe_tup (pa_cons pe_non (pa_cons pe_int pa_nil))) (pa_cons (pe_tup (pa_cons pe_int (pa_cons pe_int pa_nil))) (pa_cons (pe_tup (pa_cons (pe_callTy call_list_of (by rfl) T.z_list bt_list (pa_cons (pv 13) pa_nil)) (pa_cons pe_int pa_nil))) (pa_cons (pe_tup (pa_cons (pe_tup (pa_cons (pv 15) pa_nil)) (pa_cons pe_int pa_nil))) (pa_cons (pe_tup (pa_cons (pe_tup (pa_cons (pe_op op_sub pe_int pe_int) pa_nil)) (pa_cons pe_int pa_nil))) (pa_cons (pe_tup (pa_cons (pe_tup (pa_cons pe_bl pa_nil)) (pa_cons pe_int pa_nil))) (pa_cons (pe_tup (pa_cons (pe_tup (pa_cons pe_int (pa_cons pe_int pa_nil))) (pa_cons pe_int pa_nil))) (pa_cons (pe_tup (pa_cons (pe_tup (pa_cons pe_str pa_nil)) (pa_cons pe_int pa_nil))) pa_nil))))))))))
      (pss_cons (ps_asg (pe_ix ix_seq (pe_op op_cat (pv 8) (pe_lst (pa_cons (pe_tup (pa_cons (pe_op op_addX (pe_tupRg rfl (by rfl) T.z_tuple (prg_1 (by rfl) T.z_range (pv 15))) (pe_tup (pa_cons pe_int pa_nil))) (pa_cons (pv 15) pa_nil))) pa_nil))) (pe_call (ok_law_below T) (hr.mono (by decide)) (by rfl) T.g_law_below T.F_law_below.kp T.b_law_below .nil (passE (E := E)) (pa_cons (pv 1) (pa_cons pe_int pa_nil))) (fun _ _ => rfl)) (pg_tup rfl (pgs_cons (pg_name (i := 17) sc_law.nd rfl (by first | exact .inl rfl | exact .inr rfl)) (pgs_cons (pg_name (i := 18) sc_law.nd rfl (by first | exact .inl rfl | exact .inr rfl)) pgs_nil))))
      (pss_cons (ps_if (pt_cmpR (op_neX (hu64 hr)) (pe_clo0 (ok_law_error_of T) rfl (by rfl) T.g_law_error_of T.F_law_error_of.kp T.b_law_error_of (fun _ => rfl) (lamP_by (by kernel_rfl)) (hr.mono (by decide)) B.tb_law rfl B.in_law B.un_law rfl (fun q cl pm cv ctv us hl => match us, hl with | [], _ => rfl) (fun A2 outer s H E f c2 hr => (pe_make T.mk_House (ok_House__init_ T) (hr.mono (by decide)) (by rfl) T.g_House T.b_House__init_ .nil (passX (E := E) rfl rfl rfl rfl) (pa_cons (pv 11) (pa_cons (pv 12) (pa_cons (pv 17) (pa_cons pe_non pa_nil))))))) (pe_tup (pa_cons pe_str (pa_cons (pe_tup (pa_cons pe_str (pa_cons (pv 18) pa_nil))) pa_nil))) (nomark _)) (pss_one (ps_ret pe_bl)) pss_nil)
      (pss_cons (ps_set (i := 8) sc_law.nd rfl (by first | exact .inl rfl | exact .inr rfl) (pe_lst (pa_cons (pe_tup (pa_cons pe_non (pa_cons pe_int pa_nil))) (pa_cons (pe_tup (pa_cons (pe_lst pa_nil) (pa_cons pe_int pa_nil))) (pa_cons (pe_tup (pa_cons (pe_tup (pa_cons (pe_tup (pa_cons (pv 16) (pa_cons pe_int pa_nil))) pa_nil)) (pa_cons pe_int pa_nil))) (pa_cons (pe_tup (pa_cons (pe_tup (pa_cons (pe_tup (pa_cons pe_int (pa_cons (pv 15) pa_nil))) pa_nil)) (pa_cons pe_int pa_nil))) (pa_cons (pe_tup (pa_cons (pe_tup (pa_cons (pe_tup (pa_cons pe_int (pa_cons pe_int pa_nil))) (pa_cons (pe_tup (pa_cons pe_int (pa_cons pe_int pa_nil))) pa_nil))) (pa_cons pe_int pa_nil))) (pa_cons (pe_tup (pa_cons (pe_tup (pa_cons (pe_tup (pa_cons pe_int pa_nil)) pa_nil)) (pa_cons pe_int pa_nil))) pa_nil))))))))
      (pss_cons (ps_set (i := 8) sc_law.nd rfl (by first | exact .inl rfl | exact .inr rfl) (pe_op op_cat (pv 8) (pe_lst (pa_cons (pe_tup (pa_cons (pe_tup (pa_cons pe_int (pa_cons pe_int pa_nil))) (pa_cons pe_int pa_nil))) (pa_cons (pe_tup (pa_cons (pe_tup (pa_cons (pe_tup (pa_cons pe_int (pa_cons pe_int (pa_cons pe_int pa_nil)))) pa_nil)) (pa_cons pe_int pa_nil))) (pa_cons (pe_tup (pa_cons (pe_tup (pa_cons (pe_lst (pa_cons pe_int (pa_cons pe_int pa_nil))) pa_nil)) (pa_cons pe_int pa_nil))) (pa_cons (pe_tup (pa_cons (pe_tup (pa_cons (pe_tup (pa_cons pe_bl (pa_cons pe_int pa_nil))) pa_nil)) (pa_cons pe_int pa_nil))) (pa_cons (pe_tup (pa_cons (pe_tup (pa_cons (pe_tup (pa_cons (pe_op op_sub pe_int pe_int) (pa_cons pe_int pa_nil))) pa_nil)) (pa_cons pe_int pa_nil))) pa_nil))))))))
      (pss_cons (ps_expr (pe_bm PySem.F.plainAttrs_list PySem.F.slot_list_append PySem.F.type_list_append mt_append (pv 8) (pa_cons (pe_tup (pa_cons (pe_tup (pa_cons (pe_tup (pa_cons pe_int (pa_cons pe_non pa_nil))) pa_nil)) (pa_cons pe_int pa_nil))) pa_nil)))
      (pss_cons (ps_asg (pe_ix ix_seq (pv 8) (pe_call (ok_law_below T) (hr.mono (by decide)) (by rfl) T.g_law_below T.F_law_below.kp T.b_law_below .nil (passE (E := E)) (pa_cons (pv 1) (pa_cons pe_int pa_nil))) (fun _ _ => rfl)) (pg_tup rfl (pgs_cons (pg_name (i := 17) sc_law.nd rfl (by first | exact .inl rfl | exact .inr rfl)) (pgs_cons (pg_name (i := 18) sc_law.nd rfl (by first | exact .inl rfl | exact .inr rfl)) pgs_nil))))
      (pss_cons (ps_if (pt_cmpR (op_neX (hu64 hr)) (pe_clo0 (ok_law_error_of T) rfl (by rfl) T.g_law_error_of T.F_law_error_of.kp T.b_law_error_of (fun _ => rfl) (lamP_by (by kernel_rfl)) (hr.mono (by decide)) B.tb_law rfl B.in_law B.un_law rfl (fun q cl pm cv ctv us hl => match us, hl with | [], _ => rfl) (fun A2 outer s H E f c2 hr => (pe_make T.mk_House (ok_House__init_ T) (hr.mono (by decide)) (by rfl) T.g_House T.b_House__init_ .nil (passX (E := E) rfl rfl rfl rfl) (pa_cons (pv 11) (pa_cons (pv 12) (pa_cons (pv 13) (pa_cons (pv 17) pa_nil))))))) (pe_tup (pa_cons pe_str (pa_cons (pe_tup (pa_cons pe_str (pa_cons (pv 18) pa_nil))) pa_nil))) (nomark _)) (pss_one (ps_ret pe_bl)) pss_nil)
      (pss_cons (ps_set (i := 9) sc_law.nd rfl (by first | exact .inl rfl | exact .inr rfl) (pe_callTy call_tuple_of (by rfl) T.z_tuple bt_tuple (pa_cons (pe_lc rfl sc_law.nd (pi_range1 (by rfl) T.z_range (pa_cons pe_int pa_nil)) (blkOk_by (own := [("_law_tick", 19)]) (by kernel_rfl)) (fun _ _ _ _ _ => (pg_name (i := 19) sc_law.nd rfl (by first | exact .inl rfl | exact .inr rfl))) (fun _ _ _ _ _ => pts_nil) (fun _ _ _ _ _ => (pe_tup (pa_cons (pv 19) (pa_cons pe_int pa_nil))))) pa_nil)))
      (pss_cons (ps_if (pt_cmpR (op_neX (hu64 hr)) (pe_clo0 (ok_law_error_of T) rfl (by rfl) T.g_law_error_of T.F_law_error_of.kp T.b_law_error_of (fun _ => rfl) (lamP_by (by kernel_rfl)) (hr.mono (by decide)) B.tb_law rfl B.in_law B.un_law rfl (fun q cl pm cv ctv us hl => match us, hl with | [], _ => rfl) (fun A2 outer s H E f c2 hr => (pe_make T.mk_House (ok_House__init_ T) (hr.mono (by decide)) (by rfl) T.g_House T.b_House__init_ .nil (passX (E := E) rfl rfl rfl rfl) (pa_cons (pe_tup (pa_cons (pe_op op_mulY pe_str pe_int) pa_nil)) (pa_cons pe_int (pa_cons (pe_tup pa_nil) (pa_cons (pv 9) pa_nil))))))) (pe_tup (pa_cons pe_str (pa_cons (pe_tup (pa_cons pe_str (pa_cons pe_int pa_nil))) pa_nil))) (nomark _)) (pss_one (ps_ret pe_bl)) pss_nil)
      (pss_cons (ps_set (i := 10) sc_law.nd rfl (by first | exact .inl rfl | exact .inr rfl) (pe_make T.mk_House (ok_House__init_ T) (hr.mono (by decide)) (by rfl) T.g_House T.b_House__init_ .nil passL (pa_cons (pe_op op_mulY (pe_tup (pa_cons (pe_op op_mulY pe_str pe_int) pa_nil)) pe_int) (pa_cons pe_int (pa_cons (pe_tup (pa_cons pe_int (pa_cons pe_int (pa_cons pe_int (pa_cons pe_int (pa_cons pe_int (pa_cons pe_int pa_nil))))))) (pa_cons (pe_tup pa_nil) pa_nil))))))
      (pss_one (ps_ret (pe_and (pe_cmpR (op_eqX (hu64 hr)) (pe_prop (pv 10) T.cl_House T.pr_House_period (ok_House_period T) (hr.mono (by decide)) T.b_House_period .nil (passE (E := E)) rfl) pe_int (nomark _)) (pe_one (pe_cmpR (op_eqX (hu64 hr)) (pe_fld (pe_make T.mk_House (ok_House__init_ T) (hr.mono (by decide)) (by rfl) T.g_House T.b_House__init_ .nil passL (pa_cons (pe_tup (pa_cons (pe_op op_mulY pe_str pe_int) pa_nil)) (pa_cons pe_int (pa_cons (pe_tup pa_nil) (pa_cons (pe_slice sl_X (pv 9) po_none (po_some pe_int)) pa_nil))))) rfl) (pe_tup pa_nil) (nomark _))))))))))))))))))))))))))))),
      (rs_seq (rs_asg (ref_callO (by decide) (fun d ds => runF0_ar) (ref_acons ref_int ref_anil)) (rg_tup (rgs_cons (rg_set (by decide)) (rgs_cons (rg_set (by decide)) (rgs_cons (rg_set (by decide)) (rgs_cons (rg_set (by decide)) rgs_nil)))) rfl))
      (rs_seq (rs_par (by decide) (by decide) (ref_opA oA_len (ref_acons (ref_var (by decide)) ref_anil)) (ref_call (fun _ _ => RepL.nil) (fun ds => runF_ar) (ref_acons (ref_var (by decide)) ref_anil)))
      (rs_seq (rs_set (by decide) (ref_lst (ref_acons ref_str (ref_acons ref_str (ref_acons ref_str (ref_acons ref_str (ref_acons ref_str (ref_acons ref_str (ref_acons ref_int (ref_acons ref_non (ref_acons (ref_tup (ref_acons ref_str ref_anil)) (ref_acons (ref_lst (ref_acons ref_str ref_anil)) (ref_acons ref_str (ref_acons (ref_op2 o2_mulX ref_str ref_int) (ref_acons ref_str ref_anil)))))))))))))))
      (rs_seq (rs_set (by decide) (ref_op2 o2_ix (ref_var (by decide)) (ref_callO (by decide) (fun d ds => runF0_ar) (ref_acons ref_int ref_anil))))
      (rs_seq (rs_set (by decide) (ref_callO (by decide) (fun d ds => runF0_ar) (ref_acons (ref_op2 o2_add (ref_var (by decide)) ref_int) ref_anil)))
      (rs_seq (rs_set (by decide) (ref_op2 o2_add (ref_op2 o2_add (ref_sl o3_sl (ref_var (by decide)) ro_none (ro_some (ref_var (by decide)))) (ref_tup (ref_acons (ref_var (by decide)) (ref_acons ref_non ref_anil)))) (ref_sl o3_sl (ref_var (by decide)) (ro_some (ref_var (by decide))) ro_none)))
      (rs_seq (rs_if (μ := none) (ref_test (ref_op2 o2_ne (ref_clo0 (U := [1, 8]) (by decide) (fun EZ => (ref_make (fun _ _ => RepL.nil) (fun d ds => runF0_ar) (ref_acons (ref_var (by decide)) (ref_acons ref_non (ref_acons ref_non (ref_acons ref_non ref_anil))))))) (ref_tup (ref_acons ref_str (ref_acons (ref_tup (ref_acons ref_str (ref_acons (ref_var (by decide)) ref_anil))) ref_anil))))) (rs_ret (μ := none) (by intro z; cases z) (by intro _ z; cases z) ref_bl) rs_next)
      (rs_seq (rs_set (by decide) (ref_op2 o2_ix (ref_lst (ref_acons ref_non (ref_acons (ref_tup ref_anil) (ref_acons (ref_opA oA_list (ref_acons (ref_var (by decide)) ref_anil)) (ref_acons ref_str (ref_acons ref_int ref_anil)))))) (ref_callO (by decide) (fun d ds => runF0_ar) (ref_acons ref_int ref_anil))))
      (rs_seq (rs_if (μ := none) (ref_test (ref_op2 o2_ne (ref_clo0 (U := [1, 8]) (by decide) (fun EZ => (ref_make (fun _ _ => RepL.nil) (fun d ds => runF0_ar) (ref_acons (ref_var (by decide)) (ref_acons ref_non (ref_acons ref_non (ref_acons ref_non ref_anil))))))) (ref_tup (ref_acons ref_str (ref_acons (ref_tup (ref_acons ref_str (ref_acons ref_int ref_anil))) ref_anil))))) (rs_ret (μ := none) (by intro z; cases z) (by intro _ z; cases z) ref_bl) rs_next)
      (rs_seq (rs_if (μ := none) (ref_test (ref_op2 o2_ne (ref_clo0 (U := [1, 8]) (by decide) (fun EZ => (ref_make (T.b_House__init__2.choose_spec.choose_spec.1 _ _) (fun d ds => runF0_ar) (ref_acons (ref_op2 o2_mulX (ref_tup (ref_acons ref_str ref_anil)) ref_int) (ref_acons ref_int ref_anil))))) (ref_tup (ref_acons ref_str (ref_acons (ref_tup (ref_acons ref_str (ref_acons ref_int ref_anil))) ref_anil))))) (rs_ret (μ := none) (by intro z; cases z) (by intro _ z; cases z) ref_bl) rs_next)
      (rs_seq (rs_set (by decide) (ref_op2 o2_ix (ref_lst (ref_acons (ref_op2 o2_sub ref_int ref_int) (ref_acons ref_int (ref_acons ref_non (ref_acons ref_bl (ref_acons ref_str (ref_acons (ref_tup (ref_acons ref_int ref_anil)) ref_anil))))))) (ref_callO (by decide) (fun d ds => runF0_ar) (ref_acons ref_int ref_anil))))
      (rs_seq (rs_if (μ := none) (ref_test (ref_op2 o2_ne (ref_clo0 (U := [1, 8]) (by decide) (fun EZ => (ref_make (fun _ _ => RepL.nil) (fun d ds => runF0_ar) (ref_acons (ref_var (by decide)) (ref_acons (ref_var (by decide)) (ref_acons ref_non (ref_acons ref_non ref_anil))))))) (ref_tup (ref_acons ref_str (ref_acons (ref_tup (ref_acons ref_str (ref_acons ref_int ref_anil))) ref_anil))))) (rs_ret (μ := none) (by intro z; cases z) (by intro _ z; cases z) ref_bl) rs_next)
      (rs_seq (rs_setOwn (by decide) (by decide) (ref_lst (ref_acons (ref_tup (ref_acons ref_non (ref_acons ref_int ref_anil))) (ref_acons (ref_tup (ref_acons ref_int (ref_acons ref_int ref_anil))) (ref_acons (ref_tup (ref_acons (ref_opA oA_list (ref_acons (ref_var (by decide)) ref_anil)) (ref_acons ref_int ref_anil))) (ref_acons (ref_tup (ref_acons (ref_tup (ref_acons (ref_var (by decide)) ref_anil)) (ref_acons ref_int ref_anil))) (ref_acons (ref_tup (ref_acons (ref_tup (ref_acons (ref_op2 o2_sub ref_int ref_int) ref_anil)) (ref_acons ref_int ref_anil))) (ref_acons (ref_tup (ref_acons (ref_tup (ref_acons ref_bl ref_anil)) (ref_acons ref_int ref_anil))) (ref_acons (ref_tup (ref_acons (ref_tup (ref_acons ref_int (ref_acons ref_int ref_anil))) (ref_acons ref_int ref_anil))) (ref_acons (ref_tup (ref_acons (ref_tup (ref_acons ref_str ref_anil)) (ref_acons ref_int ref_anil))) ref_anil))))))))))
      (rs_seq (rs_asg (ref_op2 o2_ix (ref_ownCat (by decide) (ref_lst (ref_acons (ref_tup (ref_acons (ref_op2 o2_add (ref_tupRg (ref_var (by decide))) (ref_tup (ref_acons ref_int ref_anil))) (ref_acons (ref_var (by decide)) ref_anil))) ref_anil))) (ref_callO (by decide) (fun d ds => runF0_ar) (ref_acons ref_int ref_anil))) (rg_tup (rgs_cons (rg_set (by decide)) (rgs_cons (rg_set (by decide)) rgs_nil)) rfl))
      (rs_seq (rs_if (μ := none) (ref_test (ref_op2 o2_ne (ref_clo0 (U := [1, 8]) (by decide) (fun EZ => (ref_make (fun _ _ => RepL.nil) (fun d ds => runF0_ar) (ref_acons (ref_var (by decide)) (ref_acons (ref_var (by decide)) (ref_acons (ref_var (by decide)) (ref_acons ref_non ref_anil))))))) (ref_tup (ref_acons ref_str (ref_acons (ref_tup (ref_acons ref_str (ref_acons (ref_var (by decide)) ref_anil))) ref_anil))))) (rs_ret (μ := none) (by intro z; cases z) (by intro _ z; cases z) ref_bl) rs_next)
      (rs_seq (rs_setOwn (by decide) (by decide) (ref_lst (ref_acons (ref_tup (ref_acons ref_non (ref_acons ref_int ref_anil))) (ref_acons (ref_tup (ref_acons (ref_lst ref_anil) (ref_acons ref_int ref_anil))) (ref_acons (ref_tup (ref_acons (ref_tup (ref_acons (ref_tup (ref_acons (ref_var (by decide)) (ref_acons ref_int ref_anil))) ref_anil)) (ref_acons ref_int ref_anil))) (ref_acons (ref_tup (ref_acons (ref_tup (ref_acons (ref_tup (ref_acons ref_int (ref_acons (ref_var (by decide)) ref_anil))) ref_anil)) (ref_acons ref_int ref_anil))) (ref_acons (ref_tup (ref_acons (ref_tup (ref_acons (ref_tup (ref_acons ref_int (ref_acons ref_int ref_anil))) (ref_acons (ref_tup (ref_acons ref_int (ref_acons ref_int ref_anil))) ref_anil))) (ref_acons ref_int ref_anil))) (ref_acons (ref_tup (ref_acons (ref_tup (ref_acons (ref_tup (ref_acons ref_int ref_anil)) ref_anil)) (ref_acons ref_int ref_anil))) ref_anil))))))))
      (rs_seq (rs_setOwn (by decide) (by decide) (ref_ownCat (by decide) (ref_lst (ref_acons (ref_tup (ref_acons (ref_tup (ref_acons ref_int (ref_acons ref_int ref_anil))) (ref_acons ref_int ref_anil))) (ref_acons (ref_tup (ref_acons (ref_tup (ref_acons (ref_tup (ref_acons ref_int (ref_acons ref_int (ref_acons ref_int ref_anil)))) ref_anil)) (ref_acons ref_int ref_anil))) (ref_acons (ref_tup (ref_acons (ref_tup (ref_acons (ref_lst (ref_acons ref_int (ref_acons ref_int ref_anil))) ref_anil)) (ref_acons ref_int ref_anil))) (ref_acons (ref_tup (ref_acons (ref_tup (ref_acons (ref_tup (ref_acons ref_bl (ref_acons ref_int ref_anil))) ref_anil)) (ref_acons ref_int ref_anil))) (ref_acons (ref_tup (ref_acons (ref_tup (ref_acons (ref_tup (ref_acons (ref_op2 o2_sub ref_int ref_int) (ref_acons ref_int ref_anil))) ref_anil)) (ref_acons ref_int ref_anil))) ref_anil))))))))
      (rs_seq (rs_app (by decide) (ref_tup (ref_acons (ref_tup (ref_acons (ref_tup (ref_acons ref_int (ref_acons ref_non ref_anil))) ref_anil)) (ref_acons ref_int ref_anil))))
      (rs_seq (rs_asg (ref_ownIx (by decide) (ref_callO (by decide) (fun d ds => runF0_ar) (ref_acons ref_int ref_anil))) (rg_tup (rgs_cons (rg_set (by decide)) (rgs_cons (rg_set (by decide)) rgs_nil)) rfl))
      (rs_seq (rs_if (μ := none) (ref_test (ref_op2 o2_ne (ref_clo0 (U := [1, 8]) (by decide) (fun EZ => (ref_make (fun _ _ => RepL.nil) (fun d ds => runF0_ar) (ref_acons (ref_var (by decide)) (ref_acons (ref_var (by decide)) (ref_acons (ref_var (by decide)) (ref_acons (ref_var (by decide)) ref_anil))))))) (ref_tup (ref_acons ref_str (ref_acons (ref_tup (ref_acons ref_str (ref_acons (ref_var (by decide)) ref_anil))) ref_anil))))) (rs_ret (μ := none) (by intro z; cases z) (by intro _ z; cases z) ref_bl) rs_next)
      (rs_seq (rs_set (by decide) (ref_opA oA_tuple (ref_acons (ref_lc (E1 := E) (E2 := E) (vs := [19]) (ri_range1 (ref_acons ref_int ref_anil)) (rg_set (by decide)) rt_yes (ref_tup (ref_acons (ref_var (by decide)) (ref_acons ref_int ref_anil))) (by decide) (by decide)) ref_anil)))
      (rs_seq (rs_if (μ := none) (ref_test (ref_op2 o2_ne (ref_clo0 (U := [1, 8]) (by decide) (fun EZ => (ref_make (fun _ _ => RepL.nil) (fun d ds => runF0_ar) (ref_acons (ref_tup (ref_acons (ref_op2 o2_mulX ref_str ref_int) ref_anil)) (ref_acons ref_int (ref_acons (ref_tup ref_anil) (ref_acons (ref_var (by decide)) ref_anil))))))) (ref_tup (ref_acons ref_str (ref_acons (ref_tup (ref_acons ref_str (ref_acons ref_int ref_anil))) ref_anil))))) (rs_ret (μ := none) (by intro z; cases z) (by intro _ z; cases z) ref_bl) rs_next)
      (rs_seq (rs_set (by decide) (ref_nx (ref_make (fun _ _ => RepL.nil) (fun d ds => runF0_ar) (ref_acons (ref_op2 o2_mulX (ref_tup (ref_acons (ref_op2 o2_mulX ref_str ref_int) ref_anil)) ref_int) (ref_acons ref_int (ref_acons (ref_tup (ref_acons ref_int (ref_acons ref_int (ref_acons ref_int (ref_acons ref_int (ref_acons ref_int (ref_acons ref_int ref_anil))))))) (ref_acons (ref_tup ref_anil) ref_anil)))))))
      (rs_ret (μ := none) (by intro z; cases z) (by intro _ z; cases z) (ref_andV (ref_op2 o2_eq (ref_prop (fun ds => runF_ar) (ref_var (by decide))) ref_int) (ref_op2 o2_eq (ref_fld T.cl_House T.na_House_careful rfl nd_House (ref_nx (ref_make (fun _ _ => RepL.nil) (fun d ds => runF0_ar) (ref_acons (ref_tup (ref_acons (ref_op2 o2_mulX ref_str ref_int) ref_anil)) (ref_acons ref_int (ref_acons (ref_tup ref_anil) (ref_acons (ref_sl o3_sl (ref_var (by decide)) ro_none (ro_some ref_int)) ref_anil))))))) (ref_tup ref_anil)))))))))))))))))))))))))))⟩
  obtain ⟨t, h1, h2⟩ := hx
  have h3 : PSs (cxOf CX0 P w K mg base ["_law_script", "_law_d", "_law_tables_not", "_law_table_here", "_law_at", "_law_wrong", "_law_none", "_law_odd", "_law_cases", "_law_full", "_law_largest", "_law_tables", "_law_keys", "_law_careful", "_law_reminders", "_law_many", "_law_length_here", "_law_bad", "_law_index", "_law_tick"] "law" (defScope st_law) A.f_law (.ref A.cc_law) A2 outer s H E).nox (defBody st_law) _ :=
    pss_cons (ps_set (i := 1) sc_law.nd rfl (by first | exact .inl rfl | exact .inr rfl) (pe_call (ok_law_random T) (hr.mono (by decide)) (by rfl) T.g_law_random T.F_law_random.kp T.b_law_random .nil (passE (E := E)) (pa_cons (pv 0) (pa_cons pe_int pa_nil)))) h1
  obtain ⟨a, ns, rfl, hS, hlen, k, htb⟩ := hsp
  refine ⟨_, h3.nox, ?_⟩
  refine ⟨.ref a, rfl, a, ns, 8, rfl, hS, by omega, fun H' p ext hp hl => ?_⟩
  exact law_run (n := 18) h2 (by decide) ext hp hl (hm ns hlen) htb ext_none k rfl
theorem law_inT {l : PySem.W.OpenLaw} {w : World} {K : PySem.W.Frag} {mg : Str → Option Value} {h : Heap} {A : Ad} (hT : Tbl.T = tl A) (T : Txt K mg A) (D : HdT K h A) (hm : ∀ ns : List Int, ns.length ≤ 63 → ∃ e, b_law (env1 18 (rndL ns 8)) = .ret (.bl true) e) :
    LamX.LawAtS l w K CX0 9 63 "_law_script" mg A.f_law h := by
  have hcl : ∀ p ∈ tl A, ∃ c, (c, p.1) ∈ cl A := by
    intro p hp
    simp only [tl, List.mem_cons, List.not_mem_nil, or_false] at hp
    cases hp
    exact ⟨A.cc_law, by simp [cl]⟩
  have hB : ∀ base : Heap, (∀ p ∈ cl A, LamX.TabB base mg p.1 p.2) → TBs base mg A := fun base hB => { tb_law := hB (A.cc_law, A.P_law) (by simp [cl]), in_law := by rw [hT]; simp [tl], un_law := fun p hp e => D.u p (by rw [← hT]; exact hp) (A.P_law, _) (by simp [tl]) e }
  refine ⟨A.fd_law, cl A, spLaw K, D.t, D.n, D.h, fun s u => T.F_law.bindsA (ps := ["_law_script"]) (fun _ _ _ _ _ _ us hl => match us, hl with | [_], _ => rfl) s [u] rfl, fun H a ns hl _ ht hS => ⟨a, ns, rfl, hS, hl, fun _ => rfl, fun p hp => ?_⟩, fun base _ _ q => ok_law T (hB base q) hm⟩
  rw [hT] at hp
  obtain ⟨c, hc⟩ := hcl p hp
  exact LamX.TabS.nil (ht _ hc)
theorem law_endT {l : PySem.W.OpenLaw} {w : World} {K : PySem.W.Frag} {mg : Str → Option Value} {fa : Addr} {h : Heap} (hh : ∃ A : Ad, Txt K mg A ∧ HdT K h A) (hmg : mg "law" = some (.ref fa)) (hm : ∀ ns : List Int, ns.length ≤ 63 → ∃ e, b_law (env1 18 (rndL ns 8)) = .ret (.bl true) e) :
    LamX.LawAtS l w K CX0 9 63 "_law_script" mg fa h := by
  obtain ⟨A, T, D⟩ := hh
  have e := hmg.symm.trans T.g_law
  cases e
  letI i : Tbl := ⟨tl A⟩
  exact law_inT rfl T D hm
end
end K08
/-! M08a -/
namespace K08
open PySem PySem.Spec PyProof.Rows L2 Mir
/-- the source's state -/
def Rnd (o : D) : Prop := ∃ ds : List Int, o = .lst (ds.map .int) ∧ 2 ≤ ds.length
theorem fmod_range {a b : Int} (h : 0 < b) : 0 ≤ a.fmod b ∧ a.fmod b < b := ⟨Int.fmod_nonneg_of_pos _ h, Int.fmod_lt_of_pos _ h⟩
/-- behind the first statement -/
theorem below_tail {s0 s1 lim : Int} {rest : List Int} (h1 : 0 < lim) (h2 : lim < 1000000000) : ∃ (r : Int) (e : Mir.Env) (ds : List Int), (sSeq (sIf (mTest (e2 oGtI (e2 oIx (eVar 0) (eC (.int 1))) (eC (.int 0)))) (sSeq (sAsg (eUp (e2 oMod (e2 oIx (eVar 0) (eC (.int 1))) (eVar 1))) (gSet 2))
  (sSeq (sSetIx 0 1 (eUp (e2 oFdiv (e2 oIx (eVar 0) (eC (.int 1))) (eVar 1))))
  (sRet (eVar 2)))) sNext)
  (sSeq (sSetIx 0 0 (eUp (e2 oMod (e2 oAdd (e2 oMul (e2 oIx (eVar 0) (eC (.int 0))) (eC (.int 48271))) (eC (.int 11))) (eC (.int 2147483647)))))
  (sRet (eUp (e2 oMod (e2 oFdiv (e2 oIx (eVar 0) (eC (.int 0))) (eC (.int 64))) (eVar 1)))))) [some (.lst (((s0 :: s1 :: rest).map .int : List D))), some (.int lim), none] = .ret (.int r) e ∧ e[0]? = some (some (.lst (ds.map .int))) ∧ 0 ≤ r ∧ r < lim ∧ 2 ≤ ds.length := by
  have hl0 : lim ≠ 0 := by omega
  have hlm : lim ≠ 0 ∧ lim.natAbs < 1073741824 := ⟨by omega, by omega⟩
  have i1 : ∀ (a b : D) (l : List D), ixN (a :: b :: l).length 1 = some 1 := fun a b l => ixN_at (by simp) rfl
  have i0 : ∀ (a b : D) (l : List D), ixN (a :: b :: l).length 0 = some 0 := fun a b l => ixN_at (by simp) rfl
  by_cases c : 0 < s1
  · refine ⟨s1.fmod lim, [some (.lst ((s0 :: s1.fdiv lim :: rest).map .int)), some (.int lim), some (.int (s1.fmod lim))], s0 :: s1.fdiv lim :: rest, ?_, rfl, (fmod_range h1).1, (fmod_range h1).2, by simp⟩
    · simp only [ap_sSeq, ap_sIf, ap_mTest, ap_e2, ap_eVar, ap_eC, List.getElem?_cons_zero, List.getElem?_cons_succ, List.map_cons, Out.bind_ok, oIx_lst, atI_c1, Out.opt_some, oGtI_int, dd_boo, Out.fl_ok, c, decide_true, if_true, ap_sAsg, ap_eUp, oMod_int _ _ hl0, dp_int, ap_gSet, Fl.bind_next, set_2, ap_sSetIx, oFdiv_int _ _ hlm, i1, ap_sRet, Fl.bind_ret, set_0, set_1]
  · refine ⟨(((s0 * 48271 + 11).fmod 2147483647).fdiv 64).fmod lim, [some (.lst ((((s0 * 48271 + 11).fmod 2147483647) :: s1 :: rest).map .int)), some (.int lim), none], ((s0 * 48271 + 11).fmod 2147483647) :: s1 :: rest, ?_, rfl, (fmod_range h1).1, (fmod_range h1).2, by simp⟩
    · simp only [ap_sSeq, ap_sIf, ap_mTest, ap_e2, ap_eVar, ap_eC, List.getElem?_cons_zero, List.getElem?_cons_succ, List.map_cons, Out.bind_ok, oIx_lst, atI_c0, atI_c1, Out.opt_some, oGtI_int, dd_boo, Out.fl_ok, c, decide_false, if_false, ap_sNext, ap_eUp, oMod_int _ _ hl0, dp_int, Fl.bind_next, ap_sSetIx, i0, ap_sRet, Fl.bind_ret, set_0, set_1, oMul_int _ 48271 (.inr (by decide)), oAdd_int, oMod_int _ 2147483647 (by decide), oFdiv_int _ 64 (by decide), if_true, Bool.false_eq_true]
theorem below_spec {o : D} (ho : Rnd o) {lim : Int} (h1 : 0 < lim) (h2 : lim < 1000000000) : ∃ r o', d_law_below o [.int lim] = .ok (.int r) o' ∧ 0 ≤ r ∧ r < lim ∧ Rnd o' := by
  obtain ⟨ds, rfl, hl⟩ := ho
  obtain ⟨s0, s1, rest, rfl⟩ : ∃ s0 s1 rest, ds = s0 :: s1 :: rest := by
    match ds, hl with
    | s0 :: s1 :: rest, _ => exact ⟨s0, s1, rest, rfl⟩
  have i1 : ∀ (a b : D) (l : List D), ixN (a :: b :: l).length 1 = some 1 := fun a b l => ixN_at (by simp) rfl
  have i2 : ∀ (a b c : D) (l : List D), seqIndex? 2 (a :: b :: c :: l).length = some 2 := fun a b c l => seqIx_at (by simp) rfl
  have first : ∃ (t0 t1 : Int) (rs : List Int), (sIf (mAnd (mTest (e2 oEq (e2 oIx (eVar 0) (eC (.int 1))) (eC (.int 0)))) (mTest (e2 oGtI (eA (A1 oLen) (aCons (eVar 0) aNil)) (eC (.int 2))))) (sSetIx 0 1 (ePopAt 0 2)) sNext) [some (.lst (((s0 :: s1 :: rest).map .int : List D))), some (.int lim), none] = .next [some (.lst (((t0 :: t1 :: rs).map .int : List D))), some (.int lim), none] := by
    by_cases c : s1 = 0
    · cases rest with
      | nil =>
        refine ⟨s0, s1, [], ?_⟩
        subst c
        simp [oEq_int]
      | cons t rest =>
        refine ⟨s0, t, rest, ?_⟩
        subst c
        have hg : (2 : Int) < ((D.int s0 :: D.int 0 :: D.int t :: rest.map D.int).length : Int) := by simp only [List.length_cons]; omega
        simp only [ap_sIf, ap_mAnd, ap_mTest, ap_e2, ap_eVar, ap_eC, List.getElem?_cons_zero, List.getElem?_cons_succ, List.map_cons, Out.bind_ok, oIx_lst, atI_c1, Out.opt_some, oEq_int, dd_boo, Out.fl_ok, decide_true, if_true, ap_eA, ap_aCons, ap_aNil, ap_A1, oLen_lst, oGtI_int, hg, ap_sSetIx, ap_ePopAt, i2]
        rw [if_pos (by decide)]
        simp only [Out.fl_ok, set_0, List.getElem?_cons_zero, List.eraseIdx_cons_succ, List.eraseIdx_cons_zero, i1, set_1]
    · refine ⟨s0, s1, rest, ?_⟩
      simp [oEq_int, c]
  obtain ⟨t0, t1, rs, hf⟩ := first
  obtain ⟨r, e, ds, h3, h4, h5, h6, h7⟩ := below_tail (s0 := t0) (s1 := t1) (rest := rs) h1 h2
  refine ⟨r, _, ?_, h5, h6, ds, rfl, h7⟩
  have hb : b_law_below [some (.lst (((s0 :: s1 :: rest).map .int : List D))), some (.int lim), none] = .ret (.int r) e := by
    unfold b_law_below
    rw [ap_sSeq, hf, Fl.bind_next]
    exact h3
  exact runF0_ret hb h4 rfl
end K08
/-! M08b -/
namespace K08
open PySem PySem.Spec PyProof.Rows L2 Mir
/-! ### tables -/
def D24 : List Int := [1, 2, 3, 4, 6, 8, 12, 24]
def signs (z : Str) : Prop := ∀ c ∈ z.cps.toList, c = 104 ∨ c = 111
structure Tab (z : Str) : Prop where
  s : signs z
  l : (z.length : Int) ∈ D24
theorem d24_range {n : Int} (h : n ∈ D24) : 1 ≤ n ∧ n ≤ 24 := by
  simp only [D24, List.mem_cons, List.not_mem_nil, or_false] at h
  omega
theorem Tab.le {z : Str} (h : Tab z) : z.length ≤ 24 := by have := d24_range h.l; omega
theorem Tab.pos {z : Str} (h : Tab z) : 1 ≤ z.length := by have := d24_range h.l; omega
theorem callO_below {env env1 : Mir.Env} {b : EM} {j : Nat} {lim : Int} {o0 o : D} (h0 : env[j]? = some (some o0)) (hb : b env = .ok (.int lim) env1) (h1 : env1[j]? = some (some o)) (ho : Rnd o) (l1 : 0 < lim) (l2 : lim < 1000000000) :
    ∃ r o', eCallO d_law_below j (aCons b aNil) env = .ok (.int r) (env1.set j (some o')) ∧ 0 ≤ r ∧ r < lim ∧ Rnd o' := by
  obtain ⟨r, o', e, q1, q2, q3⟩ := below_spec ho l1 l2
  refine ⟨r, o', ?_, q1, q2, q3⟩
  rw [ap_eCallO, h0]
  dsimp only
  rw [ap_aCons, hb]
  simp only [Out.bind_ok, ap_aNil]
  rw [h1]
  dsimp only
  rw [e]
theorem ho_ix {r : Int} (h0 : 0 ≤ r) (h1 : r < 2) : ∃ c : Nat, oIx (.str "ho") (.int r) = some (.str ⟨#[c]⟩) ∧ (c = 104 ∨ c = 111) := by
  have : r = 0 ∨ r = 1 := by omega
  rcases this with rfl | rfl
  · exact ⟨104, rfl, .inl rfl⟩
  · exact ⟨111, rfl, .inr rfl⟩
theorem join_signs (cs : List Nat) : Txt.join "" (cs.map fun c => (⟨#[c]⟩ : Str)) = ⟨cs.toArray⟩ := by
  have h := SX.join_S [] (cs.map fun c => [c])
  rw [List.map_map] at h
  have e : TL.joinL [] (cs.map fun c => [c]) = cs := by
    induction cs with
    | nil => rfl
    | cons c cs ih => cases cs with
      | nil => rfl
      | cons d cs => show [c] ++ ([] ++ TL.joinL [] ((d :: cs).map fun c => [c])) = _; rw [ih (SX.join_S _ _ |> fun z => by rw [List.map_map] at z; exact z)]; rfl
  rw [e] at h
  exact h
theorem lens_join (cs : List Nat) : ((cs.map fun c => (⟨#[c]⟩ : Str)).map (·.length)).sum = cs.length := by
  induction cs with
  | nil => rfl
  | cons c cs ih => rw [List.map_cons, List.map_cons, List.sum_cons, ih, List.length_cons]; show 1 + _ = _; omega
theorem rangeL_len (lo : Int) (n : Nat) : (rangeL lo n).length = n := by unfold rangeL; rw [List.length_map, List.length_range]
theorem rng1_at {n : Int} (h0 : 0 ≤ n) (h1 : n < 2 ^ 62) : rng1 [.int n] = some (rangeL 0 n.toNat) := by unfold rng1; dsimp only; rw [if_pos ⟨by omega, h1⟩]
theorem table_spec {o : D} (ho : Rnd o) : ∃ z o', d_law_table o [] = .ok (.str z) o' ∧ Tab z ∧ Rnd o' := by
  obtain ⟨r1, o1, e1, a1, b1, ho1⟩ := callO_below (env := [some o, none, none]) (b := eC (.int 3)) (j := 0) rfl rfl rfl ho (by decide) (by decide)
  obtain ⟨l1, hl1, hl2, hl3⟩ : ∃ l : Int, atI [D.int 5, .int 7, .int 9] r1 = some (.int l) ∧ 0 < l ∧ l ≤ 9 := by
    have : r1 = 0 ∨ r1 = 1 ∨ r1 = 2 := by omega
    rcases this with rfl | rfl | rfl
    · exact ⟨5, rfl, by decide, by decide⟩
    · exact ⟨7, rfl, by decide, by decide⟩
    · exact ⟨9, rfl, by decide, by decide⟩
  have hb : (e2 oIx (eLst (aCons (eC (.int 5)) (aCons (eC (.int 7)) (aCons (eC (.int 9)) aNil)))) (eCallO d_law_below 0 (aCons (eC (.int 3)) aNil))) [some o, none, none] = .ok (.int l1) [some o1, none, none] := by
    rw [ap_e2, ap_eLst]
    simp only [ap_aCons, ap_eC, ap_aNil, Out.bind_ok]
    rw [if_pos (by decide)]
    simp only [Out.opt_some, Out.bind_ok]
    rw [e1]
    simp only [Out.bind_ok, oIx_lst, hl1, Out.opt_some]
    rfl
  obtain ⟨r2, o2, e2', a2, b2, ho2⟩ := callO_below (env := [some o, none, none]) (j := 0) rfl hb rfl ho1 hl2 (by omega)
  obtain ⟨n, hn1, hn2⟩ : ∃ n : Int, atI [D.int 1, .int 2, .int 3, .int 4, .int 4, .int 6, .int 8, .int 12, .int 24] r2 = some (.int n) ∧ n ∈ D24 := by
    have : r2 = 0 ∨ r2 = 1 ∨ r2 = 2 ∨ r2 = 3 ∨ r2 = 4 ∨ r2 = 5 ∨ r2 = 6 ∨ r2 = 7 ∨ r2 = 8 := by omega
    rcases this with rfl | rfl | rfl | rfl | rfl | rfl | rfl | rfl | rfl
    · exact ⟨1, rfl, by decide⟩
    · exact ⟨2, rfl, by decide⟩
    · exact ⟨3, rfl, by decide⟩
    · exact ⟨4, rfl, by decide⟩
    · exact ⟨4, rfl, by decide⟩
    · exact ⟨6, rfl, by decide⟩
    · exact ⟨8, rfl, by decide⟩
    · exact ⟨12, rfl, by decide⟩
    · exact ⟨24, rfl, by decide⟩
  have hr := d24_range hn2
  have hlc : ∃ (cs : List Nat) (o' : D), (eLc [2] (iRng1M (aCons (eVar 1) aNil)) (gSet 2) mYes (e2 oIx (eC (.str "ho")) (eCallO d_law_below 0 (aCons (eC (.int 2)) aNil)))) [some o2, some (.int n), none] = .ok (.lst ((cs.map fun c => (⟨#[c]⟩ : Str)).map D.str)) [some o', some (.int n), none] ∧ Rnd o' ∧ cs.length = n.toNat ∧ ∀ c ∈ cs, c = 104 ∨ c = 111 := by
    obtain ⟨xs, env', q1, o', cs, q2, q3, q4, q5, q6⟩ := lcGo_inv (vs := [2]) (g := gSet 2) (c := mYes) (e := e2 oIx (eC (.str "ho")) (eCallO d_law_below 0 (aCons (eC (.int 2)) aNil)))
      (fun done acc env => ∃ (o' : D) (cs : List Nat), env = [some o', some (.int n), none] ∧ Rnd o' ∧ acc = (cs.map fun c => (⟨#[c]⟩ : Str)).map D.str ∧ cs.length = done.length ∧ ∀ c ∈ cs, c = 104 ∨ c = 111)
      (ds := rangeL 0 n.toNat) (done := []) (acc := []) (env := [some o2, some (.int n), none]) ⟨o2, [], rfl, ho2, rfl, rfl, fun c m => (by cases m)⟩ (by rw [rangeL_len]; simp only [List.length_nil]; omega) (Nat.le_refl _) (by
        rintro done acc d env ⟨o', cs, rfl, p1, rfl, p2, p3⟩ m
        obtain ⟨r, o'', q1, q2, q3, q4⟩ := callO_below (env := [some o', some (.int n), some d]) (b := eC (.int 2)) (j := 0) rfl rfl rfl p1 (by decide) (by decide)
        obtain ⟨c, q5, q6⟩ := ho_ix q2 q3
        refine ⟨_, rfl, true, _, rfl, fun z => (by cases z), fun _ => ⟨.str ⟨#[c]⟩, [some o'', some (.int n), some d], ?_, o'', cs ++ [c], rfl, q4, ?_, ?_, ?_⟩⟩
        · rw [ap_e2, ap_eC, Out.bind_ok]
          have q1' : eCallO d_law_below 0 (aCons (eC (.int 2)) aNil) (List.set [some o', some (.int n), none] 2 (some d)) = _ := q1
          rw [q1']
          simp only [Out.bind_ok, q5, Out.opt_some]
          rfl
        · simp
        · simp [p2]
        · intro x m
          rcases List.mem_append.mp m with m | m
          · exact p3 x m
          · rw [List.mem_singleton.mp m]
            exact q6)
    refine ⟨cs, o', ?_, q3, by rw [q5]; simp [rangeL_len], q6⟩
    rw [ap_eLc, ap_iRng1M]
    simp only [ap_aCons, ap_eVar, ap_aNil, List.getElem?_cons_succ, List.getElem?_cons_zero, Out.bind_ok]
    rw [rng1_at (by omega) (by omega)]
    simp only [Out.opt_some, Out.bind_ok]
    have q1' : lcGo [2] (gSet 2) mYes (e2 oIx (eC (.str "ho")) (eCallO d_law_below 0 (aCons (eC (.int 2)) aNil))) (rangeL 0 n.toNat) [] (wipeE [some o2, some (.int n), none] [2]) = _ := q1
    rw [q1']
    simp only [Out.bind_ok, q2, q4]
    rfl
  obtain ⟨cs, o', q1, q2, q3, q4⟩ := hlc
  refine ⟨⟨cs.toArray⟩, o', ?_, ⟨?_, ?_⟩, q2⟩
  · refine runF0_ret (e := [some o', some (.int n), none]) ?_ rfl rfl
    show b_law_table [some o, none, none] = _
    unfold b_law_table
    rw [ap_sSeq, ap_sAsg, ap_e2, ap_eLst]
    simp only [ap_aCons, ap_eC, ap_aNil, Out.bind_ok]
    rw [if_pos (by decide)]
    simp only [Out.opt_some, Out.bind_ok]
    rw [e2']
    simp only [Out.bind_ok, oIx_lst, hn1, Out.opt_some, Out.fl_ok, ap_gSet, Fl.bind_next, ap_sRet]
    rw [ap_eM1, ap_eC]
    simp only [Out.bind_ok, dd_isS, if_true]
    have q1' := q1
    rw [show (List.set (List.set [some o1, none, none] 0 (some o2)) 1 (some (D.int n)) : Mir.Env) = [some o2, some (.int n), none] from rfl, q1']
    simp only [Out.bind_ok]
    unfold oJoin
    dsimp only
    rw [strsOf_map]
    simp only [Option.bind_some]
    rw [lens_join, if_pos (by rw [List.length_map, q3]; show n.toNat + n.toNat * 0 ≤ 100000; omega), join_signs]
    rfl
  · intro c m
    exact q4 c (by simpa using m)
  · show ((cs.toArray.size : Nat) : Int) ∈ D24
    rw [List.size_toArray, q3]
    have : ((n.toNat : Nat) : Int) = n := by omega
    rw [this]
    exact hn2
end K08
/-! M08c -/
namespace K08
open PySem PySem.Spec PyProof.Rows L2 Mir
theorem cm_run (a b m : Int) (n : Nat) (h : whileN (mTest (e2 oNe (e2 oMul (e2 oFdiv (eVar 2) (eVar 1)) (eVar 1)) (eVar 2))) (sAug 2 (eVar 0) (· + ·)) n [some (.int a), some (.int b), some (.int a)] = some (.next [some (.int a), some (.int b), some (.int m)])) :
    d_common_multiple [.int a, .int b] = .ok (.int m) := by
  refine runF_ret (e := [some (.int a), some (.int b), some (.int m)]) ?_ rfl
  show b_common_multiple [some (.int a), some (.int b), none] = _
  unfold b_common_multiple
  rw [ap_sSeq, ap_sAsg]
  simp only [ap_eVar, List.getElem?_cons_zero, Out.fl_ok, ap_gSet, Fl.bind_next, set_2, ap_sSeq]
  rw [sWhile_of h]
  rfl
/-- one turn more -/
theorem cm_step (a b : Int) (hb : 1 ≤ b ∧ b ≤ 1000000) (ha : 1 ≤ a) (n : Nat) : ∀ (k : Nat) (x m : Int), x + k * a = m → b ∣ m → (∀ i : Nat, i < k → ¬ b ∣ x + i * a) → k < n → whileN (mTest (e2 oNe (e2 oMul (e2 oFdiv (eVar 2) (eVar 1)) (eVar 1)) (eVar 2))) (sAug 2 (eVar 0) (· + ·)) n [some (.int a), some (.int b), some (.int x)] = some (.next [some (.int a), some (.int b), some (.int m)]) := by
  induction n with
  | zero => intro k x m _ _ _ h; omega
  | succ n ih =>
    intro k x m hm hd hk hn
    have hb0 : b ≠ 0 ∧ b.natAbs < 1073741824 := ⟨by omega, by omega⟩
    have ht : (mTest (e2 oNe (e2 oMul (e2 oFdiv (eVar 2) (eVar 1)) (eVar 1)) (eVar 2))) [some (.int a), some (.int b), some (.int x)] = .ok (!decide (x.fdiv b * b = x)) [some (.int a), some (.int b), some (.int x)] := by
      simp only [ap_mTest, ap_e2, ap_eVar, List.getElem?_cons_zero, List.getElem?_cons_succ, Out.bind_ok, oFdiv_int _ _ hb0, Out.opt_some, oMul_int _ _ (.inr (show -(2 ^ 64) < b ∧ b < 2 ^ 64 by omega)), oNe_int, dd_boo]
    have hdv : (x.fdiv b * b = x) ↔ b ∣ x := by
      rw [Int.fdiv_eq_ediv_of_nonneg _ (by omega)]
      constructor
      · intro h
        exact ⟨x / b, by rw [Int.mul_comm]; exact h.symm⟩
      · intro h
        exact Int.ediv_mul_cancel h
    unfold whileN
    rw [ht]
    cases k with
    | zero =>
      have e : x = m := by simpa using hm
      subst e
      rw [decide_eq_true (hdv.mpr hd)]
      rfl
    | succ k =>
      have h0 : ¬ b ∣ x := by simpa using hk 0 (by omega)
      rw [decide_eq_false (fun z => h0 (hdv.mp z))]
      simp only [Bool.not_false]
      have hs : (sAug 2 (eVar 0) (· + ·)) [some (.int a), some (.int b), some (.int x)] = .next [some (.int a), some (.int b), some (.int (x + a))] := rfl
      rw [hs]
      refine ih k (x + a) m ?_ hd (fun i hi => ?_) (by omega)
      · rw [← hm]
        have : ((k + 1 : Nat) : Int) * a = a + k * a := by rw [show ((k + 1 : Nat) : Int) = k + 1 by omega, Int.add_mul]; omega
        omega
      · have := hk (i + 1) (by omega)
        have e : ((i + 1 : Nat) : Int) * a = a + i * a := by rw [show ((i + 1 : Nat) : Int) = i + 1 by omega, Int.add_mul]; omega
        rw [e] at this
        rw [show x + a + i * a = x + (a + i * a) by omega]
        exact this
theorem cm_tab : ∀ a ∈ D24, ∀ b ∈ D24, ∃ m ∈ D24, a ∣ m ∧ b ∣ m ∧ m = (Int.lcm a b : Int) ∧ ∃ k : Nat, k < 25 ∧ a + k * a = m ∧ ∀ i : Nat, i < k → ¬ b ∣ a + i * a := by decide +kernel
theorem cm_spec {a b : Int} (ha : a ∈ D24) (hb : b ∈ D24) : ∃ m, d_common_multiple [.int a, .int b] = .ok (.int m) ∧ m ∈ D24 ∧ a ∣ m ∧ b ∣ m ∧ ∀ c, a ∣ c → b ∣ c → m ∣ c := by
  obtain ⟨m, h1, h2, h3, hl, k, h4, h5, h6⟩ := cm_tab a ha b hb
  exact ⟨m, cm_run a b m 25 (cm_step a b ⟨(d24_range hb).1, by have := (d24_range hb).2; omega⟩ (d24_range ha).1 25 k a m h5 h3 h6 h4), h1, h2, h3, fun c q1 q2 => by rw [hl]; exact Int.coe_lcm_dvd q1 q2⟩
/-! ### the law's own length -/
theorem strOk_tab {z : Str} (h : signs z) : PyData.strOk z = true := by
  unfold PyData.strOk
  rw [← Array.all_toList, List.all_eq_true]
  intro c m
  rcases h c m with rfl | rfl <;> decide
theorem fit_strs {zs : List Str} (h : ∀ z ∈ zs, signs z) : (D.lst (zs.map .str)).fit = true ∧ (D.tup (zs.map .str)).fit = true := by
  have l : D.layL (zs.map .str) = true ∧ D.depL (zs.map .str) = 0 := by
    induction zs with
    | nil => exact ⟨rfl, rfl⟩
    | cons z zs ih =>
      obtain ⟨h1, h2⟩ := ih fun x m => h x (List.mem_cons_of_mem _ m)
      refine ⟨?_, ?_⟩
      · rw [List.map_cons, dl_cons, dl_str, strOk_tab (h z List.mem_cons_self), h1]; rfl
      · rw [List.map_cons, de_cons, de_str, h2]; rfl
  exact ⟨fit_of (by rw [dl_lst]; exact l.1) (by rw [de_lst, l.2]; omega), fit_of (by rw [dl_tup]; exact l.1) (by rw [de_tup, l.2]; omega)⟩
theorem ne_nilL {xs : List D} (h : (D.lst xs).fit = true) : oNe (.lst xs) (.lst []) = some (.bl (!xs.isEmpty)) := by
  unfold oNe oEqB
  simp only [h, fit_nilL, Bool.and_self, if_true, Option.map_some]
  cases xs <;> simp [D.eqb, D.eqbL]
def Good (ts : List Str) (L : Int) : Prop := ∀ z ∈ ts, (z.length : Int) ∣ L
theorem len_cond {ts : List Str} (ht : ∀ z ∈ ts, Tab z) (hl : ts.length ≤ 1000) (L : Int) : (mTest (e2 oNe (eLc [2] (iSeqM (eVar 0)) (gSet 2) (mTest (e2 oGtI (e2 oMod (eVar 1) (eA (A1 oLen) (aCons (eVar 2) aNil))) (eC (.int 0)))) (eVar 2)) (eLst aNil))) [some (.tup (ts.map .str)), some (.int L), none] = .ok (!(ts.filter fun z => decide (0 < L.fmod z.length)).isEmpty) [some (.tup (ts.map .str)), some (.int L), none] := by
  have h := lcGo_filter (vs := [2]) (g := gSet 2) (c := mTest (e2 oGtI (e2 oMod (eVar 1) (eA (A1 oLen) (aCons (eVar 2) aNil))) (eC (.int 0)))) (e := eVar 2) (fun d => match d with | .str z => decide (0 < L.fmod z.length) | _ => false) id (w := [some (.tup (ts.map .str)), some (.int L), none]) (ds := ts.map .str) (by rw [List.length_map]; omega) (by
    intro d m
    obtain ⟨z, hz, rfl⟩ := List.mem_map.mp m
    have hz' := ht z hz
    have hp := hz'.pos
    refine ⟨_, rfl, [some (.tup (ts.map .str)), some (.int L), some (.str z)], ?_, fun _ => rfl, fun _ => ⟨_, rfl, rfl⟩⟩
    simp only [ap_mTest, ap_e2, ap_eVar, List.set, List.getElem?_cons_zero, List.getElem?_cons_succ, Out.bind_ok, ap_eA, ap_aCons, ap_aNil, ap_A1, oLen_str z (by have := hz'.le; omega), Out.opt_some, oMod_int L z.length (by omega), ap_eC, oGtI_int, dd_boo])
  have hf : ((ts.map D.str).filter fun d => match d with | .str z => decide (0 < L.fmod z.length) | _ => false) = (ts.filter fun z => decide (0 < L.fmod z.length)).map D.str := by
    rw [List.filter_map]; rfl
  rw [ap_mTest, ap_e2, ap_eLc, ap_iSeqM]
  simp only [ap_eVar, List.getElem?_cons_zero, Out.bind_ok, dd_itT, Out.opt_some]
  have h' : lcGo [2] (gSet 2) (mTest (e2 oGtI (e2 oMod (eVar 1) (eA (A1 oLen) (aCons (eVar 2) aNil))) (eC (.int 0)))) (eVar 2) (ts.map D.str) [] (wipeE [some (.tup (ts.map .str)), some (.int L), none] [2]) = _ := h
  rw [h']
  simp only [Out.bind_ok, ap_eLst, ap_aNil, hf, List.map_id]
  rw [if_pos (by decide)]
  simp only [Out.opt_some, Out.bind_ok]
  rw [ne_nilL (fit_strs fun z m => (ht z (List.mem_filter.mp m).1).s).1]
  simp only [Out.opt_some, Out.bind_ok, dd_boo, List.isEmpty_map]
  rfl
theorem good_iff {ts : List Str} (ht : ∀ z ∈ ts, Tab z) (L : Int) : (ts.filter fun z => decide (0 < L.fmod z.length)).isEmpty = true ↔ Good ts L := by
  rw [List.isEmpty_iff, List.filter_eq_nil_iff]
  constructor
  · intro h z m
    have := h z m
    have hp := (ht z m).pos
    have hr := fmod_range (a := L) (b := z.length) (by omega)
    have h0 : L.fmod z.length = 0 := by
      have : ¬ 0 < L.fmod z.length := by simpa using this
      omega
    rw [Int.fmod_eq_emod_of_nonneg _ (by omega)] at h0
    exact Int.dvd_of_emod_eq_zero h0
  · intro h z m
    have hp := (ht z m).pos
    have := h z m
    rw [Int.fmod_eq_emod_of_nonneg _ (by omega), Int.emod_eq_zero_of_dvd this]
    simp
theorem good24 {ts : List Str} (ht : ∀ z ∈ ts, Tab z) : Good ts 24 := fun z m => by
  have := (ht z m).l
  have key : ∀ n ∈ D24, n ∣ (24 : Int) := by decide +kernel
  exact key _ this
theorem length_spec {ts : List Str} (ht : ∀ z ∈ ts, Tab z) (hl : ts.length ≤ 1000) : ∃ L, d_law_length [.tup (ts.map .str)] = .ok (.int L) ∧ 1 ≤ L ∧ L ≤ 24 ∧ Good ts L ∧ ∀ M, 1 ≤ M → Good ts M → L ≤ M := by
  have key : ∀ (k : Nat) (L : Int), 1 ≤ L → L + k = 24 → (∀ M, 1 ≤ M → Good ts M → L ≤ M) → ∃ L', whileN (mTest (e2 oNe (eLc [2] (iSeqM (eVar 0)) (gSet 2) (mTest (e2 oGtI (e2 oMod (eVar 1) (eA (A1 oLen) (aCons (eVar 2) aNil))) (eC (.int 0)))) (eVar 2)) (eLst aNil))) (sAsg (e2 oAdd (eVar 1) (eC (.int 1))) (gSet 1)) (k + 1) [some (.tup (ts.map .str)), some (.int L), none] = some (.next [some (.tup (ts.map .str)), some (.int L'), none]) ∧ 1 ≤ L' ∧ L' ≤ 24 ∧ Good ts L' ∧ ∀ M, 1 ≤ M → Good ts M → L' ≤ M := by
    intro k
    induction k with
    | zero =>
      intro L h1 h2 h3
      have : L = 24 := by omega
      subst this
      refine ⟨24, ?_, h1, by omega, good24 ht, h3⟩
      unfold whileN
      rw [len_cond ht hl, (good_iff ht 24).mpr (good24 ht)]
      rfl
    | succ k ih =>
      intro L h1 h2 h3
      by_cases c : (ts.filter fun z => decide (0 < L.fmod z.length)).isEmpty = true
      · refine ⟨L, ?_, h1, by omega, (good_iff ht L).mp c, h3⟩
        unfold whileN
        rw [len_cond ht hl, c]
        rfl
      · obtain ⟨L', q1, q2⟩ := ih (L + 1) (by omega) (by omega) fun M m1 m2 => by
          have := h3 M m1 m2
          have : M ≠ L := fun z => c ((good_iff ht L).mpr (z ▸ m2))
          omega
        refine ⟨L', ?_, q2⟩
        unfold whileN
        rw [len_cond ht hl, Bool.eq_false_iff.mpr c]
        exact q1
  obtain ⟨L, q1, q2, q3, q4, q5⟩ := key 23 1 (by decide) rfl fun M m _ => m
  refine ⟨L, ?_, q2, q3, q4, q5⟩
  refine runF_ret (e := [some (.tup (ts.map .str)), some (.int L), none]) ?_ rfl
  show b_law_length [some (.tup (ts.map .str)), none, none] = _
  unfold b_law_length
  rw [ap_sSeq, ap_sAsg, ap_eC]
  simp only [Out.fl_ok, ap_gSet, Fl.bind_next, set_1, ap_sSeq]
  rw [sWhile_of q1]
  rfl
end K08
/-! M08d -/
namespace K08
open PySem PySem.Spec PyProof.Rows L2 Mir
/-! ### the parts of a house -/
structure Pt where
  ts : List Str
  keys : Int
  cs : List Int
  rs : List (Int × Int)
def Pt.D (p : Pt) : Mir.D := .tup [.tup (p.ts.map .str), .int p.keys, .tup (p.cs.map .int), .tup (p.rs.map pairD)]
def ltP2 (p q : Int × Int) : Prop := p.1 < q.1 ∨ (p.1 = q.1 ∧ p.2 < q.2)
structure Pt.Ok (p : Pt) : Prop where
  t0 : 1 ≤ p.ts.length
  t6 : p.ts.length ≤ 6
  tt : ∀ z ∈ p.ts, Tab z
  k0 : 0 ≤ p.keys
  k9 : p.keys ≤ 9
  cl : p.cs.Pairwise (· < ·)
  cr : ∀ c ∈ p.cs, 0 ≤ c ∧ c < p.ts.length
  rn : p.rs.length ≤ 10
  rl : p.rs.Pairwise ltP2
  rr : ∀ r ∈ p.rs, 0 ≤ r.1 ∧ (∀ M, 1 ≤ M → Good p.ts M → r.1 < M) ∧ 0 ≤ r.2 ∧ r.2 < p.ts.length
theorem callO_table {env : Mir.Env} {o : D} (h0 : env[0]? = some (some o)) (ho : Rnd o) : ∃ z o', eCallO d_law_table 0 aNil env = .ok (.str z) (env.set 0 (some o')) ∧ Tab z ∧ Rnd o' := by
  obtain ⟨z, o', e, q1, q2⟩ := table_spec ho
  refine ⟨z, o', ?_, q1, q2⟩
  rw [ap_eCallO, h0]
  dsimp only
  rw [ap_aNil]
  simp only [Out.bind_ok]
  rw [h0]
  dsimp only
  rw [e]
/-- below([..][below(k)]) -/
theorem callO_ix {env : Mir.Env} {E0 : EM} {lits : List Int} {k : Int} {o : D} (h0 : env[0]? = some (some o)) (ho : Rnd o) (hE : E0 env = .ok (.lst (lits.map .int)) env) (hk : (lits.length : Int) = k) (h1 : 0 < k) (h2 : k < 1000000000) (hp : ∀ l ∈ lits, 0 < l ∧ l < 1000000000) (hlen : 0 < env.length) :
    ∃ r o' l, eCallO d_law_below 0 (aCons (e2 oIx E0 (eCallO d_law_below 0 (aCons (eC (.int k)) aNil))) aNil) env = .ok (.int r) (env.set 0 (some o')) ∧ l ∈ lits ∧ 0 ≤ r ∧ r < l ∧ Rnd o' := by
  obtain ⟨r1, o1, e1, a1, b1, ho1⟩ := callO_below (env := env) (b := eC (.int k)) (j := 0) h0 rfl h0 ho h1 h2
  obtain ⟨n, rfl⟩ := Int.eq_ofNat_of_zero_le a1
  have hn : n < lits.length := by omega
  have hx : atI (lits.map D.int) ((n : Nat) : Int) = some (.int lits[n]) := atI_nat (by rw [List.getElem?_map, List.getElem?_eq_getElem hn]; rfl)
  have hb : (e2 oIx E0 (eCallO d_law_below 0 (aCons (eC (.int k)) aNil))) env = .ok (.int lits[n]) (env.set 0 (some o1)) := by
    rw [ap_e2, hE]
    simp only [Out.bind_ok]
    rw [e1]
    simp only [Out.bind_ok, oIx_lst]
    rw [hx]
    rfl
  have hl := hp _ (List.getElem_mem hn)
  obtain ⟨r2, o2, e2', a2, b2, ho2⟩ := callO_below (env := env) (j := 0) h0 hb (List.getElem?_set_self hlen) ho1 hl.1 hl.2
  exact ⟨r2, o2, lits[n], by rw [e2', List.set_set], List.getElem_mem hn, a2, b2, ho2⟩
theorem eqb_pair (a b : Int × Int) : (pairD a).eqb (pairD b) = decide (a = b) := by
  simp only [Mir.pairD, D.eqb, D.eqbL, Bool.and_true]
  by_cases h : a = b
  · subst h; simp
  · rw [decide_eq_false h]
    by_cases h1 : a.1 = b.1
    · have : a.2 ≠ b.2 := fun z => h (Prod.ext h1 z)
      simp [this]
    · simp [h1]
theorem notIn_pairs (p : Int × Int) (rs : List (Int × Int)) : oNotIn (pairD p) (.lst (rs.map pairD)) = some (.bl (!decide (p ∈ rs))) := by
  have f1 : (pairD p).fit = true := fit_of rfl (by show 1 ≤ 64; omega)
  have f2 : (D.lst (rs.map pairD)).fit = true := fit_of (by simp) (by rw [de_lst]; have := de_pairs rs; omega)
  have e : oInB (pairD p) (.lst (rs.map pairD)) = some (decide (p ∈ rs)) := by
    unfold oInB
    simp only [Mir.pairD] at f1 ⊢
    simp only [f1, f2, Bool.and_self, if_true]
    rw [List.any_map]
    congr 1
    rw [Bool.eq_iff_iff, List.any_eq_true, decide_eq_true_iff]
    constructor
    · rintro ⟨x, m, h⟩
      have : decide (x = p) = true := by rw [← eqb_pair]; exact h
      rw [← of_decide_eq_true this]
      exact m
    · intro m
      refine ⟨p, m, ?_⟩
      have : decide (p = p) = true := decide_eq_true rfl
      rw [← eqb_pair] at this
      exact this
  unfold oNotIn
  rw [e]
  rfl
theorem oSort_pairs (rs : List (Int × Int)) : oSort (.lst (rs.map pairD)) = some (.lst ((sortP rs).map pairD)) := by
  cases rs with
  | nil =>
    have h1 : sortP [] = [] := List.eq_nil_of_length_eq_zero (sortP_perm []).length_eq
    have h2 : sortI [] = [] := List.eq_nil_of_length_eq_zero (sortI_perm []).length_eq
    show some (D.lst ((sortI []).map D.int)) = _
    rw [h1, h2]; rfl
  | cons r rs =>
    show (pairsOf ((r :: rs).map pairD)).map _ = _
    rw [pairsOf_map]; rfl
theorem sortP_lt {rs : List (Int × Int)} (h : rs.Nodup) : (sortP rs).Pairwise ltP2 := by
  have h1 := sortP_le rs
  have h2 : (sortP rs).Nodup := (sortP_perm rs).nodup_iff.mpr h
  refine (List.pairwise_and_iff.mpr ⟨h1, h2⟩).imp fun {a b} ⟨q1, q2⟩ => ?_
  rw [leB_iff] at q1
  unfold ltP2
  rcases q1 with q1 | ⟨q1, q3⟩
  · exact .inl q1
  · by_cases c : a.2 = b.2
    · exact absurd (Prod.ext q1 c) q2
    · exact .inr ⟨q1, by omega⟩
theorem rng1_len {n : Nat} (h : n ≤ 1000) : rng1 [.int (n : Int)] = some (rangeL 0 n) := rng1_at (Int.natCast_nonneg n) (Int.lt_of_le_of_lt (Int.ofNat_le.mpr h) (by decide))
theorem parts_tables {mo : Int} (hm1 : 1 ≤ mo) (hm2 : mo ≤ 6) {o : D} (ho : Rnd o) : ∃ (o' : D) (ts : List Str), (eA (A1 oTuple) (aCons (eLc [4] (iRng1M (aCons (e2 oAdd (eC (.int 1)) (eCallO d_law_below 0 (aCons (eVar 1) aNil))) aNil)) (gSet 4) mYes (eCallO d_law_table 0 aNil)) aNil)) [some o, some (.int mo), none, none, none, none, none, none] = .ok (.tup (ts.map .str)) [some o', some (.int mo), none, none, none, none, none, none] ∧ Rnd o' ∧ 1 ≤ ts.length ∧ (ts.length : Int) ≤ mo ∧ ∀ z ∈ ts, Tab z := by
  obtain ⟨r1, o1, e1, a1, b1, ho1⟩ := callO_below (env := [some o, some (.int mo), none, none, none, none, none, none]) (b := eVar 1) (j := 0) rfl rfl rfl ho (by omega) (by omega)
  obtain ⟨xs, env', q1, o', ts, q2, q3, q4, q5, q6⟩ := lcGo_at (vs := [4]) (g := gSet 4) (c := mYes) (e := eCallO d_law_table 0 aNil) (total := rangeL 0 (1 + r1).toNat) (by rw [rangeL_len]; omega)
    (fun done acc env => ∃ (o' : D) (ts : List Str), env = [some o', some (.int mo), none, none, none, none, none, none] ∧ Rnd o' ∧ acc = ts.map D.str ∧ ts.length = done.length ∧ ∀ z ∈ ts, Tab z)
    (ds := rangeL 0 (1 + r1).toNat) (done := []) (acc := []) (env := [some o1, some (.int mo), none, none, none, none, none, none]) rfl ⟨o1, [], rfl, ho1, rfl, rfl, fun c m => (by cases m)⟩ (Nat.le_refl _) (by
      rintro done acc d rest env ht ⟨o', ts, rfl, p1, rfl, p2, p3⟩
      obtain ⟨z, o'', q1, q2, q3⟩ := callO_table (env := [some o', some (.int mo), none, none, some d, none, none, none]) rfl p1
      refine ⟨_, rfl, true, _, rfl, fun z => (by cases z), fun _ => ⟨_, _, q1, o'', ts ++ [z], rfl, q3, by simp, by simp [p2], fun x m => ?_⟩⟩
      rcases List.mem_append.mp m with m | m
      · exact p3 x m
      · rw [List.mem_singleton.mp m]
        exact q2)
  refine ⟨o', ts, ?_, q3, by rw [q5, rangeL_len]; omega, by rw [q5, rangeL_len]; omega, q6⟩
  rw [ap_eA, ap_aCons, ap_eLc, ap_iRng1M, ap_aCons, ap_e2, ap_eC]
  simp only [Out.bind_ok]
  rw [e1]
  simp only [Out.bind_ok, oAdd_int, Out.opt_some, ap_aNil]
  rw [rng1_at (by omega) (by omega)]
  simp only [Out.opt_some, Out.bind_ok]
  have q1' : lcGo [4] (gSet 4) mYes (eCallO d_law_table 0 aNil) (rangeL 0 (1 + r1).toNat) [] (wipeE (List.set [some o, some (.int mo), none, none, none, none, none, none] 0 (some o1)) [4]) = _ := q1
  rw [q1']
  simp only [Out.bind_ok, q2, q4, ap_A1, oTuple_lst, Out.opt_some]
  rfl
theorem parts_careful {mo : Int} {o T : D} {ts : List D} (hT : T = .tup ts) (ho : Rnd o) (hl : ts.length ≤ 1000) : ∃ (o' : D) (cs : List Int), (eA (A1 oTuple) (aCons (eLc [4] (iRng1M (aCons (eA (A1 oLen) (aCons (eVar 2) aNil)) aNil)) (gSet 4) (mTest (e2 oEq (eCallO d_law_below 0 (aCons (eC (.int 3)) aNil)) (eC (.int 0)))) (eVar 4)) aNil)) [some o, some (.int mo), some T, none, none, none, none, none] = .ok (.tup (cs.map .int)) [some o', some (.int mo), some T, none, none, none, none, none] ∧ Rnd o' ∧ cs.Pairwise (· < ·) ∧ ∀ c ∈ cs, 0 ≤ c ∧ c < (ts.length : Int) := by
  subst hT
  obtain ⟨xs, env', q1, o', cs, q2, q3, q4, q5, q6⟩ := lcGo_at (vs := [4]) (g := gSet 4) (c := mTest (e2 oEq (eCallO d_law_below 0 (aCons (eC (.int 3)) aNil)) (eC (.int 0)))) (e := eVar 4) (total := rangeL 0 ts.length) (by rw [rangeL_len]; omega)
    (fun done acc env => ∃ (o' : D) (cs : List Int), env = [some o', some (.int mo), some (.tup ts), none, none, none, none, none] ∧ Rnd o' ∧ acc = cs.map D.int ∧ cs.Pairwise (· < ·) ∧ ∀ c ∈ cs, 0 ≤ c ∧ c < (done.length : Int))
    (ds := rangeL 0 ts.length) (done := []) (acc := []) (env := [some o, some (.int mo), some (.tup ts), none, none, none, none, none]) rfl ⟨o, [], rfl, ho, rfl, .nil, fun c m => (by cases m)⟩ (Nat.le_refl _) (by
      rintro done acc d rest env ht ⟨o', cs, rfl, p1, rfl, p2, p3⟩
      obtain ⟨rfl, hlt⟩ := rangeL_at ht
      obtain ⟨r, o'', e1, a1, b1, ho1⟩ := callO_below (env := [some o', some (.int mo), some (.tup ts), none, some (.int (0 + done.length)), none, none, none]) (b := eC (.int 3)) (j := 0) rfl rfl rfl p1 (by decide) (by decide)
      have up : ∀ c ∈ cs, 0 ≤ c ∧ c < ((done ++ [D.int (0 + done.length)]).length : Int) := fun c m => by
        have := p3 c m
        rw [List.length_append]
        simp only [List.length_cons, List.length_nil]
        omega
      refine ⟨_, rfl, decide (r = 0), [some o'', some (.int mo), some (.tup ts), none, some (.int (0 + done.length)), none, none, none], ?_, fun _ => ⟨o'', cs, rfl, ho1, rfl, p2, up⟩, fun _ => ⟨.int (0 + done.length), _, rfl, o'', cs ++ [0 + (done.length : Int)], rfl, ho1, by simp, ?_, ?_⟩⟩
      · rw [ap_mTest, ap_e2]
        have e1' : eCallO d_law_below 0 (aCons (eC (.int 3)) aNil) (List.set [some o', some (.int mo), some (.tup ts), none, none, none, none, none] 4 (some (.int (0 + done.length)))) = _ := e1
        rw [e1']
        simp only [Out.bind_ok, ap_eC, oEq_int, Out.opt_some, dd_boo]
        rfl
      · refine List.pairwise_append.mpr ⟨p2, List.pairwise_singleton _ _, fun a ha b hb => ?_⟩
        rw [List.mem_singleton.mp hb]
        have := p3 a ha
        omega
      · intro c m
        rcases List.mem_append.mp m with m | m
        · exact up c m
        · rw [List.mem_singleton.mp m, List.length_append]
          simp only [List.length_cons, List.length_nil]
          omega)
  refine ⟨o', cs, ?_, q3, q5, fun c m => by have := q6 c m; rw [rangeL_len] at this; exact this⟩
  have hI : (iRng1M (aCons (eA (A1 oLen) (aCons (eVar 2) aNil)) aNil)) [some o, some (.int mo), some (.tup ts), none, none, none, none, none] = .ok (rangeL 0 ts.length) [some o, some (.int mo), some (.tup ts), none, none, none, none, none] := by
    have h1 : (aCons (eA (A1 oLen) (aCons (eVar 2) aNil)) aNil) [some o, some (.int mo), some (.tup ts), none, none, none, none, none] = .ok [.int (ts.length : Int)] [some o, some (.int mo), some (.tup ts), none, none, none, none, none] := rfl
    rw [ap_iRng1M, h1, Out.bind_ok, rng1_len hl]
    rfl
  rw [ap_eA, ap_aCons, ap_eLc, hI, Out.bind_ok]
  have q1' : lcGo [4] (gSet 4) (mTest (e2 oEq (eCallO d_law_below 0 (aCons (eC (.int 3)) aNil)) (eC (.int 0)))) (eVar 4) (rangeL 0 ts.length) [] (wipeE [some o, some (.int mo), some (.tup ts), none, none, none, none, none] [4]) = _ := q1
  rw [q1', Out.bind_ok, Out.bind_ok, ap_aNil, Out.bind_ok, Out.bind_ok, q2, q4]
  rfl
/-- the reminders -/
theorem parts_loop {mo : Int} {o T C : D} {L n : Int} {ts : List D} (hT : T = .tup ts) (hn : (ts.length : Int) = n) (hn1 : 1 ≤ n) (hn2 : n ≤ 6) (hL : 1 ≤ L) (hL2 : L ≤ 24) (ho : Rnd o) :
    ∃ (o' : D) (rs : List (Int × Int)) (k r : Option D), (sFor (iRng1M (aCons (eCallO d_law_below 0 (aCons (e2 oIx (eLst (aCons (eC (.int 1)) (aCons (eC (.int 4)) (aCons (eC (.int 11)) aNil)))) (eCallO d_law_below 0 (aCons (eC (.int 3)) aNil))) aNil)) aNil)) (gSet 4) (sSeq (sAsg (eTup (aCons (eCallO d_law_below 0 (aCons (eVar 5) aNil)) (aCons (eCallO d_law_below 0 (aCons (eA (A1 oLen) (aCons (eVar 2) aNil)) aNil)) aNil))) (gSet 7))
  (sIf (mTest (e2 oNotIn (eVar 7) (eVar 6))) (sApp 6 (eVar 7)) sNext))) [some o, some (.int mo), some T, some C, none, some (.int L), some (.lst []), none] = .next [some o', some (.int mo), some T, some C, k, some (.int L), some (.lst (rs.map pairD)), r] ∧ Rnd o' ∧ rs.length ≤ 10 ∧ rs.Nodup ∧ ∀ p ∈ rs, (0 ≤ p.1 ∧ p.1 < L) ∧ 0 ≤ p.2 ∧ p.2 < n := by
  subst hT
  obtain ⟨m, o1, l, e1, hl, a1, b1, ho1⟩ := callO_ix (env := [some o, some (.int mo), some (.tup ts), some C, none, some (.int L), some (.lst []), none]) (E0 := eLst (aCons (eC (.int 1)) (aCons (eC (.int 4)) (aCons (eC (.int 11)) aNil)))) (lits := [1, 4, 11]) (k := 3) rfl ho rfl rfl (by decide) (by decide) (by decide) (by simp)
  have hl2 : l ≤ 11 := by
    simp only [List.mem_cons, List.not_mem_nil, or_false] at hl
    omega
  obtain ⟨env', q1, o', rs, k, r, q2, q3, q4, q5, q6⟩ := forGo_at (g := gSet 4) (b := sSeq (sAsg (eTup (aCons (eCallO d_law_below 0 (aCons (eVar 5) aNil)) (aCons (eCallO d_law_below 0 (aCons (eA (A1 oLen) (aCons (eVar 2) aNil)) aNil)) aNil))) (gSet 7))
      (sIf (mTest (e2 oNotIn (eVar 7) (eVar 6))) (sApp 6 (eVar 7)) sNext)) (total := rangeL 0 m.toNat)
    (fun done env => ∃ (o' : D) (rs : List (Int × Int)) (k r : Option D), env = [some o', some (.int mo), some (.tup ts), some C, k, some (.int L), some (.lst (rs.map pairD)), r] ∧ Rnd o' ∧ rs.length ≤ done.length ∧ rs.Nodup ∧ ∀ p ∈ rs, (0 ≤ p.1 ∧ p.1 < L) ∧ 0 ≤ p.2 ∧ p.2 < n)
    (ds := rangeL 0 m.toNat) (done := []) (env := [some o1, some (.int mo), some (.tup ts), some C, none, some (.int L), some (.lst []), none]) rfl ⟨o1, [], none, none, rfl, ho1, Nat.le_refl _, List.nodup_nil, fun p m => (by cases m)⟩ (by
      rintro done d rest env ht ⟨o', rs, k, r, rfl, p1, p2, p3, p4⟩
      have hdl : done.length < m.toNat := (rangeL_at ht).2
      obtain ⟨x, o2, f1, f2, f3, ho2⟩ := callO_below (env := [some o', some (.int mo), some (.tup ts), some C, some d, some (.int L), some (.lst (rs.map pairD)), r]) (b := eVar 5) (j := 0) rfl rfl rfl p1 (by omega) (by omega)
      obtain ⟨y, o3, g1, g2, g3, ho3⟩ := callO_below (env := [some o2, some (.int mo), some (.tup ts), some C, some d, some (.int L), some (.lst (rs.map pairD)), r]) (b := eA (A1 oLen) (aCons (eVar 2) aNil)) (j := 0) (lim := n) (env1 := [some o2, some (.int mo), some (.tup ts), some C, some d, some (.int L), some (.lst (rs.map pairD)), r]) rfl (by
        simp only [ap_eA, ap_aCons, ap_eVar, List.getElem?_cons_succ, List.getElem?_cons_zero, Out.bind_ok, ap_aNil, ap_A1, oLen_tup, Out.opt_some, hn]) rfl ho2 (by omega) (by omega)
      refine ⟨_, rfl, ?_⟩
      have hs : (sAsg (eTup (aCons (eCallO d_law_below 0 (aCons (eVar 5) aNil)) (aCons (eCallO d_law_below 0 (aCons (eA (A1 oLen) (aCons (eVar 2) aNil)) aNil)) aNil))) (gSet 7)) [some o', some (.int mo), some (.tup ts), some C, some d, some (.int L), some (.lst (rs.map pairD)), r] = .next [some o3, some (.int mo), some (.tup ts), some C, some d, some (.int L), some (.lst (rs.map pairD)), some (pairD (x, y))] := by
        rw [ap_sAsg, ap_eTup, ap_aCons, f1]
        simp only [Out.bind_ok]
        rw [ap_aCons]
        have g1' : eCallO d_law_below 0 (aCons (eA (A1 oLen) (aCons (eVar 2) aNil)) aNil) (List.set [some o', some (.int mo), some (.tup ts), some C, some d, some (.int L), some (.lst (rs.map pairD)), r] 0 (some o2)) = _ := g1
        rw [g1']
        simp only [Out.bind_ok, ap_aNil]
        rw [if_pos (by show 2 ≤ 100000; decide)]
        rfl
      have ht2 : (mTest (e2 oNotIn (eVar 7) (eVar 6))) [some o3, some (.int mo), some (.tup ts), some C, some d, some (.int L), some (.lst (rs.map pairD)), some (pairD (x, y))] = .ok (!decide ((x, y) ∈ rs)) [some o3, some (.int mo), some (.tup ts), some C, some d, some (.int L), some (.lst (rs.map pairD)), some (pairD (x, y))] := by
        simp only [ap_mTest, ap_e2, ap_eVar, List.getElem?_cons_succ, List.getElem?_cons_zero, Out.bind_ok, notIn_pairs, Out.opt_some, dd_boo]
      by_cases c : (x, y) ∈ rs
      · refine ⟨_, .inl ?_, o3, rs, some d, some (pairD (x, y)), rfl, ho3, by rw [List.length_append]; omega, p3, p4⟩
        show sSeq _ _ [some o', some (.int mo), some (.tup ts), some C, some d, some (.int L), some (.lst (rs.map pairD)), r] = _
        rw [ap_sSeq, hs, Fl.bind_next, ap_sIf, ht2, decide_eq_true c]
        rfl
      · refine ⟨_, .inl ?_, o3, rs ++ [(x, y)], some d, some (pairD (x, y)), rfl, ho3, by rw [List.length_append, List.length_append]; simpa using p2, ?_, ?_⟩
        · show sSeq _ _ [some o', some (.int mo), some (.tup ts), some C, some d, some (.int L), some (.lst (rs.map pairD)), r] = _
          rw [ap_sSeq, hs, Fl.bind_next, ap_sIf, ht2, decide_eq_false c]
          simp only [Bool.not_false, Out.fl_ok, if_true]
          rw [ap_sApp]
          simp only [List.getElem?_cons_succ, List.getElem?_cons_zero, ap_eVar, Out.fl_ok]
          rw [if_pos (by rw [List.length_map]; omega), List.map_append]
          rfl
        · refine List.nodup_append.mpr ⟨p3, by simp, fun a ha b hb e => c ?_⟩
          rw [List.mem_singleton.mp hb] at e
          exact e ▸ ha
        · intro p hp
          rcases List.mem_append.mp hp with hp | hp
          · exact p4 p hp
          · rw [List.mem_singleton.mp hp]
            exact ⟨⟨f2, f3⟩, g2, g3⟩)
  refine ⟨o', rs, k, r, ?_, q3, by rw [rangeL_len] at q4; omega, q5, q6⟩
  rw [ap_sFor, ap_iRng1M, ap_aCons, e1]
  simp only [Out.bind_ok, ap_aNil]
  rw [rng1_at (by omega) (by omega)]
  simp only [Out.opt_some, Out.fl_ok]
  have q1' : forGo (gSet 4) _ (rangeL 0 m.toNat) (List.set [some o, some (.int mo), some (.tup ts), some C, none, some (.int L), some (.lst []), none] 0 (some o1)) = _ := q1
  rw [q1', q2]
end K08
/-! M08e -/
namespace K08
open PySem PySem.Spec PyProof.Rows L2 Mir
theorem parts_spec {mo : Int} (hm1 : 1 ≤ mo) (hm2 : mo ≤ 6) {o : D} (ho : Rnd o) : ∃ (p : Pt) (o' : D), d_law_parts o [.int mo] = .ok p.D o' ∧ p.Ok ∧ Rnd o' ∧ (p.ts.length : Int) ≤ mo := by
  obtain ⟨o1, ts, e1, ho1, t1, t6, ht⟩ := parts_tables hm1 hm2 ho
  obtain ⟨o2, cs, e2', ho2, c1, c2⟩ := parts_careful (T := .tup (ts.map .str)) rfl ho1 (by rw [List.length_map]; omega)
  obtain ⟨L, l1, l2, l3, l4, l5⟩ := length_spec ht (by omega)
  obtain ⟨o3, rs, k, r, e3, ho3, r1, r2, r3⟩ := parts_loop (o := o2) (T := .tup (ts.map .str)) (C := .tup (cs.map .int)) (L := L) (n := ts.length) rfl (by rw [List.length_map]) (by omega) (by omega) l2 l3 ho2
  obtain ⟨ky, o4, l, e4, hl, k1, k2, ho4⟩ := callO_ix (env := [some o3, some (.int mo), some (.tup (ts.map .str)), some (.tup (cs.map .int)), k, some (.int L), some (.lst (rs.map pairD)), r]) (E0 := eLst (aCons (eC (.int 3)) (aCons (eC (.int 10)) aNil))) (lits := [3, 10]) (k := 2) rfl ho3 rfl rfl (by decide) (by decide) (by decide) (by simp)
  have hl2 : l ≤ 10 := by
    simp only [List.mem_cons, List.not_mem_nil, or_false] at hl
    omega
  refine ⟨⟨ts, ky, cs, sortP rs⟩, o4, ?_, ⟨t1, by show ts.length ≤ 6; omega, ht, k1, by show ky ≤ 9; omega, c1, fun c m => by have := c2 c m; rw [List.length_map] at this; exact this, by show (sortP rs).length ≤ 10; rw [(sortP_perm rs).length_eq]; exact r1, sortP_lt r2, fun p m => ?_⟩, ho4, t6⟩
  · refine runF0_ret (e := [some o4, some (.int mo), some (.tup (ts.map .str)), some (.tup (cs.map .int)), k, some (.int L), some (.lst (rs.map pairD)), r]) ?_ rfl rfl
    show b_law_parts [some o, some (.int mo), none, none, none, none, none, none] = _
    unfold b_law_parts
    have s1 : (sAsg (eA (A1 oTuple) (aCons (eLc [4] (iRng1M (aCons (e2 oAdd (eC (.int 1)) (eCallO d_law_below 0 (aCons (eVar 1) aNil))) aNil)) (gSet 4) mYes (eCallO d_law_table 0 aNil)) aNil)) (gSet 2)) [some o, some (.int mo), none, none, none, none, none, none] = .next [some o1, some (.int mo), some (.tup (ts.map .str)), none, none, none, none, none] := by
      rw [ap_sAsg, e1, Out.fl_ok]; rfl
    rw [ap_sSeq, s1, Fl.bind_next]
    have s2 : (sAsg (eA (A1 oTuple) (aCons (eLc [4] (iRng1M (aCons (eA (A1 oLen) (aCons (eVar 2) aNil)) aNil)) (gSet 4) (mTest (e2 oEq (eCallO d_law_below 0 (aCons (eC (.int 3)) aNil)) (eC (.int 0)))) (eVar 4)) aNil)) (gSet 3)) [some o1, some (.int mo), some (.tup (ts.map .str)), none, none, none, none, none] = .next [some o2, some (.int mo), some (.tup (ts.map .str)), some (.tup (cs.map .int)), none, none, none, none] := by
      rw [ap_sAsg, e2', Out.fl_ok]; rfl
    rw [ap_sSeq, s2, Fl.bind_next]
    have s3 : (sParO 5 (eCall d_law_length [] (aCons (eVar 2) aNil)) 6 (eLst aNil)) [some o2, some (.int mo), some (.tup (ts.map .str)), some (.tup (cs.map .int)), none, none, none, none] = .next [some o2, some (.int mo), some (.tup (ts.map .str)), some (.tup (cs.map .int)), none, some (.int L), some (.lst []), none] := by
      rw [ap_sParO, ap_eCall]
      have : (aCons (eVar 2) aNil) [some o2, some (.int mo), some (.tup (ts.map .str)), some (.tup (cs.map .int)), none, none, none, none] = .ok [.tup (ts.map .str)] [some o2, some (.int mo), some (.tup (ts.map .str)), some (.tup (cs.map .int)), none, none, none, none] := rfl
      rw [this, Out.bind_ok]
      rw [show ([D.tup (ts.map .str)] ++ [] : List D) = [D.tup (ts.map .str)] from rfl, l1]
      rfl
    rw [ap_sSeq, s3, Fl.bind_next, ap_sSeq, e3, Fl.bind_next, ap_sRet, ap_eTup, ap_aCons]
    have s4 : (aCons (eCallO d_law_below 0 (aCons (e2 oIx (eLst (aCons (eC (.int 3)) (aCons (eC (.int 10)) aNil))) (eCallO d_law_below 0 (aCons (eC (.int 2)) aNil))) aNil)) (aCons (eVar 3) (aCons (eUp (eA (A1 oTuple) (aCons (eA (A1 oSort) (aCons (eVar 6) aNil)) aNil))) aNil))) [some o3, some (.int mo), some (.tup (ts.map .str)), some (.tup (cs.map .int)), k, some (.int L), some (.lst (rs.map pairD)), r] = .ok [.int ky, .tup (cs.map .int), .tup ((sortP rs).map pairD)] [some o4, some (.int mo), some (.tup (ts.map .str)), some (.tup (cs.map .int)), k, some (.int L), some (.lst (rs.map pairD)), r] := by
      rw [ap_aCons, e4, Out.bind_ok, ap_aCons]
      have s5 : (aCons (eUp (eA (A1 oTuple) (aCons (eA (A1 oSort) (aCons (eVar 6) aNil)) aNil))) aNil) (List.set [some o3, some (.int mo), some (.tup (ts.map .str)), some (.tup (cs.map .int)), k, some (.int L), some (.lst (rs.map pairD)), r] 0 (some o4)) = .ok [.tup ((sortP rs).map pairD)] [some o4, some (.int mo), some (.tup (ts.map .str)), some (.tup (cs.map .int)), k, some (.int L), some (.lst (rs.map pairD)), r] := by
        have s6 : (eA (A1 oSort) (aCons (eVar 6) aNil)) (List.set [some o3, some (.int mo), some (.tup (ts.map .str)), some (.tup (cs.map .int)), k, some (.int L), some (.lst (rs.map pairD)), r] 0 (some o4)) = .ok (.lst ((sortP rs).map pairD)) [some o4, some (.int mo), some (.tup (ts.map .str)), some (.tup (cs.map .int)), k, some (.int L), some (.lst (rs.map pairD)), r] := by
          show Out.opt (oSort (.lst (rs.map pairD))) _ = _
          rw [oSort_pairs]; rfl
        rw [ap_aCons, ap_eUp, ap_eA, ap_aCons, s6, Out.bind_ok, ap_aNil, Out.bind_ok, Out.bind_ok, ap_A1, oTuple_lst, Out.opt_some, Out.bind_ok, dp_tup, dp_pairs]
        rfl
      have s7 : eVar 3 (List.set [some o3, some (.int mo), some (.tup (ts.map .str)), some (.tup (cs.map .int)), k, some (.int L), some (.lst (rs.map pairD)), r] 0 (some o4)) = .ok (.tup (cs.map .int)) (List.set [some o3, some (.int mo), some (.tup (ts.map .str)), some (.tup (cs.map .int)), k, some (.int L), some (.lst (rs.map pairD)), r] 0 (some o4)) := rfl
      rw [s7, Out.bind_ok, s5]
      rfl
    have s8 : eVar 2 [some o3, some (.int mo), some (.tup (ts.map .str)), some (.tup (cs.map .int)), k, some (.int L), some (.lst (rs.map pairD)), r] = .ok (.tup (ts.map .str)) [some o3, some (.int mo), some (.tup (ts.map .str)), some (.tup (cs.map .int)), k, some (.int L), some (.lst (rs.map pairD)), r] := rfl
    rw [s8, Out.bind_ok, s4, Out.bind_ok, Out.bind_ok, if_pos (by show 4 ≤ 100000; decide)]
    rfl
  · have hm := (sortP_perm rs).mem_iff.mp m
    obtain ⟨⟨q1, q2⟩, q3, q4⟩ := r3 p hm
    exact ⟨q1, fun M m1 m2 => by have := l5 M m1 m2; omega, q3, q4⟩
/-! ### what House accepts -/
theorem is_int_in_spec (v lo hi : Int) : d_is_int_in [.int v, .int lo, .int hi] = .ok (.bl (decide (lo ≤ v) && decide (v ≤ hi))) := by
  refine runF_ret (e := [some (.int v), some (.int lo), some (.int hi)]) ?_ rfl
  show b_is_int_in [some (.int v), some (.int lo), some (.int hi)] = _
  unfold b_is_int_in
  have h1 : oIsi "int" (.int v) = some (.bl true) := by
    show (Option.some "int").bind _ = _
    rfl
  have h2 : oIsi "bool" (.int v) = some (.bl false) := by
    show (Option.some "int").bind _ = _
    rfl
  simp only [ap_sRet, ap_eAndV, ap_e1, ap_eVar, List.getElem?_cons_zero, List.getElem?_cons_succ, Out.bind_ok, h1, h2, Out.opt_some, dd_boo, if_true, ap_eNotV, Bool.not_false, ap_eChain, oLeI_int, Option.bind_some]
  cases decide (lo ≤ v) <;> rfl
theorem inT_signs {c : Nat} (h : c = 104 ∨ c = 111) : oIn (.str ⟨#[c]⟩) (.tup [.str "h", .str "o"]) = some (.bl true) := by
  rcases h with rfl | rfl <;> kernel_rfl
theorem inT_d24 {n : Int} (h : n ∈ D24) : oNotIn (.int n) c_LENGTHS = some (.bl false) := by
  simp only [D24, List.mem_cons, List.not_mem_nil, or_false] at h
  rcases h with rfl | rfl | rfl | rfl | rfl | rfl | rfl | rfl <;> rfl
theorem is_table_spec {z : Str} (h : Tab z) : d_is_table [.str z] = .ok (.bl true) := by
  refine runF_ret (e := [some (.str z), none]) ?_ rfl
  show b_is_table [some (.str z), none] = _
  unfold b_is_table
  have h1 : oIsi "str" (.str z) = some (.bl true) := rfl
  have hlc := lcGo_map (vs := [1]) (g := gSet 1) (c := mYes) (e := e2 oIn (eVar 1) (eTup (aCons (eC c_HOME) (aCons (eC c_OUT) aNil)))) (fun _ => .bl true) (w := [some (.str z), none]) (ds := z.cps.toList.map fun c => .str ⟨#[c]⟩) (by rw [List.length_map]; exact Nat.le_trans (show z.cps.toList.length ≤ 24 by rw [Array.length_toList]; exact h.le) (by decide)) (by
    intro d m
    obtain ⟨c, hc, rfl⟩ := List.mem_map.mp m
    refine ⟨_, rfl, _, rfl, [some (.str z), some (.str ⟨#[c]⟩)], ?_, rfl⟩
    have : (eTup (aCons (eC c_HOME) (aCons (eC c_OUT) aNil))) [some (.str z), some (.str ⟨#[c]⟩)] = .ok (.tup [.str "h", .str "o"]) [some (.str z), some (.str ⟨#[c]⟩)] := rfl
    show ((eVar 1) [some (.str z), some (.str ⟨#[c]⟩)]).bind _ = _
    rw [show (eVar 1) [some (.str z), some (.str ⟨#[c]⟩)] = .ok (.str ⟨#[c]⟩) [some (.str z), some (.str ⟨#[c]⟩)] from rfl, Out.bind_ok, this, Out.bind_ok, inT_signs (h.s c hc)]
    rfl)
  have hall : oAll (.lst ((z.cps.toList.map fun c => D.str ⟨#[c]⟩).map fun _ => D.bl true)) = some (.bl true) := by
    have e : (z.cps.toList.map fun c => D.str ⟨#[c]⟩).map (fun _ => D.bl true) = (z.cps.toList.map fun _ => true).map D.bl := by rw [List.map_map, List.map_map]; rfl
    rw [e]
    show (blsOf _).map _ = _
    rw [blsOf_map]
    simp
  have ht : (mOr (mNot (mTest (e1 (oIsi "str") (eVar 0)))) (mTest (e2 oNotIn (eA (A1 oLen) (aCons (eVar 0) aNil)) (eC c_LENGTHS)))) [some (.str z), none] = .ok false [some (.str z), none] := by
    simp only [ap_mOr, ap_mNot, ap_mTest, ap_e1, ap_eVar, List.getElem?_cons_zero, Out.bind_ok, h1, Out.opt_some, dd_boo, Bool.not_true, Bool.false_eq_true, if_false, ap_e2, ap_eA, ap_aCons, ap_aNil, ap_A1, oLen_str z (by have := h.le; omega), ap_eC, inT_d24 h.l]
  rw [ap_sSeq, ap_sIf, ht]
  simp only [Out.fl_ok, Bool.false_eq_true, if_false, ap_sNext, Fl.bind_next]
  rw [ap_sRet, ap_eA, ap_aCons, ap_eLc, ap_iSeqM]
  rw [show (eVar 0) [some (.str z), none] = .ok (.str z) [some (.str z), none] from rfl, Out.bind_ok, dd_itS, Out.opt_some, Out.bind_ok]
  have hlc' : lcGo [1] (gSet 1) mYes (e2 oIn (eVar 1) (eTup (aCons (eC c_HOME) (aCons (eC c_OUT) aNil)))) (z.cps.toList.map fun c => .str ⟨#[c]⟩) [] (wipeE [some (.str z), none] [1]) = _ := hlc
  rw [hlc', Out.bind_ok, Out.bind_ok, ap_aNil, Out.bind_ok, Out.bind_ok, ap_A1, hall]
  rfl
end K08
/-! M08fa -/
namespace K08
open PySem PySem.Spec PyProof.Rows L2 Mir
theorem le_pair (a b : Int × Int) : oLe (pairD a) (pairD b) = some (.bl (leB a b)) := by
  have e : leInts [a.1, a.2] [b.1, b.2] = leB a b := by
    rw [Bool.eq_iff_iff, leB_iff]
    unfold leInts
    simp only [List.length_cons, List.length_nil, Ob.lexAt, List.getD_cons_zero, List.getD_cons_succ]
    by_cases h1 : a.1 = b.1
    · by_cases h2 : a.2 = b.2
      · simp [Ob.lexAt, h1, h2]
      · simp [Ob.lexAt, h1, h2]
    · simp [Ob.lexAt, h1]; omega
  unfold oLe Mir.pairD
  dsimp only
  rw [show intsOf [D.int a.1, .int a.2] = some [a.1, a.2] from rfl, Option.bind_some, show intsOf [D.int b.1, .int b.2] = some [b.1, b.2] from rfl, Option.bind_some, e]
theorem leB_false {a b : Int × Int} (h : ltP2 b a) : leB a b = false := by
  rw [Bool.eq_false_iff]
  intro z
  rw [leB_iff] at z
  unfold ltP2 at h
  omega
theorem isiT (ds : List D) : oIsi "tuple" (.tup ds) = some (.bl true) := rfl
theorem call_iii {env e1 : Mir.Env} {ar : AM} {v lo hi : Int} (h : ar env = .ok [.int v, .int lo, .int hi] e1) : eCall d_is_int_in [] ar env = .ok (.bl (decide (lo ≤ v) && decide (v ≤ hi))) e1 := by
  rw [ap_eCall, h, Out.bind_ok, List.append_nil, is_int_in_spec]
  rfl
theorem pw_at {cs : List Int} (h : cs.Pairwise (· < ·)) {i : Nat} {a b : Int} (h1 : cs[i]? = some a) (h2 : cs[i + 1]? = some b) : a < b := by
  obtain ⟨l1, e1⟩ := List.getElem?_eq_some_iff.mp h1
  obtain ⟨l2, e2⟩ := List.getElem?_eq_some_iff.mp h2
  have := List.pairwise_iff_getElem.mp h i (i + 1) l1 l2 (Nat.lt_succ_self i)
  rw [e1, e2] at this
  exact this
theorem pw_atP {cs : List (Int × Int)} (h : cs.Pairwise ltP2) {i : Nat} {a b : Int × Int} (h1 : cs[i]? = some a) (h2 : cs[i + 1]? = some b) : ltP2 a b := by
  obtain ⟨l1, e1⟩ := List.getElem?_eq_some_iff.mp h1
  obtain ⟨l2, e2⟩ := List.getElem?_eq_some_iff.mp h2
  have := List.pairwise_iff_getElem.mp h i (i + 1) l1 l2 (Nat.lt_succ_self i)
  rw [e1, e2] at this
  exact this
theorem check_persons_spec {part : D} {cs : List Int} {n : Int} (h1 : cs.Pairwise (· < ·)) (h2 : ∀ c ∈ cs, 0 ≤ c ∧ c < n) : d_check_persons [part, .tup (cs.map .int), .int n] = .ok .non := by
  obtain ⟨env', q1, a, b, q2⟩ := forGo_at (g := gTupleM [(gSet 3), (gSet 4)]) (b := sIf (mOr (mNot (mTest (eCall d_is_int_in [] (aCons (eVar 4) (aCons (eC (.int 0)) (aCons (e2 oSub (eVar 2) (eC (.int 1))) aNil)))))) (mAnd (mTest (e2 oGtI (eVar 3) (eC (.int 0)))) (mTest (e2 oLe (eVar 4) (e2 oIx (eVar 1) (e2 oSub (eVar 3) (eC (.int 1)))))))) (sRaise 1 2 (aCons (eVar 0) (aCons (eVar 3) aNil))) sNext)
    (total := enumL 0 (cs.map .int)) (fun done env => ∃ a b : Option D, env = [some part, some (.tup (cs.map .int)), some (.int n), a, b]) (ds := enumL 0 (cs.map .int)) (done := []) (env := [some part, some (.tup (cs.map .int)), some (.int n), none, none]) rfl ⟨none, none, rfl⟩ (by
      rintro done d rest env ht ⟨a, b, rfl⟩
      obtain ⟨x, hx, rfl⟩ := enumL_at ht
      obtain ⟨c, hc, rfl⟩ : ∃ c, cs[done.length]? = some c ∧ x = .int c := by
        rw [List.getElem?_map] at hx
        cases q : cs[done.length]? with
        | none => rw [q] at hx; cases hx
        | some c => rw [q] at hx; cases hx; exact ⟨c, rfl, rfl⟩
      have hm := h2 c (List.mem_of_getElem? hc)
      refine ⟨[some part, some (.tup (cs.map .int)), some (.int n), some (.int done.length), some (.int c)], rfl, _, .inl ?_, some (.int done.length), some (.int c), rfl⟩
      have t1 : (mTest (eCall d_is_int_in [] (aCons (eVar 4) (aCons (eC (.int 0)) (aCons (e2 oSub (eVar 2) (eC (.int 1))) aNil))))) [some part, some (.tup (cs.map .int)), some (.int n), some (.int done.length), some (.int c)] = .ok true [some part, some (.tup (cs.map .int)), some (.int n), some (.int done.length), some (.int c)] := by
        have hA : (aCons (eVar 4) (aCons (eC (.int 0)) (aCons (e2 oSub (eVar 2) (eC (.int 1))) aNil))) [some part, some (.tup (cs.map .int)), some (.int n), some (.int done.length), some (.int c)] = .ok [.int c, .int 0, .int (n - 1)] [some part, some (.tup (cs.map .int)), some (.int n), some (.int done.length), some (.int c)] := rfl
        rw [ap_mTest, call_iii hA, decide_eq_true hm.1, decide_eq_true (show c ≤ n - 1 by omega)]
        rfl
      have t2 : (mAnd (mTest (e2 oGtI (eVar 3) (eC (.int 0)))) (mTest (e2 oLe (eVar 4) (e2 oIx (eVar 1) (e2 oSub (eVar 3) (eC (.int 1))))))) [some part, some (.tup (cs.map .int)), some (.int n), some (.int done.length), some (.int c)] = .ok false [some part, some (.tup (cs.map .int)), some (.int n), some (.int done.length), some (.int c)] := by
        have t3 : (mTest (e2 oGtI (eVar 3) (eC (.int 0)))) [some part, some (.tup (cs.map .int)), some (.int n), some (.int done.length), some (.int c)] = .ok (decide ((0 : Int) < done.length)) [some part, some (.tup (cs.map .int)), some (.int n), some (.int done.length), some (.int c)] := rfl
        rw [ap_mAnd, t3, Out.bind_ok]
        by_cases z : (0 : Int) < done.length
        · rw [decide_eq_true z, if_pos rfl]
          obtain ⟨j, hj⟩ : ∃ j, done.length = j + 1 := ⟨done.length - 1, by omega⟩
          rw [hj] at hc
          obtain ⟨c0, hc0⟩ : ∃ c0, cs[j]? = some c0 := by
            have := (List.getElem?_eq_some_iff.mp hc).1
            exact ⟨cs[j], List.getElem?_eq_getElem (by omega)⟩
          have hlt := pw_at h1 hc0 hc
          have t4 : (e2 oIx (eVar 1) (e2 oSub (eVar 3) (eC (.int 1)))) [some part, some (.tup (cs.map .int)), some (.int n), some (.int done.length), some (.int c)] = .ok (.int c0) [some part, some (.tup (cs.map .int)), some (.int n), some (.int done.length), some (.int c)] := by
            show Out.opt (atI (cs.map D.int) ((done.length : Int) - 1)) _ = _
            rw [atI_at (j := j) (v := .int c0) (by rw [List.getElem?_map, hc0]; rfl) (by omega)]
            rfl
          rw [ap_mTest, ap_e2, show (eVar 4) [some part, some (.tup (cs.map .int)), some (.int n), some (.int done.length), some (.int c)] = .ok (.int c) [some part, some (.tup (cs.map .int)), some (.int n), some (.int done.length), some (.int c)] from rfl, Out.bind_ok, t4, Out.bind_ok, oLe_int, decide_eq_false (by omega)]
          rfl
        · rw [decide_eq_false z]
          rfl
      rw [ap_sIf, ap_mOr, ap_mNot, t1]
      simp only [Out.bind_ok, Bool.not_true, Bool.false_eq_true, if_false]
      rw [t2]
      rfl)
  refine runF_next (e := env') ?_ rfl
  show b_check_persons [some part, some (.tup (cs.map .int)), some (.int n), none, none] = _
  unfold b_check_persons
  have t0 : (mNot (mTest (e1 (oIsi "tuple") (eVar 1)))) [some part, some (.tup (cs.map .int)), some (.int n), none, none] = .ok false [some part, some (.tup (cs.map .int)), some (.int n), none, none] := rfl
  rw [ap_sSeq, ap_sIf, t0, Out.fl_ok]
  simp only [Bool.false_eq_true, if_false, ap_sNext, Fl.bind_next]
  rw [ap_sFor, ap_iEnumT, show (eVar 1) [some part, some (.tup (cs.map .int)), some (.int n), none, none] = .ok (.tup (cs.map .int)) [some part, some (.tup (cs.map .int)), some (.int n), none, none] from rfl, Out.bind_ok, dd_isT, Out.opt_some, Out.bind_ok, Out.fl_ok]
  exact q1
theorem is_reminder_spec {r : Int × Int} {M n : Int} (h1 : 0 ≤ r.1) (h2 : r.1 < M) (h3 : 0 ≤ r.2) (h4 : r.2 < n) : d_is_reminder [pairD r, .int M, .int n] = .ok (.bl true) := by
  refine runF_ret (e := [some (pairD r), some (.int M), some (.int n)]) ?_ rfl
  show b_is_reminder [some (pairD r), some (.int M), some (.int n)] = _
  unfold b_is_reminder
  have t0 : (mOr (mNot (mTest (e1 (oIsi "tuple") (eVar 0)))) (mTest (e2 oNe (eA (A1 oLen) (aCons (eVar 0) aNil)) (eC (.int 2))))) [some (pairD r), some (.int M), some (.int n)] = .ok false [some (pairD r), some (.int M), some (.int n)] := by
    have x1 : oIsi "tuple" (pairD r) = some (.bl true) := rfl
    have x2 : oLen (pairD r) = some (.int 2) := rfl
    simp only [ap_mOr, ap_mNot, ap_mTest, ap_e1, ap_eVar, List.getElem?_cons_zero, Out.bind_ok, x1, Out.opt_some, dd_boo, Bool.not_true, Bool.false_eq_true, if_false, ap_e2, ap_eA, ap_aCons, ap_aNil, ap_A1, x2, ap_eC, oNe_int]
    rfl
  rw [ap_sSeq, ap_sIf, t0, Out.fl_ok]
  simp only [Bool.false_eq_true, if_false, ap_sNext, Fl.bind_next]
  have t1 : (eCall d_is_int_in [] (aCons (e2 oIx (eVar 0) (eC (.int 0))) (aCons (eC (.int 0)) (aCons (e2 oSub (eVar 1) (eC (.int 1))) aNil)))) [some (pairD r), some (.int M), some (.int n)] = .ok (.bl true) [some (pairD r), some (.int M), some (.int n)] := by
    have hA : (aCons (e2 oIx (eVar 0) (eC (.int 0))) (aCons (eC (.int 0)) (aCons (e2 oSub (eVar 1) (eC (.int 1))) aNil))) [some (pairD r), some (.int M), some (.int n)] = .ok [.int r.1, .int 0, .int (M - 1)] [some (pairD r), some (.int M), some (.int n)] := rfl
    rw [call_iii hA, decide_eq_true h1, decide_eq_true (show r.1 ≤ M - 1 by omega)]
    rfl
  have t2 : (eCall d_is_int_in [] (aCons (e2 oIx (eVar 0) (eC (.int 1))) (aCons (eC (.int 0)) (aCons (e2 oSub (eVar 2) (eC (.int 1))) aNil)))) [some (pairD r), some (.int M), some (.int n)] = .ok (.bl true) [some (pairD r), some (.int M), some (.int n)] := by
    have hA : (aCons (e2 oIx (eVar 0) (eC (.int 1))) (aCons (eC (.int 0)) (aCons (e2 oSub (eVar 2) (eC (.int 1))) aNil))) [some (pairD r), some (.int M), some (.int n)] = .ok [.int r.2, .int 0, .int (n - 1)] [some (pairD r), some (.int M), some (.int n)] := rfl
    rw [call_iii hA, decide_eq_true h3, decide_eq_true (show r.2 ≤ n - 1 by omega)]
    rfl
  rw [ap_sRet, ap_eAndV, t1, Out.bind_ok, dd_boo, Out.opt_some, Out.bind_ok, if_pos rfl, t2]
  rfl
end K08
/-! M08f -/
/-! invalid parts, one by one -/
namespace Mir
open PySem PySem.Spec PyProof.Rows L2
mutual
theorem eqb_refl : ∀ d : D, d.lay = true → d.eqb d = true
  | .non, _ => rfl
  | .bl b, _ => by cases b <;> rfl
  | .int i, _ => beq_iff_eq.mpr rfl
  | .str s, _ => beq_iff_eq.mpr rfl
  | .tup ds, h => eqbL_refl ds h
  | .lst ds, h => eqbL_refl ds h
  | .ins _ _, h => by cases h
  | .dic _ _, h => by cases h
theorem eqbL_refl : ∀ ds : List D, D.layL ds = true → D.eqbL ds ds = true
  | [], _ => rfl
  | d :: ds, h => by
    have h := Bool.and_eq_true_iff.mp h
    rw [D.eqbL, eqb_refl d h.1, eqbL_refl ds h.2]
    rfl
end
theorem oNe_reflT {ds : List D} (h : (D.tup ds).fit = true) (l : D.layL ds = true) : oNe (.tup ds) (.tup ds) = some (.bl false) := by
  have e : oEqB (.tup ds) (.tup ds) = some true := by
    show (if ((D.tup ds).fit && (D.tup ds).fit) = true then some ((D.tup ds).eqb (.tup ds)) else none) = _
    rw [h]
    show some ((D.tup ds).eqb (.tup ds)) = _
    rw [show (D.tup ds).eqb (.tup ds) = D.eqbL ds ds from rfl, eqbL_refl ds l]
  unfold oNe
  rw [e]
  rfl
theorem s_asgG {a : EM} {g : GM} {env e1 e2 : Env} {d : D} (ha : a env = .ok d e1) (hg : g d e1 = some e2) : sAsg a g env = .next e2 := by
  rw [ap_sAsg, ha, Out.fl_ok, hg]
theorem enumL_app : ∀ (a b : List D) (j : Nat), enumL j (a ++ b) = enumL j a ++ enumL (j + a.length) b
  | [], b, j => rfl
  | d :: a, b, j => by
    show Mir.D.tup [.int (j : Int), d] :: enumL (j + 1) (a ++ b) = _
    rw [enumL_app a b (j + 1), List.length_cons, show j + 1 + a.length = j + (a.length + 1) by omega]
    rfl
theorem enumL_zip {α : Type} (f : α → D) : ∀ (a : List α) (j : Nat), enumL j (a.map f) = (a.zipIdx j).map fun p => D.tup [.int (p.2 : Int), f p.1]
  | [], j => rfl
  | x :: a, j => by
    rw [List.map_cons, List.zipIdx_cons, List.map_cons]
    show Mir.D.tup [.int (j : Int), f x] :: enumL (j + 1) (a.map f) = _
    rw [enumL_zip f a (j + 1)]
theorem for_any {α : Type} (inj : α → D) {g : GM} {b : SM} (I : Nat → Env → Prop) (xs : List α) (env : Env) (h0 : I 0 env)
    (hb : ∀ (t : Nat) (x : α) (env : Env), xs[t]? = some x → I t env → ∃ e1, g (inj x) env = some e1 ∧ Run b e1 fun o => ∃ e', (o = .next e' ∨ o = .cont e') ∧ I (t + 1) e') :
    ∃ e, forGo g b (xs.map inj) env = .next e ∧ I xs.length e := by
  obtain ⟨e, q1, q2⟩ := forGo_at (g := g) (b := b) (total := xs.map inj) (fun done e => I done.length e) (ds := xs.map inj) (done := []) (env := env) rfl h0 (by
    intro done d rest env ht hI
    have hd : (xs.map inj)[done.length]? = some d := by rw [ht]; simp
    rw [List.getElem?_map] at hd
    cases q : xs[done.length]? with
    | none => rw [q] at hd; cases hd
    | some x =>
      rw [q] at hd
      cases hd
      obtain ⟨e1, g1, e', g2, g3⟩ := hb _ x env q hI
      exact ⟨e1, g1, e', g2, by rw [List.length_append, List.length_singleton]; exact g3⟩)
  exact ⟨e, q1, by rw [List.length_map] at q2; exact q2⟩
section
variable {m r : SM} {env e1 e2 : Env} {Q : Fl → Prop} {a : AM} {ds : List D} {x : Exn} {c n : Nat}
theorem r_raise (ha : a env = .ok ds e1) (hl : ds.length = n) (k : Q (.exc ⟨c, ds.reverse⟩ e1)) : Run (sRaise c n a) env Q := by
  unfold Run; rw [ap_sRaise, ha, Out.fl_ok, if_pos hl]; exact k
theorem r_raiseS (ha : a env = .ok ds e1) (hl : ds.length = n) (k : Q (.exc ⟨c, ds.reverse⟩ e1)) : Run (sSeq (sRaise c n a) r) env Q := by
  unfold Run; rw [ap_sSeq, ap_sRaise, ha, Out.fl_ok, if_pos hl]; exact k
theorem r_forX {it : IM} {g : GM} (hi : it env = .ok ds e1) (hf : forGo g m ds e1 = .exc x e2) (k : Q (.exc x e2)) : Run (sSeq (sFor it g m) r) env Q := by
  unfold Run; rw [ap_sSeq, ap_sFor, hi, Out.fl_ok, hf]; exact k
theorem r_dropX {f : DM} (ha : a env = .ok ds e1) (hf : f ds = .exc x) (k : Q (.exc x e1)) : Run (sSeq (sDrop (eCall f [] a)) r) env Q := by
  unfold Run; rw [ap_sSeq, ap_sDrop, ap_eCall, ha, Out.bind_ok, List.append_nil, hf]; exact k
end
/-- a loop that raises at one item, whatever follows -/
theorem for_exc {α : Type} (inj : α → D) {g : GM} {b : SM} {x : Exn} (J : Env → Prop) (I : Nat → Env → Prop) : ∀ (xs : List α) (k : Nat) (d : D) (rest : List D) (env : Env), I k env →
    (∀ (t : Nat) (y : α) (env : Env), xs[t]? = some y → I (k + t) env → ∃ e1, g (inj y) env = some e1 ∧ ∃ e', b e1 = .next e' ∧ I (k + t + 1) e') →
    (∀ env, I (k + xs.length) env → ∃ e1 e2, g d env = some e1 ∧ b e1 = .exc x e2 ∧ J e2) → ∃ e, forGo g b (xs.map inj ++ d :: rest) env = .exc x e ∧ J e
  | [], k, d, rest, env, h0, _, hd => by
    obtain ⟨e1, e2, h1, h2, h3⟩ := hd env h0
    refine ⟨e2, ?_, h3⟩
    rw [List.map_nil, List.nil_append]
    unfold forGo
    rw [h1]
    dsimp only
    rw [h2]
  | y :: xs, k, d, rest, env, h0, hs, hd => by
    obtain ⟨e1, h1, e', h2, h3⟩ := hs 0 y env rfl h0
    obtain ⟨e, he, hJ⟩ := for_exc inj J I xs (k + 1) d rest e' h3 (fun t z env hz hI => by
      have := hs (t + 1) z env hz (by rw [show k + (t + 1) = k + 1 + t by omega]; exact hI)
      rwa [show k + (t + 1) + 1 = k + 1 + t + 1 by omega] at this) (fun env hI => hd env (by rw [List.length_cons, show k + (xs.length + 1) = k + 1 + xs.length by omega]; exact hI))
    refine ⟨e, ?_, hJ⟩
    rw [List.map_cons, List.cons_append]
    conv => lhs; unfold forGo
    rw [h1]
    dsimp only
    rw [h2]
    exact he
theorem atI_mem {α : Type} (f : α → D) {l : List α} {r : Int} (h0 : 0 ≤ r) (h1 : r < l.length) : ∃ c ∈ l, atI (l.map f) r = some (f c) := by
  obtain ⟨n, rfl⟩ := Int.eq_ofNat_of_zero_le h0
  have hn : n < l.length := by omega
  refine ⟨l[n], List.getElem_mem hn, ?_⟩
  refine atI_at (j := n) ?_ rfl
  rw [List.getElem?_map, List.getElem?_eq_getElem hn]
  rfl
end Mir
namespace K08
open PySem PySem.Spec PyProof.Rows L2 Mir
def exH (w : Str) (k : Int) : Exn := ⟨1, [.int k, .str w]⟩
def hD (w : Str) (k : Int) : Mir.D := .tup [.str "house", .tup [.str w, .int k]]
/-- what the law tells of such an error -/
theorem tryV_exc {i j : Nat} {m : DM} {h : Exn → SM} {env : Mir.Env} {x : Exn} (h0 : env[j]? = some (some (fnTag 0))) (hm : m [] = .exc x) : sTryV j i m h env = (match h x ((List.replicate env.length none).set i (some (fnTag 0))) with
      | .ret d _ => if d.pure = true ∧ i < env.length then .ret d env else .bad
      | _ => .bad) := by
  unfold sTryV
  rw [h0]
  show (match m [] with
    | .ok _ => Fl.next env
    | .exc x => _
    | .bad => _) = _
  rw [hm]
  all_goals rfl
theorem err_of {ft : DM} {w : Str} {k : Int} (h : ft [] = .exc (exH w k)) : d_law_error_of ft [fnTag 0] = .ok (hD w k) := by
  refine runF_ret (e := [some (fnTag 0), none, none, none, none]) ?_ rfl
  unfold b_law_error_of
  rw [ap_sSeq, tryV_exc rfl h]
  rfl
theorem err_val {env : Mir.Env} {a : AM} {ds dds : List Mir.D} {w : Str} {k : Int} {o : Mir.D} (hl : env.length = 20) (ha : a env = .ok ds env) (hx : d_House__init_ (.ins 0 []) (ds ++ dds) = .exc (exH w k) o) :
    eClo0 true 20 0 d_law_error_of (eMake 0 d_House__init_ dds a) env = .ok (hD w k) env := by
  have hc : cloR true 0 (eMake 0 d_House__init_ dds a) env [] = .exc (exH w k) := by
    unfold cloR
    rw [if_pos ⟨rfl, rfl⟩]
    show (match eMake 0 d_House__init_ dds a (env ++ []) with
      | .ok d _ => _
      | .exc x _ => _
      | .bad => _) = _
    rw [List.append_nil]
    have hm : eMake 0 d_House__init_ dds a env = .exc (exH w k) env := by
      unfold eMake
      rw [ha, Out.bind_ok, hx]
    rw [hm]
    rfl
  unfold eClo0
  rw [if_pos hl, err_of hc]
  rfl
theorem hD_ne (w : Str) (k : Int) (hw : PyData.strOk w = true) : oNe (hD w k) (hD w k) = some (.bl false) := by
  have l : D.layL [.str "house", .tup [.str w, .int k]] = true := by
    show (PyData.strOk "house" && (D.layL [.str w, .int k] && true)) = true
    show (PyData.strOk "house" && ((PyData.strOk w && true) && true)) = true
    rw [hw]
    kernel_rfl
  exact oNe_reflT (fit_of l (Nat.le_of_ble_eq_true rfl)) l
/-! the law's bad parts -/
def badT : List Mir.D := [.str "", .str "x", .str "hox", .str "H", .str "hoh ho", .str "ohohohohoh", .int 5, .non, .tup [.str "h"], .lst [.str "h"], .str "hohoh", .str "hhhhhhh", .str "hohoo"]
theorem badT_no : ∀ d ∈ badT, d_is_table [d] = .ok (.bl false) := by
  unfold badT
  simp only [List.forall_mem_cons, List.not_mem_nil, false_implies, implies_true, and_true]
  refine ⟨?_, ?_, ?_, ?_, ?_, ?_, ?_, ?_, ?_, ?_, ?_, ?_, ?_⟩ <;> kernel_rfl
def badK : List Mir.D := [.int (-1), .int 10, .non, .bl true, .str "1", .tup [.int 1]]
theorem badK_no : ∀ d ∈ badK, d_is_int_in [d, .int 0, .int 9] = .ok (.bl false) := by
  unfold badK
  simp only [List.forall_mem_cons, List.not_mem_nil, false_implies, implies_true, and_true]
  refine ⟨?_, ?_, ?_, ?_, ?_, ?_⟩ <;> kernel_rfl
def badC (cs : List Int) (N : Int) : List (Mir.D × Int) := [(.non, 0), (.int 5, 0), (.lst (cs.map .int), 0), (.tup [.int N], 0), (.tup [.int (-1)], 0), (.tup [.bl true], 0), (.tup [.int 0, .int 0], 1), (.tup [.str "0"], 0), (.tup (rangeL 0 N.toNat ++ [.int 0]), N)]
theorem badC_no (cs : List Int) {N : Int} (h1 : 1 ≤ N) (h2 : N ≤ 4) : ∀ c ∈ badC cs N, d_check_persons [.str "careful", c.1, .int N] = .exc (exH "careful" c.2) := by
  have hN : N = 1 ∨ N = 2 ∨ N = 3 ∨ N = 4 := by omega
  unfold badC
  simp only [List.forall_mem_cons, List.not_mem_nil, false_implies, implies_true, and_true]
  rcases hN with rfl | rfl | rfl | rfl <;> refine ⟨?_, ?_, ?_, ?_, ?_, ?_, ?_, ?_, ?_⟩ <;> kernel_rfl
end K08
/-! M08g -/
/-! houses with one invalid part -/
namespace K08
open PySem PySem.Spec PyProof.Rows L2 Mir
def TE (tb ks cs rs : Mir.D) (a b c d : Option Mir.D) : Mir.Env := [some (.ins 0 []), some tb, some ks, some cs, some rs, a, b, c, d]
def EX (w : Str) (k : Int) : Fl → Prop := fun o => ∃ e, o = .exc (exH w k) e ∧ e[0]? = some (some (.ins 0 []))
theorem runF0_exc {k n : Nat} {m : SM} {d0 o : Mir.D} {ds : List Mir.D} {x : Exn} {e : Mir.Env} (hm : m ((d0 :: ds).map some ++ List.replicate (n - (ds.length + 1)) none) = .exc x e) (h : ds.length + 1 = k) (he : e[0]? = some (some o)) : runF0 k n m d0 ds = .exc x o := by
  unfold runF0
  rw [if_pos h, hm]
  dsimp only
  rw [he]
theorem init_exc {tb ks cs rs : Mir.D} {w : Str} {k : Int} (h : Run b_House__init_ (TE tb ks cs rs none none none none) (EX w k)) : d_House__init_ (.ins 0 []) [tb, ks, cs, rs] = .exc (exH w k) (.ins 0 []) := by
  obtain ⟨e, h1, h2⟩ := h
  exact runF0_exc h1 rfl h2
/-- no tuple, or an empty one -/
theorem init_none {tb : Mir.D} (ks cs rs : Mir.D) (h : oIsi "tuple" tb = some (.bl false) ∨ tb = .tup []) : d_House__init_ (.ins 0 []) [tb, ks, cs, rs] = .exc (exH "tables" 0) (.ins 0 []) := by
  refine init_exc ?_
  unfold b_House__init_
  rcases h with h | rfl
  · refine r_tru (p := true) (t_or (p := true) (q := true) (t_not (p := false) (t_test (t_e1 (t_var rfl) h))) (fun z => nomatch z)) rfl ?_
    exact r_raiseS (t_cons k_c (t_cons k_c t_nil)) rfl ⟨_, rfl, rfl⟩
  · refine r_tru (p := true) (t_or (p := false) (q := true) (t_not (p := true) (t_test (t_e1 (t_var rfl) rfl))) (fun _ => t_test (t_e2 (t_var rfl) (t_tup t_nil (len_ok rfl)) (by kernel_rfl)))) rfl ?_
    exact r_raiseS (t_cons k_c (t_cons k_c t_nil)) rfl ⟨_, rfl, rfl⟩
theorem fitL {ds : List Mir.D} (h : ∀ d ∈ ds, d.lay = true ∧ d.dep ≤ 10) : D.layL ds = true ∧ D.depL ds ≤ 10 := by
  induction ds with
  | nil => exact ⟨rfl, Nat.zero_le _⟩
  | cons d ds ih =>
    obtain ⟨a, b⟩ := h d List.mem_cons_self
    obtain ⟨c, e⟩ := ih fun x m => h x (List.mem_cons_of_mem _ m)
    refine ⟨?_, ?_⟩
    · rw [dl_cons, a, c]; rfl
    · rw [de_cons]; exact Nat.max_le.mpr ⟨b, e⟩
theorem eqT0 {ds : List Mir.D} (h : ∀ d ∈ ds, d.lay = true ∧ d.dep ≤ 10) (hn : ds ≠ []) : oEq (.tup ds) (.tup []) = some (.bl false) := by
  obtain ⟨a, b⟩ := fitL h
  have f : (D.tup ds).fit = true := fit_of (by rw [dl_tup]; exact a) (by rw [de_tup]; omega)
  have e : oEqB (.tup ds) (.tup []) = some false := by
    show (if ((D.tup ds).fit && (D.tup []).fit) = true then some ((D.tup ds).eqb (.tup [])) else none) = _
    rw [f]
    cases ds with
    | nil => exact absurd rfl hn
    | cons d ds => rfl
  unfold oEq
  rw [e]
  rfl
theorem str_fit {z : Str} (h : signs z) : (Mir.D.str z).lay = true ∧ (Mir.D.str z).dep ≤ 10 := ⟨by rw [dl_str]; exact strOk_tab h, by rw [de_str]; decide⟩
theorem badT_fit : ∀ d ∈ badT, d.lay = true ∧ d.dep ≤ 10 := by
  unfold badT
  simp only [List.forall_mem_cons, List.not_mem_nil, false_implies, implies_true, and_true]
  refine ⟨?_, ?_, ?_, ?_, ?_, ?_, ?_, ?_, ?_, ?_, ?_, ?_, ?_⟩ <;> exact ⟨by kernel_rfl, by decide +kernel⟩
noncomputable abbrev bTab : SM := (sSeq (sIf (mOr (mTest (e2 oEq (eVar 6) (eC c_MAX_PERSONS))) (mNot (mTest (eCall d_is_table [] (aCons (eVar 7) aNil))))) (sRaise 1 2 (aCons (eC (.str "tables")) (aCons (eVar 6) aNil))) sNext)
  (sAsg (eCall d_common_multiple [] (aCons (eVar 5) (aCons (eA (A1 oLen) (aCons (eVar 7) aNil)) aNil))) (gSet 5)))
noncomputable abbrev bRest : SM := (sSeq (sDrop (eCall d_check_persons [] (aCons (eC (.str "careful")) (aCons (eVar 3) (aCons (eA (A1 oLen) (aCons (eVar 1) aNil)) aNil)))))
  (sSeq (sIf (mNot (mTest (e1 (oIsi "tuple") (eVar 4)))) (sRaise 1 2 (aCons (eC (.str "reminders")) (aCons (eC (.int 0)) aNil))) sNext)
  (sSeq (sFor (iEnumT (eVar 4)) (gTupleM [(gSet 6), (gSet 8)]) (sSeq (sIf (mOr (mTest (e2 oEq (eVar 6) (eC c_MAX_REMINDERS))) (mNot (mTest (eCall d_is_reminder [] (aCons (eVar 8) (aCons (eVar 5) (aCons (eA (A1 oLen) (aCons (eVar 1) aNil)) aNil))))))) (sRaise 1 2 (aCons (eC (.str "reminders")) (aCons (eVar 6) aNil))) sNext)
  (sIf (mAnd (mTest (e2 oGtI (eVar 6) (eC (.int 0)))) (mTest (e2 oLe (eVar 8) (e2 oIx (eVar 4) (e2 oSub (eVar 6) (eC (.int 1))))))) (sRaise 1 2 (aCons (eC (.str "reminders")) (aCons (eVar 6) aNil))) sNext)))
  (sSeq (sSetFld 0 0 0 (eVar 1))
  (sSeq (sSetFld 0 0 1 (eVar 2))
  (sSeq (sSetFld 0 0 2 (eVar 3))
  (sSeq (sSetFld 0 0 3 (eVar 4))
  (sSetFld 0 0 4 (eVar 5)))))))))
noncomputable abbrev bRem : SM := (sSeq (sIf (mNot (mTest (e1 (oIsi "tuple") (eVar 4)))) (sRaise 1 2 (aCons (eC (.str "reminders")) (aCons (eC (.int 0)) aNil))) sNext)
  (sSeq (sFor (iEnumT (eVar 4)) (gTupleM [(gSet 6), (gSet 8)]) (sSeq (sIf (mOr (mTest (e2 oEq (eVar 6) (eC c_MAX_REMINDERS))) (mNot (mTest (eCall d_is_reminder [] (aCons (eVar 8) (aCons (eVar 5) (aCons (eA (A1 oLen) (aCons (eVar 1) aNil)) aNil))))))) (sRaise 1 2 (aCons (eC (.str "reminders")) (aCons (eVar 6) aNil))) sNext)
  (sIf (mAnd (mTest (e2 oGtI (eVar 6) (eC (.int 0)))) (mTest (e2 oLe (eVar 8) (e2 oIx (eVar 4) (e2 oSub (eVar 6) (eC (.int 1))))))) (sRaise 1 2 (aCons (eC (.str "reminders")) (aCons (eVar 6) aNil))) sNext)))
  (sSeq (sSetFld 0 0 0 (eVar 1))
  (sSeq (sSetFld 0 0 1 (eVar 2))
  (sSeq (sSetFld 0 0 2 (eVar 3))
  (sSeq (sSetFld 0 0 3 (eVar 4))
  (sSetFld 0 0 4 (eVar 5))))))))
noncomputable abbrev bRl : SM := (sSeq (sIf (mOr (mTest (e2 oEq (eVar 6) (eC c_MAX_REMINDERS))) (mNot (mTest (eCall d_is_reminder [] (aCons (eVar 8) (aCons (eVar 5) (aCons (eA (A1 oLen) (aCons (eVar 1) aNil)) aNil))))))) (sRaise 1 2 (aCons (eC (.str "reminders")) (aCons (eVar 6) aNil))) sNext)
  (sIf (mAnd (mTest (e2 oGtI (eVar 6) (eC (.int 0)))) (mTest (e2 oLe (eVar 8) (e2 oIx (eVar 4) (e2 oSub (eVar 6) (eC (.int 1))))))) (sRaise 1 2 (aCons (eC (.str "reminders")) (aCons (eVar 6) aNil))) sNext))
section
variable {tb ks cs rs : Mir.D} {ts : List Str}
def TI (tb ks cs rs : Mir.D) (ts : List Str) (j : Nat) (env : Mir.Env) : Prop := ∃ (M : Int) (i t : Option Mir.D), env = TE tb ks cs rs (some (.int M)) i t none ∧ M ∈ D24 ∧ (∀ l z, l < j → ts[l]? = some z → (z.length : Int) ∣ M) ∧ ∀ c, Good ts c → M ∣ c
theorem tab_step (hT : ∀ z ∈ ts, Tab z) (h6 : ts.length ≤ 6) (t : Nat) (y : Str × Nat) (env : Mir.Env) (hy : (ts.zipIdx 0)[t]? = some y) (hI : TI tb ks cs rs ts t env) :
    ∃ e1, (gTupleM [(gSet 6), (gSet 7)]) (.tup [.int (y.2 : Int), .str y.1]) env = some e1 ∧ ∃ e', bTab e1 = .next e' ∧ TI tb ks cs rs ts (t + 1) e' := by
  obtain ⟨M, i0, t0, rfl, m1, m2, m3⟩ := hI
  rw [List.getElem?_zipIdx] at hy
  cases hz : ts[t]? with
  | none => rw [hz] at hy; cases hy
  | some z =>
    rw [hz] at hy
    cases hy
    have hTz := hT z (List.mem_of_getElem? hz)
    have hlt := (List.getElem?_eq_some_iff.mp hz).1
    obtain ⟨m, c1, c2, c3, c4, c5⟩ := cm_spec m1 hTz.l
    refine ⟨TE tb ks cs rs (some (.int M)) (some (.int ((0 + t : Nat) : Int))) (some (.str z)) none, rfl, ?_⟩
    have run : Run bTab (TE tb ks cs rs (some (.int M)) (some (.int ((0 + t : Nat) : Int))) (some (.str z)) none) fun o => o = .next (TE tb ks cs rs (some (.int m)) (some (.int ((0 + t : Nat) : Int))) (some (.str z)) none) := by
      refine r_chk (p := false) (t_or (p := false) (q := false) (t_test (t_e2 (t_var rfl) k_c ?_)) fun _ => t_not (p := true) (t_test (t_call0 (t_cons (t_var rfl) t_nil) (is_table_spec hTz)))) rfl ?_
      · show oEq (.int ((0 + t : Nat) : Int)) (.int 6) = _
        rw [oEq_int, decide_eq_false (by omega)]
      · exact r_one (s_asg (t_call0 (t_cons (t_var rfl) (t_cons (t_A1 (t_var rfl) (oLen_str z (by have := hTz.le; omega))) t_nil)) c1) rfl) rfl
    refine ⟨_, run, m, _, _, rfl, c2, fun l y hl hy => ?_, fun c gc => c5 c (m3 c gc) (gc z (List.mem_of_getElem? hz))⟩
    by_cases e : l = t
    · subst e
      rw [hz] at hy
      cases hy
      exact c4
    · exact Int.dvd_trans (m2 l y (by omega) hy) c3
theorem TI0 : TI tb ks cs rs ts 0 (TE tb ks cs rs (some (.int 1)) none none none) := ⟨1, none, none, rfl, by decide, fun l z h => absurd h (Nat.not_lt_zero _), fun c _ => Int.one_dvd c⟩
/-- a bad table behind good ones -/
theorem init_table {d : Mir.D} {rest : List Mir.D} (hT : ∀ z ∈ ts, Tab z) (h5 : ts.length ≤ 5) (hd : d_is_table [d] = .ok (.bl false)) (hf : ∀ x ∈ ts.map .str ++ d :: rest, x.lay = true ∧ x.dep ≤ 10) :
    d_House__init_ (.ins 0 []) [.tup (ts.map .str ++ d :: rest), ks, cs, rs] = .exc (exH "tables" ts.length) (.ins 0 []) := by
  refine init_exc ?_
  unfold b_House__init_
  refine r_chk (p := false) (t_or (p := false) (q := false) (t_not (p := true) (t_test (t_e1 (t_var rfl) rfl))) fun _ => t_test (t_e2 (t_var rfl) (t_tup t_nil (len_ok rfl)) (eqT0 hf (by simp)))) rfl ?_
  refine r_seq (s_asg (e2 := TE (.tup (ts.map .str ++ d :: rest)) ks cs rs (some (.int 1)) none none none) k_c rfl) ?_
  have en : enumL 0 (ts.map Mir.D.str ++ d :: rest) = ((ts.zipIdx 0).map fun p => Mir.D.tup [.int (p.2 : Int), .str p.1]) ++ Mir.D.tup [.int ((0 + ts.length : Nat) : Int), d] :: enumL (0 + ts.length + 1) rest := by
    rw [enumL_app, enumL_zip, List.length_map]
    rfl
  obtain ⟨e, he, hJ⟩ := for_exc (x := exH "tables" ts.length) (g := gTupleM [(gSet 6), (gSet 7)]) (b := bTab) (fun p : Str × Nat => Mir.D.tup [.int (p.2 : Int), .str p.1]) (fun e => e[0]? = some (some (.ins 0 []))) (TI (.tup (ts.map .str ++ d :: rest)) ks cs rs ts) (ts.zipIdx 0) 0 (.tup [.int ((0 + ts.length : Nat) : Int), d]) (enumL (0 + ts.length + 1) rest)
    (TE (.tup (ts.map .str ++ d :: rest)) ks cs rs (some (.int 1)) none none none) TI0 (fun t y env hy hI => by
      rw [Nat.zero_add] at hI ⊢
      exact tab_step hT (by omega) t y env hy hI) (fun env hI => by
      obtain ⟨M, i0, t0, rfl, _, _, _⟩ := hI
      refine ⟨TE (.tup (ts.map .str ++ d :: rest)) ks cs rs (some (.int M)) (some (.int ((0 + ts.length : Nat) : Int))) (some d) none, TE (.tup (ts.map .str ++ d :: rest)) ks cs rs (some (.int M)) (some (.int ((0 + ts.length : Nat) : Int))) (some d) none, rfl, ?_, rfl⟩
      have run : Run bTab (TE (.tup (ts.map .str ++ d :: rest)) ks cs rs (some (.int M)) (some (.int ((0 + ts.length : Nat) : Int))) (some d) none) fun o => o = .exc (exH "tables" ts.length) (TE (.tup (ts.map .str ++ d :: rest)) ks cs rs (some (.int M)) (some (.int ((0 + ts.length : Nat) : Int))) (some d) none) := by
        refine r_tru (p := true) (t_or (p := false) (q := true) (t_test (t_e2 (t_var rfl) k_c ?_)) fun _ => t_not (p := false) (t_test (t_call0 (t_cons (t_var rfl) t_nil) hd))) rfl ?_
        · show oEq (.int ((0 + ts.length : Nat) : Int)) (.int 6) = _
          rw [oEq_int, decide_eq_false (by omega)]
        · refine r_raiseS (t_cons k_c (t_cons (t_var rfl) t_nil)) rfl ?_
          rw [Nat.zero_add]
          rfl
      exact run)
  exact r_forX (t_enT (t_var rfl)) (by rw [en]; exact he) ⟨e, rfl, hJ⟩
/-- good tables: what follows -/
theorem init_run {Q : Fl → Prop} (hT : ∀ z ∈ ts, Tab z) (h1 : 1 ≤ ts.length) (h6 : ts.length ≤ 6) (hk : ∀ (M : Int) (i t : Option Mir.D), M ∈ D24 → (∀ z ∈ ts, (z.length : Int) ∣ M) → (∀ c, Good ts c → M ∣ c) → Run (sSeq (sIf (mNot (mTest (eCall d_is_int_in [] (aCons (eVar 2) (aCons (eC (.int 0)) (aCons (eC c_MAX_KEYS) aNil)))))) (sRaise 1 2 (aCons (eC (.str "keys")) (aCons (eC (.int 0)) aNil))) sNext) bRest) (TE (.tup (ts.map .str)) ks cs rs (some (.int M)) i t none) Q) :
    Run b_House__init_ (TE (.tup (ts.map .str)) ks cs rs none none none none) Q := by
  unfold b_House__init_
  have hf : ∀ x ∈ ts.map Mir.D.str, x.lay = true ∧ x.dep ≤ 10 := fun x m => by
    obtain ⟨z, mz, rfl⟩ := List.mem_map.mp m
    exact str_fit (hT z mz).s
  refine r_chk (p := false) (t_or (p := false) (q := false) (t_not (p := true) (t_test (t_e1 (t_var rfl) rfl))) fun _ => t_test (t_e2 (t_var rfl) (t_tup t_nil (len_ok rfl)) (eqT0 hf (by intro z; rw [List.map_eq_nil_iff] at z; rw [z] at h1; exact absurd h1 (by decide))))) rfl ?_
  refine r_seq (s_asg (e2 := TE (.tup (ts.map .str)) ks cs rs (some (.int 1)) none none none) k_c rfl) ?_
  obtain ⟨e, q1, M, i, t, rfl, m1, m2, m3⟩ := for_any (fun p : Str × Nat => Mir.D.tup [.int (p.2 : Int), .str p.1]) (g := gTupleM [(gSet 6), (gSet 7)]) (b := bTab) (TI (.tup (ts.map .str)) ks cs rs ts) (ts.zipIdx 0) (TE (.tup (ts.map .str)) ks cs rs (some (.int 1)) none none none) TI0 (fun t y env hy hI => by
    obtain ⟨e1, g1, e', g2, g3⟩ := tab_step hT h6 t y env hy hI
    exact ⟨e1, g1, e', .inl g2, g3⟩)
  rw [← enumL_zip] at q1
  refine r_forS (t_enT (t_var rfl)) q1 ?_
  refine hk M i t m1 (fun z mz => ?_) m3
  obtain ⟨l, hl⟩ := List.mem_iff_getElem?.mp mz
  have hlt := (List.getElem?_eq_some_iff.mp hl).1
  exact m2 l z (by rw [List.length_zipIdx]; exact hlt) hl
theorem init_after (hT : ∀ z ∈ ts, Tab z) (h1 : 1 ≤ ts.length) (h6 : ts.length ≤ 6) {w : Str} {k : Int} (hk : ∀ (M : Int) (i t : Option Mir.D), M ∈ D24 → (∀ z ∈ ts, (z.length : Int) ∣ M) → (∀ c, Good ts c → M ∣ c) → Run (sSeq (sIf (mNot (mTest (eCall d_is_int_in [] (aCons (eVar 2) (aCons (eC (.int 0)) (aCons (eC c_MAX_KEYS) aNil)))))) (sRaise 1 2 (aCons (eC (.str "keys")) (aCons (eC (.int 0)) aNil))) sNext) bRest) (TE (.tup (ts.map .str)) ks cs rs (some (.int M)) i t none) (EX w k)) : d_House__init_ (.ins 0 []) [.tup (ts.map .str), ks, cs, rs] = .exc (exH w k) (.ins 0 []) := init_exc (init_run hT h1 h6 hk)
theorem runF0_next {k n : Nat} {m : SM} {d0 o : Mir.D} {ds : List Mir.D} {e : Mir.Env} (hm : m ((d0 :: ds).map some ++ List.replicate (n - (ds.length + 1)) none) = .next e) (h : ds.length + 1 = k) (he : e[0]? = some (some o)) : runF0 k n m d0 ds = .ok .non o := by
  unfold runF0
  rw [if_pos h, hm]
  dsimp only
  rw [he]
theorem init_ok {o : Mir.D} (h : Run b_House__init_ (TE tb ks cs rs none none none none) fun x => ∃ e, x = .next e ∧ e[0]? = some (some o)) : d_House__init_ (.ins 0 []) [tb, ks, cs, rs] = .ok .non o := by
  obtain ⟨e, h1, h2⟩ := h
  exact runF0_next h1 rfl h2
/-- the seventh table -/
theorem init_seven {d : Mir.D} {rest : List Mir.D} (hT : ∀ z ∈ ts, Tab z) (h6 : ts.length = 6) (hf : ∀ x ∈ ts.map .str ++ d :: rest, x.lay = true ∧ x.dep ≤ 10) :
    d_House__init_ (.ins 0 []) [.tup (ts.map .str ++ d :: rest), ks, cs, rs] = .exc (exH "tables" 6) (.ins 0 []) := by
  refine init_exc ?_
  unfold b_House__init_
  refine r_chk (p := false) (t_or (p := false) (q := false) (t_not (p := true) (t_test (t_e1 (t_var rfl) rfl))) fun _ => t_test (t_e2 (t_var rfl) (t_tup t_nil (len_ok rfl)) (eqT0 hf (by simp)))) rfl ?_
  refine r_seq (s_asg (e2 := TE (.tup (ts.map .str ++ d :: rest)) ks cs rs (some (.int 1)) none none none) k_c rfl) ?_
  have en : enumL 0 (ts.map Mir.D.str ++ d :: rest) = ((ts.zipIdx 0).map fun p => Mir.D.tup [.int (p.2 : Int), .str p.1]) ++ Mir.D.tup [.int 6, d] :: enumL 7 rest := by
    rw [enumL_app, enumL_zip, List.length_map, h6]
    rfl
  obtain ⟨e, he, hJ⟩ := for_exc (x := exH "tables" 6) (g := gTupleM [(gSet 6), (gSet 7)]) (b := bTab) (fun p : Str × Nat => Mir.D.tup [.int (p.2 : Int), .str p.1]) (fun e => e[0]? = some (some (.ins 0 []))) (TI (.tup (ts.map .str ++ d :: rest)) ks cs rs ts) (ts.zipIdx 0) 0 (.tup [.int 6, d]) (enumL 7 rest)
    (TE (.tup (ts.map .str ++ d :: rest)) ks cs rs (some (.int 1)) none none none) TI0 (fun t y env hy hI => by
      rw [Nat.zero_add] at hI ⊢
      exact tab_step hT (by omega) t y env hy hI) (fun env hI => by
      obtain ⟨M, i0, t0, rfl, _, _, _⟩ := hI
      refine ⟨TE (.tup (ts.map .str ++ d :: rest)) ks cs rs (some (.int M)) (some (.int 6)) (some d) none, TE (.tup (ts.map .str ++ d :: rest)) ks cs rs (some (.int M)) (some (.int 6)) (some d) none, rfl, ?_, rfl⟩
      have run : Run bTab (TE (.tup (ts.map .str ++ d :: rest)) ks cs rs (some (.int M)) (some (.int 6)) (some d) none) fun o => o = .exc (exH "tables" 6) (TE (.tup (ts.map .str ++ d :: rest)) ks cs rs (some (.int M)) (some (.int 6)) (some d) none) := by
        refine r_tru (p := true) (t_or (p := true) (q := true) (t_test (t_e2 (t_var rfl) k_c (by kernel_rfl))) fun z => nomatch z) rfl ?_
        exact r_raiseS (t_cons k_c (t_cons (t_var rfl) t_nil)) rfl rfl
      exact run)
  exact r_forX (t_enT (t_var rfl)) (by rw [en]; exact he) ⟨e, rfl, hJ⟩
theorem init_keys (hT : ∀ z ∈ ts, Tab z) (h1 : 1 ≤ ts.length) (h6 : ts.length ≤ 6) (hd : d_is_int_in [ks, .int 0, .int 9] = .ok (.bl false)) : d_House__init_ (.ins 0 []) [.tup (ts.map .str), ks, cs, rs] = .exc (exH "keys" 0) (.ins 0 []) := by
  refine init_after hT h1 h6 fun M i t _ _ _ => ?_
  refine r_tru (p := true) (t_not (p := false) (t_test (t_call0 (t_cons (t_var rfl) (t_cons k_c (t_cons k_c t_nil))) hd))) rfl ?_
  exact r_raiseS (t_cons k_c (t_cons k_c t_nil)) rfl ⟨_, rfl, rfl⟩
theorem init_careful {kn k : Int} (hT : ∀ z ∈ ts, Tab z) (h1 : 1 ≤ ts.length) (h6 : ts.length ≤ 6) (k0 : 0 ≤ kn) (k9 : kn ≤ 9) (hd : d_check_persons [.str "careful", cs, .int ts.length] = .exc (exH "careful" k)) : d_House__init_ (.ins 0 []) [.tup (ts.map .str), .int kn, cs, rs] = .exc (exH "careful" k) (.ins 0 []) := by
  refine init_after hT h1 h6 fun M i t _ _ _ => ?_
  have hk : d_is_int_in [.int kn, .int 0, .int 9] = .ok (.bl true) := by rw [is_int_in_spec, decide_eq_true k0, decide_eq_true k9]; rfl
  refine r_chk (p := false) (t_not (p := true) (t_test (t_call0 (t_cons (t_var rfl) (t_cons k_c (t_cons k_c t_nil))) hk))) rfl ?_
  exact r_dropX (t_cons k_c (t_cons (t_var rfl) (t_cons (t_A1 (t_var rfl) (oLen_mapT _ _)) t_nil))) hd ⟨_, rfl, rfl⟩
theorem init_rem {kn k : Int} {cl : List Int} (hT : ∀ z ∈ ts, Tab z) (h1 : 1 ≤ ts.length) (h6 : ts.length ≤ 6) (k0 : 0 ≤ kn) (k9 : kn ≤ 9) (c1 : cl.Pairwise (· < ·)) (c2 : ∀ c ∈ cl, 0 ≤ c ∧ c < (ts.length : Int))
    (hk : ∀ (M : Int) (i t : Option Mir.D), M ∈ D24 → (∀ z ∈ ts, (z.length : Int) ∣ M) → (∀ c, Good ts c → M ∣ c) → Run bRem (TE (.tup (ts.map .str)) (.int kn) (.tup (cl.map .int)) rs (some (.int M)) i t none) (EX "reminders" k)) : d_House__init_ (.ins 0 []) [.tup (ts.map .str), .int kn, .tup (cl.map .int), rs] = .exc (exH "reminders" k) (.ins 0 []) := by
  refine init_after hT h1 h6 fun M i t m1 m2 m3 => ?_
  have hki : d_is_int_in [.int kn, .int 0, .int 9] = .ok (.bl true) := by rw [is_int_in_spec, decide_eq_true k0, decide_eq_true k9]; rfl
  refine r_chk (p := false) (t_not (p := true) (t_test (t_call0 (t_cons (t_var rfl) (t_cons k_c (t_cons k_c t_nil))) hki))) rfl ?_
  refine r_seq (s_drop (t_call0 (t_cons k_c (t_cons (t_var rfl) (t_cons (t_A1 (t_var rfl) (oLen_mapT _ _)) t_nil))) (check_persons_spec c1 c2))) ?_
  exact hk M i t m1 m2 m3
theorem rem_none {kn M : Int} {i t : Option Mir.D} (h : oIsi "tuple" rs = some (.bl false)) : Run bRem (TE tb (.int kn) cs rs (some (.int M)) i t none) (EX "reminders" 0) := by
  refine r_tru (p := true) (t_not (p := false) (t_test (t_e1 (t_var rfl) h))) rfl ?_
  exact r_raiseS (t_cons k_c (t_cons k_c t_nil)) rfl ⟨_, rfl, rfl⟩
theorem rem_first {kn M : Int} {i t : Option Mir.D} {x : Mir.D} {xs : List Mir.D} (hx : d_is_reminder [x, .int M, .int ts.length] = .ok (.bl false)) : Run bRem (TE (.tup (ts.map .str)) (.int kn) cs (.tup (x :: xs)) (some (.int M)) i t none) (EX "reminders" 0) := by
  refine r_chk (p := false) (t_not (p := true) (t_test (t_e1 (t_var rfl) rfl))) rfl ?_
  obtain ⟨e, he, hJ⟩ := for_exc (α := Nat) (x := exH "reminders" 0) (g := gTupleM [(gSet 6), (gSet 8)]) (b := bRl) (fun _ => Mir.D.non) (fun e => e[0]? = some (some (.ins 0 []))) (fun _ env => env = TE (.tup (ts.map .str)) (.int kn) cs (.tup (x :: xs)) (some (.int M)) i t none) [] 0 (.tup [.int ((0 : Nat) : Int), x]) (enumL 1 xs)
    _ rfl (fun t y env hy => (by cases hy)) (fun env hI => by
      subst hI
      refine ⟨TE (.tup (ts.map .str)) (.int kn) cs (.tup (x :: xs)) (some (.int M)) (some (.int ((0 : Nat) : Int))) t (some x), TE (.tup (ts.map .str)) (.int kn) cs (.tup (x :: xs)) (some (.int M)) (some (.int ((0 : Nat) : Int))) t (some x), rfl, ?_, rfl⟩
      have run : Run bRl (TE (.tup (ts.map .str)) (.int kn) cs (.tup (x :: xs)) (some (.int M)) (some (.int ((0 : Nat) : Int))) t (some x)) fun o => o = .exc (exH "reminders" 0) (TE (.tup (ts.map .str)) (.int kn) cs (.tup (x :: xs)) (some (.int M)) (some (.int ((0 : Nat) : Int))) t (some x)) := by
        refine r_tru (p := true) (t_or (p := false) (q := true) (t_test (t_e2 (t_var rfl) k_c (by kernel_rfl))) fun _ => t_not (p := false) (t_test (t_call0 (t_cons (t_var rfl) (t_cons (t_var rfl) (t_cons (t_A1 (t_var rfl) (oLen_mapT _ _)) t_nil))) hx))) rfl ?_
        exact r_raiseS (t_cons k_c (t_cons (t_var rfl) t_nil)) rfl rfl
      exact run)
  exact r_forX (t_enT (t_var rfl)) he ⟨e, rfl, hJ⟩
theorem rem_twice {kn M : Int} {i t : Option Mir.D} (hx : d_is_reminder [.tup [.int 0, .int 0], .int M, .int ts.length] = .ok (.bl true)) : Run bRem (TE (.tup (ts.map .str)) (.int kn) cs (.tup [.tup [.int 0, .int 0], .tup [.int 0, .int 0]]) (some (.int M)) i t none) (EX "reminders" 1) := by
  refine r_chk (p := false) (t_not (p := true) (t_test (t_e1 (t_var rfl) rfl))) rfl ?_
  have he : ∃ e, forGo (gTupleM [(gSet 6), (gSet 8)]) bRl (enumL 0 [.tup [.int 0, .int 0], .tup [.int 0, .int 0]]) (TE (.tup (ts.map .str)) (.int kn) cs (.tup [.tup [.int 0, .int 0], .tup [.int 0, .int 0]]) (some (.int M)) i t none) = .exc (exH "reminders" 1) e ∧ e[0]? = some (some (.ins 0 [])) := by
    refine for_exc (α := Nat) (x := exH "reminders" 1) (g := gTupleM [(gSet 6), (gSet 8)]) (b := bRl) (fun _ => Mir.D.tup [.int 0, .tup [.int 0, .int 0]]) (fun e => e[0]? = some (some (.ins 0 []))) (fun _ env => ∃ i r, env = TE (.tup (ts.map .str)) (.int kn) cs (.tup [.tup [.int 0, .int 0], .tup [.int 0, .int 0]]) (some (.int M)) i t r) [0] 0 (.tup [.int 1, .tup [.int 0, .int 0]]) []
      _ ⟨_, _, rfl⟩ (fun k y env hy hI => ?_) (fun env hI => ?_)
    · obtain ⟨i, r, rfl⟩ := hI
      refine ⟨TE (.tup (ts.map .str)) (.int kn) cs (.tup [.tup [.int 0, .int 0], .tup [.int 0, .int 0]]) (some (.int M)) (some (.int 0)) t (some (.tup [.int 0, .int 0])), rfl, TE (.tup (ts.map .str)) (.int kn) cs (.tup [.tup [.int 0, .int 0], .tup [.int 0, .int 0]]) (some (.int M)) (some (.int 0)) t (some (.tup [.int 0, .int 0])), ?_, _, _, rfl⟩
      have run : Run bRl (TE (.tup (ts.map .str)) (.int kn) cs (.tup [.tup [.int 0, .int 0], .tup [.int 0, .int 0]]) (some (.int M)) (some (.int 0)) t (some (.tup [.int 0, .int 0]))) fun o => o = .next (TE (.tup (ts.map .str)) (.int kn) cs (.tup [.tup [.int 0, .int 0], .tup [.int 0, .int 0]]) (some (.int M)) (some (.int 0)) t (some (.tup [.int 0, .int 0]))) := by
        refine r_chk (p := false) (t_or (p := false) (q := false) (t_test (t_e2 (t_var rfl) k_c (by kernel_rfl))) fun _ => t_not (p := true) (t_test (t_call0 (t_cons (t_var rfl) (t_cons (t_var rfl) (t_cons (t_A1 (t_var rfl) (oLen_mapT _ _)) t_nil))) hx))) rfl ?_
        exact r_fls1 (p := false) (t_and (p := false) (q := false) (t_test (t_e2 (t_var rfl) k_c (by kernel_rfl))) (fun z => nomatch z)) rfl (r_next rfl)
      exact run
    · obtain ⟨i, r, rfl⟩ := hI
      refine ⟨TE (.tup (ts.map .str)) (.int kn) cs (.tup [.tup [.int 0, .int 0], .tup [.int 0, .int 0]]) (some (.int M)) (some (.int 1)) t (some (.tup [.int 0, .int 0])), TE (.tup (ts.map .str)) (.int kn) cs (.tup [.tup [.int 0, .int 0], .tup [.int 0, .int 0]]) (some (.int M)) (some (.int 1)) t (some (.tup [.int 0, .int 0])), rfl, ?_, rfl⟩
      have run : Run bRl (TE (.tup (ts.map .str)) (.int kn) cs (.tup [.tup [.int 0, .int 0], .tup [.int 0, .int 0]]) (some (.int M)) (some (.int 1)) t (some (.tup [.int 0, .int 0]))) fun o => o = .exc (exH "reminders" 1) (TE (.tup (ts.map .str)) (.int kn) cs (.tup [.tup [.int 0, .int 0], .tup [.int 0, .int 0]]) (some (.int M)) (some (.int 1)) t (some (.tup [.int 0, .int 0]))) := by
        refine r_chk (p := false) (t_or (p := false) (q := false) (t_test (t_e2 (t_var rfl) k_c (by kernel_rfl))) fun _ => t_not (p := true) (t_test (t_call0 (t_cons (t_var rfl) (t_cons (t_var rfl) (t_cons (t_A1 (t_var rfl) (oLen_mapT _ _)) t_nil))) hx))) rfl ?_
        refine r_tru1 (p := true) (t_and (p := true) (q := true) (t_test (t_e2 (t_var rfl) k_c (by kernel_rfl))) fun _ => t_test (t_e2 (t_var rfl) (t_e2 (t_var rfl) (t_e2 (t_var rfl) k_c (z := .int 0) (by kernel_rfl)) (z := .tup [.int 0, .int 0]) (by kernel_rfl)) (by kernel_rfl))) rfl ?_
        exact r_raise (t_cons k_c (t_cons (t_var rfl) t_nil)) rfl rfl
      exact run
  obtain ⟨e, he, hJ⟩ := he
  exact r_forX (t_enT (t_var rfl)) he ⟨e, rfl, hJ⟩
end
/-! the law's bad reminders: told by their first item, or none at all -/
def badR (M N : Int) : List (Mir.D × Int) := [(.non, 0), (.lst [], 0), (.tup [.tup [.int M, .int 0]], 0), (.tup [.tup [.int 0, .int N]], 0), (.tup [.tup [.int 0, .int 0], .tup [.int 0, .int 0]], 1), (.tup [.tup [.int 0]], 0), (.tup [.int 0, .int 0], 0), (.tup [.tup [.int 0, .int 0, .int 0]], 0), (.tup [.lst [.int 0, .int 0]], 0), (.tup [.tup [.bl true, .int 0]], 0), (.tup [.tup [.int (-1), .int 0]], 0), (.tup [.tup [.int 0, .non]], 0)]
theorem badR_no {ts : List Str} {cs : Mir.D} {kn M : Int} (hM : M ∈ D24) (h1 : 1 ≤ ts.length) (h4 : ts.length ≤ 4) (i t : Option Mir.D) : ∀ c ∈ badR M ts.length, Run bRem (TE (.tup (ts.map .str)) (.int kn) cs c.1 (some (.int M)) i t none) (EX "reminders" c.2) := by
  have hN : (ts.length : Int) = 1 ∨ (ts.length : Int) = 2 ∨ (ts.length : Int) = 3 ∨ (ts.length : Int) = 4 := by omega
  have key : ∀ x ∈ ([.tup [.int M, .int 0], .tup [.int 0, .int ts.length], .tup [.int 0], .int 0, .tup [.int 0, .int 0, .int 0], .lst [.int 0, .int 0], .tup [.bl true, .int 0], .tup [.int (-1), .int 0], .tup [.int 0, .non]] : List Mir.D), d_is_reminder [x, .int M, .int ts.length] = .ok (.bl false) := by
    simp only [D24, List.mem_cons, List.not_mem_nil, or_false] at hM
    simp only [List.forall_mem_cons, List.not_mem_nil, false_implies, implies_true, and_true]
    rcases hN with e | e | e | e <;> rw [e] <;> rcases hM with rfl | rfl | rfl | rfl | rfl | rfl | rfl | rfl <;> refine ⟨?_, ?_, ?_, ?_, ?_, ?_, ?_, ?_, ?_⟩ <;> kernel_rfl
  have two : d_is_reminder [.tup [.int 0, .int 0], .int M, .int ts.length] = .ok (.bl true) := by
    simp only [D24, List.mem_cons, List.not_mem_nil, or_false] at hM
    rcases hN with e | e | e | e <;> rw [e] <;> rcases hM with rfl | rfl | rfl | rfl | rfl | rfl | rfl | rfl <;> kernel_rfl
  simp only [List.forall_mem_cons, List.not_mem_nil, false_implies, implies_true, and_true] at key
  obtain ⟨k1, k2, k3, k4, k5, k6, k7, k8, k9⟩ := key
  unfold badR
  simp only [List.forall_mem_cons, List.not_mem_nil, false_implies, implies_true, and_true]
  exact ⟨rem_none rfl, rem_none rfl, rem_first k1, rem_first k2, rem_twice two, rem_first k3, rem_first k4, rem_first k5, rem_first k6, rem_first k7, rem_first k8, rem_first k9⟩
end K08
/-! M08z -/
/-! the law -/
namespace K08
open PySem PySem.Spec PyProof.Rows L2 Mir
def LE (o : Mir.D) (x2 x3 x4 x5 x6 x7 x8 x9 x10 x11 x12 x13 x14 x15 x16 x17 x18 x19 : Option Mir.D) : Mir.Env := [none, some o, x2, x3, x4, x5, x6, x7, x8, x9, x10, x11, x12, x13, x14, x15, x16, x17, x18, x19]
def cD (c : Mir.D × Int) : Mir.D := .tup [c.1, .int c.2]
def prD (t : Nat) : Mir.D := .tup [.int (t : Int), .int 0]
theorem oAddT {xs ys : List Mir.D} (h : xs.length + ys.length ≤ 100000) : oAdd (.tup xs) (.tup ys) = some (.tup (xs ++ ys)) := by
  show (if xs.length + ys.length ≤ 100000 then some (Mir.D.tup (xs ++ ys)) else none) = _
  rw [if_pos h]
theorem cutT {α : Type} (f : α → Mir.D) (l : List α) (k : Nat) : oSl (.tup (l.map f)) none (some (k : Int)) = some (.tup ((l.take k).map f)) := by
  show some (Mir.D.tup (Mir.cutD (l.map f) none (some (k : Int)))) = _
  unfold Mir.cutD
  rw [HT.sIx_nat, HT.sIx_none, List.map_take]
  congr 2
  rw [List.drop_zero, Nat.sub_zero, List.take_eq_take_iff, Nat.min_assoc, Nat.min_self]
theorem fromT {xs : List Mir.D} {j : Nat} (h : j ≤ xs.length) : oSl (.tup xs) (some (j : Int)) none = some (.tup (xs.drop j)) := by
  show some (Mir.D.tup (Mir.cutD xs (some (j : Int)) none)) = _
  unfold Mir.cutD
  rw [HT.sIx_nat, HT.sIx_none, Nat.min_eq_left h]
  congr 2
  exact List.take_of_length_le (by rw [List.length_drop]; exact Nat.le_refl _)
theorem pick {l : List Mir.D} {r : Int} (h0 : 0 ≤ r) (h1 : r < l.length) : ∃ c ∈ l, oIx (.lst l) (.int r) = some c := by
  obtain ⟨c, m, e⟩ := atI_mem (fun d => d) h0 h1
  rw [List.map_id'] at e
  exact ⟨c, m, by rw [oIx_lst]; exact e⟩
theorem pickC {l : List (Mir.D × Int)} {r : Int} (h0 : 0 ≤ r) (h1 : r < l.length) : ∃ c ∈ l, atI (l.map cD) r = some (cD c) := atI_mem cD h0 h1
def noneL (ts : List Str) : List Mir.D := [.non, .tup [], .lst (ts.map .str), .str "ho", .int 5]
def bigT : Mir.D := .tup [.str "oooooooooooooooooooooooo", .str "oooooooooooooooooooooooo", .str "oooooooooooooooooooooooo", .str "oooooooooooooooooooooooo", .str "oooooooooooooooooooooooo", .str "oooooooooooooooooooooooo"]
def bigH : List Mir.D := [bigT, .int 9, .tup [.int 0, .int 1, .int 2, .int 3, .int 4, .int 5], .tup [], .int 24]
def bigS : List Str := ["oooooooooooooooooooooooo", "oooooooooooooooooooooooo", "oooooooooooooooooooooooo", "oooooooooooooooooooooooo", "oooooooooooooooooooooooo", "oooooooooooooooooooooooo"]
theorem tab_o24 : Tab "oooooooooooooooooooooooo" := ⟨by unfold signs; decide +kernel, by decide +kernel⟩
theorem tab_ho : Tab "hohohohohoho" := ⟨by unfold signs; decide +kernel, by decide +kernel⟩
theorem tab_h : Tab "h" := ⟨by unfold signs; decide +kernel, by decide +kernel⟩
theorem big_tab : ∀ z ∈ bigS, Tab z := by
  intro z m
  have : z = "oooooooooooooooooooooooo" := by
    simp only [bigS, List.mem_cons, List.not_mem_nil, or_false] at m
    rcases m with e | e | e | e | e | e <;> exact e
  rw [this]
  exact tab_o24
theorem div24 {M : Int} (h : M ∈ D24) (d : (24 : Int) ∣ M) : M = 24 := by
  simp only [D24, List.mem_cons, List.not_mem_nil, or_false] at h
  omega
theorem div12 {M : Int} (d : (12 : Int) ∣ M) (d2 : M ∣ 12) (h : M ∈ D24) : M = 12 := by
  have := Int.le_of_dvd (by decide) d2
  simp only [D24, List.mem_cons, List.not_mem_nil, or_false] at h
  omega
theorem keys_ok {k : Int} (k0 : 0 ≤ k) (k9 : k ≤ 9) : d_is_int_in [.int k, .int 0, .int 9] = .ok (.bl true) := by rw [is_int_in_spec, decide_eq_true k0, decide_eq_true k9]; rfl
theorem big_ok : d_House__init_ (.ins 0 []) [bigT, .int 9, .tup [.int 0, .int 1, .int 2, .int 3, .int 4, .int 5], .tup []] = .ok .non (.ins 0 bigH) := by
  refine init_ok (init_run (ts := bigS) big_tab (by decide) (by decide) fun M i t m1 m2 m3 => ?_)
  have e : M = 24 := div24 m1 (m2 "oooooooooooooooooooooooo" List.mem_cons_self)
  subst e
  refine r_chk (p := false) (t_not (p := true) (t_test (t_call0 (t_cons (t_var rfl) (t_cons k_c (t_cons k_c t_nil))) (keys_ok (by decide) (by decide))))) rfl ?_
  refine r_seq (s_drop (t_call0 (t_cons k_c (t_cons (t_var rfl) (t_cons (t_A1 (t_var rfl) (oLen_mapT _ _)) t_nil))) (check_persons_spec (cs := [0, 1, 2, 3, 4, 5]) (n := 6) (by decide) (by decide)))) ?_
  show Run bRem (TE bigT (.int 9) (.tup [.int 0, .int 1, .int 2, .int 3, .int 4, .int 5]) (.tup []) (some (.int 24)) i t none) _
  exact ⟨_, (by kernel_rfl : _ = Fl.next ((TE bigT (.int 9) (.tup [.int 0, .int 1, .int 2, .int 3, .int 4, .int 5]) (.tup []) (some (.int 24)) i t none).set 0 (some (.ins 0 bigH)))), rfl⟩
theorem seven_no : d_House__init_ (.ins 0 []) ([.tup [.str "h", .str "h", .str "h", .str "h", .str "h", .str "h", .str "h"], .int 0] ++ dd_House__init__2) = .exc (exH "tables" 6) (.ins 0 []) :=
  init_seven (ts := ["h", "h", "h", "h", "h", "h"]) (d := .str "h") (rest := []) (fun z m => by
    have : z = "h" := by
      simp only [List.mem_cons, List.not_mem_nil, or_false] at m
      rcases m with e | e | e | e | e | e <;> exact e
    rw [this]
    exact tab_h) rfl (fun x m => by
    have : x = .str "h" := by
      simp only [List.map_cons, List.map_nil, List.cons_append, List.nil_append, List.mem_cons, List.not_mem_nil, or_false] at m
      rcases m with e | e | e | e | e | e | e <;> exact e
    rw [this]
    exact str_fit tab_h.s)
theorem ho_len : ((("hohohohohoho" : Str).length : Nat) : Int) = 12 := by decide +kernel
theorem ho_run {rs : Mir.D} {Q : Fl → Prop} (hk : ∀ i t : Option Mir.D, Run bRem (TE (.tup [.str "hohohohohoho"]) (.int 1) (.tup []) rs (some (.int 12)) i t none) Q) : Run b_House__init_ (TE (.tup [.str "hohohohohoho"]) (.int 1) (.tup []) rs none none none none) Q := by
  refine init_run (ts := ["hohohohohoho"]) (fun z m => by rw [List.mem_singleton.mp m]; exact tab_ho) (by decide) (by decide) fun M i t m1 m2 m3 => ?_
  have d1 := m2 "hohohohohoho" List.mem_cons_self
  rw [ho_len] at d1
  have d2 := m3 12 (fun z m => by rw [List.mem_singleton.mp m, ho_len]; exact ⟨1, rfl⟩)
  have e : M = 12 := div12 d1 d2 m1
  subst e
  refine r_chk (p := false) (t_not (p := true) (t_test (t_call0 (t_cons (t_var rfl) (t_cons k_c (t_cons k_c t_nil))) (keys_ok (by decide) (by decide))))) rfl ?_
  refine r_seq (s_drop (t_call0 (t_cons k_c (t_cons (t_var rfl) (t_cons (t_A1 (t_var rfl) (oLen_mapT _ _)) t_nil))) (check_persons_spec (cs := []) (n := 1) (by decide) (by decide)))) ?_
  exact hk i t
theorem full_no : d_House__init_ (.ins 0 []) [.tup [.str "hohohohohoho"], .int 1, .tup [], .tup ((List.range 11).map prD)] = .exc (exH "reminders" 10) (.ins 0 []) :=
  init_exc (ho_run fun i t => ⟨_, (by kernel_rfl : _ = Fl.exc (exH "reminders" 10) (TE (.tup [.str "hohohohohoho"]) (.int 1) (.tup []) (.tup ((List.range 11).map prD)) (some (.int 12)) (some (.int 10)) t (some (prD 10)))), rfl⟩)
def tenH : List Mir.D := [.tup [.str "hohohohohoho"], .int 1, .tup [], .tup (((List.range 11).take 10).map prD), .int 12]
theorem ten_ok : d_House__init_ (.ins 0 []) [.tup [.str "hohohohohoho"], .int 1, .tup [], .tup (((List.range 11).take 10).map prD)] = .ok .non (.ins 0 tenH) :=
  init_ok (ho_run fun i t => ⟨_, (by kernel_rfl : _ = Fl.next [some (.ins 0 tenH), some (.tup [.str "hohohohohoho"]), some (.int 1), some (.tup []), some (.tup (((List.range 11).take 10).map prD)), some (.int 12), some (.int 9), t, some (prD 9)]), rfl⟩)
theorem law_math (ns : List Int) (_ : ns.length ≤ 63) : ∃ e, b_law (env1 18 (rndL ns 8)) = .ret (.bl true) e := by
  have ho : Rnd (.lst ((rndL ns 8).map .int)) := ⟨_, rfl, by unfold rndL; simp⟩
  show Run b_law (LE (.lst ((rndL ns 8).map .int)) none none none none none none none none none none none none none none none none none none) fun o => ∃ e, o = .ret (.bl true) e
  unfold b_law
  obtain ⟨p, o1, e1, h, ho1, hp4⟩ := parts_spec (mo := 4) (by decide) (by decide) ho
  have h0 := h.t0
  have h4 : p.ts.length ≤ 4 := by omega
  obtain ⟨L, hL, l1, l24, lg, lmin⟩ := length_spec (ts := p.ts) h.tt (by omega)
  refine r_seq (s_asgG (e2 := LE (o1) none none none none none none none none none (some (.tup (p.ts.map .str))) (some (.int p.keys)) (some (.tup (p.cs.map .int))) (some (.tup (p.rs.map Mir.pairD))) none none none none none) (t_callO rfl (t_cons k_c t_nil) rfl e1 rfl) rfl) ?_
  clear e1
  refine r_seq (s_par (e3 := LE (o1) none none none none none none none none none (some (.tup (p.ts.map .str))) (some (.int p.keys)) (some (.tup (p.cs.map .int))) (some (.tup (p.rs.map Mir.pairD))) (some (.int (p.ts.length : Int))) (some (.int L)) none none none) (t_A1 (t_var rfl) (oLen_mapT _ _)) (t_call0 (t_cons (t_var rfl) t_nil) hL) rfl) ?_
  refine r_seq (s_asg (d := .lst badT) (e2 := LE (o1) (some (.lst badT)) none none none none none none none none (some (.tup (p.ts.map .str))) (some (.int p.keys)) (some (.tup (p.cs.map .int))) (some (.tup (p.rs.map Mir.pairD))) (some (.int (p.ts.length : Int))) (some (.int L)) none none none) (e1 := LE (o1) none none none none none none none none none (some (.tup (p.ts.map .str))) (some (.int p.keys)) (some (.tup (p.cs.map .int))) (some (.tup (p.rs.map Mir.pairD))) (some (.int (p.ts.length : Int))) (some (.int L)) none none none) (by kernel_rfl) rfl) ?_
  obtain ⟨r1, o2, f1, a1, b1, ho2⟩ := callO_below (env := LE (o1) (some (.lst badT)) none none none none none none none none (some (.tup (p.ts.map .str))) (some (.int p.keys)) (some (.tup (p.cs.map .int))) (some (.tup (p.rs.map Mir.pairD))) (some (.int (p.ts.length : Int))) (some (.int L)) none none none) (b := eC (.int 13)) (lim := 13) (j := 1) rfl k_c rfl ho1 (by decide) (by decide)
  obtain ⟨bt, hbt, ix1⟩ := pick (l := badT) a1 (by show r1 < 13; exact b1)
  refine r_seq (s_asg (e2 := LE (o2) (some (.lst badT)) (some bt) none none none none none none none (some (.tup (p.ts.map .str))) (some (.int p.keys)) (some (.tup (p.cs.map .int))) (some (.tup (p.rs.map Mir.pairD))) (some (.int (p.ts.length : Int))) (some (.int L)) none none none) (t_e2 (t_var rfl) f1 ix1) rfl) ?_
  clear f1
  obtain ⟨r2, o3, f2, a2, b2, ho3⟩ := callO_below (env := LE (o2) (some (.lst badT)) (some bt) none none none none none none none (some (.tup (p.ts.map .str))) (some (.int p.keys)) (some (.tup (p.cs.map .int))) (some (.tup (p.rs.map Mir.pairD))) (some (.int (p.ts.length : Int))) (some (.int L)) none none none) (b := e2 oAdd (eVar 15) (eC (.int 1))) (lim := (p.ts.length : Int) + 1) (j := 1) rfl (t_e2 (t_var rfl) k_c (oAdd_int _ _)) rfl ho2 (by omega) (by omega)
  obtain ⟨n, rfl⟩ := Int.eq_ofNat_of_zero_le a2
  have hn : n ≤ p.ts.length := by omega
  refine r_seq (s_asg (e2 := LE (o3) (some (.lst badT)) (some bt) (some (.int (n : Int))) none none none none none none (some (.tup (p.ts.map .str))) (some (.int p.keys)) (some (.tup (p.cs.map .int))) (some (.tup (p.rs.map Mir.pairD))) (some (.int (p.ts.length : Int))) (some (.int L)) none none none) f2 rfl) ?_
  clear f2
  have hw : oAdd (.tup ((p.ts.take n).map .str ++ [bt, .non])) (.tup ((p.ts.map Mir.D.str).drop n)) = some (.tup ((p.ts.take n).map .str ++ bt :: .non :: (p.ts.drop n).map .str)) := by
    rw [oAddT (by simp only [List.length_append, List.length_map, List.length_take, List.length_drop, List.length_cons, List.length_nil]; omega), List.append_assoc, ← List.map_drop]
    rfl
  refine r_seq (s_asg (e2 := LE (o3) (some (.lst badT)) (some bt) (some (.int (n : Int))) (some (.tup ((p.ts.take n).map .str ++ bt :: .non :: (p.ts.drop n).map .str))) none none none none none (some (.tup (p.ts.map .str))) (some (.int p.keys)) (some (.tup (p.cs.map .int))) (some (.tup (p.rs.map Mir.pairD))) (some (.int (p.ts.length : Int))) (some (.int L)) none none none) (t_e2 (t_e2 (t_sl (t_var rfl) t_pN (t_pS (t_var rfl)) (cutT _ _ _)) (t_tup (t_cons (t_var rfl) (t_cons k_c t_nil)) (len_ok rfl)) (oAddT (by simp only [List.length_map, List.length_take, List.length_cons, List.length_nil]; omega))) (t_sl (t_var rfl) (t_pS (t_var rfl)) t_pN (fromT (by rw [List.length_map]; exact hn))) hw) rfl) ?_
  have i1 := init_table (ks := .non) (cs := .non) (rs := .non) (ts := p.ts.take n) (d := bt) (rest := .non :: (p.ts.drop n).map .str) (fun z m => h.tt z (List.mem_of_mem_take m)) (by rw [List.length_take]; omega) (badT_no bt hbt) (fun x m => by
    rcases List.mem_append.mp m with m | m
    · obtain ⟨z, mz, rfl⟩ := List.mem_map.mp m
      exact str_fit (h.tt z (List.mem_of_mem_take mz)).s
    · rcases List.mem_cons.mp m with rfl | m
      · exact badT_fit _ hbt
      · rcases List.mem_cons.mp m with rfl | m
        · exact ⟨rfl, Nat.zero_le _⟩
        · obtain ⟨z, mz, rfl⟩ := List.mem_map.mp m
          exact str_fit (h.tt z (List.mem_of_mem_drop mz)).s)
  rw [List.length_take, Nat.min_eq_left hn] at i1
  refine r_chk (p := false) (t_test (t_e2 (err_val rfl (t_cons (t_var rfl) (t_cons k_c (t_cons k_c (t_cons k_c t_nil)))) i1) (t_tup (t_cons k_c (t_cons (t_tup (t_cons k_c (t_cons (t_var rfl) t_nil)) (len_ok rfl)) t_nil)) (len_ok rfl)) (hD_ne _ _ (by kernel_rfl)))) rfl ?_
  obtain ⟨r3, o4, f3, a3, b3, ho4⟩ := callO_below (env := LE (o3) (some (.lst badT)) (some bt) (some (.int (n : Int))) (some (.tup ((p.ts.take n).map .str ++ bt :: .non :: (p.ts.drop n).map .str))) none none none none none (some (.tup (p.ts.map .str))) (some (.int p.keys)) (some (.tup (p.cs.map .int))) (some (.tup (p.rs.map Mir.pairD))) (some (.int (p.ts.length : Int))) (some (.int L)) none none none) (b := eC (.int 5)) (lim := 5) (j := 1) rfl k_c rfl ho3 (by decide) (by decide)
  obtain ⟨nn, hnn, ix3⟩ := pick (l := noneL p.ts) a3 (by show r3 < 5; exact b3)
  refine r_seq (s_asg (e2 := LE (o4) (some (.lst badT)) (some bt) (some (.int (n : Int))) (some (.tup ((p.ts.take n).map .str ++ bt :: .non :: (p.ts.drop n).map .str))) (some nn) none none none none (some (.tup (p.ts.map .str))) (some (.int p.keys)) (some (.tup (p.cs.map .int))) (some (.tup (p.rs.map Mir.pairD))) (some (.int (p.ts.length : Int))) (some (.int L)) none none none) (t_e2 (t_lst (ds := noneL p.ts) (t_cons k_c (t_cons (t_tup t_nil (len_ok rfl)) (t_cons (t_A1 (t_var rfl) (oList_tup _)) (t_cons k_c (t_cons k_c t_nil))))) (len_ok rfl)) f3 ix3) rfl) ?_
  clear f3
  have i2 := init_none (tb := nn) .non .non .non (by
    unfold noneL at hnn
    simp only [List.mem_cons, List.not_mem_nil, or_false] at hnn
    rcases hnn with rfl | rfl | rfl | rfl | rfl
    · exact .inl rfl
    · exact .inr rfl
    · exact .inl rfl
    · exact .inl rfl
    · exact .inl rfl)
  refine r_chk (p := false) (t_test (t_e2 (err_val rfl (t_cons (t_var rfl) (t_cons k_c (t_cons k_c (t_cons k_c t_nil)))) i2) (t_tup (t_cons k_c (t_cons (t_tup (t_cons k_c (t_cons k_c t_nil)) (len_ok rfl)) t_nil)) (len_ok rfl)) (hD_ne _ _ (by kernel_rfl)))) rfl ?_
  refine r_chk (p := false) (t_test (t_e2 (err_val rfl (t_cons (t_e2 (t_tup (t_cons k_c t_nil) (len_ok rfl)) k_c (by kernel_rfl)) (t_cons k_c t_nil)) seven_no) (t_tup (t_cons k_c (t_cons (t_tup (t_cons k_c (t_cons k_c t_nil)) (len_ok rfl)) t_nil)) (len_ok rfl)) (hD_ne _ _ (by kernel_rfl)))) rfl ?_
  obtain ⟨r4, o5, f4, a4, b4, ho5⟩ := callO_below (env := LE (o4) (some (.lst badT)) (some bt) (some (.int (n : Int))) (some (.tup ((p.ts.take n).map .str ++ bt :: .non :: (p.ts.drop n).map .str))) (some nn) none none none none (some (.tup (p.ts.map .str))) (some (.int p.keys)) (some (.tup (p.cs.map .int))) (some (.tup (p.rs.map Mir.pairD))) (some (.int (p.ts.length : Int))) (some (.int L)) none none none) (b := eC (.int 6)) (lim := 6) (j := 1) rfl k_c rfl ho4 (by decide) (by decide)
  obtain ⟨kk, hkk, ix4⟩ := pick (l := badK) a4 (by show r4 < 6; exact b4)
  refine r_seq (s_asg (e2 := LE (o5) (some (.lst badT)) (some bt) (some (.int (n : Int))) (some (.tup ((p.ts.take n).map .str ++ bt :: .non :: (p.ts.drop n).map .str))) (some nn) (some kk) none none none (some (.tup (p.ts.map .str))) (some (.int p.keys)) (some (.tup (p.cs.map .int))) (some (.tup (p.rs.map Mir.pairD))) (some (.int (p.ts.length : Int))) (some (.int L)) none none none) (t_e2 (x := .lst badK) (e1 := LE (o4) (some (.lst badT)) (some bt) (some (.int (n : Int))) (some (.tup ((p.ts.take n).map .str ++ bt :: .non :: (p.ts.drop n).map .str))) (some nn) none none none none (some (.tup (p.ts.map .str))) (some (.int p.keys)) (some (.tup (p.cs.map .int))) (some (.tup (p.rs.map Mir.pairD))) (some (.int (p.ts.length : Int))) (some (.int L)) none none none) (by kernel_rfl) f4 ix4) rfl) ?_
  clear f4
  have i4 := init_keys (cs := .non) (rs := .non) h.tt h0 h.t6 (badK_no kk hkk)
  refine r_chk (p := false) (t_test (t_e2 (err_val rfl (t_cons (t_var rfl) (t_cons (t_var rfl) (t_cons k_c (t_cons k_c t_nil)))) i4) (t_tup (t_cons k_c (t_cons (t_tup (t_cons k_c (t_cons k_c t_nil)) (len_ok rfl)) t_nil)) (len_ok rfl)) (hD_ne _ _ (by kernel_rfl)))) rfl ?_
  refine r_seq (s_own (d := .lst (((badC p.cs p.ts.length).take 8).map cD)) (e1 := LE (o5) (some (.lst badT)) (some bt) (some (.int (n : Int))) (some (.tup ((p.ts.take n).map .str ++ bt :: .non :: (p.ts.drop n).map .str))) (some nn) (some kk) none none none (some (.tup (p.ts.map .str))) (some (.int p.keys)) (some (.tup (p.cs.map .int))) (some (.tup (p.rs.map Mir.pairD))) (some (.int (p.ts.length : Int))) (some (.int L)) none none none) (e2 := LE (o5) (some (.lst badT)) (some bt) (some (.int (n : Int))) (some (.tup ((p.ts.take n).map .str ++ bt :: .non :: (p.ts.drop n).map .str))) (some nn) (some kk) (some (.lst (((badC p.cs p.ts.length).take 8).map cD))) none none (some (.tup (p.ts.map .str))) (some (.int p.keys)) (some (.tup (p.cs.map .int))) (some (.tup (p.rs.map Mir.pairD))) (some (.int (p.ts.length : Int))) (some (.int L)) none none none) (t_lst (t_cons (t_tup (t_cons k_c (t_cons k_c t_nil)) (len_ok rfl)) (t_cons (t_tup (t_cons k_c (t_cons k_c t_nil)) (len_ok rfl)) (t_cons (t_tup (t_cons (t_A1 (t_var rfl) (oList_tup _)) (t_cons k_c t_nil)) (len_ok rfl)) (t_cons (by rfl) (t_cons (by rfl) (t_cons (by rfl) (t_cons (by rfl) (t_cons (by rfl) t_nil)))))))) (len_ok rfl)) (by show 8 < 20; decide) rfl) ?_
  obtain ⟨r5, o6, f5, a5, b5, ho6⟩ := callO_below (env := LE (o5) (some (.lst badT)) (some bt) (some (.int (n : Int))) (some (.tup ((p.ts.take n).map .str ++ bt :: .non :: (p.ts.drop n).map .str))) (some nn) (some kk) (some (.lst (((badC p.cs p.ts.length).take 8).map cD))) none none (some (.tup (p.ts.map .str))) (some (.int p.keys)) (some (.tup (p.cs.map .int))) (some (.tup (p.rs.map Mir.pairD))) (some (.int (p.ts.length : Int))) (some (.int L)) none none none) (b := eC (.int 9)) (lim := 9) (j := 1) rfl k_c rfl ho5 (by decide) (by decide)
  obtain ⟨c, hc, ix5⟩ := pickC (l := badC p.cs p.ts.length) a5 (by show r5 < 9; exact b5)
  have lst9 : ((badC p.cs p.ts.length).take 8).map cD ++ [cD (.tup (rangeL 0 (p.ts.length : Int).toNat ++ [.int 0]), (p.ts.length : Int))] = (badC p.cs p.ts.length).map cD := rfl
  rw [← lst9] at ix5
  refine r_seq (s_asg2 (e3 := LE (o6) (some (.lst badT)) (some bt) (some (.int (n : Int))) (some (.tup ((p.ts.take n).map .str ++ bt :: .non :: (p.ts.drop n).map .str))) (some nn) (some kk) (some (.lst (((badC p.cs p.ts.length).take 8).map cD))) none none (some (.tup (p.ts.map .str))) (some (.int p.keys)) (some (.tup (p.cs.map .int))) (some (.tup (p.rs.map Mir.pairD))) (some (.int (p.ts.length : Int))) (some (.int L)) (some c.1) (some (.int c.2)) none) (t_e2 (t_ownCat rfl (t_lst (t_cons (t_tup (t_cons (t_e2 (t_rgT (t_var rfl) (by omega)) (t_tup (t_cons k_c t_nil) (len_ok rfl)) (oAddT (by rw [rangeL_len]; simp only [List.length_cons, List.length_nil]; omega))) (t_cons (t_var rfl) t_nil)) (len_ok rfl)) t_nil) (len_ok rfl)) rfl (Nat.le_of_ble_eq_true rfl)) f5 (z := cD c) (by rw [oIx_lst]; exact ix5)) rfl rfl) ?_
  clear f5
  have i5 := init_careful (rs := .non) (k := c.2) (cs := c.1) h.tt h0 h.t6 h.k0 h.k9 (badC_no p.cs (N := (p.ts.length : Int)) (by omega) (by omega) c hc)
  refine r_chk (p := false) (t_test (t_e2 (err_val rfl (t_cons (t_var rfl) (t_cons (t_var rfl) (t_cons (t_var rfl) (t_cons k_c t_nil)))) i5) (t_tup (t_cons k_c (t_cons (t_tup (t_cons k_c (t_cons (t_var rfl) t_nil)) (len_ok rfl)) t_nil)) (len_ok rfl)) (hD_ne _ _ (by kernel_rfl)))) rfl ?_
  refine r_seq (s_own (d := .lst (((badR L p.ts.length).take 6).map cD)) (e1 := LE (o6) (some (.lst badT)) (some bt) (some (.int (n : Int))) (some (.tup ((p.ts.take n).map .str ++ bt :: .non :: (p.ts.drop n).map .str))) (some nn) (some kk) (some (.lst (((badC p.cs p.ts.length).take 8).map cD))) none none (some (.tup (p.ts.map .str))) (some (.int p.keys)) (some (.tup (p.cs.map .int))) (some (.tup (p.rs.map Mir.pairD))) (some (.int (p.ts.length : Int))) (some (.int L)) (some c.1) (some (.int c.2)) none) (e2 := LE (o6) (some (.lst badT)) (some bt) (some (.int (n : Int))) (some (.tup ((p.ts.take n).map .str ++ bt :: .non :: (p.ts.drop n).map .str))) (some nn) (some kk) (some (.lst (((badR L p.ts.length).take 6).map cD))) none none (some (.tup (p.ts.map .str))) (some (.int p.keys)) (some (.tup (p.cs.map .int))) (some (.tup (p.rs.map Mir.pairD))) (some (.int (p.ts.length : Int))) (some (.int L)) (some c.1) (some (.int c.2)) none) (by rfl) (by show 8 < 20; decide) rfl) ?_
  refine r_seq (s_own (e2 := LE (o6) (some (.lst badT)) (some bt) (some (.int (n : Int))) (some (.tup ((p.ts.take n).map .str ++ bt :: .non :: (p.ts.drop n).map .str))) (some nn) (some kk) (some (.lst (((badR L p.ts.length).take 11).map cD))) none none (some (.tup (p.ts.map .str))) (some (.int p.keys)) (some (.tup (p.cs.map .int))) (some (.tup (p.rs.map Mir.pairD))) (some (.int (p.ts.length : Int))) (some (.int L)) (some c.1) (some (.int c.2)) none) (t_ownCat rfl (es := [cD (.tup [.int 0, .int 0], 0), cD (.tup [.tup [.int 0, .int 0, .int 0]], 0), cD (.tup [.lst [.int 0, .int 0]], 0), cD (.tup [.tup [.bl true, .int 0]], 0), cD (.tup [.tup [.int (-1), .int 0]], 0)]) (by rfl) rfl (Nat.le_of_ble_eq_true rfl)) (by show 8 < 20; decide) rfl) ?_
  refine r_seq (s_app (e2 := LE (o6) (some (.lst badT)) (some bt) (some (.int (n : Int))) (some (.tup ((p.ts.take n).map .str ++ bt :: .non :: (p.ts.drop n).map .str))) (some nn) (some kk) (some (.lst ((badR L p.ts.length).map cD))) none none (some (.tup (p.ts.map .str))) (some (.int p.keys)) (some (.tup (p.cs.map .int))) (some (.tup (p.rs.map Mir.pairD))) (some (.int (p.ts.length : Int))) (some (.int L)) (some c.1) (some (.int c.2)) none) rfl (t_tup (t_cons (t_tup (t_cons (t_tup (t_cons k_c (t_cons k_c t_nil)) (len_ok rfl)) t_nil) (len_ok rfl)) (t_cons k_c t_nil)) (len_ok rfl)) rfl (by show 11 < 100000; decide) rfl) ?_
  obtain ⟨r6, o7, f6, a6, b6, ho7⟩ := callO_below (env := LE (o6) (some (.lst badT)) (some bt) (some (.int (n : Int))) (some (.tup ((p.ts.take n).map .str ++ bt :: .non :: (p.ts.drop n).map .str))) (some nn) (some kk) (some (.lst ((badR L p.ts.length).map cD))) none none (some (.tup (p.ts.map .str))) (some (.int p.keys)) (some (.tup (p.cs.map .int))) (some (.tup (p.rs.map Mir.pairD))) (some (.int (p.ts.length : Int))) (some (.int L)) (some c.1) (some (.int c.2)) none) (b := eC (.int 12)) (lim := 12) (j := 1) rfl k_c rfl ho6 (by decide) (by decide)
  obtain ⟨e, he, ix6⟩ := pickC (l := badR L p.ts.length) a6 (by show r6 < 12; exact b6)
  refine r_seq (s_asg2 (e3 := LE (o7) (some (.lst badT)) (some bt) (some (.int (n : Int))) (some (.tup ((p.ts.take n).map .str ++ bt :: .non :: (p.ts.drop n).map .str))) (some nn) (some kk) (some (.lst ((badR L p.ts.length).map cD))) none none (some (.tup (p.ts.map .str))) (some (.int p.keys)) (some (.tup (p.cs.map .int))) (some (.tup (p.rs.map Mir.pairD))) (some (.int (p.ts.length : Int))) (some (.int L)) (some e.1) (some (.int e.2)) none) (t_ownIx rfl f6 rfl ix6) rfl rfl) ?_
  clear f6
  have i6 := init_rem (rs := e.1) (k := e.2) h.tt h0 h.t6 h.k0 h.k9 h.cl h.cr (fun M i t m1 m2 m3 => by
    have e1 : M ∣ L := m3 L lg
    have e2 : L ≤ M := lmin M (d24_range m1).1 m2
    have e3 : M = L := Int.le_antisymm (Int.le_of_dvd (by omega) e1) e2
    rw [e3] at m1 ⊢
    exact badR_no m1 h0 h4 i t e he)
  refine r_chk (p := false) (t_test (t_e2 (err_val rfl (t_cons (t_var rfl) (t_cons (t_var rfl) (t_cons (t_var rfl) (t_cons (t_var rfl) t_nil)))) i6) (t_tup (t_cons k_c (t_cons (t_tup (t_cons k_c (t_cons (t_var rfl) t_nil)) (len_ok rfl)) t_nil)) (len_ok rfl)) (hD_ne _ _ (by kernel_rfl)))) rfl ?_
  have lf := k_lcM (i := 19) (env := LE (o7) (some (.lst badT)) (some bt) (some (.int (n : Int))) (some (.tup ((p.ts.take n).map .str ++ bt :: .non :: (p.ts.drop n).map .str))) (some nn) (some kk) (some (.lst ((badR L p.ts.length).map cD))) none none (some (.tup (p.ts.map .str))) (some (.int p.keys)) (some (.tup (p.cs.map .int))) (some (.tup (p.rs.map Mir.pairD))) (some (.int (p.ts.length : Int))) (some (.int L)) (some e.1) (some (.int e.2)) none) (it := iRng1M (aCons (eC (.int 11)) aNil)) (e := eTup (aCons (eVar 19) (aCons (eC (.int 0)) aNil))) (fun t : Nat => Mir.D.int (t : Int)) prD (xs := List.range 11) (by show 19 < 20; decide) (by rw [← rangeL_nat]; exact t_rng1 (k := 11) k_c (by decide)) (by decide)
    (fun t _ => t_tup (t_cons (t_var rfl) (t_cons k_c t_nil)) (len_ok rfl))
  refine r_seq (s_asg (e2 := LE (o7) (some (.lst badT)) (some bt) (some (.int (n : Int))) (some (.tup ((p.ts.take n).map .str ++ bt :: .non :: (p.ts.drop n).map .str))) (some nn) (some kk) (some (.lst ((badR L p.ts.length).map cD))) (some (.tup ((List.range 11).map prD))) none (some (.tup (p.ts.map .str))) (some (.int p.keys)) (some (.tup (p.cs.map .int))) (some (.tup (p.rs.map Mir.pairD))) (some (.int (p.ts.length : Int))) (some (.int L)) (some e.1) (some (.int e.2)) none) (t_A1 lf (oTuple_lst _)) rfl) ?_
  refine r_chk (p := false) (t_test (t_e2 (err_val rfl (t_cons (t_tup (t_cons (t_e2 k_c k_c (z := .str "hohohohohoho") (by kernel_rfl)) t_nil) (len_ok rfl)) (t_cons k_c (t_cons (t_tup t_nil (len_ok rfl)) (t_cons (t_var rfl) t_nil)))) full_no) (t_tup (t_cons k_c (t_cons (t_tup (t_cons k_c (t_cons k_c t_nil)) (len_ok rfl)) t_nil)) (len_ok rfl)) (hD_ne _ _ (by kernel_rfl)))) rfl ?_
  refine r_seq (s_asg (e2 := LE (o7) (some (.lst badT)) (some bt) (some (.int (n : Int))) (some (.tup ((p.ts.take n).map .str ++ bt :: .non :: (p.ts.drop n).map .str))) (some nn) (some kk) (some (.lst ((badR L p.ts.length).map cD))) (some (.tup ((List.range 11).map prD))) (some (.ins 0 bigH)) (some (.tup (p.ts.map .str))) (some (.int p.keys)) (some (.tup (p.cs.map .int))) (some (.tup (p.rs.map Mir.pairD))) (some (.int (p.ts.length : Int))) (some (.int L)) (some e.1) (some (.int e.2)) none) (t_nx (t_make (ds := [bigT, .int 9, .tup [.int 0, .int 1, .int 2, .int 3, .int 4, .int 5], .tup []]) (e1 := LE (o7) (some (.lst badT)) (some bt) (some (.int (n : Int))) (some (.tup ((p.ts.take n).map .str ++ bt :: .non :: (p.ts.drop n).map .str))) (some nn) (some kk) (some (.lst ((badR L p.ts.length).map cD))) (some (.tup ((List.range 11).map prD))) none (some (.tup (p.ts.map .str))) (some (.int p.keys)) (some (.tup (p.cs.map .int))) (some (.tup (p.rs.map Mir.pairD))) (some (.int (p.ts.length : Int))) (some (.int L)) (some e.1) (some (.int e.2)) none) (by kernel_rfl) big_ok)) rfl) ?_
  exact r_ret (t_andV (p := true) (q := true) (t_e2 (t_prop (t_var rfl) (d := .int 24) (by kernel_rfl)) k_c (by kernel_rfl)) fun _ => t_e2 (t_fld (es := tenH) (d := .tup []) (t_nx (t_make (t_cons (t_tup (t_cons (t_e2 k_c k_c (z := .str "hohohohohoho") (by kernel_rfl)) t_nil) (len_ok rfl)) (t_cons k_c (t_cons (t_tup t_nil (len_ok rfl)) (t_cons (t_sl (t_var rfl) t_pN (t_pS k_c) (cutT prD (List.range 11) 10)) t_nil)))) ten_ok)) rfl) (t_tup t_nil (len_ok rfl)) (by kernel_rfl)) ⟨_, rfl⟩
end K08
/-! E08 -/
open PySem PySem.W PyProof.Rows
set_option maxRecDepth 100000 in
set_option maxHeartbeats 0 in
theorem PySem.Challenge.cw_doorkeys_k08_invalid_houses_holds : PySem.Challenge.rw_doorkeys_k08_invalid_houses.Holds := by
  w_on; o_law; km_head; (case hw => w_witness2)
  k_fill
  refine LamX.walk_ofTs (l := PySem.Challenge.rw_doorkeys_k08_invalid_houses) (n := 63) (k := 9) (x := "_law_script") (CX := fun _ => L2.CX0) rfl (by decide) rfl ⟨rfl, by decide, by decide⟩ (fun w h Y => PySem.W.km_in_of Y) ?F (fun _ _ _ _ _ h => h)
  case F =>
    intro w mg fa h Y KX G hmg
    refine K08.law_endT ?facts hmg K08.law_math
    refine' K08.all_mk (h := h) KX G ?a_House ?a_InvalidHouse ?a_HouseError ?a_InvalidTick ?a_UnknownPerson ?a_InvalidLimit ?a_DifferentHouses ?a_InvalidWaiting ?a_Contradiction ?a_TextFault ?a_InvalidCode ?a_InvalidName ?a_UnknownName ?a_InvalidOperation ?a_InvalidHouse__init_ ?i_InvalidHouse__init_ ?l_InvalidHouse__init_ ?c_InvalidHouse__init_ ?k_InvalidHouse__init_ ?a_is_int_in ?l_is_int_in ?c_is_int_in ?k_is_int_in ?a_is_table ?l_is_table ?c_is_table ?k_is_table ?a_common_multiple ?l_common_multiple ?c_common_multiple ?k_common_multiple ?a_check_persons ?l_check_persons ?c_check_persons ?k_check_persons ?a_is_reminder ?l_is_reminder ?c_is_reminder ?k_is_reminder ?a_House__init_ ?i_House__init_ ?l_House__init_ ?c_House__init_ ?k_House__init_ ?pa_House_period ?pg_House_period ?pt_House_period ?pc_House_period ?l_House_period ?c_House_period ?k_House_period ?a_law_below ?l_law_below ?c_law_below ?k_law_below ?a_law_table ?l_law_table ?c_law_table ?k_law_table ?a_law_length ?l_law_length ?c_law_length ?k_law_length ?a_law_parts ?l_law_parts ?c_law_parts ?k_law_parts ?a_law_error_of ?l_law_error_of ?c_law_error_of ?k_law_error_of ?a_law_random ?l_law_random ?c_law_random ?k_law_random ?a_law ?l_law ?c_law ?k_law ?pg_House ?hd_House ?po_House ?sa_House ?mk_House ?kc_House ?na_House_tables ?na_House_key_count ?na_House_careful ?na_House_reminders ?na_House_length ?xd_InvalidHouse ?xy_InvalidHouse ?xd_HouseError ?xy_HouseError ?xd_InvalidTick ?xy_InvalidTick ?xd_UnknownPerson ?xy_UnknownPerson ?xd_InvalidLimit ?xy_InvalidLimit ?xd_DifferentHouses ?xy_DifferentHouses ?xd_InvalidWaiting ?xy_InvalidWaiting ?xd_Contradiction ?xy_Contradiction ?xd_TextFault ?xy_TextFault ?xd_InvalidCode ?xy_InvalidCode ?xd_InvalidName ?xy_InvalidName ?xd_UnknownName ?xy_UnknownName ?xd_InvalidOperation ?xy_InvalidOperation ?xe_HouseError ?xr_HouseError ?xi_HouseError ?xg_HouseError ?xn_ ?xt_ ?x_InvalidHouse ?xs_InvalidHouse ?xe_InvalidHouse ?xk_InvalidHouse ?xa_InvalidHouse ?xh_InvalidHouse ?xc_InvalidHouse ?xo_InvalidHouse ?ss_InvalidHouse ?xm_InvalidHouse ?ti_InvalidHouse ?no_InvalidHouse_part ?no_InvalidHouse_index ?kt_InvalidHouse_Contradiction ?kt_InvalidHouse_DifferentHouses ?kt_InvalidHouse_InvalidCode ?kt_InvalidHouse_InvalidHouse ?kt_InvalidHouse_InvalidLimit ?kt_InvalidHouse_InvalidName ?kt_InvalidHouse_InvalidOperation ?kt_InvalidHouse_InvalidTick ?kt_InvalidHouse_InvalidWaiting ?kt_InvalidHouse_TextFault ?kt_InvalidHouse_UnknownName ?kt_InvalidHouse_UnknownPerson ?kt_InvalidHouse_ValueError ?z_ValueError ?z_abs ?z_all ?z_bool ?z_enumerate ?z_int ?z_isinstance ?z_len ?z_list ?z_range ?z_sorted ?z_str ?z_tuple ?u_MAX_PERSONS ?u_LENGTHS ?l_LENGTHS ?u_MAX_KEYS ?u_MAX_REMINDERS ?u_HOME ?u_OUT ?lT_House__init_ ?v_law ?le0_House__init_ ?le1_House__init_ ?p_law ?h_law ?n_law ?t_law ?uT
    (case a_House => k_is); (case a_InvalidHouse => k_is); (case a_HouseError => k_is); (case a_InvalidTick => k_is); (case a_UnknownPerson => k_is); (case a_InvalidLimit => k_is)
    (case a_DifferentHouses => k_is); (case a_InvalidWaiting => k_is); (case a_Contradiction => k_is); (case a_TextFault => k_is); (case a_InvalidCode => k_is); (case a_InvalidName => k_is)
    (case a_UnknownName => k_is); (case a_InvalidOperation => k_is); (case a_InvalidHouse__init_ => k_is); (case i_InvalidHouse__init_ => k_is); (case l_InvalidHouse__init_ => k_is); (case c_InvalidHouse__init_ => k_is)
    (case k_InvalidHouse__init_ => k_is); (case a_is_int_in => k_is); (case l_is_int_in => k_is); (case c_is_int_in => k_is); (case k_is_int_in => k_is); (case a_is_table => k_is)
    (case l_is_table => k_is); (case c_is_table => k_is); (case k_is_table => k_is); (case a_common_multiple => k_is); (case l_common_multiple => k_is); (case c_common_multiple => k_is)
    (case k_common_multiple => k_is); (case a_check_persons => k_is); (case l_check_persons => k_is); (case c_check_persons => k_is); (case k_check_persons => k_is); (case a_is_reminder => k_is)
    (case l_is_reminder => k_is); (case c_is_reminder => k_is); (case k_is_reminder => k_is); (case a_House__init_ => k_is); (case i_House__init_ => k_is); (case l_House__init_ => k_is)
    (case c_House__init_ => k_is); (case k_House__init_ => k_is); (case pa_House_period => k_is); (case pg_House_period => k_is); (case pt_House_period => k_is); (case pc_House_period => k_is)
    (case l_House_period => k_is); (case c_House_period => k_is); (case k_House_period => k_is); (case a_law_below => k_is); (case l_law_below => k_is); (case c_law_below => k_is)
    (case k_law_below => k_is); (case a_law_table => k_is); (case l_law_table => k_is); (case c_law_table => k_is); (case k_law_table => k_is); (case a_law_length => k_is)
    (case l_law_length => k_is); (case c_law_length => k_is); (case k_law_length => k_is); (case a_law_parts => k_is); (case l_law_parts => k_is); (case c_law_parts => k_is)
    (case k_law_parts => k_is); (case a_law_error_of => k_is); (case l_law_error_of => k_is); (case c_law_error_of => k_is); (case k_law_error_of => k_is); (case a_law_random => k_is)
    (case l_law_random => k_is); (case c_law_random => k_is); (case k_law_random => k_is); (case a_law => k_is); (case l_law => k_is); (case c_law => k_is)
    (case k_law => k_is); (case pg_House => k_is); (case hd_House => k_is); (case po_House => k_is); (case sa_House => k_is); (case mk_House => k_is)
    (case kc_House => k_is); (case na_House_tables => k_is); (case na_House_key_count => k_is); (case na_House_careful => k_is); (case na_House_reminders => k_is); (case na_House_length => k_is)
    (case xd_InvalidHouse => k_is); (case xy_InvalidHouse => k_is); (case xd_HouseError => k_is); (case xy_HouseError => k_is); (case xd_InvalidTick => k_is); (case xy_InvalidTick => k_is)
    (case xd_UnknownPerson => k_is); (case xy_UnknownPerson => k_is); (case xd_InvalidLimit => k_is); (case xy_InvalidLimit => k_is); (case xd_DifferentHouses => k_is); (case xy_DifferentHouses => k_is)
    (case xd_InvalidWaiting => k_is); (case xy_InvalidWaiting => k_is); (case xd_Contradiction => k_is); (case xy_Contradiction => k_is); (case xd_TextFault => k_is); (case xy_TextFault => k_is)
    (case xd_InvalidCode => k_is); (case xy_InvalidCode => k_is); (case xd_InvalidName => k_is); (case xy_InvalidName => k_is); (case xd_UnknownName => k_is); (case xy_UnknownName => k_is)
    (case xd_InvalidOperation => k_is); (case xy_InvalidOperation => k_is); (case xe_HouseError => k_is); (case xr_HouseError => k_is); (case xi_HouseError => k_is); (case xg_HouseError => k_is)
    (case xn_ => k_is); (case xt_ => k_is); (case x_InvalidHouse => k_is); (case xs_InvalidHouse => k_is); (case xe_InvalidHouse => k_is); (case xk_InvalidHouse => k_is)
    (case xa_InvalidHouse => k_is); (case xh_InvalidHouse => k_is); (case xc_InvalidHouse => k_is); (case xo_InvalidHouse => k_is); (case ss_InvalidHouse => k_is); (case xm_InvalidHouse => k_is)
    (case ti_InvalidHouse => k_is); (case no_InvalidHouse_part => k_is); (case no_InvalidHouse_index => k_is); (case kt_InvalidHouse_Contradiction => k_is); (case kt_InvalidHouse_DifferentHouses => k_is); (case kt_InvalidHouse_InvalidCode => k_is)
    (case kt_InvalidHouse_InvalidHouse => k_is); (case kt_InvalidHouse_InvalidLimit => k_is); (case kt_InvalidHouse_InvalidName => k_is); (case kt_InvalidHouse_InvalidOperation => k_is); (case kt_InvalidHouse_InvalidTick => k_is); (case kt_InvalidHouse_InvalidWaiting => k_is)
    (case kt_InvalidHouse_TextFault => k_is); (case kt_InvalidHouse_UnknownName => k_is); (case kt_InvalidHouse_UnknownPerson => k_is); (case kt_InvalidHouse_ValueError => k_is); (case z_ValueError => k_is); (case z_abs => k_is)
    (case z_all => k_is); (case z_bool => k_is); (case z_enumerate => k_is); (case z_int => k_is); (case z_isinstance => k_is); (case z_len => k_is)
    (case z_list => k_is); (case z_range => k_is); (case z_sorted => k_is); (case z_str => k_is); (case z_tuple => k_is); (case u_MAX_PERSONS => k_is)
    (case u_LENGTHS => k_is); (case l_LENGTHS => k_is); (case u_MAX_KEYS => k_is); (case u_MAX_REMINDERS => k_is); (case u_HOME => k_is); (case u_OUT => k_is)
    (case lT_House__init_ => k_is); (case v_law => k_is); (case le0_House__init_ => k_is); (case le1_House__init_ => k_is); (case p_law => rfl); (case h_law => kernel_rfl)
    (case n_law => kernel_rfl); (case t_law => exact PySem.W.km_tabs_of Y _ (by k_mem)); (case uT => decide +kernel)

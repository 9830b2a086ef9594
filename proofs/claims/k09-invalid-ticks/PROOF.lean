import PyProof.Rows.All
import Wide.All
import OpenK.AllK
import Wide.FinOn
import HandS.ForMost
import HandS.ForExc
import HandS.Property
import HandS.ClsMeth
import HandS.Star
import HandS.Defaults
import HandS.IsInst
import HandS.Deep
import HandS.Sort
import HandS.SortRule
import HandS.Conv
import HandS.Flow
import HandS.Lambda
import HandS.EndTab
import KE.KNestM
import HandS.TupAny
import HandS.TupLe
import HandS.SortInts
import KE.GoesEnum
import KE.GoesMore
import HandS.Codes
import KE.KDictKeyed
import KE.KeyNested
import HandS.Style
import HandS.TryOnly
import HandS.GenList
import HandS.GenYield
import HandS.Iter
import KE.KLam
import HandS.CallLocal
import HandS.TupMul
import PyProof.StrBlock2
import HandS.SortOrd
import KE.SortData
import KE.DataMinMax
import PyProof.Rows.RowBridgeK
import HandS.ExcInit
import HandS.ExcField
import HandS.ExcIs
import HandS.WordsExc
import PyProof.Rows.CountFlat
import KE.KExcIs
import KE.KIsAll
import HandS.ExcOwn
import KE.KDictWalk
import KE.KDictSum
import KE.KDictCopyH
import HandS.TupSets
import HandS.TupLen
import HandS.DictComp
import HandS.More
import KE.KDictPairs
import HandS.Dict
import PyProof.Rows.MatchSeqLen
import PyProof.RulesMatchSeq
import HandS.WrittenGet
import KE.GoesRaise
import HandS.SuiteRaise
import KE.KExcRaise
import HandS.HotCalls
import KE.KDflt
import PySem.Challenge.RW_doorkeys_k09_invalid_ticks_and_persons
import HandS.HeadHook3
set_option Elab.async false
set_option autoImplicit false
set_option linter.all false
set_option maxRecDepth 100000
set_option maxHeartbeats 4000000
namespace Mir
open PySem PySem.Spec PyProof.Rows L2
class Tbl where
  T : List (Addr × Str)
instance (priority := low) noTbl : Tbl := ⟨[]⟩
variable [Tbl]
inductive D where
  | non | bl (b : Bool) | int (i : Int) | str (x : Str) | tup (ds : List D) | lst (ds : List D) | ins (c : Nat) (ds : List D) | dic (ks vs : List D) | map (ks vs : List D)
def kyD : Key → D
  | .inl i => .int i
  | .inr x => .str x
abbrev Env := List (Option D)
structure Exn where
  c : Nat
  ds : List D
inductive Out (α : Type) where
  | ok (a : α) (e : Env) | exc (x : Exn) (e : Env) | bad
def Out.bind {α β : Type} (o : Out α) (f : α → Env → Out β) : Out β := match o with
  | .ok a e => f a e
  | .exc x e => .exc x e
  | .bad => .bad
@[simp] theorem Out.bind_ok {α β : Type} (a : α) (e : Env) (f : α → Env → Out β) : (Out.ok a e).bind f = f a e := rfl
@[simp] theorem Out.bind_exc {α β : Type} (x : Exn) (e : Env) (f : α → Env → Out β) : (Out.exc x e : Out α).bind f = .exc x e := rfl
@[simp] theorem Out.bind_bad {α β : Type} (f : α → Env → Out β) : (Out.bad : Out α).bind f = .bad := rfl
def Out.opt {α : Type} (o : Option α) (e : Env) : Out α := match o with
  | some a => .ok a e
  | none => .bad
@[simp] theorem Out.opt_some {α : Type} (a : α) (e : Env) : Out.opt (some a) e = .ok a e := rfl
@[simp] theorem Out.opt_none {α : Type} (e : Env) : (Out.opt none e : Out α) = .bad := rfl
inductive Fl where
  | next (e : Env) | brk (e : Env) | cont (e : Env) | ret (d : D) (e : Env) | exc (x : Exn) (e : Env) | bad
abbrev EM := Env → Out D
abbrev TM := Env → Out Bool
abbrev AM := Env → Out (List D)
abbrev SM := Env → Fl
def NT : HO → Prop
  | .tbl _ => False
  | _ => True
abbrev NE := D × Addr × V
structure NdOk (nd : Addr → List NE → HO) : Prop where
  t : ∀ a k, NT (nd a k)
  m : ∀ a k, Mut (some (nd a k))
  c : ∀ a k q, nd a k ≠ LamX.CodeO a q
structure Sc where
  K : PySem.W.Frag
  ca : Nat → Addr
  fn : Nat → List Str
  Hb : Hp := fun _ => none
  lf : Nat → Addr := fun _ => 0
  nd : Addr → List NE → HO := fun _ _ => .lst []
  ndn : NdOk nd := by exact ⟨fun _ _ => trivial, fun _ _ => trivial, fun _ _ _ z => nomatch z⟩
  /-- which fields of a class are an own thing's own -/
  ow : Nat → List Bool := fun _ => []
structure Ext (M : Addr → Prop) (H H' : Hp) : Prop where
  k : ∀ a o, H a = some o → (¬ M a ∨ ¬ Mut (some o)) → NT o → H' a = some o
  t : ∀ p ∈ Tbl.T, LamX.TabS H p.1 p.2 → LamX.TabS H' p.1 p.2
  d : ∀ a ps, H a = some (.tbl ps) → ∃ ps', H' a = some (.tbl ps')
theorem tabS_keep {H H' : Hp} {P : Addr} {q : Str} (t : LamX.TabS H P q) (e : ∀ b o, H b = some o → ((∃ ps, o = .tbl ps) ∨ ∃ φ, o = .ext φ) → H' b = some o) : LamX.TabS H' P q := by
  obtain ⟨ps, h1, h2, h3⟩ := t
  refine ⟨ps, e _ _ h1 (.inl ⟨_, rfl⟩), h2, fun pos cv hc => ?_⟩
  obtain ⟨c, e1, e2⟩ := h3 pos cv hc
  exact ⟨c, e1, e _ _ e2 (.inr ⟨_, rfl⟩)⟩
def NX : HO → Prop
  | .tbl _ => False
  | .ext _ => False
  | _ => True
def NY (a : Addr) (o : HO) : Prop := NT o ∧ ∀ q, o ≠ LamX.CodeO a q
theorem NX.y {a : Addr} {o : HO} (n : NX o) : NY a o := by
  refine ⟨?_, fun q z => ?_⟩
  · cases o <;> first | exact True.intro | exact n.elim
  · subst z
    exact n
theorem tabS_keep2 {H H' : Hp} {P : Addr} {q : Str} (t : LamX.TabS H P q) (e : ∀ b o, H b = some o → ((∃ ps, o = .tbl ps) ∨ ∃ q, o = LamX.CodeO b q) → H' b = some o) : LamX.TabS H' P q := by
  obtain ⟨ps, h1, h2, h3⟩ := t
  refine ⟨ps, e _ _ h1 (.inl ⟨_, rfl⟩), h2, fun pos cv hc => ?_⟩
  obtain ⟨c, e1, e2⟩ := h3 pos cv hc
  exact ⟨c, e1, e _ _ e2 (.inr ⟨_, rfl⟩)⟩
theorem tabS_updY {H : Hp} {a : Addr} {o o' : HO} (h : H a = some o) (n : NY a o) : ∀ P q, LamX.TabS H P q → LamX.TabS (L2.upd H a o') P q := fun P q t => tabS_keep2 t fun b u e c => by
  have ne : b ≠ a := fun z => by
    subst z
    rw [h] at e
    cases e
    rcases c with ⟨_, rfl⟩ | ⟨q, rfl⟩
    · exact n.1
    · exact n.2 q rfl
  rw [upd_ne ne]
  exact e
def Nil : Addr → Prop := fun _ => False
def Fwd (F : Addr → Prop) (H : Hp) (F' : Addr → Prop) (H' : Hp) : Prop := Ext F H H' ∧ (∀ a, F' a → F a ∨ H a = none) ∧ (∀ a, H a ≠ none → H' a ≠ none)
mutual
def Rep (S : Sc) (F : Addr → Prop) (H : Hp) : D → V → Prop
  | .non, v => v = .non
  | .bl b, v => v = .bl b
  | .int i, v => v = .int i
  | .str x, v => v = .str x
  | .tup ds, v => ∃ a vs, v = .ref a ∧ SqT S.K H a vs ∧ RepL S F H ds vs
  | .lst ds, v => ∃ a vs, v = .ref a ∧ ¬ F a ∧ H a = some (.lst vs) ∧ RepL S F H ds vs
  | .ins c ds, v => ∃ a dx fs, v = .ref a ∧ ¬ F a ∧ H a = some (.ins (S.ca c) dx fs) ∧ fs.map (·.1) = (S.fn c).take ds.length ∧ RepL S F H ds (fs.map (·.2))
  | .dic ks us, v => (∃ c : Nat, ks = [.int (c : Int)] ∧ v = .ref (S.ca c)) ∨ (∃ k : Nat, ks = [.int 0, .int (k : Int)] ∧ v = .ref (S.lf k)) ∨
    (∃ (a : Addr) (o : Obj) (kvs : List NE), v = .ref a ∧ H a = some (.frz o (S.nd a kvs)) ∧ (∀ k, ks ≠ [.int k]) ∧ ((∀ k, ks ≠ [.int 0, .int k]) ∧ ∀ r, ks ≠ .bl true :: r) ∧ kvs.map (·.1) = ks ∧ RepL S F H ks (kvs.map fun e => .ref e.2.1) ∧ RepL S F H us (kvs.map (·.2.2))) ∨
    ∃ (a : Addr) (kvs : List (Key × V)), v = .ref a ∧ ¬ F a ∧ H a = some (.dK kvs) ∧ ks = .bl true :: kvs.map (fun e => kyD e.1) ∧ RepL S F H us (kvs.map (·.2))
  | .map ks vs, v => ∃ (a : Addr) (kvs : List NE), v = .ref a ∧ ¬ F a ∧ H a = some (S.nd a kvs) ∧ kvs.map (·.1) = ks ∧ RepL S F H ks (kvs.map fun e => .ref e.2.1) ∧ RepL S F H vs (kvs.map (·.2.2))
def RepL (S : Sc) (F : Addr → Prop) (H : Hp) : List D → List V → Prop
  | [], vs => vs = []
  | d :: ds, vs => ∃ v r, vs = v :: r ∧ Rep S F H d v ∧ RepL S F H ds r
end
theorem Ext.refl (M : Addr → Prop) (H : Hp) : Ext M H H := ⟨fun _ _ h _ _ => h, fun _ _ h => h, fun _ ps h => ⟨ps, h⟩⟩
theorem Ext.trans {M : Addr → Prop} {H H1 H2 : Hp} (a : Ext M H H1) (b : Ext M H1 H2) : Ext M H H2 := ⟨fun x o h c n => b.k x o (a.k x o h c n) c n, fun p hp h => b.t p hp (a.t p hp h), fun x ps h => let ⟨ps', e⟩ := a.d x ps h; b.d x ps' e⟩
theorem Ext.mono {M M' : Addr → Prop} {H H' : Hp} (e : Ext M H H') (h : ∀ a, M a → M' a) : Ext M' H H' := ⟨fun x o q c n => e.k x o q (c.imp (fun z y => z (h _ y)) id) n, e.t, e.d⟩
theorem Ext.nil {H H' : Hp} (e : Ext Nil H H') (a : Addr) (o : HO) (h : H a = some o) (n : NT o := by trivial) : H' a = some o := e.k a o h (.inl fun z => z) n
theorem Ext.of {M : Addr → Prop} {H H' : Hp} (e : ∀ a o, H a = some o → H' a = some o) : Ext M H H' := ⟨fun a o h _ _ => e a o h, fun p _ h => h.ext e, fun a ps h => ⟨ps, e a _ h⟩⟩
theorem Ext.new {M : Addr → Prop} {H : Hp} {p : Addr} {o : HO} (h : H p = none) : Ext M H (upd H p o) := Ext.of fun a u e => by
  rw [upd_ne (ne_of_none e h)]; exact e
theorem ext_againY {M : Addr → Prop} {H0 H : Hp} {a : Addr} {o o' : HO} (e : Ext M H0 H) (h3 : H a = some o) (m : M a ∨ H0 a = none) (mu : Mut (some o)) (nx : NY a o) : Ext M H0 (upd H a o') := ⟨fun b u h c n => by
  have ob := e.k b u h c n
  by_cases eb : b = a
  · subst eb
    rcases m with m | m
    · rw [h3] at ob
      cases ob
      exact (c.elim (fun z => z m) fun z => z mu).elim
    · rw [m] at h; cases h
  · rw [upd_ne eb]
    exact ob, fun p hp t => tabS_updY h3 nx p.1 p.2 (e.t p hp t), fun b ps h => by
  obtain ⟨ps', h'⟩ := e.d b ps h
  have ne : b ≠ a := fun z => by
    subst z
    rw [h3] at h'
    cases h'
    exact nx.1
  exact ⟨ps', by rw [upd_ne ne]; exact h'⟩⟩
theorem ext_again {M : Addr → Prop} {H0 H : Hp} {a : Addr} {o o' : HO} (e : Ext M H0 H) (h3 : H a = some o) (m : M a ∨ H0 a = none) (mu : Mut (some o)) (nx : NX o) : Ext M H0 (upd H a o') := ext_againY e h3 m mu nx.y
theorem ext_upd {M : Addr → Prop} {H : Hp} {a : Addr} {o o' : HO} (h3 : H a = some o) (m : M a) (mu : Mut (some o)) (nx : NX o) : Ext M H (upd H a o') := ext_again ⟨fun _ _ h _ _ => h, fun _ _ h => h, fun _ ps h => ⟨ps, h⟩⟩ h3 (.inl m) mu nx
theorem tabS_back {H : Hp} {a : Addr} {o : HO} (n : NX o) {P : Addr} {q : Str} (t : LamX.TabS (upd H a o) P q) : LamX.TabS H P q := tabS_keep t fun b u e c => by
  have ne : b ≠ a := fun z => by
    subst z
    rw [upd_same] at e
    cases e
    rcases c with ⟨_, rfl⟩ | ⟨_, rfl⟩ <;> exact n
  rw [upd_ne ne] at e
  exact e
theorem ext_from {M M' : Addr → Prop} {H H' : Hp} {a : Addr} {o : HO} (e : Ext M H H') (m : M' a) (mm : ∀ x, M x → M' x) (mu : Mut (some o)) (n : NX o) : Ext M' (upd H a o) H' := ⟨fun b u h c nt => by
  by_cases eb : b = a
  · subst eb
    rw [upd_same] at h
    cases h
    exact (c.elim (fun z => z m) fun z => z mu).elim
  · rw [upd_ne eb] at h
    exact e.k b u h (c.imp (fun z y => z (mm _ y)) id) nt, fun p hp t => e.t p hp (tabS_back n t), fun b ps h => by
  have ne : b ≠ a := fun z => by
    subst z
    rw [upd_same] at h
    cases h
    exact n
  rw [upd_ne ne] at h
  exact e.d b ps h⟩
theorem Ext.seq {M M2 : Addr → Prop} {H0 H H2 : Hp} (a : Ext M H0 H) (b : Ext M2 H H2) (m : ∀ x, M2 x → M x ∨ H0 x = none) : Ext M H0 H2 := ⟨fun x o h c n => b.k x o (a.k x o h c n) (c.imp (fun z y => (m x y).elim z fun q => by rw [q] at h; cases h) id) n,
  fun p hp h => b.t p hp (a.t p hp h), fun x ps h => let ⟨ps', e⟩ := a.d x ps h; b.d x ps' e⟩
theorem tb_ext {M : Addr → Prop} {H H' : Hp} (e : Ext M H H') (t : LamX.Tabs Tbl.T H) : LamX.Tabs Tbl.T H' := fun p hp => e.t p hp (t p hp)
theorem Ext.dom {H H' : Hp} (e : Ext Nil H H') {a : Addr} (h : H a ≠ none) : H' a ≠ none := by
  cases q : H a with
  | none => exact absurd q h
  | some o =>
    cases o with
    | tbl ps =>
      obtain ⟨ps', e'⟩ := e.d a ps q
      rw [e']; exact fun z => nomatch z
    | _ => rw [e.nil a _ q]; exact fun z => nomatch z
theorem Fwd.refl (F : Addr → Prop) (H : Hp) : Fwd F H F H := ⟨Ext.refl _ _, fun _ h => .inl h, fun _ h => h⟩
theorem Fwd.grow {F : Addr → Prop} {H H' : Hp} (e : Ext Nil H H') : Fwd F H F H' := ⟨e.mono fun _ z => z.elim, fun _ h => .inl h, fun _ h => e.dom h⟩
theorem Fwd.trans {F F1 F2 : Addr → Prop} {H H1 H2 : Hp} (x : Fwd F H F1 H1) (y : Fwd F1 H1 F2 H2) : Fwd F H F2 H2 := by
  obtain ⟨x1, x2, x3⟩ := x
  obtain ⟨y1, y2, y3⟩ := y
  have key : ∀ a, F2 a → F a ∨ H a = none := fun a h => by
    rcases y2 a h with h | h
    · exact x2 a h
    · cases q : H a with
      | none => exact .inr rfl
      | some o => exact absurd h (x3 a (by rw [q]; exact fun z => nomatch z))
  refine ⟨⟨fun a o h c n => ?_, fun p hp h => y1.t p hp (x1.t p hp h), fun a ps h => let ⟨ps', e⟩ := x1.d a ps h; y1.d a ps' e⟩, key, fun a h => y3 a (x3 a h)⟩
  have h1 := x1.k a o h c n
  refine y1.k a o h1 (c.imp (fun z y => ?_) id) n
  rcases x2 a y with w | w
  · exact z w
  · rw [h] at w; cases w
theorem rd_ext {F : Addr → Prop} {H H' : Hp} {a : Addr} {u : HO} (e : Ext F H H') (n : ¬ F a) (h : Rd H a u) (nt : NT u := by trivial) : Rd H' a u := by
  rcases h with h | ⟨o, h⟩
  · exact .inl (e.k a _ h (.inl n) nt)
  · exact .inr ⟨o, e.k a _ h (.inl n) trivial⟩
theorem sqt_ext {K : PySem.W.Frag} {F : Addr → Prop} {H H' : Hp} {a : Addr} {xs : List V} (e : Ext F H H') (h : SqT K H a xs) : SqT K H' a xs := by
  rcases h with (h | ⟨o, h⟩) | h
  · exact .inl (.inl (e.k a _ h (.inr fun z => z) trivial))
  · exact .inl (.inr ⟨o, e.k a _ h (.inr fun z => z) trivial⟩)
  · exact .inr h
mutual
theorem Rep.fwd {S : Sc} {F F' : Addr → Prop} {H H' : Hp} (e : Fwd F H F' H') : ∀ (d : D) (v : V), Rep S F H d v → Rep S F' H' d v
  | .non, _, h => h
  | .bl _, _, h => h
  | .int _, _, h => h
  | .str _, _, h => h
  | .tup ds, v, h => by
    obtain ⟨a, vs, rfl, h1, h2⟩ := h
    exact ⟨a, vs, rfl, sqt_ext e.1 h1, RepL.fwd e ds vs h2⟩
  | .lst ds, v, h => by
    obtain ⟨a, vs, rfl, n, h1, h2⟩ := h
    exact ⟨a, vs, rfl, fun z => (e.2.1 a z).elim n (by rw [h1]; exact fun z => nomatch z), e.1.k a _ h1 (.inl n) trivial, RepL.fwd e ds vs h2⟩
  | .ins c ds, v, h => by
    obtain ⟨a, dx, fs, rfl, n, h1, h2, h3⟩ := h
    exact ⟨a, dx, fs, rfl, fun z => (e.2.1 a z).elim n (by rw [h1]; exact fun z => nomatch z), e.1.k a _ h1 (.inl n) trivial, h2, RepL.fwd e ds _ h3⟩
  | .dic ks us, v, h => by
    rcases h with h | h | ⟨a, o, kvs, e0, h1, n1, n2, h2, h3, h4⟩ | ⟨a, kvs, e0, n, h1, h2, h3⟩
    · exact .inl h
    · exact .inr (.inl h)
    · exact .inr (.inr (.inl ⟨a, o, kvs, e0, e.1.k a _ h1 (.inr fun z => z) trivial, n1, n2, h2, RepL.fwd e ks _ h3, RepL.fwd e us _ h4⟩))
    · exact .inr (.inr (.inr ⟨a, kvs, e0, fun z => (e.2.1 a z).elim n (by rw [h1]; exact fun z => nomatch z), e.1.k a _ h1 (.inl n) trivial, h2, RepL.fwd e us _ h3⟩))
  | .map ks us, v, h => by
    obtain ⟨a, kvs, rfl, n, h1, h2, h3, h4⟩ := h
    exact ⟨a, kvs, rfl, fun z => (e.2.1 a z).elim n (by rw [h1]; exact fun z => nomatch z), e.1.k a _ h1 (.inl n) (S.ndn.t _ _), h2, RepL.fwd e ks _ h3, RepL.fwd e us _ h4⟩
theorem RepL.fwd {S : Sc} {F F' : Addr → Prop} {H H' : Hp} (e : Fwd F H F' H') : ∀ (ds : List D) (vs : List V), RepL S F H ds vs → RepL S F' H' ds vs
  | [], _, h => h
  | d :: ds, vs, h => by
    obtain ⟨v, r, rfl, h1, h2⟩ := h
    exact ⟨v, r, rfl, Rep.fwd e d v h1, RepL.fwd e ds r h2⟩
end
theorem Rep.grow {S : Sc} {F : Addr → Prop} {H H' : Hp} {d : D} {v : V} (h : Rep S F H d v) (e : Ext Nil H H') : Rep S F H' d v := Rep.fwd (.grow e) d v h
theorem RepL.grow {S : Sc} {F : Addr → Prop} {H H' : Hp} {d : List D} {v : List V} (h : RepL S F H d v) (e : Ext Nil H H') : RepL S F H' d v := RepL.fwd (.grow e) d v h
theorem Rep.less {S : Sc} {F F' : Addr → Prop} {H : Hp} {d : D} {v : V} (h : Rep S F H d v) (m : ∀ a, F' a → F a ∨ H a = none) : Rep S F' H d v := Rep.fwd ⟨.refl _ _, m, fun _ h => h⟩ d v h
theorem RepL.less {S : Sc} {F F' : Addr → Prop} {H : Hp} {d : List D} {v : List V} (h : RepL S F H d v) (m : ∀ a, F' a → F a ∨ H a = none) : RepL S F' H d v := RepL.fwd ⟨.refl _ _, m, fun _ h => h⟩ d v h
section
variable {S : Sc} {F : Addr → Prop} {H : Hp}
theorem RepL.nil : RepL S F H [] [] := rfl
theorem RepL.cons {d : D} {ds : List D} {v : V} {vs : List V} (a : Rep S F H d v) (b : RepL S F H ds vs) : RepL S F H (d :: ds) (v :: vs) := ⟨v, vs, rfl, a, b⟩
theorem RepL.length : ∀ {ds : List D} {vs : List V}, RepL S F H ds vs → vs.length = ds.length
  | [], _, h => by cases (show _ = [] from h); rfl
  | d :: ds, vs, h => by
    obtain ⟨v, r, rfl, _, h2⟩ := h
    rw [List.length_cons, List.length_cons, RepL.length h2]
theorem RepL.get : ∀ {ds : List D} {vs : List V} {i : Nat} {d : D}, RepL S F H ds vs → ds[i]? = some d → ∃ v, vs[i]? = some v ∧ Rep S F H d v
  | [], _, _, _, _, e => by simp at e
  | d :: ds, _, 0, _, h, e => by
    obtain ⟨v, r, rfl, h1, _⟩ := h
    cases (show d = _ from by simpa using e)
    exact ⟨v, rfl, h1⟩
  | d :: ds, _, i + 1, _, h, e => by
    obtain ⟨v, r, rfl, _, h2⟩ := h
    obtain ⟨u, e1, e2⟩ := RepL.get h2 (show ds[i]? = some _ by simpa using e)
    exact ⟨u, by simpa using e1, e2⟩
theorem RepL.append : ∀ {ds es : List D} {vs us : List V}, RepL S F H ds vs → RepL S F H es us → RepL S F H (ds ++ es) (vs ++ us)
  | [], _, _, _, h, k => by cases (show _ = [] from h); exact k
  | d :: ds, _, _, _, h, k => by
    obtain ⟨v, r, rfl, h1, h2⟩ := h
    exact ⟨v, _, rfl, h1, RepL.append h2 k⟩
theorem RepL.snoc {ds : List D} {vs : List V} {d : D} {v : V} (h : RepL S F H ds vs) (k : Rep S F H d v) : RepL S F H (ds ++ [d]) (vs ++ [v]) := h.append (.cons k .nil)
theorem RepL.take : ∀ {ds : List D} {vs : List V} (n : Nat), RepL S F H ds vs → RepL S F H (ds.take n) (vs.take n)
  | _, _, 0, _ => rfl
  | [], _, n + 1, h => by cases (show _ = [] from h); exact rfl
  | d :: ds, _, n + 1, h => by
    obtain ⟨v, r, rfl, h1, h2⟩ := h
    exact ⟨v, _, rfl, h1, RepL.take n h2⟩
theorem RepL.drop : ∀ {ds : List D} {vs : List V} (n : Nat), RepL S F H ds vs → RepL S F H (ds.drop n) (vs.drop n)
  | _, _, 0, h => h
  | [], _, n + 1, h => by cases (show _ = [] from h); exact rfl
  | d :: ds, _, n + 1, h => by
    obtain ⟨v, r, rfl, h1, h2⟩ := h
    exact RepL.drop n h2
theorem RepL.set : ∀ {ds : List D} {vs : List V} {d : D} {v : V} (n : Nat), RepL S F H ds vs → Rep S F H d v → RepL S F H (ds.set n d) (vs.set n v)
  | [], _, _, _, n, h, _ => by cases (show _ = [] from h); exact rfl
  | d :: ds, _, _, _, 0, h, k => by
    obtain ⟨v, r, rfl, h1, h2⟩ := h
    exact ⟨_, _, rfl, k, h2⟩
  | d :: ds, _, _, _, n + 1, h, k => by
    obtain ⟨v, r, rfl, h1, h2⟩ := h
    exact ⟨_, _, rfl, h1, RepL.set n h2 k⟩
theorem RepL.erase : ∀ {ds : List D} {vs : List V} (n : Nat), RepL S F H ds vs → RepL S F H (ds.eraseIdx n) (vs.eraseIdx n)
  | [], _, n, h => by cases (show _ = [] from h); exact rfl
  | d :: ds, _, 0, h => by
    obtain ⟨v, r, rfl, h1, h2⟩ := h
    exact h2
  | d :: ds, _, n + 1, h => by
    obtain ⟨v, r, rfl, h1, h2⟩ := h
    exact ⟨_, _, rfl, h1, RepL.erase n h2⟩
theorem RepL.ints : ∀ {ns : List Int} {vs : List V}, RepL S F H (ns.map D.int) vs → vs = ns.map V.int
  | [], _, h => h
  | n :: ns, _, h => by
    obtain ⟨v, r, rfl, h1, h2⟩ := h
    cases (show v = _ from h1)
    rw [RepL.ints h2]; rfl
theorem RepL.ofInts : ∀ {ns : List Int}, RepL S F H (ns.map D.int) (ns.map V.int)
  | [] => rfl
  | n :: ns => ⟨_, _, rfl, rfl, RepL.ofInts⟩
theorem RepL.strs : ∀ {ns : List Str} {vs : List V}, RepL S F H (ns.map D.str) vs → vs = ns.map V.str
  | [], _, h => h
  | n :: ns, _, h => by
    obtain ⟨v, r, rfl, h1, h2⟩ := h
    cases (show v = _ from h1)
    rw [RepL.strs h2]; rfl
theorem RepL.bls : ∀ {ns : List Bool} {vs : List V}, RepL S F H (ns.map D.bl) vs → vs = ns.map V.bl
  | [], _, h => h
  | n :: ns, _, h => by
    obtain ⟨v, r, rfl, h1, h2⟩ := h
    cases (show v = _ from h1)
    rw [RepL.bls h2]; rfl
end
structure Rx where
  G : Addr → Prop
  M : Addr → Prop
  H0 : Hp
  A0 : Nat → Option (Option V)
abbrev Fp := Nat → List Addr
abbrev Rx.plus (R : Rx) (a : Addr) : Rx := { R with G := fun x => R.G x ∨ x = a }
def Fs (R : Rx) (fp : Fp) : Addr → Prop := fun a => R.G a ∨ ∃ i, a ∈ fp i
def Lv (fp : Fp) : Addr → Prop := fun a => ∃ i, a ∈ fp i
abbrev Mo := Option (List Nat)
def FM (R : Rx) (fp : Fp) : Mo → Addr → Prop
  | none => Fs R fp
  | some U => fun a => Fs R fp a ∧ ¬ ∃ i, i ∈ U ∧ a ∈ fp i
def Own1 (S : Sc) (F : Addr → Prop) (H : Hp) (d : D) (b : Addr) : Prop := match d with
  | .lst ds => ∃ vs, H b = some (.lst vs) ∧ RepL S F H ds vs
  | .map ks vs => ∃ kvs : List NE, H b = some (S.nd b kvs) ∧ kvs.map (·.1) = ks ∧ RepL S F H ks (kvs.map fun e => .ref e.2.1) ∧ RepL S F H vs (kvs.map (·.2.2))
  | .dic ks us => ∃ kvs : List (Key × V), H b = some (.dK kvs) ∧ ks = .bl true :: kvs.map (fun e => kyD e.1) ∧ RepL S F H us (kvs.map (·.2))
  | _ => False
def D.frozen : D → Bool
  | .dic (.bl true :: _) _ => false
  | .dic _ _ => true
  | _ => false
def OwnF (S : Sc) (F : Addr → Prop) (H : Hp) : List Bool → List D → List V → List Addr → Prop
  | [], ds, vs, fl => fl = [] ∧ RepL S F H ds vs
  | _ :: _, [], vs, fl => vs = [] ∧ fl = []
  | false :: bs, d :: ds, vs, fl => ∃ v r, vs = v :: r ∧ Rep S F H d v ∧ OwnF S F H bs ds r fl
  | true :: bs, d :: ds, vs, fl => (∃ b r q, vs = .ref b :: r ∧ fl = b :: q ∧ Own1 S F H d b ∧ OwnF S F H bs ds r q) ∨ (d.frozen = true ∧ ∃ v r, vs = v :: r ∧ Rep S F H d v ∧ OwnF S F H bs ds r fl)
def Own (S : Sc) (F : Addr → Prop) (H : Hp) (d : D) (a : Addr) (fp : List Addr) : Prop := match d with
  | .lst ds => fp = [a] ∧ ∃ vs, H a = some (.lst vs) ∧ RepL S F H ds vs
  | .ins c ds => ∃ fl, fp = a :: fl ∧ ∃ dx fs, H a = some (.ins (S.ca c) dx fs) ∧ fs.map (·.1) = (S.fn c).take ds.length ∧ OwnF S F H (S.ow c) ds (fs.map (·.2)) fl
  | .map ks vs => fp = [a] ∧ ∃ kvs : List NE, H a = some (S.nd a kvs) ∧ kvs.map (·.1) = ks ∧ RepL S F H ks (kvs.map fun e => .ref e.2.1) ∧ RepL S F H vs (kvs.map (·.2.2))
  | .dic ks us => fp = [a] ∧ ∃ kvs : List (Key × V), H a = some (.dK kvs) ∧ ks = .bl true :: kvs.map (fun e => kyD e.1) ∧ RepL S F H us (kvs.map (·.2))
  | _ => False
def Src (P : List Nat) (R : Rx) (i : Nat) (a : Addr) : Prop := (i ∈ P → R.M a ∨ (R.H0 a = none ∧ ¬ R.G a)) ∧ (i ∉ P → R.H0 a = none ∧ ¬ R.G a)
theorem Src.new {P : List Nat} {R : Rx} {i : Nat} {a : Addr} (n : R.H0 a = none) (g : ¬ R.G a) : Src P R i a := ⟨fun _ => .inr ⟨n, g⟩, fun _ => ⟨n, g⟩⟩
theorem Src.was {P : List Nat} {R : Rx} {i : Nat} {a : Addr} (h : Src P R i a) : R.M a ∨ R.H0 a = none := by
  by_cases c : i ∈ P
  · exact (h.1 c).imp id fun z => z.1
  · exact .inr (h.2 c).1
theorem Src.mono {P : List Nat} {R : Rx} {i : Nat} {a : Addr} {G' : Addr → Prop} (h : Src P R i a) (g : G' a → R.G a) : Src P { R with G := G' } i a := ⟨fun c => (h.1 c).imp id fun z => ⟨z.1, fun y => z.2 (g y)⟩, fun c => ⟨(h.2 c).1, fun y => (h.2 c).2 (g y)⟩⟩
structure HbOk (S : Sc) (R : Rx) : Prop where
  e : Ext Nil S.Hb R.H0
  m : ∀ a, R.M a → S.Hb a = none
def Par (O P : List Nat) (R : Rx) (σ : L2.St) (env : Env) : Prop := ∀ i ∈ P, i ∈ O → ∀ d, env[i]? = some (some d) → σ[i]? = R.A0 i
theorem Par.of {O O' P : List Nat} {R R' : Rx} {σ σ' : L2.St} {env env' : Env} (h : Par O P R σ env) (e : R'.A0 = R.A0) (k : ∀ i ∈ P, i ∈ O' → ∀ d, env'[i]? = some (some d) → i ∈ O ∧ (∃ d', env[i]? = some (some d')) ∧ σ'[i]? = σ[i]?) : Par O' P R' σ' env' := fun i hi hO d hd => by
  obtain ⟨z, ⟨d', y⟩, x⟩ := k i hi hO d hd
  rw [x, e]
  exact h i hi z d' y
theorem Par.nil {O : List Nat} {R : Rx} {σ : L2.St} {env : Env} : Par O [] R σ env := fun _ h => nomatch h
theorem Par.set {O P : List Nat} {R : Rx} {σ : L2.St} {env : Env} {i : Nat} {v : Option V} {d : Option D} (h : Par O P R σ env) (n : i ∉ O ∨ i ∉ P) : Par O P R (σ.set i v) (env.set i d) := h.of rfl fun j hj hO e he => by
  have ne : i ≠ j := fun z => n.elim (fun n => n (z ▸ hO)) fun n => n (z ▸ hj)
  rw [List.getElem?_set_ne ne] at he
  exact ⟨hO, ⟨e, he⟩, List.getElem?_set_ne ne⟩
structure Rel (S : Sc) (O P : List Nat) (R : Rx) (σ : L2.St) (H : Hp) (fp : Fp) (env : Env) : Prop where
  len : env.length = σ.length
  val : ∀ i d, env[i]? = some (some d) → i ∉ O → ∃ v, σ[i]? = some (some v) ∧ Rep S (Fs R fp) H d v
  own : ∀ i d, env[i]? = some (some d) → i ∈ O → ∃ a, σ[i]? = some (some (.ref a)) ∧ Own S (Fs R fp) H d a (fp i)
  non : ∀ i, (i ∉ O ∨ ∀ d, env[i]? ≠ some (some d)) → fp i = []
  dist : ∀ i j a, a ∈ fp i → a ∈ fp j → i = j
  nd : ∀ i, (fp i).Nodup
  src : ∀ i a, a ∈ fp i → Src P R i a
  ext : Ext R.M R.H0 H
  gl : ∀ a, R.G a → H a ≠ none
  live : ∀ i a, a ∈ fp i → H a ≠ none
  dom : ∀ a, R.H0 a ≠ none → H a ≠ none
  mh : ∀ a, R.M a → R.H0 a ≠ none
  tb : LamX.Tabs Tbl.T H
  hb : HbOk S R
  par : Par O P R σ env
section
variable {S : Sc} {O P : List Nat} {R : Rx} {σ : L2.St} {H H' : Hp} {fp : Fp} {env : Env}
theorem Own1.keep {F F' : Addr → Prop} {d : D} {b : Addr} (w : Fwd F H F' H') (k : ∀ u, H b = some u → NT u → H' b = some u) (h : Own1 S F H d b) : Own1 S F' H' d b := by
  cases d with
  | lst ds =>
    obtain ⟨vs, h1, h2⟩ := h
    exact ⟨vs, k _ h1 trivial, RepL.fwd w _ _ h2⟩
  | map ks us =>
    obtain ⟨kvs, h1, h2, h3, h4⟩ := h
    exact ⟨kvs, k _ h1 (S.ndn.t _ _), h2, RepL.fwd w _ _ h3, RepL.fwd w _ _ h4⟩
  | dic ks us =>
    obtain ⟨kvs, h1, h2, h3⟩ := h
    exact ⟨kvs, k _ h1 trivial, h2, RepL.fwd w _ _ h3⟩
  | _ => exact h.elim
theorem OwnF.keep {F F' : Addr → Prop} (w : Fwd F H F' H') : ∀ {bs : List Bool} {ds : List D} {vs : List V} {fl : List Addr}, OwnF S F H bs ds vs fl → (∀ b ∈ fl, ∀ u, H b = some u → NT u → H' b = some u) → OwnF S F' H' bs ds vs fl
  | [], ds, vs, fl, h, _ => ⟨h.1, RepL.fwd w _ _ h.2⟩
  | _ :: _, [], _, _, h, _ => h
  | false :: bs, d :: ds, vs, fl, h, k => by
    obtain ⟨v, r, e, h1, h2⟩ := h
    exact ⟨v, r, e, Rep.fwd w _ _ h1, OwnF.keep w h2 k⟩
  | true :: bs, d :: ds, vs, fl, h, k => by
    rcases h with ⟨b, r, q, e, e2, h1, h2⟩ | ⟨z, v, r, e, h1, h2⟩
    · exact .inl ⟨b, r, q, e, e2, h1.keep w (k b (by rw [e2]; exact List.mem_cons_self)), OwnF.keep w h2 fun c m => k c (by rw [e2]; exact List.mem_cons_of_mem _ m)⟩
    · exact .inr ⟨z, v, r, e, Rep.fwd w _ _ h1, OwnF.keep w h2 k⟩
theorem Own.keep {F F' : Addr → Prop} {d : D} {a : Addr} {l : List Addr} (w : Fwd F H F' H') (k : ∀ b ∈ l, ∀ u, H b = some u → NT u → H' b = some u) (h : Own S F H d a l) : Own S F' H' d a l := by
  cases d with
  | lst ds =>
    obtain ⟨e1, vs, h1, h2⟩ := h
    exact ⟨e1, vs, k a (by rw [e1]; exact List.mem_cons_self) _ h1 trivial, RepL.fwd w _ _ h2⟩
  | ins c ds =>
    obtain ⟨fl, e1, dx, fs, h1, h2, h3⟩ := h
    exact ⟨fl, e1, dx, fs, k a (by rw [e1]; exact List.mem_cons_self) _ h1 trivial, h2, h3.keep w fun b m => k b (by rw [e1]; exact List.mem_cons_of_mem _ m)⟩
  | map ks us =>
    obtain ⟨e1, kvs, h1, h2, h3, h4⟩ := h
    exact ⟨e1, kvs, k a (by rw [e1]; exact List.mem_cons_self) _ h1 (S.ndn.t _ _), h2, RepL.fwd w _ _ h3, RepL.fwd w _ _ h4⟩
  | dic ks us =>
    obtain ⟨e1, kvs, h1, h2, h3⟩ := h
    exact ⟨e1, kvs, k a (by rw [e1]; exact List.mem_cons_self) _ h1 trivial, h2, RepL.fwd w _ _ h3⟩
  | _ => exact h.elim
theorem Own.fwd {F F' : Addr → Prop} {d : D} {a : Addr} {l : List Addr} (e : Ext Nil H H') (m : ∀ a, F' a → F a ∨ H a = none) (h : Own S F H d a l) : Own S F' H' d a l :=
  h.keep ⟨e.mono fun _ z => z.elim, m, fun _ h => e.dom h⟩ fun b _ u q n => e.nil b u q n
theorem Own.mem {F : Addr → Prop} {d : D} {a : Addr} {l : List Addr} (h : Own S F H d a l) : a ∈ l := by
  cases d with
  | lst ds => rw [h.1]; exact List.mem_cons_self
  | ins c ds => obtain ⟨fl, e, _⟩ := h; rw [e]; exact List.mem_cons_self
  | map ks us => rw [h.1]; exact List.mem_cons_self
  | dic ks us => rw [h.1]; exact List.mem_cons_self
  | _ => exact h.elim
theorem OwnF.rep {F F' : Addr → Prop} (m : ∀ x, F' x → F x ∨ H x = none) : ∀ {bs : List Bool} {ds : List D} {vs : List V} {fl : List Addr}, OwnF S F H bs ds vs fl → (∀ b ∈ fl, ¬ F' b) → RepL S F' H ds vs
  | [], ds, vs, fl, h, _ => h.2.less m
  | _ :: _, [], _, _, h, _ => h.1
  | false :: bs, d :: ds, vs, fl, h, k => by
    obtain ⟨v, r, e, h1, h2⟩ := h
    exact ⟨v, r, e, h1.less m, OwnF.rep m h2 k⟩
  | true :: bs, d :: ds, vs, fl, h, k => by
    rcases h with ⟨b, r, q, e, e2, h1, h2⟩ | ⟨z, v, r, e, h1, h2⟩
    rotate_left
    · exact ⟨v, r, e, h1.less m, OwnF.rep m h2 k⟩
    refine ⟨.ref b, r, e, ?_, OwnF.rep m h2 fun c z => k c (by rw [e2]; exact List.mem_cons_of_mem _ z)⟩
    have nb : ¬ F' b := k b (by rw [e2]; exact List.mem_cons_self)
    cases d with
    | lst es =>
      obtain ⟨us, h3, h4⟩ := h1
      exact ⟨b, us, rfl, nb, h3, h4.less m⟩
    | map ks us =>
      obtain ⟨kvs, h3, h4, h5, h6⟩ := h1
      exact ⟨b, kvs, rfl, nb, h3, h4, h5.less m, h6.less m⟩
    | dic ks us =>
      obtain ⟨kvs, h3, h4, h5⟩ := h1
      exact .inr (.inr (.inr ⟨b, kvs, rfl, nb, h3, h4, h5.less m⟩))
    | _ => exact h1.elim
theorem Own.rep {F F' : Addr → Prop} {d : D} {a : Addr} {l : List Addr} (h : Own S F H d a l) (m : ∀ x, F' x → F x ∨ H x = none) (n : ∀ b ∈ l, ¬ F' b) : Rep S F' H d (.ref a) := by
  have na : ¬ F' a := n a h.mem
  cases d with
  | lst ds =>
    obtain ⟨e1, vs, h1, h2⟩ := h
    exact ⟨a, vs, rfl, na, h1, h2.less m⟩
  | ins c ds =>
    obtain ⟨fl, e1, dx, fs, h1, h2, h3⟩ := h
    exact ⟨a, dx, fs, rfl, na, h1, h2, h3.rep m fun b z => n b (by rw [e1]; exact List.mem_cons_of_mem _ z)⟩
  | map ks us =>
    obtain ⟨e1, kvs, h1, h2, h3, h4⟩ := h
    exact ⟨a, kvs, rfl, na, h1, h2, h3.less m, h4.less m⟩
  | dic ks us =>
    obtain ⟨e1, kvs, h1, h2, h3⟩ := h
    exact .inr (.inr (.inr ⟨a, kvs, rfl, na, h1, h2, h3.less m⟩))
  | _ => exact h.elim
theorem OwnF.len {F : Addr → Prop} : ∀ {bs : List Bool} {ds : List D} {vs : List V} {fl : List Addr}, OwnF S F H bs ds vs fl → vs.length = ds.length
  | [], ds, vs, fl, h => h.2.length
  | _ :: _, [], _, _, h => by rw [h.1]; rfl
  | false :: bs, d :: ds, vs, fl, h => by
    obtain ⟨v, r, e, h1, h2⟩ := h
    rw [e, List.length_cons, List.length_cons, OwnF.len h2]
  | true :: bs, d :: ds, vs, fl, h => by
    rcases h with ⟨b, r, q, e, e2, h1, h2⟩ | ⟨z, v, r, e, h1, h2⟩ <;> rw [e, List.length_cons, List.length_cons, OwnF.len h2]
theorem OwnF.get {F : Addr → Prop} : ∀ {bs : List Bool} {ds : List D} {vs : List V} {fl : List Addr} {k : Nat} {d : D}, OwnF S F H bs ds vs fl → bs[k]? ≠ some true → ds[k]? = some d → ∃ v, vs[k]? = some v ∧ Rep S F H d v
  | [], ds, vs, fl, k, d, h, _, e => h.2.get e
  | _ :: _, [], _, _, k, d, h, _, e => by simp at e
  | false :: bs, d' :: ds, vs, fl, 0, d, h, n, e => by
    obtain ⟨v, r, e0, h1, h2⟩ := h
    cases (show d' = d by simpa using e)
    exact ⟨v, by rw [e0]; rfl, h1⟩
  | true :: bs, d' :: ds, vs, fl, 0, d, h, n, e => absurd rfl n
  | false :: bs, d' :: ds, vs, fl, k + 1, d, h, n, e => by
    obtain ⟨v, r, e0, h1, h2⟩ := h
    obtain ⟨u, x1, x2⟩ := OwnF.get h2 (show bs[k]? ≠ some true by simpa using n) (show ds[k]? = some d by simpa using e)
    exact ⟨u, by rw [e0]; simpa using x1, x2⟩
  | true :: bs, d' :: ds, vs, fl, k + 1, d, h, n, e => by
    rcases h with ⟨b, r, q, e0, e2, h1, h2⟩ | ⟨z, v, r, e0, h1, h2⟩
    · obtain ⟨u, x1, x2⟩ := OwnF.get h2 (show bs[k]? ≠ some true by simpa using n) (show ds[k]? = some d by simpa using e)
      exact ⟨u, by rw [e0]; simpa using x1, x2⟩
    · obtain ⟨u, x1, x2⟩ := OwnF.get h2 (show bs[k]? ≠ some true by simpa using n) (show ds[k]? = some d by simpa using e)
      exact ⟨u, by rw [e0]; simpa using x1, x2⟩
theorem OwnF.set {F : Addr → Prop} : ∀ {bs : List Bool} {ds : List D} {vs : List V} {fl : List Addr} {k : Nat} {d : D} {v : V}, OwnF S F H bs ds vs fl → bs[k]? ≠ some true → Rep S F H d v → OwnF S F H bs (ds.set k d) (vs.set k v) fl
  | [], ds, vs, fl, k, d, v, h, _, e => ⟨h.1, h.2.set k e⟩
  | _ :: _, [], _, _, k, d, v, h, _, e => by rw [h.1, h.2]; exact ⟨rfl, rfl⟩
  | false :: bs, d' :: ds, vs, fl, 0, d, v, h, n, e => by
    obtain ⟨u, r, e0, h1, h2⟩ := h
    rw [e0]
    exact ⟨v, r, rfl, e, h2⟩
  | true :: bs, d' :: ds, vs, fl, 0, d, v, h, n, e => absurd rfl n
  | false :: bs, d' :: ds, vs, fl, k + 1, d, v, h, n, e => by
    obtain ⟨u, r, e0, h1, h2⟩ := h
    rw [e0]
    exact ⟨u, _, rfl, h1, OwnF.set h2 (show bs[k]? ≠ some true by simpa using n) e⟩
  | true :: bs, d' :: ds, vs, fl, k + 1, d, v, h, n, e => by
    rcases h with ⟨b, r, q, e0, e2, h1, h2⟩ | ⟨z, u, r, e0, h1, h2⟩
    · rw [e0]
      exact .inl ⟨b, _, q, rfl, e2, h1, OwnF.set h2 (show bs[k]? ≠ some true by simpa using n) e⟩
    · rw [e0]
      exact .inr ⟨z, u, _, rfl, h1, OwnF.set h2 (show bs[k]? ≠ some true by simpa using n) e⟩
theorem OwnF.snoc {F : Addr → Prop} : ∀ {bs : List Bool} {ds : List D} {vs : List V} {fl : List Addr} {d : D} {v : V}, OwnF S F H bs ds vs fl → bs[ds.length]? ≠ some true → Rep S F H d v → OwnF S F H bs (ds ++ [d]) (vs ++ [v]) fl
  | [], ds, vs, fl, d, v, h, _, e => ⟨h.1, h.2.snoc e⟩
  | false :: bs, [], vs, fl, d, v, h, _, e => by
    rw [h.1, h.2]
    refine ⟨v, [], rfl, e, ?_⟩
    cases bs with
    | nil => exact ⟨rfl, rfl⟩
    | cons b bs => exact ⟨rfl, rfl⟩
  | true :: bs, [], _, _, d, v, h, n, e => absurd rfl n
  | false :: bs, d' :: ds, vs, fl, d, v, h, n, e => by
    obtain ⟨u, r, e0, h1, h2⟩ := h
    rw [e0]
    exact ⟨u, _, rfl, h1, OwnF.snoc h2 (show bs[ds.length]? ≠ some true by simpa using n) e⟩
  | true :: bs, d' :: ds, vs, fl, d, v, h, n, e => by
    rcases h with ⟨b, r, q, e0, e2, h1, h2⟩ | ⟨z, u, r, e0, h1, h2⟩
    · rw [e0]
      exact .inl ⟨b, _, q, rfl, e2, h1, OwnF.snoc h2 (show bs[ds.length]? ≠ some true by simpa using n) e⟩
    · rw [e0]
      exact .inr ⟨z, u, _, rfl, h1, OwnF.snoc h2 (show bs[ds.length]? ≠ some true by simpa using n) e⟩
theorem ownF_nil {F : Addr → Prop} {bs : List Bool} : OwnF S F H bs [] [] [] := by
  cases bs with
  | nil => exact ⟨rfl, rfl⟩
  | cons b bs => exact ⟨rfl, rfl⟩
theorem Rel.grow (I : Rel S O P R σ H fp env) (e : Ext Nil H H') : Rel S O P R σ H' fp env where
  len := I.len
  val := fun i d h1 h2 => let ⟨v, a, b⟩ := I.val i d h1 h2; ⟨v, a, b.grow e⟩
  own := fun i d h1 h2 => let ⟨v, a, b⟩ := I.own i d h1 h2; ⟨v, a, b.fwd e fun _ z => .inl z⟩
  non := I.non
  dist := I.dist
  nd := I.nd
  src := I.src
  ext := I.ext.trans (e.mono fun _ z => z.elim)
  gl := fun a h => e.dom (I.gl a h)
  live := fun i a h => e.dom (I.live i a h)
  dom := fun a h => e.dom (I.dom a h)
  mh := I.mh
  tb := tb_ext e I.tb
  hb := I.hb
  par := I.par
theorem Rel.hbH (I : Rel S O P R σ H fp env) : Ext Nil S.Hb H := I.hb.e.seq I.ext fun x m => .inr (I.hb.m x m)
theorem hb_new {Hb : Hp} (e : Ext Nil Hb H) {a : Addr} (h : H a = none) : Hb a = none := by
  cases q : Hb a with
  | none => rfl
  | some o => exact absurd h (e.dom (by rw [q]; exact fun z => nomatch z))
theorem Rel.hbfp (I : Rel S O P R σ H fp env) {i : Nat} {a : Addr} (h : a ∈ fp i) : S.Hb a = none := by
  exact (I.src i a h).was.elim (fun z => I.hb.m a z) fun z => hb_new I.hb.e z
theorem ext_none : Ext Nil (fun _ => none) H := by
  refine ⟨fun _ _ h _ _ => ?_, fun p _ h => ?_, fun _ _ h => ?_⟩
  · cases h
  · obtain ⟨_, h, _⟩ := h
    cases h
  · cases h
theorem Rel.fs (I : Rel S O P R σ H fp env) {a : Addr} (h : Fs R fp a) : H a ≠ none := by
  rcases h with h | ⟨i, h⟩
  · exact I.gl a h
  · exact I.live i a h
theorem FM.sub {μ : Mo} {a : Addr} (h : FM R fp μ a) : Fs R fp a := by
  cases μ with
  | none => exact h
  | some U => exact h.1
theorem Rel.fm (I : Rel S O P R σ H fp env) {μ : Mo} {a : Addr} (h : FM R fp μ a) : H a ≠ none := I.fs h.sub
def Stp (μ : Mo) (R : Rx) (H : Hp) (fp : Fp) (env : Env) (H' : Hp) (fp' : Fp) (env' : Env) : Prop := match μ with
  | none => Fwd (Lv fp) H (Lv fp') H'
  | some _ => Ext Nil H H' ∧ fp' = fp ∧ env' = env
theorem adv_fs {f1 : Fp} (w : Fwd (Lv fp) H (Lv f1) H') : Fwd (Fs R fp) H (Fs R f1) H' :=
  ⟨w.1.mono fun _ z => .inr z, fun a z => z.elim (fun z => .inl (.inl z)) fun z => (w.2.1 a z).imp .inr id, w.2.2⟩
theorem Stp.refl {μ : Mo} : Stp μ R H fp env H fp env := by
  cases μ with
  | none => exact Fwd.refl _ _
  | some U => exact ⟨Ext.refl _ _, rfl, rfl⟩
theorem Stp.grow {μ : Mo} (e : Ext Nil H H') : Stp μ R H fp env H' fp env := by
  cases μ with
  | none => exact Fwd.grow e
  | some U => exact ⟨e, rfl, rfl⟩
theorem Stp.trans {μ : Mo} {H1 H2 : Hp} {f1 f2 : Fp} {e1 e2 : Env} (a : Stp μ R H fp env H1 f1 e1) (b : Stp μ R H1 f1 e1 H2 f2 e2) : Stp μ R H fp env H2 f2 e2 := by
  cases μ with
  | none => exact Fwd.trans a b
  | some U =>
    obtain ⟨a1, a2, a3⟩ := a
    obtain ⟨b1, b2, b3⟩ := b
    exact ⟨a1.trans b1, b2.trans a2, b3.trans a3⟩
theorem Stp.fwd {μ : Mo} {H1 : Hp} {f1 : Fp} {e1 : Env} (a : Stp μ R H fp env H1 f1 e1) : Fwd (FM R fp μ) H (FM R f1 μ) H1 := by
  cases μ with
  | none => exact adv_fs a
  | some U =>
    obtain ⟨a1, rfl, _⟩ := a
    exact Fwd.grow a1
theorem Stp.strong {μ : Mo} {H1 : Hp} {f1 : Fp} {e1 : Env} (a : Stp μ R H fp env H1 f1 e1) : Fwd (Lv fp) H (Lv f1) H1 := by
  cases μ with
  | none => exact a
  | some U =>
    obtain ⟨a1, rfl, _⟩ := a
    exact Fwd.grow a1
theorem Stp.dom {μ : Mo} {H1 : Hp} {f1 : Fp} {e1 : Env} (s : Stp μ R H fp env H1 f1 e1) {a : Addr} (h : H1 a = none) : H a = none := by
  cases q : H a with
  | none => rfl
  | some o => exact absurd h (s.strong.2.2 a (by rw [q]; exact fun z => nomatch z))
end
def RepK (S : Sc) (F : Addr → Prop) (fr : Bool) (H H' : Hp) (d : D) (v : V) : Prop := match fr with
  | false => Rep S F H' d v
  | true => ∃ a vs ds, v = .ref a ∧ H a = none ∧ d = .lst ds ∧ H' a = some (.lst vs) ∧ ¬ F a ∧ RepL S (fun x => F x ∨ x = a) H' ds vs
theorem RepK.rep {S : Sc} {F : Addr → Prop} {fr : Bool} {H H' : Hp} {d : D} {v : V} (h : RepK S F fr H H' d v) : Rep S F H' d v := by
  cases fr with
  | false => exact h
  | true =>
    obtain ⟨a, vs, ds, rfl, _, rfl, h1, h2, h3⟩ := h
    exact ⟨a, vs, rfl, h2, h1, h3.less fun _ z => .inl (.inl z)⟩
def ExcR (S : Sc) (H : Hp) (x : Exn) (cls : Value) (dd : Option Addr) : Prop :=
  cls = .ref (S.ca x.c) ∧ ((x.ds = [] ∧ dd = none) ∨ ∃ b fs, dd = some b ∧ H b = some (.xd fs) ∧ fs.map (·.1) = S.fn x.c ∧ RepL S Nil H x.ds (fs.map (·.2)))
def Want (S : Sc) (O P : List Nat) (E : XK) (μ : Mo) (R : Rx) (σ : L2.St) (H : Hp) (fp : Fp) (env : Env) {α : Type} (o : Out α) (Post : α → Env → Hp → Fp → Prop) : Prop := match o with
  | .ok a env' => ∀ H' fp', Rel S O P R σ H' fp' env' → Stp μ R H fp env H' fp' env' → Post a env' H' fp'
  | .exc x env' => ∀ cls dd H' fp', Rel S O P R σ H' fp' env' → Stp μ R H fp env H' fp' env' → ExcR S H' x cls dd → E cls dd H'
  | .bad => False
section
variable {S : Sc} {O P : List Nat} {R : Rx} {σ : L2.St} {H H' : Hp} {fp : Fp} {env : Env} {E : XK} {μ : Mo}
theorem Want.bind {α β : Type} {o : Out α} {f : α → Env → Out β} {Post : β → Env → Hp → Fp → Prop} (h : Want S O P E μ R σ H fp env (o.bind f) Post) :
    Want S O P E μ R σ H fp env o (fun a e1 H1 f1 => Want S O P E μ R σ H1 f1 e1 (f a e1) Post) := by
  cases o with
  | bad => exact h
  | exc x e => exact h
  | ok a e1 =>
    intro H1 f1 I1 s1
    have h : Want S O P E μ R σ H fp env (f a e1) Post := h
    cases q : f a e1 with
    | bad => rw [q] at h; exact h
    | exc x e =>
      rw [q] at h
      exact fun cls dd H2 f2 I2 s2 x2 => h cls dd H2 f2 I2 (s1.trans s2) x2
    | ok b e2 =>
      rw [q] at h
      exact fun H2 f2 I2 s2 => h H2 f2 I2 (s1.trans s2)
theorem Want.mono {α : Type} {o : Out α} {Po Po' : α → Env → Hp → Fp → Prop} (h : Want S O P E μ R σ H fp env o Po) (k : ∀ a e H1 f1, Rel S O P R σ H1 f1 e → Stp μ R H fp env H1 f1 e → Po a e H1 f1 → Po' a e H1 f1) : Want S O P E μ R σ H fp env o Po' := by
  cases o with
  | bad => exact h
  | exc x e => exact h
  | ok a e1 => exact fun H1 f1 I1 s1 => k a e1 H1 f1 I1 s1 (h H1 f1 I1 s1)
end
theorem fs_plus {R : Rx} {fp : Fp} {a x : Addr} : Fs (R.plus a) fp x ↔ (Fs R fp x ∨ x = a) :=
  ⟨fun z => z.elim (fun z => z.elim (fun z => .inl (.inl z)) .inr) fun z => .inl (.inr z), fun z => z.elim (fun z => z.elim (fun z => .inl (.inl z)) .inr) fun z => .inl (.inr z)⟩
theorem Rel.plus {S : Sc} {O P : List Nat} {R : Rx} {σ : L2.St} {H H' : Hp} {fp : Fp} {env : Env} {a : Addr} (I : Rel S O P R σ H fp env) (n : H a = none) (e : Ext Nil H H') (h : H' a ≠ none) : Rel S O P (R.plus a) σ H' fp env := by
  have w : Fwd (Fs R fp) H (Fs (R.plus a) fp) H' := ⟨e.mono fun _ z => z.elim, fun x z => (fs_plus.mp z).elim .inl fun q => .inr (by rw [q]; exact n), fun x z => e.dom z⟩
  exact ⟨I.len, fun i d h1 h2 => let ⟨v, q, r⟩ := I.val i d h1 h2; ⟨v, q, Rep.fwd w _ _ r⟩, fun i d h1 h2 => let ⟨v, q, r⟩ := I.own i d h1 h2; ⟨v, q, r.fwd e fun x z => (fs_plus.mp z).elim .inl fun q => .inr (by rw [q]; exact n)⟩, I.non, I.dist, I.nd,
    fun i b hb => (I.src i b hb).mono fun z => z.elim id fun q => absurd n (by rw [← q]; exact I.live i b hb),
    I.ext.trans (e.mono fun _ z => z.elim), fun b z => z.elim (fun z => e.dom (I.gl b z)) fun q => by rw [q]; exact h, fun i b hb => e.dom (I.live i b hb), fun b hb => e.dom (I.dom b hb), I.mh, tb_ext e I.tb, ⟨I.hb.e, I.hb.m⟩, I.par⟩
def Sep (S : Sc) (O P : List Nat) (R : Rx) (σ : L2.St) (fr : Bool) (fp' : Fp) (env' : Env) (H' : Hp) (v : V) : Prop := fr = true → ∀ a, v = .ref a → Rel S O P (R.plus a) σ H' fp' env'
theorem sep0 {S : Sc} {O P : List Nat} {R : Rx} {σ : L2.St} {fp' : Fp} {env' : Env} {H' : Hp} {v : V} : Sep S O P R σ false fp' env' H' v := fun z => nomatch z
def PostE (S : Sc) (O P : List Nat) (R : Rx) (σ : L2.St) (μ : Mo) (fr : Bool) (H : Hp) (Q : VK) : D → Env → Hp → Fp → Prop := fun d env' H' fp' => ∀ v, RepK S (FM R fp' μ) fr H H' d v → Sep S O P R σ fr fp' env' H' v → Q v H'
def RefE (S : Sc) (O P : List Nat) (E : XK) (μ : Mo) (fr : Bool) (t : TE) (m : EM) : Prop :=
  ∀ (R : Rx) (σ : L2.St) (H : Hp) (fp : Fp) (env : Env), Rel S O P R σ H fp env → ∀ Q : VK, Want S O P E μ R σ H fp env (m env) (PostE S O P R σ μ fr H Q) → t σ H Q
def RefT (S : Sc) (O P : List Nat) (E : XK) (μ : Mo) (t : TT) (m : TM) : Prop :=
  ∀ (R : Rx) (σ : L2.St) (H : Hp) (fp : Fp) (env : Env), Rel S O P R σ H fp env → ∀ Q : Bool → Hp → Prop, Want S O P E μ R σ H fp env (m env) (fun b _ H' _ => Q b H') → t σ H Q
def RefA (S : Sc) (O P : List Nat) (E : XK) (μ : Mo) (t : TA) (m : AM) : Prop :=
  ∀ (R : Rx) (σ : L2.St) (H : Hp) (fp : Fp) (env : Env), Rel S O P R σ H fp env → ∀ Q : List V → Hp → Prop, Want S O P E μ R σ H fp env (m env) (fun ds _ H' fp' => ∀ vs, RepL S (FM R fp' μ) H' ds vs → Q vs H') → t σ H Q
end Mir
namespace Mir
open PySem PySem.Spec PyProof.Rows L2
variable [Tbl]
def eVar (i : Nat) : EM := fun env => match env[i]? with
  | some (some d) => .ok d env
  | _ => .bad
def eC (d : D) : EM := fun env => .ok d env
def e1 (f : D → Option D) (a : EM) : EM := fun env => (a env).bind fun x e => .opt (f x) e
def e2 (f : D → D → Option D) (a b : EM) : EM := fun env => (a env).bind fun x e => (b e).bind fun y e' => .opt (f x y) e'
def eA (f : List D → Option D) (a : AM) : EM := fun env => (a env).bind fun xs e => .opt (f xs) e
def D.boo : D → Option Bool
  | .bl b => some b
  | _ => none
def mTest (a : EM) : TM := fun env => (a env).bind fun x e => .opt x.boo e
def mAnd (a b : TM) : TM := fun env => (a env).bind fun c e => if c then b e else .ok false e
def mOr (a b : TM) : TM := fun env => (a env).bind fun c e => if c then .ok true e else b e
def mNot (a : TM) : TM := fun env => (a env).bind fun c e => .ok (!c) e
def eAndV (a b : EM) : EM := fun env => (a env).bind fun x e => (Out.opt x.boo e).bind fun c e' => if c then b e' else .ok (.bl false) e'
def eOrV (a b : EM) : EM := fun env => (a env).bind fun x e => (Out.opt x.boo e).bind fun c e' => if c then .ok (.bl true) e' else b e'
def eNotV (a : EM) : EM := fun env => (a env).bind fun x e => (Out.opt x.boo e).bind fun c e' => .ok (.bl (!c)) e'
def eIf (t : TM) (a b : EM) : EM := fun env => (t env).bind fun c e => if c then a e else b e
def aNil : AM := fun env => .ok [] env
def aCons (a : EM) (r : AM) : AM := fun env => (a env).bind fun x e => (r e).bind fun xs e' => .ok (x :: xs) e'
def D.seq : D → Option (List D)
  | .tup ds => some ds
  | .lst ds => some ds
  | _ => none
def aStar (a : EM) (r : AM) : AM := fun env => (a env).bind fun x e => (Out.opt x.seq e).bind fun ys e1 => (r e1).bind fun xs e' => .ok (ys ++ xs) e'
def eTup (a : AM) : EM := eA (fun xs => if xs.length ≤ 100000 then some (.tup xs) else none) a
def eLst (a : AM) : EM := eA (fun xs => if xs.length ≤ 100000 then some (.lst xs) else none) a
mutual
def D.pure : D → Bool
  | .non => true
  | .bl _ => true
  | .int _ => true
  | .str _ => true
  | .tup ds => D.pureL ds
  | _ => false
def D.pureL : List D → Bool
  | [] => true
  | d :: ds => d.pure && D.pureL ds
end
def eUp (a : EM) : EM := fun env => (a env).bind fun x e => if x.pure then .ok x e else .bad
def Op1 (S : Sc) (fr : Bool) (r : V → Hp → VK → Prop) (f : D → Option D) : Prop :=
  ∀ (F : Addr → Prop) (H : Hp) (x : D) (v : V) (z : D) (Q : VK), (∀ a, F a → H a ≠ none) → Rep S F H x v → f x = some z → (∀ w H', Ext Nil H H' → RepK S F fr H H' z w → Q w H') → r v H Q
def Op2 (S : Sc) (fr : Bool) (r : V → V → Hp → VK → Prop) (f : D → D → Option D) : Prop :=
  ∀ (F : Addr → Prop) (H : Hp) (x y : D) (v u : V) (z : D) (Q : VK), (∀ a, F a → H a ≠ none) → Rep S F H x v → Rep S F H y u → f x y = some z → (∀ w H', Ext Nil H H' → RepK S F fr H H' z w → Q w H') → r v u H Q
def OpA (S : Sc) (fr : Bool) (r : List V → Hp → VK → Prop) (f : List D → Option D) : Prop :=
  ∀ (F : Addr → Prop) (H : Hp) (xs : List D) (vs : List V) (z : D) (Q : VK), (∀ a, F a → H a ≠ none) → RepL S F H xs vs → f xs = some z → (∀ w H', Ext Nil H H' → RepK S F fr H H' z w → Q w H') → r vs H Q
section
variable {S : Sc} {O P : List Nat} {E : XK} {μ : Mo} {fr fa fb : Bool} {ta tb te : TE} {ma mb : EM} {t u : TT} {m n : TM}
theorem RepK.back {F : Addr → Prop} {H H1 H' : Hp} {d : D} {v : V} (h : RepK S F fr H1 H' d v) (k : ∀ a, H1 a = none → H a = none) : RepK S F fr H H' d v := by
  cases fr with
  | false => exact h
  | true =>
    obtain ⟨a, vs, ds, e1, e2, e3⟩ := h
    exact ⟨a, vs, ds, e1, k a e2, e3⟩
theorem ref_var {i : Nat} (hO : i ∉ O) : RefE S O P E μ false (tVar i) (eVar i) := by
  intro R σ H fp env I Q h
  unfold eVar at h
  split at h
  · rename_i d e
    obtain ⟨v, h1, h2⟩ := I.val i d e hO
    exact ⟨v, h1, h H fp I Stp.refl v (h2.less fun a z => .inl z.sub) sep0⟩
  · exact h.elim
theorem ref_own {i : Nat} {U : List Nat} (hO : i ∈ O) (hU : i ∈ U) : RefE S O P E (some U) false (tVar i) (eVar i) := by
  intro R σ H fp env I Q h
  unfold eVar at h
  split at h
  · rename_i d e
    obtain ⟨a, h1, h2⟩ := I.own i d e hO
    exact ⟨_, h1, h H fp I Stp.refl _ (h2.rep (F' := FM R fp (some U)) (fun x z => .inl z.1) fun b m z => z.2 ⟨i, hU, m⟩) sep0⟩
  · exact h.elim
theorem ref_c {d : D} {v : V} (h : ∀ F H, Rep S F H d v) : RefE S O P E μ false (tC v) (eC d) := by
  intro R σ H fp env I Q w
  exact w H fp I Stp.refl v (h _ _) sep0
theorem ref_int {i : Int} : RefE S O P E μ false (tC (.int i)) (eC (.int i)) := ref_c fun _ _ => rfl
theorem ref_str {i : Str} : RefE S O P E μ false (tC (.str i)) (eC (.str i)) := ref_c fun _ _ => rfl
theorem ref_bl {i : Bool} : RefE S O P E μ false (tC (.bl i)) (eC (.bl i)) := ref_c fun _ _ => rfl
theorem ref_non : RefE S O P E μ false (tC .non) (eC .non) := ref_c fun _ _ => rfl
theorem want_opt {R : Rx} {σ : L2.St} {H H1 : Hp} {f1 : Fp} {e1 : Env} {o : Option D} {Q : VK} {z : D} {w : V} {H2 : Hp} (h : Want S O P E μ R σ H1 f1 e1 (Out.opt o e1) (PostE S O P R σ μ fr H Q))
    (e : o = some z) (I : Rel S O P R σ H1 f1 e1) (k : ∀ a, H1 a = none → H a = none) (x : Ext Nil H1 H2) (r : RepK S (FM R f1 μ) fr H1 H2 z w) : Q w H2 := by
  subst e
  refine h H2 f1 (I.grow x) (Stp.grow x) w (r.back k) fun hf a ea => ?_
  subst hf
  obtain ⟨a', vs, ds, e1, e2, _, e3, _⟩ := r
  rw [ea] at e1
  cases e1
  exact I.plus e2 x (by rw [e3]; exact fun z => nomatch z)
theorem want_some {R : Rx} {σ : L2.St} {H1 : Hp} {f1 : Fp} {e1 : Env} {α : Type} {o : Option α} {Po : α → Env → Hp → Fp → Prop} (h : Want S O P E μ R σ H1 f1 e1 (Out.opt o e1) Po) : ∃ z, o = some z := by
  cases o with
  | none => exact h.elim
  | some z => exact ⟨z, rfl⟩
theorem ref_op2 {r : R2} {f : D → D → Option D} (hr : Op2 S fr r f) (ha : RefE S O P E μ fa ta ma) (hb : RefE S O P E μ fb tb mb) : RefE S O P E μ fr (tOp r ta tb) (e2 f ma mb) := by
  intro R σ H fp env I Q h
  refine ha R σ H fp env I _ ((Want.bind h).mono fun x e1 H1 f1 I1 s1 h1 v hv _ => ?_)
  refine hb R σ H1 f1 e1 I1 _ ((Want.bind h1).mono fun y e2 H2 f2 I2 s2 h2 u hu _ => ?_)
  obtain ⟨z, hz⟩ := want_some h2
  exact hr (FM R f2 μ) H2 x y v u z Q (fun a q => I2.fm q) (Rep.fwd s2.fwd _ _ hv.rep) hu.rep hz fun w H' ex hk => want_opt h2 hz I2 (fun a q => (s1.trans s2).dom q) ex hk
theorem ref_op1 {r : V → Hp → VK → Prop} {f : D → Option D} (hr : Op1 S fr r f) (ha : RefE S O P E μ fa ta ma) : RefE S O P E μ fr (tUn r ta) (e1 f ma) := by
  intro R σ H fp env I Q h
  refine ha R σ H fp env I _ ((Want.bind h).mono fun x e1 H1 f1 I1 s1 h1 v hv _ => ?_)
  obtain ⟨z, hz⟩ := want_some h1
  exact hr (FM R f1 μ) H1 x v z Q (fun a q => I1.fm q) hv.rep hz fun w H' ex hk => want_opt h1 hz I1 (fun a q => s1.dom q) ex hk
theorem ref_anil : RefA S O P E μ tNil aNil := fun R σ H fp env I Q h => h H fp I Stp.refl [] .nil
theorem ref_acons {tr : TA} {mr : AM} (ha : RefE S O P E μ fa ta ma) (hr : RefA S O P E μ tr mr) : RefA S O P E μ (tCons ta tr) (aCons ma mr) := by
  intro R σ H fp env I Q h
  refine ha R σ H fp env I _ ((Want.bind h).mono fun x e1 H1 f1 I1 s1 h1 v hv _ => ?_)
  refine hr R σ H1 f1 e1 I1 _ ((Want.bind h1).mono fun xs e2 H2 f2 I2 s2 h2 vs hvs => ?_)
  exact h2 H2 f2 I2 Stp.refl _ (.cons (Rep.fwd s2.fwd _ _ hv.rep) hvs)
theorem ref_opA {tA : TA} {mA : AM} {r : List V → Hp → VK → Prop} {f : List D → Option D} (hr : OpA S fr r f) (ha : RefA S O P E μ tA mA) : RefE S O P E μ fr (tCB r tA) (eA f mA) := by
  intro R σ H fp env I Q h
  refine ha R σ H fp env I _ ((Want.bind h).mono fun xs e1 H1 f1 I1 s1 h1 vs hv => ?_)
  obtain ⟨z, hz⟩ := want_some h1
  exact hr (FM R f1 μ) H1 xs vs z Q (fun a q => I1.fm q) hv hz fun w H' ex hk => want_opt h1 hz I1 (fun a q => s1.dom q) ex hk
theorem sz_of {n : Nat} (h : n ≤ 100000) : n ≤ sizeLine := Nat.le_trans h (by decide)
theorem ref_tup {tA : TA} {mA : AM} (ha : RefA S O P E μ tA mA) : RefE S O P E μ false (tTup tA) (eTup mA) := by
  refine ref_opA (r := fun xs H1 Q => xs.length ≤ sizeLine ∧ ∀ p, H1 p = none → Q (.ref p) (upd H1 p (.tup xs))) (fun F H xs vs z Q hF hx hz k => ?_) ha
  split at hz
  · cases hz
    refine ⟨by rw [hx.length]; exact sz_of (by assumption), fun p hp => k _ _ (Ext.new hp) ?_⟩
    exact ⟨p, vs, rfl, .inl (.inl upd_same), hx.grow (Ext.new hp)⟩
  · cases hz
theorem ref_lst {tA : TA} {mA : AM} (ha : RefA S O P E μ tA mA) : RefE S O P E μ true (tLst tA) (eLst mA) := by
  refine ref_opA (r := fun xs H1 Q => xs.length ≤ sizeLine ∧ ∀ p, H1 p = none → Q (.ref p) (upd H1 p (.lst xs))) (fun F H xs vs z Q hF hx hz k => ?_) ha
  split at hz
  · cases hz
    refine ⟨by rw [hx.length]; exact sz_of (by assumption), fun p hp => k _ _ (Ext.new hp) ?_⟩
    refine ⟨p, vs, xs, rfl, hp, rfl, upd_same, fun z => hF p z hp, ?_⟩
    exact (hx.less (F' := fun x => F x ∨ x = p) fun a z => z.elim .inl fun e => .inr (by rw [e]; exact hp)).grow (Ext.new hp)
  · cases hz
theorem ref_test (ha : RefE S O P E μ fa ta ma) : RefT S O P E μ (tTest ta) (mTest ma) := by
  intro R σ H fp env I Q h
  refine ha R σ H fp env I _ ((Want.bind h).mono fun x e1 H1 f1 I1 s1 h1 v hv _ => ?_)
  obtain ⟨b, hb⟩ := want_some h1
  rw [hb] at h1
  have hv := hv.rep
  cases x with
  | bl c =>
    cases hb
    exact ⟨_, hv, h1 H1 f1 I1 Stp.refl⟩
  | _ => cases hb
theorem ref_testB (ha : RefE S O P E μ fa ta ma) : RefT S O P E μ (tB ta) (mTest ma) := ref_test ha
theorem ref_and (h1 : RefT S O P E μ t m) (h2 : RefT S O P E μ u n) : RefT S O P E μ (tAnd t u) (mAnd m n) := by
  intro R σ H fp env I Q h
  refine h1 R σ H fp env I _ ((Want.bind h).mono fun c e1 H1 f1 I1 s1 hp => ?_)
  cases c with
  | true => exact h2 R σ H1 f1 e1 I1 Q hp
  | false => exact hp H1 f1 I1 Stp.refl
theorem ref_or (h1 : RefT S O P E μ t m) (h2 : RefT S O P E μ u n) : RefT S O P E μ (tOr t u) (mOr m n) := by
  intro R σ H fp env I Q h
  refine h1 R σ H fp env I _ ((Want.bind h).mono fun c e1 H1 f1 I1 s1 hp => ?_)
  cases c with
  | false => exact h2 R σ H1 f1 e1 I1 Q hp
  | true => exact hp H1 f1 I1 Stp.refl
theorem ref_not (h1 : RefT S O P E μ t m) : RefT S O P E μ (tNot t) (mNot m) := by
  intro R σ H fp env I Q h
  exact h1 R σ H fp env I _ ((Want.bind h).mono fun c e1 H1 f1 I1 s1 hp => hp H1 f1 I1 Stp.refl)
theorem ref_andV (ha : RefE S O P E μ fa ta ma) (hb : RefE S O P E μ fb tb mb) : RefE S O P E μ false (tAndV ta tb) (eAndV ma mb) := by
  intro R σ H fp env I Q h
  refine ha R σ H fp env I _ ((Want.bind h).mono fun x e1 H1 f1 I1 s1 h1 v hv _ => ?_)
  have h5 := Want.bind h1
  obtain ⟨b, hb'⟩ := want_some h5
  rw [hb'] at h5
  have hw := hv.rep
  cases x with
  | bl c =>
    cases hb'
    refine ⟨_, hw, ?_⟩
    have h6 := h5 H1 f1 I1 Stp.refl
    cases b with
    | true => exact hb R σ H1 f1 e1 I1 Q (Want.mono h6 fun d e H2 f2 I2 s2 q v hv _ => q v hv.rep sep0)
    | false => exact h6 H1 f1 I1 Stp.refl _ rfl sep0
  | _ => cases hb'
theorem ref_orV (ha : RefE S O P E μ fa ta ma) (hb : RefE S O P E μ fb tb mb) : RefE S O P E μ false (tOrV ta tb) (eOrV ma mb) := by
  intro R σ H fp env I Q h
  refine ha R σ H fp env I _ ((Want.bind h).mono fun x e1 H1 f1 I1 s1 h1 v hv _ => ?_)
  have h5 := Want.bind h1
  obtain ⟨b, hb'⟩ := want_some h5
  rw [hb'] at h5
  have hw := hv.rep
  cases x with
  | bl c =>
    cases hb'
    refine ⟨_, hw, ?_⟩
    have h6 := h5 H1 f1 I1 Stp.refl
    cases b with
    | false => exact hb R σ H1 f1 e1 I1 Q (Want.mono h6 fun d e H2 f2 I2 s2 q v hv _ => q v hv.rep sep0)
    | true => exact h6 H1 f1 I1 Stp.refl _ rfl sep0
  | _ => cases hb'
theorem ref_notV (ha : RefE S O P E μ fa ta ma) : RefE S O P E μ false (tNotV ta) (eNotV ma) := by
  intro R σ H fp env I Q h
  refine ha R σ H fp env I _ ((Want.bind h).mono fun x e1 H1 f1 I1 s1 h1 v hv _ => ?_)
  have h5 := Want.bind h1
  obtain ⟨b, hb'⟩ := want_some h5
  rw [hb'] at h5
  have hw := hv.rep
  cases x with
  | bl c =>
    cases hb'
    exact ⟨_, hw, (h5 H1 f1 I1 Stp.refl) H1 f1 I1 Stp.refl _ rfl sep0⟩
  | _ => cases hb'
theorem ref_if (ht : RefT S O P E μ t m) (ha : RefE S O P E μ fr ta ma) (hb : RefE S O P E μ fr tb mb) : RefE S O P E μ fr (tIf t ta tb) (eIf m ma mb) := by
  intro R σ H fp env I Q h
  refine ht R σ H fp env I _ ((Want.bind h).mono fun c e1 H1 f1 I1 s1 hp => ?_)
  cases c with
  | true => exact ha R σ H1 f1 e1 I1 Q (Want.mono hp fun d e H2 f2 I2 s2 q v hv sp => q v (hv.back fun a z => s1.dom z) sp)
  | false => exact hb R σ H1 f1 e1 I1 Q (Want.mono hp fun d e H2 f2 I2 s2 q v hv sp => q v (hv.back fun a z => s1.dom z) sp)
mutual
theorem rep_pure {F F' : Addr → Prop} {H : Hp} : ∀ (d : D) (v : V), d.pure = true → Rep S F H d v → Rep S F' H d v
  | .non, _, _, h => h
  | .bl _, _, _, h => h
  | .int _, _, _, h => h
  | .str _, _, _, h => h
  | .tup ds, v, p, h => by
    obtain ⟨a, vs, rfl, h1, h2⟩ := h
    exact ⟨a, vs, rfl, h1, repL_pure ds vs p h2⟩
  | .lst _, _, p, _ => by cases p
  | .ins _ _, _, p, _ => by cases p
  | .dic _ _, _, p, _ => by cases p
  | .map _ _, _, p, _ => by cases p
theorem repL_pure {F F' : Addr → Prop} {H : Hp} : ∀ (ds : List D) (vs : List V), D.pureL ds = true → RepL S F H ds vs → RepL S F' H ds vs
  | [], _, _, h => h
  | d :: ds, vs, p, h => by
    obtain ⟨v, r, rfl, h1, h2⟩ := h
    have p := (Bool.and_eq_true_iff.mp p)
    exact ⟨v, r, rfl, rep_pure d v p.1 h1, repL_pure ds r p.2 h2⟩
end
theorem ref_up {U : List Nat} (ha : RefE S O P E (some U) fa ta ma) : RefE S O P E none false ta (eUp ma) := by
  intro R σ H fp env I Q h
  have key : Want S O P E (some U) R σ H fp env (ma env) (PostE S O P R σ (some U) fa H Q) := by
    have h : Want S O P E none R σ H fp env ((ma env).bind _) _ := h
    cases q : ma env with
    | bad => rw [q] at h; exact h
    | exc x e => rw [q] at h; exact fun cls dd H' fp' I' s' => h cls dd H' fp' I' s'.strong
    | ok d e =>
      rw [q] at h
      intro H' fp' I' s' v hv _
      have h : Want S O P E none R σ H fp env (if d.pure then Out.ok d e else Out.bad) _ := h
      by_cases c : d.pure = true
      · rw [if_pos c] at h
        exact h H' fp' I' s'.strong v (rep_pure d v c hv.rep) sep0
      · rw [if_neg c] at h
        exact h.elim
  exact ha R σ H fp env I Q key
theorem ref_upT {U : List Nat} (ha : RefT S O P E (some U) t m) : RefT S O P E none t m := by
  intro R σ H fp env I Q h
  refine ha R σ H fp env I Q ?_
  cases q : m env with
  | bad => rw [q] at h; exact h
  | exc x e => rw [q] at h; exact fun cls dd H' fp' I' s' => h cls dd H' fp' I' s'.strong
  | ok d e => rw [q] at h; exact fun H' fp' I' s' => h H' fp' I' s'.strong
end
end Mir
namespace Mir
open PySem PySem.Spec PyProof.Rows L2
variable [Tbl]
def RG (P : List Nat) (R : Rx) (fp : Fp) : Addr → Prop := fun x => R.G x ∨ ∃ i, i ∈ P ∧ x ∈ fp i
def RetR (S : Sc) (P : List Nat) (fr : Bool) (R : Rx) (fp : Fp) (H' : Hp) (d : D) (v : V) : Prop := RepK S (RG P R fp) fr R.H0 H' d v
theorem RepK.lessF {S : Sc} {F F' : Addr → Prop} {fr : Bool} {H H' : Hp} {d : D} {v : V} (h : RepK S F fr H H' d v) (m : ∀ x, F' x → F x) : RepK S F' fr H H' d v := by
  cases fr with
  | false => exact Rep.less h fun x z => .inl (m x z)
  | true =>
    obtain ⟨a, vs, ds, e1, e2, e3, e4, e5, e6⟩ := h
    exact ⟨a, vs, ds, e1, e2, e3, e4, fun z => e5 (m a z), e6.less fun x z => .inl (z.imp (m x) id)⟩
def WantS (S : Sc) (O P : List Nat) (E : XK) (fr : Bool) (R : Rx) (H : Hp) (fp : Fp) (o : Fl) (D : Ends) (σ : L2.St) : Prop := match o with
  | .next env' => ∀ σ' H' fp', Rel S O P R σ' H' fp' env' → Fwd (Lv fp) H (Lv fp') H' → D.nx σ' H'
  | .brk env' => ∀ σ' H' fp', Rel S O P R σ' H' fp' env' → Fwd (Lv fp) H (Lv fp') H' → D.bk σ' H'
  | .cont env' => ∀ σ' H' fp', Rel S O P R σ' H' fp' env' → Fwd (Lv fp) H (Lv fp') H' → D.ct σ' H'
  | .ret d env' => ∀ σ' v H' fp', Rel S O P R σ' H' fp' env' → Fwd (Lv fp) H (Lv fp') H' → RetR S P fr R fp' H' d v → D.rt v H'
  | .exc x env' => ∀ cls dd σ' H' fp', Rel S O P R σ' H' fp' env' → Fwd (Lv fp) H (Lv fp') H' → ExcR S H' x cls dd → E cls dd H'
  | .bad => False
def RefS (S : Sc) (O P : List Nat) (E : XK) (fr : Bool) (t : TS) (m : SM) : Prop :=
  ∀ (R : Rx) (σ : L2.St) (H : Hp) (fp : Fp) (env : Env), Rel S O P R σ H fp env → ∀ D : Ends, WantS S O P E fr R H fp (m env) D σ → t D σ H
def Fl.bind (o : Fl) (f : SM) : Fl := match o with
  | .next e => f e
  | o => o
@[simp] theorem Fl.bind_next (e : Env) (f : SM) : (Fl.next e).bind f = f e := rfl
@[simp] theorem Fl.bind_ret (d : D) (e : Env) (f : SM) : (Fl.ret d e).bind f = .ret d e := rfl
@[simp] theorem Fl.bind_brk (e : Env) (f : SM) : (Fl.brk e).bind f = .brk e := rfl
@[simp] theorem Fl.bind_cont (e : Env) (f : SM) : (Fl.cont e).bind f = .cont e := rfl
@[simp] theorem Fl.bind_exc (d : Exn) (e : Env) (f : SM) : (Fl.exc d e).bind f = .exc d e := rfl
@[simp] theorem Fl.bind_bad (f : SM) : Fl.bad.bind f = .bad := rfl
def sNext : SM := fun e => .next e
def sSeq (a b : SM) : SM := fun env => (a env).bind b
def Out.fl {α : Type} (o : Out α) (f : α → Env → Fl) : Fl := match o with
  | .ok a e => f a e
  | .exc x e => .exc x e
  | .bad => .bad
@[simp] theorem Out.fl_ok {α : Type} (a : α) (e : Env) (f : α → Env → Fl) : (Out.ok a e).fl f = f a e := rfl
@[simp] theorem Out.fl_exc {α : Type} (x : Exn) (e : Env) (f : α → Env → Fl) : (Out.exc x e : Out α).fl f = .exc x e := rfl
@[simp] theorem Out.fl_bad {α : Type} (f : α → Env → Fl) : (Out.bad : Out α).fl f = .bad := rfl
def sIf (t : TM) (a b : SM) : SM := fun env => (t env).fl fun c e => if c then a e else b e
abbrev GM := D → Env → Option Env
def gSet (i : Nat) : GM := fun d env => some (env.set i (some d))
def gTupM : List GM → List D → Env → Option Env
  | [], [], env => some env
  | g :: gs, d :: ds, env => (g d env).bind (gTupM gs ds)
  | _, _, _ => none
def gTupleM (gs : List GM) : GM := fun d env => match d with
  | .tup ds => gTupM gs ds env
  | _ => none
def sAsg (a : EM) (g : GM) : SM := fun env => (a env).fl fun d e => match g d e with
  | some e' => .next e'
  | none => .bad
def sDrop (a : EM) : SM := fun env => (a env).fl fun _ e => .next e
def sRet (a : EM) : SM := fun env => (a env).fl fun d e => .ret d e
def sRetN : SM := fun env => .ret .non env
def sBad : SM := fun _ => .bad
section
variable {S : Sc} {O P : List Nat} {E : XK} {μ : Mo} {fr fa : Bool} {ta : TE} {ma : EM} {t u : TS} {m n : SM} {tt : TT} {mt : TM}
theorem WantS.bind {R : Rx} {H : Hp} {fp : Fp} {o : Fl} {f : SM} {D : Ends} {σ : L2.St} {tu : TS} (h : WantS S O P E fr R H fp (o.bind f) D σ) (k : RefS S O P E fr tu f) : WantS S O P E fr R H fp o { D with nx := tu D } σ := by
  cases o with
  | next e1 =>
    intro σ1 H1 f1 I1 w1
    refine k R σ1 H1 f1 e1 I1 D ?_
    have h : WantS S O P E fr R H fp (f e1) D σ := h
    cases q : f e1 with
    | next e => rw [q] at h; exact fun σ2 H2 f2 I2 w2 => h σ2 H2 f2 I2 (w1.trans w2)
    | brk e => rw [q] at h; exact fun σ2 H2 f2 I2 w2 => h σ2 H2 f2 I2 (w1.trans w2)
    | cont e => rw [q] at h; exact fun σ2 H2 f2 I2 w2 => h σ2 H2 f2 I2 (w1.trans w2)
    | ret d e => rw [q] at h; exact fun σ2 v H2 f2 I2 w2 r => h σ2 v H2 f2 I2 (w1.trans w2) r
    | exc d e => rw [q] at h; exact fun cls dd σ2 H2 f2 I2 w2 r => h cls dd σ2 H2 f2 I2 (w1.trans w2) r
    | bad => rw [q] at h; exact h
  | brk e => exact h
  | cont e => exact h
  | ret d e => exact h
  | exc d e => exact h
  | bad => exact h
theorem rs_seq (h1 : RefS S O P E fr t m) (h2 : RefS S O P E fr u n) : RefS S O P E fr (tSeq t u) (sSeq m n) := fun R σ H fp env I D h => h1 R σ H fp env I _ (WantS.bind h h2)
theorem rs_next : RefS S O P E fr tNext sNext := fun R σ H fp env I D h => h σ H fp I (Fwd.refl _ _)
theorem rs_bad : RefS S O P E fr tNever sBad := fun R σ H fp env I D h => h
theorem want_fl {R : Rx} {σ : L2.St} {H : Hp} {fp : Fp} {env : Env} {α : Type} {o : Out α} {f : α → Env → Fl} {D : Ends} (h : WantS S O P E fr R H fp (o.fl f) D σ) :
    Want S O P E μ R σ H fp env o (fun a e1 H1 f1 => WantS S O P E fr R H1 f1 (f a e1) D σ) := by
  cases o with
  | bad => exact h
  | exc x e => exact fun cls dd H' fp' I' s' r => h cls dd σ H' fp' I' s'.strong r
  | ok a e1 =>
    intro H1 f1 I1 s1
    have h : WantS S O P E fr R H fp (f a e1) D σ := h
    have w1 := s1.strong
    cases q : f a e1 with
    | next e => rw [q] at h; exact fun σ2 H2 f2 I2 w2 => h σ2 H2 f2 I2 (w1.trans w2)
    | brk e => rw [q] at h; exact fun σ2 H2 f2 I2 w2 => h σ2 H2 f2 I2 (w1.trans w2)
    | cont e => rw [q] at h; exact fun σ2 H2 f2 I2 w2 => h σ2 H2 f2 I2 (w1.trans w2)
    | ret d e => rw [q] at h; exact fun σ2 v H2 f2 I2 w2 r => h σ2 v H2 f2 I2 (w1.trans w2) r
    | exc d e => rw [q] at h; exact fun cls dd σ2 H2 f2 I2 w2 r => h cls dd σ2 H2 f2 I2 (w1.trans w2) r
    | bad => rw [q] at h; exact h
theorem rs_if (ht : RefT S O P E μ tt mt) (h1 : RefS S O P E fr t m) (h2 : RefS S O P E fr u n) : RefS S O P E fr (tIfS tt t u) (sIf mt m n) := by
  intro R σ H fp env I D h
  refine ht R σ H fp env I _ ((want_fl h).mono fun c e1 H1 f1 I1 s1 hp => ?_)
  cases c with
  | true => exact h1 R σ H1 f1 e1 I1 D hp
  | false => exact h2 R σ H1 f1 e1 I1 D hp
theorem rs_drop (ha : RefE S O P E μ fa ta ma) : RefS S O P E fr (tDrop ta) (sDrop ma) := by
  intro R σ H fp env I D h
  exact ha R σ H fp env I _ ((want_fl h).mono fun d e1 H1 f1 I1 s1 hp v hv _ => hp σ H1 f1 I1 (Fwd.refl _ _))
structure RefG (S : Sc) (O P : List Nat) (ws : List Nat) (tg : TG) (g : GM) : Prop where
  loc : ∀ d env e, g d env = some e → e.length = env.length ∧ ∀ i, i ∉ ws → e[i]? = env[i]?
  run : ∀ (R : Rx) (σ : L2.St) (H : Hp) (fp : Fp) (env : Env) (d : D) (v : V) (e : Env), Rel S O P R σ H fp env → Rep S (Fs R fp) H d v → g d env = some e → ∀ Q : L2.St → Hp → Prop, (∀ σ', Rel S O P R σ' H fp e → (∀ i, i ∉ ws → σ'[i]? = σ[i]?) → Q σ' H) → tg v σ H Q
theorem Rel.set {R : Rx} {σ : L2.St} {H : Hp} {fp : Fp} {env : Env} {i : Nat} {d : D} {v : V} (I : Rel S O P R σ H fp env) (hO : i ∉ O) (r : Rep S (Fs R fp) H d v) : Rel S O P R (σ.set i (some v)) H fp (env.set i (some d)) where
  len := by rw [List.length_set, List.length_set, I.len]
  val := fun j d' h1 h2 => by
    by_cases e : i = j
    · subst e
      have hl : i < env.length := by
        have q := (List.getElem?_eq_some_iff.mp h1).1
        rwa [List.length_set] at q
      rw [List.getElem?_set_self hl] at h1
      cases h1
      exact ⟨v, List.getElem?_set_self (by rw [← I.len]; exact hl), r⟩
    · rw [List.getElem?_set_ne e] at h1 ⊢
      exact I.val j d' h1 h2
  own := fun j d' h1 h2 => by
    have e : i ≠ j := fun z => hO (z ▸ h2)
    rw [List.getElem?_set_ne e] at h1 ⊢
    exact I.own j d' h1 h2
  non := fun j h => I.non j (by
    rcases h with h | h
    · exact .inl h
    · by_cases e : i = j
      · exact .inl (e ▸ hO)
      · exact .inr fun d' q => h d' (by rw [List.getElem?_set_ne e]; exact q))
  dist := I.dist
  nd := I.nd
  src := I.src
  ext := I.ext
  gl := I.gl
  live := I.live
  dom := I.dom
  mh := I.mh
  tb := I.tb
  hb := I.hb
  par := I.par.set (.inl hO)
theorem rg_set {i : Nat} (hO : i ∉ O) : RefG S O P [i] (gName i) (gSet i) := ⟨fun d env e h => by
  cases h
  exact ⟨List.length_set, fun j hj => List.getElem?_set_ne fun z => hj (by rw [z]; exact List.mem_cons_self)⟩, fun R σ H fp env d v e I r h Q k => by
  cases h
  exact k _ (I.set hO r) fun j hj => List.getElem?_set_ne fun z => hj (by rw [z]; exact List.mem_cons_self)⟩
structure RefGs (S : Sc) (O P : List Nat) (ws : List Nat) (tg : TGs) (gs : List GM) : Prop where
  loc : ∀ ds env e, gTupM gs ds env = some e → e.length = env.length ∧ ∀ i, i ∉ ws → e[i]? = env[i]?
  run : ∀ (R : Rx) (σ : L2.St) (H : Hp) (fp : Fp) (env : Env) (ds : List D) (vs : List V) (e : Env), Rel S O P R σ H fp env → RepL S (Fs R fp) H ds vs → gTupM gs ds env = some e → ∀ Q : L2.St → Hp → Prop, (∀ σ', Rel S O P R σ' H fp e → (∀ i, i ∉ ws → σ'[i]? = σ[i]?) → Q σ' H) → tg vs σ H Q
theorem rgs_nil : RefGs S O P [] gNil [] := ⟨fun ds env e h => by
  cases ds with
  | nil => cases h; exact ⟨rfl, fun _ _ => rfl⟩
  | cons d ds => (cases h), fun R σ H fp env ds vs e I r h Q k => by
  cases ds with
  | nil =>
    cases h
    exact ⟨r, k _ I fun _ _ => rfl⟩
  | cons d ds => cases h⟩
theorem rgs_cons {w1 w2 : List Nat} {tg : TG} {g : GM} {ts : TGs} {gs : List GM} (h1 : RefG S O P w1 tg g) (h2 : RefGs S O P w2 ts gs) : RefGs S O P (w1 ++ w2) (gCons tg ts) (g :: gs) := ⟨fun ds env e h => by
  cases ds with
  | nil => cases h
  | cons d ds =>
    have h : (g d env).bind (gTupM gs ds) = some e := h
    cases q : g d env with
    | none => rw [q] at h; cases h
    | some e1 =>
      rw [q] at h
      obtain ⟨a1, a2⟩ := h1.loc d env e1 q
      obtain ⟨b1, b2⟩ := h2.loc ds e1 e h
      exact ⟨b1.trans a1, fun i hi => (b2 i fun z => hi (List.mem_append_right _ z)).trans (a2 i fun z => hi (List.mem_append_left _ z))⟩, fun R σ H fp env ds vs e I r h Q k => by
  cases ds with
  | nil => cases h
  | cons d ds =>
    obtain ⟨v, us, rfl, r1, r2⟩ := r
    have h : (g d env).bind (gTupM gs ds) = some e := h
    cases q : g d env with
    | none => rw [q] at h; cases h
    | some e1 =>
      rw [q] at h
      exact ⟨v, us, rfl, h1.run R σ H fp env d v e1 I r1 q _ fun σ1 I1 s1 => h2.run R σ1 H fp e1 ds us e I1 r2 h Q fun σ2 I2 s2 => k σ2 I2 fun i hi => (s2 i fun z => hi (List.mem_append_right _ z)).trans (s1 i fun z => hi (List.mem_append_left _ z))⟩⟩
theorem gTupM_len : ∀ {gs : List GM} {ds : List D} {env e : Env}, gTupM gs ds env = some e → ds.length = gs.length
  | [], [], _, _, _ => rfl
  | [], _ :: _, _, _, h => by cases h
  | _ :: _, [], _, _, h => by cases h
  | g :: gs, d :: ds, env, e, h => by
    have h : (g d env).bind (gTupM gs ds) = some e := h
    cases q : g d env with
    | none => rw [q] at h; cases h
    | some e1 =>
      rw [q] at h
      rw [List.length_cons, List.length_cons, gTupM_len (gs := gs) h]
theorem rg_tup {ws : List Nat} {n : Nat} {ts : TGs} {gs : List GM} (h : RefGs S O P ws ts gs) (hn : gs.length = n) : RefG S O P ws (gTup S.K n ts) (gTupleM gs) := ⟨fun d env e q => by
  cases d with
  | tup ds => exact h.loc ds env e q
  | _ => (cases q), fun R σ H fp env d v e I r hg Q k => by
  cases d with
  | tup ds =>
    obtain ⟨a, vs, rfl, r1, r2⟩ := r
    exact ⟨a, vs, rfl, r1, by rw [r2.length, gTupM_len hg, hn], h.run R σ H fp env ds vs e I r2 hg Q k⟩
  | _ => cases hg⟩
theorem rs_asg {ws : List Nat} {tg : TG} {g : GM} (ha : RefE S O P E none fa ta ma) (hg : RefG S O P ws tg g) : RefS S O P E fr (tAsg ta tg) (sAsg ma g) := by
  intro R σ H fp env I D h
  refine ha R σ H fp env I _ ((want_fl h).mono fun d e1 H1 f1 I1 s1 hp v hv _ => ?_)
  cases q : g d e1 with
  | none => rw [q] at hp; exact hp.elim
  | some e2 =>
    rw [q] at hp
    exact hg.run R σ H1 f1 e1 d v e2 I1 hv.rep q _ fun σ' I' _ => hp σ' H1 f1 I' (Fwd.refl _ _)
theorem rs_set {i : Nat} (hO : i ∉ O) (ha : RefE S O P E none fa ta ma) : RefS S O P E fr (tAsg ta (gName i)) (sAsg ma (gSet i)) := rs_asg ha (rg_set hO)
def fpSet (fp : Fp) (i : Nat) (l : List Addr) : Fp := fun j => if j = i then l else fp j
theorem Rel.setOwn {R : Rx} {σ : L2.St} {H : Hp} {fp : Fp} {env : Env} {i : Nat} {ds : List D} {vs : List V} {a : Addr} (I : Rel S O P R σ H fp env) (hO : i ∈ O) (hP : i ∉ P) (hi : i < env.length) (new : R.H0 a = none) (nf : ¬ Fs R fp a) (ha : H a = some (.lst vs))
    (r : RepL S (fun x => Fs R fp x ∨ x = a) H ds vs) (old : ∀ j d, env[j]? = some (some d) → j ≠ i → (j ∉ O → ∃ v, σ[j]? = some (some v) ∧ Rep S (fun x => Fs R fp x ∨ x = a) H d v) ∧ (j ∈ O → ∃ b, σ[j]? = some (some (.ref b)) ∧ Own S (fun x => Fs R fp x ∨ x = a) H d b (fp j))) :
    Rel S O P R (σ.set i (some (.ref a))) H (fpSet fp i [a]) (env.set i (some (.lst ds))) := by
  have sub : ∀ x, Fs R (fpSet fp i [a]) x → (Fs R fp x ∨ x = a) := fun x h => by
    rcases h with h | ⟨j, h⟩
    · exact .inl (.inl h)
    · unfold fpSet at h
      split at h
      · exact .inr (List.mem_singleton.mp h)
      · exact .inl (.inr ⟨j, h⟩)
  refine ⟨by rw [List.length_set, List.length_set, I.len], fun j d h1 h2 => ?_, fun j d h1 h2 => ?_, fun j h => ?_, fun j k b h1 h2 => ?_, fun j => ?_, fun j b h => ?_, I.ext, I.gl, fun j b h => ?_, I.dom, I.mh, I.tb, ⟨I.hb.e, I.hb.m⟩, I.par.set (.inr hP)⟩
  · have e : i ≠ j := fun z => h2 (z ▸ hO)
    rw [List.getElem?_set_ne e] at h1 ⊢
    obtain ⟨v, q1, q2⟩ := (old j d h1 (Ne.symm e)).1 h2
    exact ⟨v, q1, q2.less fun x z => .inl (sub x z)⟩
  · by_cases e : i = j
    · subst e
      rw [List.getElem?_set_self hi] at h1
      cases h1
      refine ⟨a, List.getElem?_set_self (by rw [← I.len]; exact hi), ?_, vs, ha, r.less fun x z => .inl (sub x z)⟩
      unfold fpSet
      rw [if_pos rfl]
    · rw [List.getElem?_set_ne e] at h1 ⊢
      obtain ⟨b, q1, q2⟩ := (old j d h1 (Ne.symm e)).2 h2
      refine ⟨b, q1, ?_⟩
      unfold fpSet
      rw [if_neg (Ne.symm e)]
      exact q2.fwd (Ext.refl _ _) fun x z => .inl (sub x z)
  · unfold fpSet
    by_cases e : j = i
    · subst e
      rcases h with h | h
      · exact absurd hO h
      · exact absurd (List.getElem?_set_self hi) (h _)
    · rw [if_neg e]
      refine I.non j (h.imp id fun h d q => h d ?_)
      rw [List.getElem?_set_ne (Ne.symm e)]
      exact q
  · unfold fpSet at h1 h2
    split at h1
    · rename_i e1
      split at h2
      · rename_i e2
        rw [e1, e2]
      · exact absurd (.inr ⟨k, by rw [← List.mem_singleton.mp h1]; exact h2⟩) nf
    · split at h2
      · exact absurd (.inr ⟨j, by rw [← List.mem_singleton.mp h2]; exact h1⟩) nf
      · exact I.dist j k b h1 h2
  · unfold fpSet
    split
    · simp
    · exact I.nd j
  · unfold fpSet at h
    split at h
    · rename_i e
      cases List.mem_singleton.mp h
      exact .new new fun z => nf (.inl z)
    · exact I.src j b h
  · unfold fpSet at h
    split at h
    · cases List.mem_singleton.mp h
      rw [ha]
      exact fun z => nomatch z
    · exact I.live j b h
end
end Mir
namespace Mir
open PySem PySem.Spec PyProof.Rows L2
variable [Tbl]
def sOwn (a : EM) (i : Nat) : SM := fun env => (a env).fl fun d e => if i < e.length then .next (e.set i (some d)) else .bad
def sApp (i : Nat) (a : EM) : SM := fun env => match env[i]? with
  | some (some (.lst _)) => (a env).fl fun d e => match e[i]? with
    | some (some (.lst ds)) => if ds.length < 100000 then .next (e.set i (some (.lst (ds ++ [d])))) else .bad
    | _ => .bad
  | _ => .bad
def sExt (i : Nat) (a : EM) : SM := fun env => match env[i]? with
  | some (some (.lst _)) => (a env).fl fun d e => match e[i]?, d with
    | some (some (.lst ds)), .lst xs => if ds.length + xs.length ≤ 100000 then .next (e.set i (some (.lst (ds ++ xs)))) else .bad
    | _, _ => .bad
  | _ => .bad
def sRetOwn (i : Nat) : SM := fun env => match env[i]? with
  | some (some (.lst ds)) => .ret (.lst ds) env
  | _ => .bad
section
variable {S : Sc} {O P : List Nat} {E : XK} {μ : Mo} {fr fa : Bool} {ta : TE} {ma : EM} {t u : TS} {m n : SM} {tt : TT} {mt : TM}
theorem want_fl0 {R : Rx} {σ : L2.St} {H : Hp} {fp : Fp} {env : Env} {α : Type} {o : Out α} {f : α → Env → Fl} {D : Ends} (h : WantS S O P E fr R H fp (o.fl f) D σ) :
    Want S O P E μ R σ H fp env o (fun a e1 H1 f1 => WantS S O P E fr R H fp (f a e1) D σ) := by
  cases o with
  | bad => exact h
  | exc x e => exact fun cls dd H' fp' I' s' r => h cls dd σ H' fp' I' s'.strong r
  | ok a e1 => exact fun H1 f1 I1 s1 => h
theorem rs_setOwn {i : Nat} (hO : i ∈ O) (hP : i ∉ P) (ha : RefE S O P E none true ta ma) : RefS S O P E fr (tAsg ta (gName i)) (sOwn ma i) := by
  intro R σ H fp env I D h
  refine ha R σ H fp env I _ ((want_fl0 h).mono fun d e1 H1 f1 I1 s1 hp v hv sp => ?_)
  by_cases c : i < e1.length
  · rw [if_pos c] at hp
    obtain ⟨a, vs, ds, rfl, new, rfl, ha1, nf, r⟩ := hv
    have Ib := sp rfl a rfl
    have w : ∀ x, (Fs R f1 x ∨ x = a) → Fs (R.plus a) f1 x ∨ H1 x = none := fun x z => .inl (fs_plus.mpr z)
    have n0 : R.H0 a = none := by
      cases q : R.H0 a with
      | none => rfl
      | some o => exact absurd new (I.dom a (by rw [q]; exact fun z => nomatch z))
    have I2 : Rel S O P R (σ.set i (some (.ref a))) H1 (fpSet f1 i [a]) (e1.set i (some (.lst ds))) := I1.setOwn hO hP c n0 nf ha1 r fun j d h1 hj =>
      ⟨fun h2 => let ⟨v, q1, q2⟩ := Ib.val j d h1 h2; ⟨v, q1, q2.less w⟩,
       fun h2 => let ⟨v, q1, q2⟩ := Ib.own j d h1 h2; ⟨v, q1, q2.fwd (Ext.refl _ _) w⟩⟩
    refine hp _ H1 _ I2 ⟨s1.strong.1, fun x z => ?_, s1.strong.2.2⟩
    obtain ⟨j, z⟩ := z
    unfold fpSet at z
    split at z
    · cases List.mem_singleton.mp z
      exact .inr new
    · exact s1.strong.2.1 x ⟨j, z⟩
  · rw [if_neg c] at hp
    exact hp.elim
theorem fpSet_mem {fp : Fp} {i j : Nat} {l : List Addr} {x : Addr} (z : x ∈ fpSet fp j l i) : (i = j ∧ x ∈ l) ∨ (i ≠ j ∧ x ∈ fp i) := by
  unfold fpSet at z
  split at z
  · rename_i e
    exact .inl ⟨e, z⟩
  · rename_i e
    exact .inr ⟨e, z⟩
theorem fpSet_self {fp : Fp} {j : Nat} {l : List Addr} : fpSet fp j l j = l := if_pos rfl
theorem fpSet_ne {fp : Fp} {i j : Nat} {l : List Addr} (h : i ≠ j) : fpSet fp j l i = fp i := if_neg h
theorem fpSet_same {fp : Fp} {j : Nat} : fpSet fp j (fp j) = fp := by
  funext i
  unfold fpSet
  split
  · rename_i e; rw [e]
  · rfl
theorem Rel.changed {R : Rx} {σ : L2.St} {H H' : Hp} {fp : Fp} {env : Env} {j : Nat} {a : Addr} {d0 o : D} {l' : List Addr} (I : Rel S O P R σ H fp env) (hO : j ∈ O) (hj : env[j]? = some (some d0)) (hs : σ[j]? = some (some (.ref a)))
    (w : Fwd (fun x => x ∈ fp j) H (fun x => x ∈ l') H') (ho : Own S (fun x => Fs R fp x ∨ x ∈ l') H' o a l') (nd : l'.Nodup) (hl' : ∀ x ∈ l', H' x ≠ none) :
    Rel S O P R σ H' (fpSet fp j l') (env.set j (some o)) ∧ Fwd (Lv fp) H (Lv (fpSet fp j l')) H' := by
  have hjl : j < env.length := (List.getElem?_eq_some_iff.mp hj).1
  have w0 : Fwd (Lv fp) H (Lv (fpSet fp j l')) H' := ⟨w.1.mono fun x z => ⟨j, z⟩, fun x ⟨i, z⟩ => (fpSet_mem z).elim (fun z => (w.2.1 x z.2).imp (fun y => ⟨j, y⟩) id) fun z => .inl ⟨i, z.2⟩, w.2.2⟩
  have wf := adv_fs (R := R) w0
  have oth : ∀ i, i ≠ j → ∀ x, x ∈ fp i → x ∉ fp j := fun i ne x z1 z2 => ne (I.dist i j x z1 z2)
  have sep : ∀ i, i ≠ j → ∀ x, x ∈ fp i → x ∉ l' := fun i ne x z1 z2 => (w.2.1 x z2).elim (oth i ne x z1) fun z => I.live i x z1 z
  have pr : ∀ i d, (env.set j (some o))[i]? = some (some d) → ∃ d', env[i]? = some (some d') := fun i d hd => by
    by_cases ne : j = i
    · exact ⟨d0, ne ▸ hj⟩
    · exact ⟨d, by rw [List.getElem?_set_ne ne] at hd; exact hd⟩
  refine ⟨⟨by rw [List.length_set, I.len], fun i d q1 q2 => ?_, fun i d q1 q2 => ?_, fun i q => ?_, fun i k b h1 h2 => ?_, fun i => ?_, fun i b h => ?_, I.ext.seq w.1 fun b e => (I.src j b e).was, fun b q => w.2.2 b (I.gl b q), fun i b h => ?_, fun b q => w.2.2 b (I.dom b q), I.mh, tb_ext w.1 I.tb, ⟨I.hb.e, I.hb.m⟩, I.par.of rfl fun i hi hO' d hd => ⟨hO', pr i d hd, rfl⟩⟩, w0⟩
  · have ne : j ≠ i := fun z => q2 (z ▸ hO)
    rw [List.getElem?_set_ne ne] at q1
    obtain ⟨v, x1, x2⟩ := I.val i d q1 q2
    exact ⟨v, x1, Rep.fwd wf _ _ x2⟩
  · by_cases ne : j = i
    · subst ne
      rw [List.getElem?_set_self hjl] at q1
      cases q1
      refine ⟨a, hs, ?_⟩
      rw [fpSet_self]
      refine ho.fwd (Ext.refl _ _) fun x z => .inl ?_
      rcases z with z | ⟨i, z⟩
      · exact .inl (.inl z)
      · rcases fpSet_mem z with ⟨_, z⟩ | ⟨_, z⟩
        · exact .inr z
        · exact .inl (.inr ⟨i, z⟩)
    · rw [List.getElem?_set_ne ne] at q1
      obtain ⟨b, x1, x2⟩ := I.own i d q1 q2
      refine ⟨b, x1, ?_⟩
      rw [fpSet_ne (Ne.symm ne)]
      exact x2.keep wf fun c hc u q n => w.1.k c u q (.inl fun z => oth i (Ne.symm ne) c hc z) n
  · by_cases ne : i = j
    · subst ne
      rcases q with q | q
      · exact absurd hO q
      · exact absurd (List.getElem?_set_self hjl) (q _)
    · rw [fpSet_ne ne]
      exact I.non i (q.imp id fun q d z => q d (by rw [List.getElem?_set_ne (Ne.symm ne)]; exact z))
  · rcases fpSet_mem h1 with ⟨e1, h1⟩ | ⟨e1, h1⟩
    · rcases fpSet_mem h2 with ⟨e2, h2⟩ | ⟨e2, h2⟩
      · rw [e1, e2]
      · exact absurd h1 (sep k e2 b h2)
    · rcases fpSet_mem h2 with ⟨e2, h2⟩ | ⟨e2, h2⟩
      · exact absurd h2 (sep i e1 b h1)
      · exact I.dist i k b h1 h2
  · unfold fpSet
    split
    · exact nd
    · exact I.nd i
  · rcases fpSet_mem h with ⟨e, h⟩ | ⟨_, h⟩
    · rcases w.2.1 b h with z | z
      · rw [e]; exact I.src j b z
      · refine .new ?_ fun g => I.gl b g z
        cases q : R.H0 b with
        | none => rfl
        | some u => exact absurd z (I.dom b (by rw [q]; exact fun z => nomatch z))
    · exact I.src i b h
  · rcases fpSet_mem h with ⟨_, h⟩ | ⟨_, h⟩
    · exact hl' b h
    · exact w.2.2 b (I.live i b h)
theorem Rel.updA {R : Rx} {σ : L2.St} {H : Hp} {fp : Fp} {env : Env} {i : Nat} {d d' : D} {a b : Addr} {o o' : HO} (I : Rel S O P R σ H fp env) (hO : i ∈ O) (hi : env[i]? = some (some d)) (hs : σ[i]? = some (some (.ref b))) (h2 : a ∈ fp i) (h3 : H a = some o) (mu : Mut (some o))
    (nw : Fwd (Fs R fp) H (Fs R fp) (L2.upd H a o') → Own S (Fs R fp) (L2.upd H a o') d' b (fp i)) (nx : NY a o) : Rel S O P R σ (upd H a o') fp (env.set i (some d')) ∧ Fwd (Lv fp) H (Lv fp) (upd H a o') := by
  have dm : ∀ b, H b ≠ none → L2.upd H a o' b ≠ none := fun b hb => by
    unfold L2.upd
    split
    · exact fun z => nomatch z
    · exact hb
  have w1 : Fwd (fun x => x ∈ fp i) H (fun x => x ∈ fp i) (L2.upd H a o') := ⟨ext_againY ⟨fun _ _ h _ _ => h, fun _ _ h => h, fun _ ps h => ⟨ps, h⟩⟩ h3 (.inl h2) mu nx, fun _ z => .inl z, dm⟩
  have w : Fwd (Fs R fp) H (Fs R fp) (L2.upd H a o') := ⟨w1.1.mono fun x z => .inr ⟨i, z⟩, fun _ z => .inl z, dm⟩
  have r := I.changed (l' := fp i) hO hi hs w1 ((nw w).fwd (Ext.refl _ _) fun x z => .inl (z.elim id fun z => .inr ⟨i, z⟩)) (I.nd i) fun x z => dm x (I.live i x z)
  rw [fpSet_same] at r
  exact r
theorem Rel.updOY {R : Rx} {σ : L2.St} {H : Hp} {fp : Fp} {env : Env} {i : Nat} {d d' : D} {a : Addr} {o o' : HO} (I : Rel S O P R σ H fp env) (hO : i ∈ O) (hi : env[i]? = some (some d)) (hs : σ[i]? = some (some (.ref a))) (h2 : fp i = [a]) (h3 : H a = some o) (mu : Mut (some o))
    (nw : Fwd (Fs R fp) H (Fs R fp) (L2.upd H a o') → Own S (Fs R fp) (L2.upd H a o') d' a [a]) (nx : NY a o) : Rel S O P R σ (upd H a o') fp (env.set i (some d')) ∧ Fwd (Lv fp) H (Lv fp) (upd H a o') :=
  I.updA hO hi hs (by rw [h2]; exact List.mem_cons_self) h3 mu (fun w => by rw [h2]; exact nw w) nx
theorem Rel.updO {R : Rx} {σ : L2.St} {H : Hp} {fp : Fp} {env : Env} {i : Nat} {d d' : D} {a : Addr} {o o' : HO} (I : Rel S O P R σ H fp env) (hO : i ∈ O) (hi : env[i]? = some (some d)) (hs : σ[i]? = some (some (.ref a))) (h2 : fp i = [a]) (h3 : H a = some o) (mu : Mut (some o))
    (nw : Fwd (Fs R fp) H (Fs R fp) (L2.upd H a o') → Own S (Fs R fp) (L2.upd H a o') d' a [a]) (nx : NX o := by trivial) : Rel S O P R σ (upd H a o') fp (env.set i (some d')) ∧ Fwd (Lv fp) H (Lv fp) (upd H a o') := I.updOY hO hi hs h2 h3 mu nw nx.y
theorem Rel.upd {R : Rx} {σ : L2.St} {H : Hp} {fp : Fp} {env : Env} {i : Nat} {ds ds' : List D} {a : Addr} {vs' : List V} (I : Rel S O P R σ H fp env) (hO : i ∈ O) (hi : env[i]? = some (some (.lst ds))) (hs : σ[i]? = some (some (.ref a)))
    (r : RepL S (Fs R fp) H ds' vs') : Rel S O P R σ (upd H a (.lst vs')) fp (env.set i (some (.lst ds'))) ∧ Fwd (Lv fp) H (Lv fp) (upd H a (.lst vs')) := by
  obtain ⟨a', h1, h2, vs, h3, h4⟩ := I.own i _ hi hO
  rw [hs] at h1
  cases h1
  exact I.updO hO hi hs h2 h3 trivial fun w => ⟨rfl, vs', upd_same, RepL.fwd w _ _ r⟩
theorem own_lst {R : Rx} {σ : L2.St} {H : Hp} {fp : Fp} {env : Env} {i : Nat} {ds : List D} (I : Rel S O P R σ H fp env) (hO : i ∈ O) (h : env[i]? = some (some (.lst ds))) : ∃ a vs, σ[i]? = some (some (.ref a)) ∧ fp i = [a] ∧ H a = some (.lst vs) ∧ RepL S (Fs R fp) H ds vs := by
  obtain ⟨a, h1, h2, vs, h3, h4⟩ := I.own i _ h hO
  exact ⟨a, vs, h1, h2, h3, h4⟩
theorem lt_line {n : Nat} (h : n < 100000) : n < sizeLine := Nat.lt_of_lt_of_le h (by decide)
theorem rs_app {i : Nat} (hO : i ∈ O) (ha : RefE S O P E none fa ta ma) : RefS S O P E fr (tDrop (tBM S.K "list" rAppend (tVar i) (tCons ta tNil))) (sApp i ma) := by
  intro R σ H fp env I D h
  unfold sApp at h
  split at h
  · rename_i ds0 e0
    obtain ⟨a, vs0, q1, q2, q3, q4⟩ := own_lst I hO e0
    refine ⟨_, q1, .inl ⟨rfl, vs0, .inl (.inl q3)⟩, ?_⟩
    refine ha R σ H fp env I _ ((want_fl h).mono fun d e1 H1 f1 I1 s1 hp v hv _ => ?_)
    split at hp
    · rename_i ds e2
      obtain ⟨b, vs, x1, x2, x3, x4⟩ := own_lst I1 hO e2
      rw [q1] at x1
      cases x1
      split at hp
      · rename_i hz
        obtain ⟨I2, w2⟩ := I1.upd hO e2 q1 (x4.snoc hv.rep)
        exact ⟨a, vs, v, rfl, rfl, x3, by rw [x4.length]; exact lt_line hz, hp _ _ _ I2 w2⟩
      · exact hp.elim
    · exact hp.elim
  · exact h.elim
theorem rs_ext {i : Nat} (hO : i ∈ O) (ha : RefE S O P E none true ta ma) : RefS S O P E fr (tDrop (tBM S.K "list" rExtend (tVar i) (tCons ta tNil))) (sExt i ma) := by
  intro R σ H fp env I D h
  unfold sExt at h
  split at h
  · rename_i ds0 e0
    obtain ⟨a, vs0, q1, q2, q3, q4⟩ := own_lst I hO e0
    refine ⟨_, q1, .inl ⟨rfl, vs0, .inl (.inl q3)⟩, ?_⟩
    refine ha R σ H fp env I _ ((want_fl h).mono fun d e1 H1 f1 I1 s1 hp v hv _ => ?_)
    split at hp
    · rename_i ds xs e2
      obtain ⟨b, vs, x1, x2, x3, x4⟩ := own_lst I1 hO e2
      rw [q1] at x1
      cases x1
      split at hp
      · rename_i hz
        obtain ⟨c, us, xs', rfl, _, ex, y1, _, y2⟩ := hv
        cases ex
        have y2 := y2.less (F' := Fs R f1) fun _ z => .inl (.inl z)
        obtain ⟨I2, w2⟩ := I1.upd hO e2 q1 (x4.append y2)
        exact ⟨a, c, vs, us, rfl, rfl, x3, y1, by rw [x4.length, y2.length]; exact sz_of hz, hp _ _ _ I2 w2⟩
      · exact hp.elim
    · exact hp.elim
  · exact h.elim
theorem rs_ret (hf : fr = true → fa = true) (hU : ∀ U, μ = some U → ∀ i ∈ U, i ∉ P) (ha : RefE S O P E μ fa ta ma) : RefS S O P E fr (tRet ta) (sRet ma) := by
  intro R σ H fp env I D h
  refine ha R σ H fp env I _ ((want_fl h).mono fun d e1 H1 f1 I1 s1 hp v hv _ => ?_)
  refine hp σ v H1 f1 I1 (Fwd.refl _ _) ?_
  have sub : ∀ a, RG P R f1 a → FM R f1 μ a := fun a z => by
    rcases z with z | ⟨k, z1, z2⟩
    · cases μ with
      | none => exact .inl z
      | some U => exact ⟨.inl z, fun ⟨i, y1, y2⟩ => ((I1.src i a y2).2 (hU U rfl i y1)).2 z⟩
    · cases μ with
      | none => exact .inr ⟨k, z2⟩
      | some U => exact ⟨.inr ⟨k, z2⟩, fun ⟨i, y1, y2⟩ => hU U rfl i y1 (by rw [I1.dist i k a y2 z2]; exact z1)⟩
  cases fr with
  | false => exact hv.rep.less fun a z => .inl (sub a z)
  | true =>
    have hf := hf rfl
    subst hf
    obtain ⟨a, vs, ds, rfl, new, rfl, x1, x2, x3⟩ := hv
    refine ⟨a, vs, ds, rfl, ?_, rfl, x1, fun z => x2 (sub a z), x3.less fun b z => .inl (z.imp (sub b) id)⟩
    cases q : R.H0 a with
    | none => rfl
    | some o => exact absurd new (I.dom a (by rw [q]; exact fun z => nomatch z))
end
end Mir
namespace Mir
open PySem PySem.Spec PyProof.Rows L2
variable [Tbl]
abbrev IM := Env → Out (List D)
def Stq (μ : Mo) (F : Addr → Prop) (H : Hp) (F' : Addr → Prop) (H' : Hp) : Prop := match μ with
  | none => Fwd F H F' H'
  | some _ => Ext Nil H H' ∧ ∀ x, F' x → F x ∨ H x = none
theorem Stq.fwd {μ : Mo} {F F' : Addr → Prop} {H H' : Hp} (s : Stq μ F H F' H') : Fwd F H F' H' := by
  cases μ with
  | none => exact s
  | some U => exact ⟨s.1.mono fun _ z => z.elim, s.2, fun _ z => s.1.dom z⟩
def ItOk (S : Sc) (μ : Mo) (F : Addr → Prop) (H : Hp) (J : It) (ds : List D) : Prop := ∀ (F' : Addr → Prop) (H' : Hp), Stq μ F H F' H' → (∀ a, F' a → H' a ≠ none) →
  (∀ n, n < ds.length → J.go n H') ∧ (∀ n x H3 d, J.yld n H' x H3 → ds[n]? = some d → Ext Nil H' H3 ∧ Rep S F' H3 d x) ∧ (∀ n, ds.length ≤ n → J.stop n H')
def RefI (S : Sc) (O P : List Nat) (E : XK) (μ : Mo) (wi : TI) (m : IM) : Prop :=
  ∀ (R : Rx) (σ : L2.St) (H : Hp) (fp : Fp) (env : Env), Rel S O P R σ H fp env → ∀ Q : It → Hp → Prop, Want S O P E μ R σ H fp env (m env) (fun ds _ H' fp' => ∀ J, ItOk S μ (Fs R fp') H' J ds → Q J H') → wi σ H Q
def D.isL : D → Option (List D)
  | .lst ds => some ds
  | _ => none
def D.isT : D → Option (List D)
  | .tup ds => some ds
  | _ => none
def iLst (a : EM) : IM := fun env => (a env).bind fun x e => .opt x.isL e
def rangeL (lo : Int) (n : Nat) : List D := (List.range n).map fun i => D.int (lo + (i : Nat))
def rng1 : List D → Option (List D)
  | [.int j] => if -(2 ^ 62) ≤ j ∧ j < 2 ^ 62 then some (rangeL 0 j.toNat) else none
  | _ => none
def rng2 : List D → Option (List D)
  | [.int i, .int j] => if -(2 ^ 62) ≤ i ∧ i < 2 ^ 62 ∧ -(2 ^ 62) ≤ j ∧ j < 2 ^ 62 then some (rangeL i (j - i).toNat) else none
  | _ => none
def iRng1M (a : AM) : IM := fun env => (a env).bind fun xs e => .opt (rng1 xs) e
def iRng2M (a : AM) : IM := fun env => (a env).bind fun xs e => .opt (rng2 xs) e
def enumL (i : Nat) : List D → List D
  | [] => []
  | d :: ds => .tup [.int (i : Nat), d] :: enumL (i + 1) ds
theorem enumL_get : ∀ {ds : List D} {i n : Nat} {d : D}, (enumL i ds)[n]? = some d → ∃ x, ds[n]? = some x ∧ d = .tup [.int ((i + n : Nat)), x]
  | [], _, _, _, h => by simp [enumL] at h
  | x :: ds, i, 0, d, h => by
    cases (show some _ = some d from h)
    exact ⟨x, rfl, rfl⟩
  | x :: ds, i, n + 1, d, h => by
    obtain ⟨y, h1, h2⟩ := enumL_get (show (enumL (i + 1) ds)[n]? = some d from h)
    exact ⟨y, h1, by rw [h2, show i + 1 + n = i + (n + 1) by omega]⟩
theorem enumL_len : ∀ (ds : List D) (i : Nat), (enumL i ds).length = ds.length
  | [], _ => rfl
  | _ :: ds, i => by show (enumL (i + 1) ds).length + 1 = _; rw [enumL_len ds]; rfl
def iEnumT (a : EM) : IM := fun env => (a env).bind fun x e => (Out.opt x.isT e).bind fun ds e => .ok (enumL 0 ds) e
section
variable {S : Sc} {O P : List Nat} {E : XK} {μ : Mo} {fr fa : Bool} {ta : TE} {ma : EM} {t u : TS} {m n : SM} {tt : TT} {mt : TM}
theorem stq_rd {F F' : Addr → Prop} {H H' : Hp} {a : Addr} {u : HO} (nf : μ = none → ¬ F a) (w : Stq μ F H F' H') (h : Rd H a u) (nt : NT u := by trivial) : Rd H' a u := by
  cases μ with
  | none => exact rd_ext w.1 (nf rfl) h nt
  | some U => exact rd_ext w.1 (fun z => z) h nt
theorem itok_list {F : Addr → Prop} {H : Hp} {a : Addr} {vs : List V} {ds : List D} (nf : μ = none → ¬ F a) (h1 : Rd H a (.lst vs)) (h2 : RepL S F H ds vs) : ItOk S μ F H (Itl S.K a) ds := fun F' H' w al => by
  have r := stq_rd nf w h1
  have w := w.fwd
  refine ⟨fun n hn => ?_, fun n x H3 d y hd => ?_, fun n hn => ⟨vs, .inl r, by rw [h2.length]; exact hn⟩⟩
  · obtain ⟨v, e, _⟩ := h2.get (List.getElem?_eq_getElem hn)
    exact ⟨vs, v, .inl r, e⟩
  · obtain ⟨rfl, k⟩ := y
    obtain ⟨v, e, q⟩ := h2.get hd
    have := (k vs (.inl r)).symm.trans e
    cases this
    exact ⟨Ext.refl _ _, Rep.fwd w _ _ q⟩
theorem itok_tup {F : Addr → Prop} {H : Hp} {a : Addr} {vs : List V} {ds : List D} (h1 : SqT S.K H a vs) (h2 : RepL S F H ds vs) : ItOk S μ F H (Itt S.K a) ds := fun F' H' w al => by
  have w := w.fwd
  have r := sqt_ext w.1 h1
  refine ⟨fun n hn => ?_, fun n x H3 d y hd => ?_, fun n hn => ⟨vs, r, by rw [h2.length]; exact hn⟩⟩
  · obtain ⟨v, e, _⟩ := h2.get (List.getElem?_eq_getElem hn)
    exact ⟨vs, v, r, e⟩
  · obtain ⟨rfl, k⟩ := y
    obtain ⟨v, e, q⟩ := h2.get hd
    have := (k vs r).symm.trans e
    cases this
    exact ⟨Ext.refl _ _, Rep.fwd w _ _ q⟩
theorem itok_range {F : Addr → Prop} {H : Hp} {lo : Int} {n : Nat} : ItOk S μ F H (Itr lo n) (rangeL lo n) := fun F' H' w al => by
  refine ⟨fun k hk => ?_, fun k x H3 d y hd => ?_, fun k hk => ?_⟩
  · unfold rangeL at hk
    rw [List.length_map, List.length_range] at hk
    exact hk
  · obtain ⟨rfl, rfl⟩ := y
    unfold rangeL at hd
    rw [List.getElem?_map] at hd
    cases q : (List.range n)[k]? with
    | none => rw [q] at hd; cases hd
    | some j =>
      rw [q] at hd
      cases hd
      obtain ⟨h1, h2⟩ := List.getElem?_eq_some_iff.mp q
      rw [List.getElem_range] at h2
      subst h2
      exact ⟨Ext.refl _ _, rfl⟩
  · unfold rangeL at hk
    rw [List.length_map, List.length_range] at hk
    exact hk
theorem ri_range1 {tA : TA} {mA : AM} (ha : RefA S O P E μ tA mA) : RefI S O P E μ (iRng1 tA) (iRng1M mA) := by
  intro R σ H fp env I Q h
  refine ha R σ H fp env I _ ((Want.bind h).mono fun xs e1 H1 f1 I1 s1 h1 vs hv => ?_)
  obtain ⟨ds, hd⟩ := want_some h1
  rw [hd] at h1
  unfold rng1 at hd
  split at hd
  · rename_i j
    split at hd
    · rename_i c
      cases hd
      obtain ⟨v, r, rfl, e1, e2⟩ := hv
      cases (show v = _ from e1)
      cases (show r = _ from e2)
      exact ⟨j, rfl, c.1, c.2, h1 H1 f1 I1 Stp.refl _ itok_range⟩
    · cases hd
  · cases hd
def forGo (g : GM) (b : SM) : List D → Env → Fl
  | [], env => .next env
  | d :: ds, env => match g d env with
    | none => .bad
    | some e => match b e with
      | .next e' => forGo g b ds e'
      | .cont e' => forGo g b ds e'
      | .brk e' => .next e'
      | .ret x e' => .ret x e'
      | .exc x e' => .exc x e'
      | .bad => .bad
def sFor (it : IM) (g : GM) (b : SM) : SM := fun env => (it env).fl fun ds e => forGo g b ds e
theorem WantS.at {R : Rx} {H H1 : Hp} {fp f1 : Fp} {o : Fl} {D : Ends} {σ σ1 : L2.St} (h : WantS S O P E fr R H fp o D σ) (w1 : Fwd (Lv fp) H (Lv f1) H1) : WantS S O P E fr R H1 f1 o D σ1 := by
  cases o with
  | next e => exact fun σ2 H2 f2 I2 w2 => h σ2 H2 f2 I2 (w1.trans w2)
  | brk e => exact fun σ2 H2 f2 I2 w2 => h σ2 H2 f2 I2 (w1.trans w2)
  | cont e => exact fun σ2 H2 f2 I2 w2 => h σ2 H2 f2 I2 (w1.trans w2)
  | ret d e => exact fun σ2 v H2 f2 I2 w2 r => h σ2 v H2 f2 I2 (w1.trans w2) r
  | exc d e => exact fun cls dd σ2 H2 f2 I2 w2 r => h cls dd σ2 H2 f2 I2 (w1.trans w2) r
  | bad => exact h
theorem rs_for {ws : List Nat} {wi : TI} {it : IM} {tg : TG} {g : GM} (hi : RefI S O P E none wi it) (hg : RefG S O P ws tg g) (hb : RefS S O P E fr t m) : RefS S O P E fr (tFor wi tg t) (sFor it g m) := by
  intro R σ H fp env I D h
  refine hi R σ H fp env I _ ((want_fl h).mono fun ds e1 H1 f1 I1 s1 hp J hJ => ?_)
  refine ⟨fun i k σ' H' => i + k = ds.length ∧ ∃ fp' env', Rel S O P R σ' H' fp' env' ∧ Fwd (Lv f1) H1 (Lv fp') H' ∧ WantS S O P E fr R H' fp' (forGo g m (ds.drop i) env') D σ',
    ⟨ds.length, by omega, f1, e1, I1, Fwd.refl _ _, hp⟩, fun i k σ' H' hW => ?_⟩
  obtain ⟨hk, f2, e2, I2, w2, hp2⟩ := hW
  obtain ⟨j1, j2, j3⟩ := hJ (Fs R f2) H' (adv_fs w2) fun a q => I2.fs q
  by_cases c : i < ds.length
  · refine .inr ⟨j1 i c, fun σ3 H3 => ∃ k', k' < k ∧ (i + 1 + k' = ds.length ∧ ∃ fp' env', Rel S O P R σ3 H3 fp' env' ∧ Fwd (Lv f1) H1 (Lv fp') H3 ∧ WantS S O P E fr R H3 fp' (forGo g m (ds.drop (i + 1)) env') D σ3), fun _ _ z => z, fun x H3 hy => ?_⟩
    have hd : ds[i]? = some ds[i] := List.getElem?_eq_getElem c
    obtain ⟨x3, r3⟩ := j2 i x H3 _ hy hd
    have I3 := I2.grow x3
    have w3 : Fwd (Lv f1) H1 (Lv f2) H3 := w2.trans (Fwd.grow x3)
    rw [List.drop_eq_getElem_cons c] at hp2
    unfold forGo at hp2
    split at hp2
    · exact hp2.elim
    · rename_i e3 q3
      refine hg.run R σ' H3 f2 e2 _ x e3 I3 r3 q3 _ fun σ4 I4 _ => hb R σ4 H3 f2 e3 I4 _ ?_
      have hp3 : WantS S O P E fr R H3 f2 _ D σ' := hp2.at (f1 := f2) (Fwd.grow x3)
      cases q : m e3 with
      | next e =>
        rw [q] at hp3
        exact fun σ5 H5 f5 I5 w5 => ⟨k - 1, by omega, by omega, f5, e, I5, w3.trans w5, hp3.at w5⟩
      | cont e =>
        rw [q] at hp3
        exact fun σ5 H5 f5 I5 w5 => ⟨k - 1, by omega, by omega, f5, e, I5, w3.trans w5, hp3.at w5⟩
      | brk e => rw [q] at hp3; exact hp3
      | ret d e => rw [q] at hp3; exact hp3
      | exc d e => rw [q] at hp3; exact hp3
      | bad => rw [q] at hp3; exact hp3
  · refine .inl ⟨j3 i (by omega), ?_⟩
    rw [List.drop_eq_nil_of_le (by omega)] at hp2
    exact hp2 σ' H' f2 I2 (Fwd.refl _ _)
def whileN (c : TM) (b : SM) : Nat → Env → Option Fl
  | 0, _ => none
  | n + 1, env => match c env with
    | .bad => some .bad
    | .exc x e => some (.exc x e)
    | .ok false e => some (.next e)
    | .ok true e => match b e with
      | .next e' => whileN c b n e'
      | .cont e' => whileN c b n e'
      | .brk e' => some (.next e')
      | .ret x e' => some (.ret x e')
      | .exc x e' => some (.exc x e')
      | .bad => some .bad
open Classical in
noncomputable def sWhile (c : TM) (b : SM) : SM := fun env => if h : ∃ n r, whileN c b n env = some r then (Classical.choose (Classical.choose_spec h)) else .bad
theorem whileN_mono {c : TM} {b : SM} : ∀ {n k : Nat} {env : Env} {r : Fl}, whileN c b n env = some r → n ≤ k → whileN c b k env = some r
  | 0, _, _, _, h, _ => by cases h
  | n + 1, 0, _, _, _, hk => by omega
  | n + 1, k + 1, env, r, h, hk => by
    unfold whileN at h ⊢
    split at h
    · exact h
    · exact h
    · exact h
    · split at h
      · exact whileN_mono h (by omega)
      · exact whileN_mono h (by omega)
      · exact h
      · exact h
      · exact h
      · exact h
theorem sWhile_of {c : TM} {b : SM} {n : Nat} {env : Env} {r : Fl} (h : whileN c b n env = some r) : sWhile c b env = r := by
  have e : ∃ n r, whileN c b n env = some r := ⟨n, r, h⟩
  unfold sWhile
  rw [dif_pos e]
  have q := Classical.choose_spec (Classical.choose_spec e)
  rcases Nat.le_total n (Classical.choose e) with z | z
  · exact Option.some.inj (q.symm.trans (whileN_mono h z))
  · exact Option.some.inj ((whileN_mono q z).symm.trans h)
theorem rs_while (hc : RefT S O P E none tt mt) (hb : RefS S O P E fr t m) : RefS S O P E fr (tWhile tt t) (sWhile mt m) := by
  intro R σ H fp env I D h
  have hx : ∃ n r, whileN mt m n env = some r := by
    apply Classical.byContradiction
    intro z
    have q : sWhile mt m env = .bad := by
      unfold sWhile
      rw [dif_neg z]
    rw [q] at h
    exact h
  obtain ⟨n0, r0, h0⟩ := hx
  rw [sWhile_of h0] at h
  refine ⟨fun k σ' H' => ∃ fp' env' r, Rel S O P R σ' H' fp' env' ∧ whileN mt m k env' = some r ∧ WantS S O P E fr R H' fp' r D σ', ⟨n0, fp, env, r0, I, h0, h⟩, fun k σ' H' hW => ?_⟩
  obtain ⟨f1, e1, r, I1, hr, h1⟩ := hW
  cases k with
  | zero => cases hr
  | succ k =>
    refine hc R σ' H' f1 e1 I1 _ ?_
    unfold whileN at hr
    cases q : mt e1 with
    | bad => rw [q] at hr; cases hr; exact h1
    | exc x e => rw [q] at hr; cases hr; exact fun cls dd H2 f2 I2 s2 x2 => h1 cls dd σ' H2 f2 I2 s2 x2
    | ok b e =>
      rw [q] at hr
      intro H2 f2 I2 s2
      cases b with
      | false =>
        cases hr
        exact h1 σ' H2 f2 I2 s2
      | true =>
        show ∃ N : L2.St → Hp → Prop, (∀ σ' H', N σ' H' → ∃ m', m' < k + 1 ∧ _) ∧ _
        refine ⟨fun σ5 H5 => ∃ fp' env' r, Rel S O P R σ5 H5 fp' env' ∧ whileN mt m k env' = some r ∧ WantS S O P E fr R H5 fp' r D σ5, fun σ5 H5 z => ⟨k, Nat.lt_succ_self _, z⟩, hb R σ' H2 f2 e I2 _ ?_⟩
        have s2 : Fwd (Lv f1) H' (Lv f2) H2 := s2
        dsimp only at hr
        cases q2 : m e with
        | next e' => rw [q2] at hr; exact fun σ5 H5 f5 I5 w5 => ⟨f5, e', r, I5, hr, h1.at (s2.trans w5)⟩
        | cont e' => rw [q2] at hr; exact fun σ5 H5 f5 I5 w5 => ⟨f5, e', r, I5, hr, h1.at (s2.trans w5)⟩
        | brk e' => rw [q2] at hr; cases hr; exact h1.at (σ1 := σ') s2
        | ret d e' => rw [q2] at hr; cases hr; exact h1.at (σ1 := σ') s2
        | exc d e' => rw [q2] at hr; cases hr; exact h1.at (σ1 := σ') s2
        | bad => rw [q2] at hr; cases hr; exact h1
def wipeE (env : Env) : List Nat → Env
  | [] => env
  | v :: vs => (wipeE env vs).set v none
def resE (env env0 : Env) : List Nat → Env
  | [] => env
  | v :: vs => (resE env env0 vs).set v (env0.getD v none)
def Out.noX {α : Type} (o : Out α) : Out α := match o with
  | .exc _ _ => .bad
  | o => o
@[simp] theorem Out.noX_ok {α : Type} (a : α) (e : Env) : (Out.ok a e).noX = .ok a e := rfl
@[simp] theorem Out.noX_bad {α : Type} : (Out.bad : Out α).noX = .bad := rfl
@[simp] theorem Out.noX_exc {α : Type} (x : Exn) (e : Env) : (Out.exc x e : Out α).noX = .bad := rfl
def lcGo (vs : List Nat) (g : GM) (c : TM) (e : EM) : List D → List D → Env → Out (List D)
  | [], acc, env => .ok acc env
  | d :: ds, acc, env => match g d env with
    | none => .bad
    | some e1 => (c e1).noX.bind fun b e2 => if b then (e e2).noX.bind fun x e3 => if acc.length < 100000 then lcGo vs g c e ds (acc ++ [x]) (wipeE e3 vs) else .bad else lcGo vs g c e ds acc (wipeE e2 vs)
def eLc (vs : List Nat) (it : IM) (g : GM) (c : TM) (e : EM) : EM := fun env => (it env).bind fun ds e0 => (lcGo vs g c e ds [] (wipeE e0 vs)).bind fun xs e1 => .ok (.lst xs) (resE e1 e0 vs)
def mYes : TM := fun env => .ok true env
theorem rt_yes : RefT S O P E μ tYes mYes := fun R σ H fp env I Q h => h H fp I Stp.refl
theorem wipeE_get (env : Env) : ∀ (vs : List Nat) (i : Nat), i ∉ vs → (wipeE env vs)[i]? = env[i]?
  | [], _, _ => rfl
  | v :: vs, i, h => by
    unfold wipeE
    rw [List.getElem?_set_ne (fun z => h (by rw [z]; exact List.mem_cons_self)), wipeE_get env vs i fun z => h (List.mem_cons_of_mem _ z)]
theorem wipeE_no (env : Env) : ∀ (vs : List Nat) (i : Nat) (d : D), i ∈ vs → (wipeE env vs)[i]? ≠ some (some d)
  | v :: vs, i, d, h => by
    unfold wipeE
    by_cases e : v = i
    · subst e
      intro q
      have hl := (List.getElem?_eq_some_iff.mp q).1
      rw [List.length_set] at hl
      rw [List.getElem?_set_self hl] at q
      cases q
    · rw [List.getElem?_set_ne e]
      rcases List.mem_cons.mp h with z | z
      · exact absurd z.symm e
      · exact wipeE_no env vs i d z
theorem wipeE_len (env : Env) : ∀ vs : List Nat, (wipeE env vs).length = env.length
  | [] => rfl
  | v :: vs => by unfold wipeE; rw [List.length_set, wipeE_len env vs]
theorem resE_len (env env0 : Env) : ∀ vs : List Nat, (resE env env0 vs).length = env.length
  | [] => rfl
  | v :: vs => by unfold resE; rw [List.length_set, resE_len env env0 vs]
theorem resE_get (env env0 : Env) : ∀ (vs : List Nat) (i : Nat), i ∉ vs → (resE env env0 vs)[i]? = env[i]?
  | [], _, _ => rfl
  | v :: vs, i, h => by
    unfold resE
    rw [List.getElem?_set_ne (fun z => h (by rw [z]; exact List.mem_cons_self)), resE_get env env0 vs i fun z => h (List.mem_cons_of_mem _ z)]
theorem resE_in (env env0 : Env) : ∀ (vs : List Nat) (i : Nat) (d : D), i ∈ vs → (resE env env0 vs)[i]? = some (some d) → env0[i]? = some (some d)
  | v :: vs, i, d, h, q => by
    unfold resE at q
    by_cases e : v = i
    · subst e
      have hl := (List.getElem?_eq_some_iff.mp q).1
      rw [List.length_set] at hl
      rw [List.getElem?_set_self hl] at q
      have q := Option.some.inj q
      unfold List.getD at q
      cases z : env0[v]? with
      | none => rw [z] at q; cases q
      | some o => rw [z] at q; exact congrArg some q
    · rw [List.getElem?_set_ne e] at q
      rcases List.mem_cons.mp h with z | z
      · exact absurd z.symm e
      · exact resE_in env env0 vs i d z q
theorem wipe_get (σ : L2.St) : ∀ (vs : List Nat) (i : Nat), i ∉ vs → (wipe σ vs)[i]? = σ[i]?
  | [], _, _ => rfl
  | v :: vs, i, h => by
    unfold wipe
    rw [List.getElem?_set_ne (fun z => h (by rw [z]; exact List.mem_cons_self)), wipe_get σ vs i fun z => h (List.mem_cons_of_mem _ z)]
theorem wipe_in (σ : L2.St) : ∀ (vs : List Nat) (i : Nat), i ∈ vs → i < σ.length → (wipe σ vs)[i]? = some none
  | v :: vs, i, h, hl => by
    unfold wipe
    by_cases e : v = i
    · subst e
      exact List.getElem?_set_self (by rw [wipe_length]; exact hl)
    · rw [List.getElem?_set_ne e]
      rcases List.mem_cons.mp h with z | z
      · exact absurd z.symm e
      · exact wipe_in σ vs i z hl
theorem wipe_same {σ τ : L2.St} {vs : List Nat} (hl : σ.length = τ.length) (h : ∀ i, i ∉ vs → σ[i]? = τ[i]?) : wipe σ vs = wipe τ vs := by
  apply List.ext_getElem?
  intro i
  by_cases c : i ∈ vs
  · by_cases d : i < σ.length
    · rw [wipe_in σ vs i c d, wipe_in τ vs i c (by omega)]
    · rw [List.getElem?_eq_none (by rw [wipe_length]; omega), List.getElem?_eq_none (by rw [wipe_length]; omega)]
  · rw [wipe_get σ vs i c, wipe_get τ vs i c, h i c]
theorem wipe_wipe (σ : L2.St) (vs : List Nat) : wipe (wipe σ vs) vs = wipe σ vs := wipe_same (wipe_length σ vs) fun i hi => wipe_get σ vs i hi
theorem Rel.wipe {R : Rx} {σ : L2.St} {H : Hp} {fp : Fp} {env : Env} {vs : List Nat} (I : Rel S O P R σ H fp env) (hv : ∀ v ∈ vs, v ∉ O) : Rel S O P R (L2.wipe σ vs) H fp (wipeE env vs) where
  len := by rw [wipe_length, wipeE_len, I.len]
  val := fun i d h1 h2 => by
    by_cases c : i ∈ vs
    · exact absurd h1 (wipeE_no env vs i d c)
    · rw [wipeE_get env vs i c] at h1
      rw [wipe_get σ vs i c]
      exact I.val i d h1 h2
  own := fun i d h1 h2 => by
    have c : i ∉ vs := fun z => hv i z h2
    rw [wipeE_get env vs i c] at h1
    rw [wipe_get σ vs i c]
    exact I.own i d h1 h2
  non := fun i h => I.non i (by
    rcases h with h | h
    · exact .inl h
    · by_cases c : i ∈ O
      · exact .inr fun d q => h d (by rw [wipeE_get env vs i fun z => hv i z c]; exact q)
      · exact .inl c)
  dist := I.dist
  nd := I.nd
  src := I.src
  ext := I.ext
  gl := I.gl
  live := I.live
  dom := I.dom
  mh := I.mh
  tb := I.tb
  hb := I.hb
  par := I.par.of rfl fun i hi hO d hd => ⟨hO, ⟨d, by rw [wipeE_get env vs i fun z => hv i z hO] at hd; exact hd⟩, wipe_get σ vs i fun z => hv i z hO⟩
theorem Rel.unplus {R : Rx} {σ : L2.St} {H : Hp} {fp : Fp} {env : Env} {a : Addr} (I : Rel S O P (R.plus a) σ H fp env) : Rel S O P R σ H fp env := by
  have m : ∀ x, Fs R fp x → Fs (R.plus a) fp x ∨ H x = none := fun x z => .inl (fs_plus.mpr (.inl z))
  exact ⟨I.len, fun i d h1 h2 => let ⟨v, q, r⟩ := I.val i d h1 h2; ⟨v, q, r.less m⟩, fun i d h1 h2 => let ⟨v, q, r⟩ := I.own i d h1 h2; ⟨v, q, r.fwd (Ext.refl _ _) m⟩, I.non, I.dist, I.nd,
    fun i b hb => (I.src i b hb).mono .inl, I.ext, fun b z => I.gl b (.inl z), I.live, I.dom, I.mh, I.tb, ⟨I.hb.e, I.hb.m⟩, I.par⟩
theorem Rel.res {R : Rx} {σ : L2.St} {H H0 : Hp} {fp f0 : Fp} {env env0 : Env} {vs : List Nat} (I : Rel S O P R (L2.wipe σ vs) H fp env) (I0 : Rel S O P R σ H0 f0 env0) (w : Fwd (Fs R f0) H0 (Fs R fp) H) (hv : ∀ v ∈ vs, v ∉ O) : Rel S O P R σ H fp (resE env env0 vs) where
  len := by rw [resE_len, I.len, wipe_length]
  val := fun i d h1 h2 => by
    by_cases c : i ∈ vs
    · obtain ⟨v, q, r⟩ := I0.val i d (resE_in env env0 vs i d c h1) h2
      exact ⟨v, q, Rep.fwd w _ _ r⟩
    · rw [resE_get env env0 vs i c] at h1
      obtain ⟨v, q, r⟩ := I.val i d h1 h2
      rw [wipe_get σ vs i c] at q
      exact ⟨v, q, r⟩
  own := fun i d h1 h2 => by
    have c : i ∉ vs := fun z => hv i z h2
    rw [resE_get env env0 vs i c] at h1
    obtain ⟨v, q, r⟩ := I.own i d h1 h2
    rw [wipe_get σ vs i c] at q
    exact ⟨v, q, r⟩
  non := fun i h => I.non i (by
    rcases h with h | h
    · exact .inl h
    · by_cases c : i ∈ O
      · exact .inr fun d q => h d (by rw [resE_get env env0 vs i fun z => hv i z c]; exact q)
      · exact .inl c)
  dist := I.dist
  nd := I.nd
  src := I.src
  ext := I.ext
  gl := I.gl
  live := I.live
  dom := I.dom
  mh := I.mh
  tb := I.tb
  hb := I.hb
  par := I.par.of rfl fun i hi hO d hd => ⟨hO, ⟨d, by rw [resE_get env env0 vs i fun z => hv i z hO] at hd; exact hd⟩, (wipe_get σ vs i fun z => hv i z hO).symm⟩
theorem FM.plus {R : Rx} {fp : Fp} {a x : Addr} (nl : ∀ i, a ∉ fp i) : FM (R.plus a) fp μ x ↔ (FM R fp μ x ∨ x = a) := by
  cases μ with
  | none => exact fs_plus
  | some U =>
    constructor
    · rintro ⟨z1, z2⟩
      rcases fs_plus.mp z1 with z | z
      · exact .inl ⟨z, z2⟩
      · exact .inr z
    · rintro (⟨z1, z2⟩ | z)
      · exact ⟨fs_plus.mpr (.inl z1), z2⟩
      · exact ⟨fs_plus.mpr (.inr z), fun ⟨i, _, hi⟩ => nl i (z ▸ hi)⟩
theorem upd_dom {H : Hp} {a b : Addr} {o : HO} (h : H b ≠ none) : upd H a o b ≠ none := by
  unfold L2.upd
  split
  · exact fun z => nomatch z
  · exact h
theorem Rel.updG {R : Rx} {σ : L2.St} {H : Hp} {fp : Fp} {env : Env} {a : Addr} {vs vs' : List V} (I : Rel S O P R σ H fp env) (g : R.G a) (nl : ∀ i, a ∉ fp i) (h0 : R.H0 a = none) (h : H a = some (.lst vs)) :
    Rel S O P R σ (L2.upd H a (.lst vs')) fp env ∧ ∀ F : Addr → Prop, F a → Fwd F H F (L2.upd H a (.lst vs')) := by
  have w : ∀ F : Addr → Prop, F a → Fwd F H F (L2.upd H a (.lst vs')) := fun F fa => ⟨ext_upd h fa trivial trivial, fun _ z => .inl z, fun _ z => upd_dom z⟩
  refine ⟨⟨I.len, fun i d q1 q2 => let ⟨v, x1, x2⟩ := I.val i d q1 q2; ⟨v, x1, Rep.fwd (w _ (.inl g)) _ _ x2⟩, fun i d q1 q2 => ?_, I.non, I.dist, I.nd, I.src, ext_again I.ext h (.inr h0) trivial trivial, fun b q => upd_dom (I.gl b q), fun i b q => upd_dom (I.live i b q), fun b q => upd_dom (I.dom b q), I.mh, tb_ext (w _ g).1 I.tb, ⟨I.hb.e, I.hb.m⟩, I.par⟩, w⟩
  · obtain ⟨b, x1, x2⟩ := I.own i d q1 q2
    refine ⟨b, x1, ?_⟩
    have nb : ∀ c, c ∈ fp i → c ≠ a := fun c hc z => nl i (z ▸ hc)
    exact x2.keep (w _ (.inl g)) fun c hc u e _ => by rw [upd_ne (nb c hc)]; exact e
theorem resE_wipe {env : Env} {vs : List Nat} : resE (wipeE env vs) env vs = env := by
  apply List.ext_getElem?
  intro i
  by_cases c : i ∈ vs
  · by_cases d : i < env.length
    · have key : ∀ ws : List Nat, i ∈ ws → ∀ e : Env, e.length = env.length → (resE e env ws)[i]? = env[i]? := by
        intro ws
        induction ws with
        | nil => intro z; cases z
        | cons v ws ih =>
          intro z e he
          unfold resE
          by_cases q : v = i
          · subst q
            rw [List.getElem?_set_self (by rw [resE_len, he]; exact d), List.getElem?_eq_getElem d]
            show some (env.getD v none) = _
            unfold List.getD
            rw [List.getElem?_eq_getElem d]
            rfl
          · rw [List.getElem?_set_ne q]
            exact ih ((List.mem_cons.mp z).resolve_left fun w => q w.symm) e he
      exact key vs c _ (wipeE_len env vs)
    · rw [List.getElem?_eq_none (by rw [resE_len, wipeE_len]; omega), List.getElem?_eq_none (by omega)]
  · rw [resE_get _ _ vs i c, wipeE_get env vs i c]
theorem wipeE_same {e f : Env} {vs : List Nat} (hl : e.length = f.length) (h : ∀ i, i ∉ vs → e[i]? = f[i]?) : wipeE e vs = wipeE f vs := by
  have key : ∀ (ws : List Nat) (g : Env) (i : Nat), i ∈ ws → i < g.length → (wipeE g ws)[i]? = some none := by
    intro ws
    induction ws with
    | nil => intro g i z; cases z
    | cons v ws ih =>
      intro g i z hg
      unfold wipeE
      by_cases q : v = i
      · subst q
        exact List.getElem?_set_self (by rw [wipeE_len]; exact hg)
      · rw [List.getElem?_set_ne q]
        exact ih g i ((List.mem_cons.mp z).resolve_left fun w => q w.symm) hg
  apply List.ext_getElem?
  intro i
  by_cases c : i ∈ vs
  · by_cases d : i < e.length
    · rw [key vs e i c d, key vs f i c (by omega)]
    · rw [List.getElem?_eq_none (by rw [wipeE_len]; omega), List.getElem?_eq_none (by rw [wipeE_len]; omega)]
  · rw [wipeE_get e vs i c, wipeE_get f vs i c, h i c]
theorem lcGo_ok {vs : List Nat} {g : GM} {c : TM} {e : EM} : ∀ {ds acc : List D} {env : Env}, (∃ xs e', lcGo vs g c e ds acc env = .ok xs e') ∨ lcGo vs g c e ds acc env = .bad
  | [], acc, env => .inl ⟨_, _, rfl⟩
  | d :: ds, acc, env => by
    unfold lcGo
    split
    · exact .inr rfl
    · rename_i e1 _
      cases c e1 with
      | bad => exact .inr rfl
      | exc x e => exact .inr rfl
      | ok b e2 =>
        simp only [Out.noX_ok, Out.bind_ok]
        split
        · cases e e2 with
          | bad => exact .inr rfl
          | exc x e => exact .inr rfl
          | ok x e3 =>
            simp only [Out.noX_ok, Out.bind_ok]
            split
            · exact lcGo_ok
            · exact .inr rfl
        · exact lcGo_ok
theorem stq_of {R : Rx} {H1 H' : Hp} {f1 f2 : Fp} {a : Addr} (hD : H1 a = none) (w : Fwd (Lv f1) H1 (Lv f2) H') (p : μ ≠ none → Ext Nil H1 H' ∧ f2 = f1) : Stq μ (Fs R f1) H1 (Fs (R.plus a) f2) H' := by
  have z : ∀ x, Fs (R.plus a) f2 x → Fs R f1 x ∨ H1 x = none := fun x z => by
    rcases fs_plus.mp z with (z | z) | z
    · exact .inl (.inl z)
    · exact (w.2.1 x z).imp .inr id
    · exact .inr (by rw [z]; exact hD)
  cases μ with
  | none => exact ⟨w.1.mono fun _ z => .inr z, z, w.2.2⟩
  | some U => exact ⟨(p fun z => nomatch z).1, z⟩
theorem ref_lc {E1 E2 : XK} {fe : Bool} {vs ws : List Nat} {wi : TI} {it : IM} {tg : TG} {g : GM} {te : TE} {me : EM} (hi : RefI S O P E μ wi it) (hg : RefG S O P ws tg g) (ht : RefT S O P E1 μ tt mt) (he : RefE S O P E2 μ fe te me) (hw : ∀ i ∈ ws, i ∈ vs) (hv : ∀ v ∈ vs, v ∉ O) :
    RefE S O P E μ true (tLc wi tg tt te vs) (eLc vs it g mt me) := by
  intro R σ H fp env I Q h
  refine hi R σ H fp env I _ ((Want.bind h).mono fun ds e1 H1 f1 I1 s1 hp J hJ => ?_)
  intro Dl hD
  have I2 : Rel S O P (R.plus Dl) σ (upd H1 Dl (.lst [])) f1 e1 := I1.plus hD (Ext.new hD) (by rw [upd_same]; exact fun z => nomatch z)
  have I3 := I2.wipe hv
  have h0D : R.H0 Dl = none := by
    cases q : R.H0 Dl with
    | none => rfl
    | some o => exact absurd hD (I1.dom Dl (by rw [q]; exact fun z => nomatch z))
  obtain ⟨xs, e3, hx⟩ : ∃ xs e3, lcGo vs g mt me ds [] (wipeE e1 vs) = .ok xs e3 := by
    rcases lcGo_ok (vs := vs) (g := g) (c := mt) (e := me) (ds := ds) (acc := []) (env := wipeE e1 vs) with z | z
    · exact z
    · rw [z] at hp
      exact hp.elim
  rw [hx] at hp
  have hp : ∀ H' fp', Rel S O P R σ H' fp' (resE e3 e1 vs) → Stp μ R H1 f1 e1 H' fp' (resE e3 e1 vs) → PostE S O P R σ μ true H Q (.lst xs) (resE e3 e1 vs) H' fp' := hp
  have nlv : ∀ {τ : L2.St} {H' : Hp} {f2 : Fp} {env2 : Env}, Rel S O P (R.plus Dl) τ H' f2 env2 → ¬ Lv f2 Dl := fun J2 ⟨i, z⟩ => by
    have q := J2.src i Dl z
    by_cases c : i ∈ P
    · exact (q.1 c).elim (fun z => J2.mh Dl z h0D) fun z => z.2 (.inr rfl)
    · exact (q.2 c).2 (.inr rfl)
  refine ⟨fun i k H' => i + k = ds.length ∧ ∃ f2 env2 acc vacc, Rel S O P (R.plus Dl) (wipe σ vs) H' f2 env2 ∧ H' Dl = some (.lst vacc) ∧ RepL S (FM (R.plus Dl) f2 μ) H' acc vacc ∧ lcGo vs g mt me (ds.drop i) acc env2 = .ok xs e3 ∧
      Fwd (Lv f1) H1 (Lv f2) H' ∧ (μ ≠ none → (Ext Nil H1 H' ∧ f2 = f1) ∧ env2 = wipeE e1 vs),
    ⟨ds.length, by omega, f1, wipeE e1 vs, [], [], I3, upd_same, .nil, hx, Fwd.grow (Ext.new hD), fun _ => ⟨⟨Ext.new hD, rfl⟩, rfl⟩⟩, fun i k H' hW => ?_⟩
  obtain ⟨hk, f2, env2, acc, vacc, J2, a2, r2, l2, w2, p2⟩ := hW
  have nl2 := nlv J2
  obtain ⟨j1, j2, j3⟩ := hJ (Fs (R.plus Dl) f2) H' (stq_of hD w2 fun z => (p2 z).1) fun a q => J2.fs q
  by_cases c : i < ds.length
  · refine .inr ⟨j1 i c, fun H3 => ∃ k', k' < k ∧ (i + 1 + k' = ds.length ∧ ∃ f2 env2 acc vacc, Rel S O P (R.plus Dl) (wipe σ vs) H3 f2 env2 ∧ H3 Dl = some (.lst vacc) ∧ RepL S (FM (R.plus Dl) f2 μ) H3 acc vacc ∧ lcGo vs g mt me (ds.drop (i + 1)) acc env2 = .ok xs e3 ∧
      Fwd (Lv f1) H1 (Lv f2) H3 ∧ (μ ≠ none → (Ext Nil H1 H3 ∧ f2 = f1) ∧ env2 = wipeE e1 vs)), fun _ z => z, fun x H3 hy => ?_⟩
    have hd : ds[i]? = some ds[i] := List.getElem?_eq_getElem c
    obtain ⟨x3, r3⟩ := j2 i x H3 _ hy hd
    have I4 := J2.grow x3
    rw [List.drop_eq_getElem_cons c] at l2
    unfold lcGo at l2
    split at l2
    · cases l2
    · rename_i e4 q4
      obtain ⟨lo1, lo2⟩ := hg.loc _ _ _ q4
      refine hg.run (R.plus Dl) (wipe σ vs) H3 f2 env2 _ x e4 I4 r3 q4 _ fun σ5 I5 s5 => ?_
      have sg : wipe σ5 vs = wipe σ vs := by
        rw [wipe_same (σ := σ5) (τ := wipe σ vs) (by rw [← I5.len, ← I4.len, lo1]) (fun j hj => s5 j fun z => hj (hw j z)), wipe_wipe]
      refine ⟨sg, ?_⟩
      have a3 : H3 Dl = some (.lst vacc) := x3.nil _ _ a2
      have r4 := r2.grow x3
      have w3 : Fwd (Lv f1) H1 (Lv f2) H3 := w2.trans (Fwd.grow x3)
      have fin : ∀ (H6 : Hp) (f6 : Fp) (e6 : Env), Rel S O P (R.plus Dl) σ5 H6 f6 e6 → Stp μ (R.plus Dl) H3 f2 e4 H6 f6 e6 → Rel S O P (R.plus Dl) (wipe σ vs) H6 f6 (wipeE e6 vs) ∧ Fwd (Lv f1) H1 (Lv f6) H6 ∧ (μ ≠ none → (Ext Nil H1 H6 ∧ f6 = f1) ∧ wipeE e6 vs = wipeE e1 vs) := fun H6 f6 e6 I6 s6 => by
        refine ⟨by rw [← sg]; exact I6.wipe hv, w3.trans s6.strong, fun nm => ?_⟩
        cases μ with
        | none => exact absurd rfl nm
        | some U =>
          obtain ⟨y1, rfl, rfl⟩ := s6
          obtain ⟨⟨z0, z1⟩, z2⟩ := p2 nm
          refine ⟨⟨(z0.trans x3).trans y1, z1⟩, ?_⟩
          rw [wipeE_same (f := env2) lo1 (fun j hj => lo2 j fun z => hj (hw j z)), z2, wipeE_same (e := wipeE e1 vs) (f := e1) (wipeE_len _ _) (fun j hj => wipeE_get e1 vs j hj)]
      refine ht (R.plus Dl) σ5 H3 f2 e4 I5 _ ?_
      cases qc : mt e4 with
      | bad => rw [qc] at l2; cases l2
      | exc y e => rw [qc] at l2; cases l2
      | ok b e5 =>
        rw [qc] at l2
        simp only [Out.noX_ok, Out.bind_ok] at l2
        intro H5 f5 I6 s6
        cases b with
        | false =>
          obtain ⟨y1, y2, y3⟩ := fin H5 f5 e5 I6 s6
          exact ⟨k - 1, by omega, by omega, f5, wipeE e5 vs, acc, vacc, y1, s6.strong.1.k Dl _ a3 (.inl nl2) trivial, RepL.fwd s6.fwd _ _ r4, l2, y2, y3⟩
        | true =>
          show te σ5 H5 _
          refine he (R.plus Dl) σ5 H5 f5 e5 I6 _ ?_
          cases qe : me e5 with
          | bad => rw [qe] at l2; simp only [if_true, Out.noX_bad, Out.bind_bad] at l2; cases l2
          | exc y e => rw [qe] at l2; simp only [if_true, Out.noX_exc, Out.bind_bad] at l2; cases l2
          | ok y e6 =>
            rw [qe] at l2
            simp only [if_true, Out.noX_ok, Out.bind_ok] at l2
            intro H6 f6 I7 s7 v hv7 _
            have s67 := s6.trans s7
            obtain ⟨y1, y2, y3⟩ := fin H6 f6 e6 I7 s67
            split at l2
            · rename_i hz
              have a6 : H6 Dl = some (.lst vacc) := s67.strong.1.k Dl _ a3 (.inl nl2) trivial
              have r6 := RepL.fwd s67.fwd _ _ r4
              have nl6 := nlv I7
              obtain ⟨u1, u2⟩ := y1.updG (a := Dl) (vs' := vacc ++ [v]) (.inr rfl) (fun i z => nl6 ⟨i, z⟩) h0D a6
              refine ⟨vacc, a6, by rw [r6.length]; exact lt_line hz, k - 1, by omega, by omega, f6, wipeE e6 vs, acc ++ [y], vacc ++ [v], u1, upd_same, RepL.fwd (u2 (FM (R.plus Dl) f6 μ) ((FM.plus fun i z => nl6 ⟨i, z⟩).mpr (.inr rfl))) _ _ (r6.snoc hv7.rep), l2, ?_, fun nm => ?_⟩
              · exact ⟨ext_again y2.1 a6 (.inr hD) trivial trivial, y2.2.1, fun b q => upd_dom (y2.2.2 b q)⟩
              · obtain ⟨⟨g1, g2⟩, g3⟩ := y3 nm
                exact ⟨⟨ext_again g1 a6 (.inr hD) trivial trivial, g2⟩, g3⟩
            · cases l2
  · refine .inl ⟨j3 i (by omega), ?_⟩
    rw [List.drop_eq_nil_of_le (by omega)] at l2
    cases l2
    have I8 := J2.unplus.res I1 (adv_fs w2) hv
    have I9 : Rel S O P (R.plus Dl) σ H' f2 (resE e3 e1 vs) := J2.res I2 (by
      refine ⟨ext_from w2.1 (fs_plus.mpr (.inr rfl)) (fun x y => fs_plus.mpr (.inl (.inr y))) trivial trivial, fun x z => ?_, fun b q => ?_⟩
      · rcases fs_plus.mp z with (z | z) | z
        · exact .inl (fs_plus.mpr (.inl (.inl z)))
        · rcases w2.2.1 x z with z | z
          · exact .inl (fs_plus.mpr (.inl (.inr z)))
          · by_cases e : x = Dl
            · exact .inl (fs_plus.mpr (.inr e))
            · exact .inr (by rw [upd_ne e]; exact z)
        · exact .inl (fs_plus.mpr (.inr z))
      · by_cases e : b = Dl
        · rw [e, a2]
          exact fun z => nomatch z
        · rw [upd_ne e] at q
          exact w2.2.2 b q) hv
    refine hp H' f2 I8 ?_ _ ⟨Dl, vacc, _, rfl, s1.dom hD, rfl, a2, fun z => ?_, r2.less fun x z => ?_⟩ fun _ a ea => ?_
    · cases μ with
      | none => exact w2
      | some U =>
        obtain ⟨⟨g1, g2⟩, g3⟩ := p2 fun z => nomatch z
        exact ⟨g1, g2, by rw [g3]; exact resE_wipe⟩
    · rcases z.sub with q | ⟨j, q⟩
      · exact I1.gl Dl q hD
      · exact nl2 ⟨j, q⟩
    · exact .inl ((FM.plus fun j q => nl2 ⟨j, q⟩).mpr z)
    · cases ea
      exact I9
end
end Mir
namespace Mir
open PySem PySem.Spec PyProof.Rows L2
variable [Tbl]
inductive FO where
  | ok (d : D) | exc (x : Exn) | bad
abbrev DM := List D → FO
def FO.out (o : FO) (e : Env) : Out D := match o with
  | .ok d => .ok d e
  | .exc x => .exc x e
  | .bad => .bad
@[simp] theorem FO.out_ok (d : D) (e : Env) : (FO.ok d).out e = .ok d e := rfl
@[simp] theorem FO.out_exc (d : Exn) (e : Env) : (FO.exc d).out e = .exc d e := rfl
@[simp] theorem FO.out_bad (e : Env) : FO.bad.out e = .bad := rfl
inductive FO0 where
  | ok (d : D) (o : D) | exc (x : Exn) (o : D) | bad
abbrev DM0 := D → List D → FO0
def runF (fr : Bool) (k n : Nat) (m : SM) : DM := fun ds => if ds.length = k then match m (ds.map some ++ List.replicate (n - ds.length) none) with
  | .ret d _ => .ok d
  | .next _ => if fr then .bad else .ok .non
  | .exc x _ => .exc x
  | _ => .bad
  else .bad
def runF0 (k n : Nat) (m : SM) : DM0 := fun d0 ds => if ds.length + 1 = k then match m ((d0 :: ds).map some ++ List.replicate (n - (ds.length + 1)) none) with
  | .ret d e => match e[0]? with
    | some (some o) => .ok d o
    | _ => .bad
  | .next e => match e[0]? with
    | some (some o) => .ok .non o
    | _ => .bad
  | .exc x e => match e[0]? with
    | some (some o) => .exc x o
    | _ => .bad
  | _ => .bad
  else .bad
theorem runF_ar {fr : Bool} {k n : Nat} {m : SM} {ds : List D} (h : runF fr k n m ds ≠ .bad) : ds.length = k := by
  unfold runF at h
  split at h
  · assumption
  · exact absurd rfl h
theorem runF0_ar {k n : Nat} {m : SM} {d : D} {ds : List D} (h : runF0 k n m d ds ≠ .bad) : ds.length + 1 = k := by
  unfold runF0 at h
  split at h
  · assumption
  · exact absurd rfl h
def WantF (S : Sc) (E : XK) (fr : Bool) (G : Addr → Prop) (H : Hp) (Q : VK) : FO → Prop
  | .ok d => ∀ v H', Ext Nil H H' → RepK S G fr H H' d v → Q v H'
  | .exc x => ∀ cls dd H', Ext Nil H H' → ExcR S H' x cls dd → E cls dd H'
  | .bad => False
def Ls (l : List Addr) : Addr → Prop := fun a => a ∈ l
def WantF0 (S : Sc) (E : XK) (G : Addr → Prop) (H : Hp) (a : Addr) (l : List Addr) (Q : VK) : FO0 → Prop
  | .ok d o => ∀ v H' l', Fwd (Ls l) H (Ls l') H' → Own S (fun x => (G x ∨ x ∈ l) ∨ x ∈ l') H' o a l' → l'.Nodup → (∀ a ∈ l', H' a ≠ none) → Rep S (fun x => (G x ∨ x ∈ l) ∨ x ∈ l') H' d v → Q v H'
  | .exc x o => ∀ cls dd H' l', Fwd (Ls l) H (Ls l') H' → Own S (fun x => (G x ∨ x ∈ l) ∨ x ∈ l') H' o a l' → l'.Nodup → (∀ a ∈ l', H' a ≠ none) → ExcR S H' x cls dd → E cls dd H'
  | .bad => False
def spM (S : Sc) (fr : Bool) (n : Nat) (m : DM) : Sp := fun vs H Q E => ∃ (G : Addr → Prop) (ds : List D), vs.length = n ∧ (∀ a, G a → H a ≠ none) ∧ RepL S G H ds vs ∧ WantF S E fr G H Q (m ds) ∧ LamX.Tabs Tbl.T H ∧ Ext Nil S.Hb H
def spM0 (S : Sc) (n : Nat) (m : DM0) : Sp := fun vs H Q E => ∃ (G : Addr → Prop) (d0 : D) (ds : List D) (a : Addr) (us : List V) (l : List Addr), vs = .ref a :: us ∧ vs.length = n ∧ (∀ a, G a → H a ≠ none) ∧ (∀ a ∈ l, H a ≠ none) ∧ l.Nodup ∧ Own S (fun x => G x ∨ x ∈ l) H d0 a l ∧ RepL S (fun x => G x ∨ x ∈ l) H ds us ∧ WantF0 S E G H a l Q (m d0 ds) ∧ LamX.Tabs Tbl.T H ∧ Ext Nil S.Hb H ∧ ∀ x ∈ l, S.Hb x = none
section
variable {S : Sc}
theorem start_get {N : List Str} {vs : List V} {i : Nat} {v : V} (h : vs[i]? = some v) : (L2.start N vs)[i]? = some (some v) := by
  unfold L2.start
  rw [List.getElem?_append_left (by rw [List.length_map]; exact (List.getElem?_eq_some_iff.mp h).1), List.getElem?_map, h]
  rfl
theorem env_get {ds : List D} {k i : Nat} {d : D} (h : (ds.map some ++ List.replicate k none)[i]? = some (some d)) : ds[i]? = some d := by
  rcases Nat.lt_or_ge i ds.length with c | c
  · rw [List.getElem?_append_left (by rw [List.length_map]; exact c), List.getElem?_map] at h
    cases q : ds[i]? with
    | none => rw [q] at h; cases h
    | some x => rw [q] at h; cases h; rfl
  · rw [List.getElem?_append_right (by rw [List.length_map]; exact c), List.getElem?_replicate] at h
    split at h <;> cases h
theorem body_ok {O : List Nat} {E : XK} {fr : Bool} {N : List Str} {t : TS} {m : SM} {k : Nat} (hr : RefS S O [] E fr t m) (hN : k ≤ N.length) (hO : ∀ i ∈ O, k ≤ i) {vs : List V} {H : Hp} {Q : VK} (h : spM S fr k (runF fr k N.length m) vs H Q E) : t { nx := fun _ H' => Q .non H', rt := Q } (L2.start N vs) H := by
  obtain ⟨G, ds, hl, hG, hR, hw, htb⟩ := h
  have hl2 := hR.length
  refine hr ⟨G, Nil, H, fun _ => none⟩ (L2.start N vs) H (fun _ => []) (ds.map some ++ List.replicate (N.length - ds.length) none) ?_ _ ?_
  · refine ⟨?_, fun i d h1 h2 => ?_, fun i d h1 h2 => ?_, fun _ _ => rfl, fun i j a h => (by cases h), fun i => List.nodup_nil, fun i a h => (by cases h), Ext.refl _ _, hG, fun i a h => (by cases h), fun _ h => h, fun a h => h.elim, htb.1, ⟨htb.2, fun a h => h.elim⟩, .nil⟩
    · unfold L2.start
      rw [List.length_append, List.length_append, List.length_map, List.length_map, List.length_replicate, List.length_replicate]
      omega
    · obtain ⟨v, e1, e2⟩ := hR.get (env_get h1)
      exact ⟨v, start_get e1, e2.less fun a z => z.elim .inl fun ⟨j, q⟩ => by cases q⟩
    · have := env_get h1
      have := (List.getElem?_eq_some_iff.mp this).1
      have := hO i h2
      omega
  · have e0 : ∀ {H' : Hp} {fp' : Fp}, Fwd (Lv fun _ => []) H (Lv fp') H' → Ext Nil H H' := fun w => w.1.mono fun a ⟨i, z⟩ => by cases z
    unfold runF at hw
    rw [if_pos (show ds.length = k by omega)] at hw
    cases q : m (ds.map some ++ List.replicate (N.length - ds.length) none) with
    | next e =>
      rw [q] at hw
      intro σ' H' fp' I' w
      cases fr with
      | false => exact hw _ H' (e0 w) rfl
      | true => exact hw.elim
    | ret d e =>
      rw [q] at hw
      intro σ' v H' fp' I' w r
      exact hw v H' (e0 w) (RepK.lessF r fun x z => .inl z)
    | exc x e =>
      rw [q] at hw
      intro cls dd σ' H' fp' I' w r
      exact hw cls dd H' (e0 w) r
    | brk e => rw [q] at hw; exact hw.elim
    | cont e => rw [q] at hw; exact hw.elim
    | bad => rw [q] at hw; exact hw.elim
def fp0 (l : List Addr) : Fp := fun i => if i = 0 then l else []
theorem fp0_mem {l : List Addr} {i : Nat} {a : Addr} (h : a ∈ fp0 l i) : i = 0 ∧ a ∈ l := by
  unfold fp0 at h
  split at h
  · rename_i z
    exact ⟨z, h⟩
  · cases h
theorem fp0_0 (l : List Addr) : fp0 l 0 = l := rfl
theorem body_ok0 {O : List Nat} {E : XK} {N : List Str} {t : TS} {m : SM} {k : Nat} (hr : RefS S (0 :: O) [0] E false t m) (hN : k ≤ N.length) (hO : ∀ i ∈ O, k ≤ i) {vs : List V} {H : Hp} {Q : VK} (h : spM0 S k (runF0 k N.length m) vs H Q E) : t { nx := fun _ H' => Q .non H', rt := Q } (L2.start N vs) H := by
  obtain ⟨G, d0, ds, a, us, l, rfl, hl, hG, hL, hnd, hOw, hR, hw, htb⟩ := h
  have hl2 := hR.length
  have hl : us.length + 1 = k := hl
  have e1 : ((d0 :: ds).map some ++ List.replicate (N.length - (ds.length + 1)) none : Env)[0]? = some (some d0) := rfl
  have e2 : (L2.start N (V.ref a :: us))[0]? = some (some (.ref a)) := rfl
  have hb : ∀ {i : Nat} {d : D}, i ∈ O → ((d0 :: ds).map some ++ List.replicate (N.length - (ds.length + 1)) none : Env)[i]? = some (some d) → False := fun {i d} h1 h2 => by
    have q := (List.getElem?_eq_some_iff.mp (env_get h2)).1
    have := hO i h1
    rw [List.length_cons] at q
    omega
  refine hr ⟨fun x => G x ∨ x ∈ l, Ls l, H, fun _ => some (some (.ref a))⟩ (L2.start N (V.ref a :: us)) H (fp0 l) ((d0 :: ds).map some ++ List.replicate (N.length - (ds.length + 1)) none) ?_ _ ?_
  · have hF : ∀ x, Fs ⟨fun x => G x ∨ x ∈ l, Ls l, H, fun _ => some (some (.ref a))⟩ (fp0 l) x → (G x ∨ x ∈ l) ∨ H x = none := fun x z => z.elim .inl fun ⟨i, z⟩ => .inl (.inr (fp0_mem z).2)
    refine ⟨?_, fun i d h1 h2 => ?_, fun i d h1 h2 => ?_, fun i h => ?_, fun i j b h1 h2 => (fp0_mem h1).1.trans (fp0_mem h2).1.symm, fun i => ?_, fun i b h => ?_, Ext.refl _ _, fun b z => z.elim (hG b) (hL b), fun i b h => hL b (fp0_mem h).2, fun _ h => h, fun b h => hL b h, htb.1, ⟨htb.2.1, fun b h => htb.2.2 b h⟩, fun i hi _ d _ => by rw [List.mem_singleton.mp hi]; exact e2⟩
    · unfold L2.start
      rw [List.length_append, List.length_append, List.length_map, List.length_map, List.length_replicate, List.length_replicate, List.length_cons, List.length_cons, hl2]
    · have q := env_get h1
      cases i with
      | zero => exact absurd List.mem_cons_self h2
      | succ i =>
        obtain ⟨v, x1, x2⟩ := hR.get (show ds[i]? = some d from q)
        exact ⟨v, start_get (i := i + 1) x1, x2.less hF⟩
    · rcases List.mem_cons.mp h2 with z | z
      · subst z
        rw [e1] at h1
        cases h1
        exact ⟨a, e2, by rw [fp0_0]; exact hOw.fwd (Ext.refl _ _) hF⟩
      · exact (hb z h1).elim
    · unfold fp0
      split
      · rename_i z
        subst z
        rcases h with h | h
        · exact absurd List.mem_cons_self h
        · exact absurd e1 (h d0)
      · rfl
    · unfold fp0
      split
      · exact hnd
      · exact List.nodup_nil
    · obtain ⟨z, h⟩ := fp0_mem h
      exact ⟨fun _ => .inl h, fun q => absurd (by rw [z]; exact List.mem_cons_self) q⟩
  · have key : ∀ {σ' : L2.St} {H' : Hp} {fp' : Fp} {e : Env} {o : D}, Rel S (0 :: O) [0] ⟨fun x => G x ∨ x ∈ l, Ls l, H, fun _ => some (some (.ref a))⟩ σ' H' fp' e → Fwd (Lv (fp0 l)) H (Lv fp') H' → e[0]? = some (some o) →
        Fwd (Ls l) H (Ls (fp' 0)) H' ∧ Own S (fun x => (G x ∨ x ∈ l) ∨ x ∈ fp' 0) H' o a (fp' 0) ∧ (fp' 0).Nodup ∧ ∀ b ∈ fp' 0, H' b ≠ none := fun {σ' H' fp' e o} I' w q => by
      obtain ⟨a', y1, y2⟩ := I'.own 0 o q List.mem_cons_self
      have ea : a' = a := by
        rw [I'.par 0 List.mem_cons_self List.mem_cons_self o q] at y1
        exact (V.ref.inj (Option.some.inj (Option.some.inj y1))).symm
      subst ea
      exact ⟨⟨w.1.mono fun b ⟨i, z⟩ => (fp0_mem z).2, fun b z => (I'.src 0 b z).was.imp id id, w.2.2⟩, y2.fwd (Ext.refl _ _) fun x z => .inl (z.elim .inl fun z => .inr ⟨0, z⟩), I'.nd 0, fun b hb => I'.live 0 b hb⟩
    unfold runF0 at hw
    rw [if_pos (show ds.length + 1 = k by omega)] at hw
    cases q : m ((d0 :: ds).map some ++ List.replicate (N.length - (ds.length + 1)) none) with
    | next e =>
      rw [q] at hw
      dsimp only at hw
      intro σ' H' fp' I' w
      cases q0 : e[0]? with
      | none => rw [q0] at hw; exact hw.elim
      | some o =>
        cases o with
        | none => rw [q0] at hw; exact hw.elim
        | some o =>
          rw [q0] at hw
          obtain ⟨k1, k2, k3, k4⟩ := key I' w q0
          exact hw _ H' _ k1 k2 k3 k4 rfl
    | ret d e =>
      rw [q] at hw
      dsimp only at hw
      intro σ' v H' fp' I' w r
      cases q0 : e[0]? with
      | none => rw [q0] at hw; exact hw.elim
      | some o =>
        cases o with
        | none => rw [q0] at hw; exact hw.elim
        | some o =>
          rw [q0] at hw
          obtain ⟨k1, k2, k3, k4⟩ := key I' w q0
          exact hw v H' _ k1 k2 k3 k4 (Rep.less r fun x z => .inl (z.imp id fun z => ⟨0, List.mem_cons_self, z⟩))
    | exc x e =>
      rw [q] at hw
      dsimp only at hw
      intro cls dd σ' H' fp' I' w r
      cases q0 : e[0]? with
      | none => rw [q0] at hw; exact hw.elim
      | some o =>
        cases o with
        | none => rw [q0] at hw; exact hw.elim
        | some o =>
          rw [q0] at hw
          obtain ⟨k1, k2, k3, k4⟩ := key I' w q0
          exact hw cls dd H' _ k1 k2 k3 k4 r
    | brk e => rw [q] at hw; exact hw.elim
    | cont e => rw [q] at hw; exact hw.elim
    | bad => rw [q] at hw; exact hw.elim
end
end Mir
namespace Mir
open PySem PySem.Spec PyProof.Rows L2
variable [Tbl]
section
variable {P : Program} {w : World} {K : PySem.W.Frag} {mg : Str → Option Value} {base : Heap} {S : Sc}
end
def eCall (f : DM) (dds : List D) (a : AM) : EM := fun env => (a env).bind fun ds e => (f (ds ++ dds)).out e
def eMeth (c : Nat) (f : DM) (dds : List D) (o : EM) (a : AM) : EM := fun env => (o env).bind fun x e => match x with
  | .ins c' _ => if c' = c then (a e).bind fun ds e' => (f (x :: (ds ++ dds))).out e' else .bad
  | _ => .bad
def D.fld (c i : Nat) : D → Option D
  | .ins c' ds => if c' = c then ds[i]? else none
  | _ => none
def eFld (c i : Nat) (a : EM) : EM := e1 (D.fld c i) a
def eMake (c : Nat) (f : DM0) (dds : List D) (a : AM) : EM := fun env => (a env).bind fun ds e => match f (.ins c []) (ds ++ dds) with
  | .ok d o => match d, o with
    | .non, .ins c' es => if c' = c then .ok (.ins c es) e else .bad
    | _, _ => .bad
  | .exc x _ => .exc x e
  | .bad => .bad
def eCallO (f : DM0) (j : Nat) (a : AM) : EM := fun env => match env[j]? with
  | some (some _) => (a env).bind fun ds e => match e[j]? with
    | some (some d0) => match f d0 ds with
      | .ok d o => .ok d (e.set j (some o))
      | .exc x o => .exc x (e.set j (some o))
      | .bad => .bad
    | _ => .bad
  | _ => .bad
section
variable {S : Sc} {O P : List Nat} {E : XK} {μ : Mo} {fr fa fb : Bool} {ta tb te : TE} {ma mb : EM} {t u : TT} {m n : TM} {tA : TA} {mA : AM}
theorem want_fo {R : Rx} {σ : L2.St} {H H1 : Hp} {f1 : Fp} {e1 : Env} {o : FO} {Q : VK} (h : Want S O P E μ R σ H1 f1 e1 (o.out e1) (PostE S O P R σ μ fr H Q)) (I : Rel S O P R σ H1 f1 e1) (k : ∀ a, H1 a = none → H a = none) : WantF S E fr (FM R f1 μ) H1 Q o := by
  cases o with
  | ok d => exact fun v H' x r => want_opt (o := some d) h rfl I k x r
  | exc x => exact fun cls dd H' x r => h cls dd H' f1 (I.grow x) (Stp.grow x) r
  | bad => exact h
theorem ref_call {n : Nat} {f : DM} {dds : List D} {dvs : List V} (hd : ∀ F H, RepL S F H dds dvs) (har : ∀ ds, f ds ≠ .bad → ds.length = n) (ha : RefA S O P E μ tA mA) : RefE S O P E μ fr (tCall (spM S fr n f) dvs E tA) (eCall f dds mA) := by
  intro R σ H fp env I Q h
  refine ha R σ H fp env I _ ((Want.bind h).mono fun ds e1 H1 f1 I1 s1 h1 vs hv => ?_)
  refine ⟨FM R f1 μ, ds ++ dds, ?_, fun a q => I1.fm q, hv.append (hd _ _), want_fo h1 I1 fun a q => s1.dom q, I1.tb, I1.hbH⟩
  have nb : f (ds ++ dds) ≠ .bad := fun z => by rw [z] at h1; exact h1
  rw [(hv.append (hd _ _)).length, har _ nb]
theorem lookup_none {fs : List (Str × V)} {f : Str} (h : f ∉ fs.map (·.1)) : fs.lookup f = none := by
  induction fs with
  | nil => rfl
  | cons p r ih =>
    obtain ⟨g, v⟩ := p
    rw [List.map_cons] at h
    have h1 : (f == g) = false := beq_eq_false_iff_ne.mpr fun z => h (by rw [z]; exact List.mem_cons_self)
    rw [List.lookup_cons, h1]
    exact ih fun z => h (List.mem_cons_of_mem _ z)
theorem lookup_at : ∀ {fs : List (Str × V)} {f : Str} {i : Nat} {v : V}, (fs.map (·.1)).Nodup → (fs.map (·.1))[i]? = some f → (fs.map (·.2))[i]? = some v → fs.lookup f = some v
  | [], _, _, _, _, h, _ => by simp at h
  | (g, x) :: r, f, 0, v, nd, h1, h2 => by
    cases (show g = f from by simpa using h1)
    cases (show x = v from by simpa using h2)
    rw [List.lookup_cons, beq_self_eq_true]
  | (g, x) :: r, f, i + 1, v, nd, h1, h2 => by
    have nd : ((g :: r.map (·.1)) : List Str).Nodup := nd
    have h1 : (r.map (·.1))[i]? = some f := h1
    have h2 : (r.map (·.2))[i]? = some v := h2
    have ne : (f == g) = false := beq_eq_false_iff_ne.mpr fun z => (List.nodup_cons.mp nd).1 (by rw [← z]; exact List.mem_of_getElem? h1)
    rw [List.lookup_cons, ne]
    exact lookup_at (List.nodup_cons.mp nd).2 h1 h2
theorem ref_fld {c i : Nat} {f : Str} (hC : Cls S.K (S.ca c)) (hN : NoAttr S.K (S.ca c) f) (hf : (S.fn c)[i]? = some f) (nd : (S.fn c).Nodup) (ha : RefE S O P E μ fa ta ma) : RefE S O P E μ false (tFld S.K ta f) (eFld c i ma) := by
  refine ref_op1 (r := fun x H1 Q => ∃ a C dx fs v, x = .ref a ∧ H1 a = some (.ins C dx fs) ∧ Cls S.K C ∧ NoAttr S.K C f ∧ fs.lookup f = some v ∧ Q v H1) (f := D.fld c i) (fun F H x v z Q hF hx hz k => ?_) ha
  cases x with
  | ins c' ds =>
    unfold D.fld at hz
    dsimp only at hz
    split at hz
    · rename_i ec
      subst ec
      obtain ⟨a, dx, fs, rfl, nf, h1, h2, h3⟩ := hx
      obtain ⟨u, q1, q2⟩ := h3.get hz
      refine ⟨a, _, dx, fs, u, rfl, h1, hC, hN, lookup_at ?_ ?_ q1, k u H (Ext.refl _ _) q2⟩
      · rw [h2]
        exact nd.sublist (List.take_sublist _ _)
      · rw [h2, List.getElem?_take_of_lt (List.getElem?_eq_some_iff.mp hz).1]
        exact hf
    · cases hz
  | _ => cases hz
theorem ref_meth {c n : Nat} {mth : Str} {f : DM} {dds : List D} {dvs : List V} (hd : ∀ F H, RepL S F H dds dvs) (har : ∀ ds, f ds ≠ .bad → ds.length = n) (hm : mth ∉ S.fn c) (ho : RefE S O P E μ fa ta ma) (ha : RefA S O P E μ tA mA) :
    RefE S O P E μ fr (tMeth (S.ca c) mth (spM S fr n f) dvs E ta tA) (eMeth c f dds ma mA) := by
  intro R σ H fp env I Q h
  refine ho R σ H fp env I _ ((Want.bind h).mono fun x e1 H1 f1 I1 s1 h1 v hv _ => ?_)
  have hw := hv.rep
  cases x with
  | ins c' es =>
    dsimp only at h1
    split at h1
    · rename_i ec
      subst ec
      obtain ⟨a, dx, fs, rfl, nf, q1, q2, q3⟩ := hw
      refine ⟨a, dx, fs, rfl, q1, lookup_none (by rw [q2]; exact fun z => hm (List.mem_of_mem_take z)), ?_⟩
      refine ha R σ H1 f1 e1 I1 _ ((Want.bind h1).mono fun ds e2 H2 f2 I2 s2 h2 vs hvs => ?_)
      have hx : Rep S (FM R f2 μ) H2 (.ins c' es) (.ref a) := Rep.fwd s2.fwd _ _ ⟨a, dx, fs, rfl, nf, q1, q2, q3⟩
      have hall : RepL S (FM R f2 μ) H2 (.ins c' es :: (ds ++ dds)) (.ref a :: (vs ++ dvs)) := .cons hx (hvs.append (hd _ _))
      refine ⟨FM R f2 μ, _, ?_, fun a q => I2.fm q, hall, want_fo h2 I2 fun a q => (s1.trans s2).dom q, I2.tb, I2.hbH⟩
      have nb : f (.ins c' es :: (ds ++ dds)) ≠ .bad := fun z => by rw [z] at h2; exact h2
      rw [hall.length, har _ nb]
    · exact h1.elim
  | _ => exact h1.elim
def eProp (c : Nat) (f : DM) (o : EM) : EM := fun env => (o env).bind fun x e => match x with
  | .ins c' _ => if c' = c then (match f [x] with
    | .ok d => .ok d e
    | _ => .bad) else .bad
  | _ => .bad
theorem ref_prop {E' : XK} {c n : Nat} {f : DM} (har : ∀ ds, f ds ≠ .bad → ds.length = n) (ho : RefE S O P E μ fa ta ma) : RefE S O P E μ fr (tProp (S.ca c) (spM S fr n f) [] E' ta) (eProp c f ma) := by
  intro R σ H fp env I Q h
  refine ho R σ H fp env I _ ((Want.bind h).mono fun x e1 H1 f1 I1 s1 h1 v hv _ => ?_)
  have hw := hv.rep
  cases x with
  | ins c' es =>
    dsimp only at h1
    split at h1
    · rename_i ec
      subst ec
      have hw' := hw
      obtain ⟨a, dx, fs, rfl, nf, q1, q2, q3⟩ := hw
      refine ⟨a, dx, fs, rfl, q1, FM R f1 μ, [.ins c' es], ?_, fun a q => I1.fm q, .cons hw' .nil, ?_, I1.tb, I1.hbH⟩
      · have nb : f [.ins c' es] ≠ .bad := fun z => by rw [z] at h1; exact h1
        have := har _ nb
        exact this
      · cases q : f [.ins c' es] with
        | ok d => rw [q] at h1; exact fun v H' x r => want_opt (o := some d) h1 rfl I1 (fun a q => s1.dom q) x r
        | exc x => rw [q] at h1; exact h1.elim
        | bad => rw [q] at h1; exact h1.elim
    · exact h1.elim
  | _ => exact h1.elim
theorem ref_make {c n : Nat} {f : DM0} {dds : List D} {dvs : List V} (hd : ∀ F H, RepL S F H dds dvs) (har : ∀ d ds, f d ds ≠ .bad → ds.length + 1 = n) (ha : RefA S O P E μ tA mA) : RefE S O P E μ false (tMake (S.ca c) (spM0 S n f) dvs E tA) (eMake c f dds mA) := by
  intro R σ H fp env I Q h
  refine ha R σ H fp env I _ ((Want.bind h).mono fun ds e1 H1 f1 I1 s1 h1 vs hv => ?_)
  intro x dx hx hdx ne
  have g1 : Ext Nil H1 (upd H1 dx (.own x)) := Ext.new hdx
  have g2 : Ext Nil (upd H1 dx (.own x)) (upd (upd H1 dx (.own x)) x (.ins (S.ca c) dx [])) := Ext.new (by rw [upd_ne (Ne.symm ne)]; exact hx)
  have g := g1.trans g2
  have hn : vs.length + dvs.length + 1 = n := by
    have nb : f (.ins c []) (ds ++ dds) ≠ .bad := fun z => by rw [z] at h1; exact h1
    have q := har _ _ nb
    rw [List.length_append] at q
    rw [hv.length, (hd (fun _ => False) H1).length]
    exact q
  refine ⟨FM R f1 μ, .ins c [], ds ++ dds, x, vs ++ dvs, [x], rfl, by rw [List.length_cons, List.length_append]; omega, fun a q => g.dom (I1.fm q), fun a q => ?_, by simp, ⟨[], rfl, dx, [], upd_same, rfl, ownF_nil⟩, ?_, ?_, tb_ext g I1.tb, I1.hbH.trans g, fun y z => by rw [List.mem_singleton.mp z]; exact hb_new I1.hbH hx⟩
  · rw [List.mem_singleton.mp q, upd_same]
    exact fun z => nomatch z
  · exact (((hv.append (hd _ _)).less (F' := fun y => FM R f1 μ y ∨ y ∈ [x]) fun a z => z.imp id fun q => by rw [List.mem_singleton.mp q]; exact hx)).grow g
  · have ex : ∀ {H' : Hp} {l' : List Addr}, Fwd (Ls [x]) (upd (upd H1 dx (.own x)) x (.ins (S.ca c) dx [])) (Ls l') H' → Ext Nil H1 H' := fun w =>
      g.seq w.1 fun y z => .inr (by rw [List.mem_singleton.mp z]; exact hx)
    cases q : f (.ins c []) (ds ++ dds) with
    | bad => rw [q] at h1; exact h1
    | exc y o => rw [q] at h1; exact fun cls dd H' l' w _ _ _ r => h1 cls dd H' f1 (I1.grow (ex w)) (Stp.grow (ex w)) r
    | ok d o =>
      rw [q] at h1
      dsimp only at h1
      intro v H' l' w hO hnd hal hr
      split at h1
      · rename_i c' es
        split at h1
        · rename_i ec
          subst ec
          have hl : (Out.ok (D.ins c' es) e1 : Out D) = Out.opt (some (D.ins c' es)) e1 := rfl
          rw [hl] at h1
          refine ⟨hr, want_opt (o := some (.ins c' es)) h1 rfl I1 (fun a q => s1.dom q) (ex w) (hO.rep (fun a z => .inl (.inl (.inl z))) fun b z y => ?_)⟩
          rcases w.2.1 b z with z | z
          · rw [List.mem_singleton.mp z] at y; exact I1.fm y hx
          · exact g.dom (I1.fm y) z
        · exact h1.elim
      · exact h1.elim
theorem ref_callO {n j : Nat} {f : DM0} (hO : j ∈ O) (har : ∀ d ds, f d ds ≠ .bad → ds.length + 1 = n) (ha : RefA S O P E none tA mA) : RefE S O P E none false (tCall (spM0 S n f) [] E (tCons (tVar j) tA)) (eCallO f j mA) := by
  intro R σ H fp env I Q h
  unfold eCallO at h
  split at h
  · rename_i dj ej
    obtain ⟨a, q1, q2⟩ := I.own j dj ej hO
    refine ⟨.ref a, q1, ?_⟩
    refine ha R σ H fp env I _ ((Want.bind h).mono fun ds e1 H1 f1 I1 s1 h1 vs hv => ?_)
    cases e0 : e1[j]? with
    | none => rw [e0] at h1; exact h1.elim
    | some o0 =>
      cases o0 with
      | none => rw [e0] at h1; exact h1.elim
      | some d0 =>
        rw [e0] at h1
        dsimp only at h1
        obtain ⟨b, x1, x2⟩ := I1.own j d0 e0 hO
        rw [q1] at x1
        cases x1
        have nb : f d0 ds ≠ .bad := fun z => by rw [z] at h1; exact h1
        have eqF : ∀ x, ((fun x => Fs R f1 x ∧ x ∉ f1 j) x ∨ x ∈ f1 j) → Fs R f1 x ∨ H1 x = none := fun x z => z.elim (fun z => .inl z.1) fun z => .inl (.inr ⟨j, z⟩)
        refine ⟨fun x => Fs R f1 x ∧ x ∉ f1 j, d0, ds, a, vs, f1 j, by rw [List.append_nil], ?_, fun x z => I1.fs z.1, fun x z => I1.live j x z, I1.nd j, x2.fwd (Ext.refl _ _) eqF, hv.less eqF, ?_, I1.tb, I1.hbH, fun x z => I1.hbfp z⟩
        · rw [List.append_nil, List.length_cons, hv.length]
          exact har _ _ nb
        · have cov : ∀ {l' : List Addr} (x : Addr), Fs R f1 x ∨ x ∈ l' → (((Fs R f1 x ∧ x ∉ f1 j) ∨ x ∈ f1 j) ∨ x ∈ l') := fun {l'} x z => z.imp (fun z => by
            by_cases c : x ∈ f1 j
            · exact .inr c
            · exact .inl ⟨z, c⟩) id
          cases q : f d0 ds with
          | bad => exact absurd q nb
          | exc y o =>
            rw [q] at h1
            intro cls dd H' l' w hO' hnd hal r
            obtain ⟨I2, w2⟩ := I1.changed hO e0 q1 w (hO'.fwd (Ext.refl _ _) fun x z => .inl (cov x z)) hnd hal
            exact h1 cls dd H' _ I2 w2 r
          | ok d o =>
            rw [q] at h1
            intro v H' l' w hO' hnd hal hr
            obtain ⟨I2, w2⟩ := I1.changed hO e0 q1 w (hO'.fwd (Ext.refl _ _) fun x z => .inl (cov x z)) hnd hal
            refine h1 H' _ I2 w2 v (hr.less fun x z => .inl (cov x ?_)) sep0
            have z : Fs R (fpSet f1 j l') x := z
            rcases z with z | ⟨i, z⟩
            · exact .inl (.inl z)
            · rcases fpSet_mem z with ⟨_, z⟩ | ⟨ne, z⟩
              · exact .inr z
              · exact .inl (.inr ⟨i, z⟩)
  · exact h.elim
end
end Mir
namespace Mir
open PySem PySem.Spec PyProof.Rows L2
variable [Tbl]
theorem opr_or {X : Cx} {f : Value → Value → Sem Value} {r1 r2 : R2} (h1 : OpR X f r1) (h2 : OpR X f r2) : OpR X f (fun x y H Q => r1 x y H Q ∨ r2 x y H Q) := by
  intro pins s σ H x y v u Q I rx ry h
  rcases h with h | h
  · exact h1 pins s σ H x y v u Q I rx ry h
  · exact h2 pins s σ H x y v u Q I rx ry h
section
variable {S : Sc}
theorem Op2.or {r1 r2 : R2} {f g h : D → D → Option D} (h1 : Op2 S false r1 f) (h2 : Op2 S false r2 g) (hh : ∀ x y z, h x y = some z → f x y = some z ∨ g x y = some z) : Op2 S false (fun x y H Q => r1 x y H Q ∨ r2 x y H Q) h := fun F H x y v u z Q hF hx hy hz k => by
  rcases hh x y z hz with e | e
  · exact .inl (h1 F H x y v u z Q hF hx hy e k)
  · exact .inr (h2 F H x y v u z Q hF hx hy e k)
def oI (f : Int → Int → Option D) : D → D → Option D
  | .int i, .int j => f i j
  | _, _ => none
theorem op_I0 {g : Int → Int → V} {f : Int → Int → Option D} (h : ∀ i j z, f i j = some z → ∀ F H, Rep S F H z (g i j)) : Op2 S false (rI0 g) (oI f) := fun F H x y v u z Q hF hx hy hz k => by
  cases x with
  | int i =>
    cases y with
    | int j =>
      cases (show v = _ from hx)
      cases (show u = _ from hy)
      exact ⟨i, j, rfl, rfl, k _ H (Ext.refl _ _) (h i j z hz F H)⟩
    | _ => cases hz
  | _ => cases hz
theorem op_I {C : Int → Int → Prop} {g : Int → Int → V} {f : Int → Int → Option D} (h : ∀ i j z, f i j = some z → C i j ∧ ∀ F H, Rep S F H z (g i j)) : Op2 S false (rI C g) (oI f) := fun F H x y v u z Q hF hx hy hz k => by
  cases x with
  | int i =>
    cases y with
    | int j =>
      cases (show v = _ from hx)
      cases (show u = _ from hy)
      exact ⟨i, j, rfl, rfl, (h i j z hz).1, k _ H (Ext.refl _ _) ((h i j z hz).2 F H)⟩
    | _ => cases hz
  | _ => cases hz
def oSub := oI fun i j => some (.int (i - j))
def oMul := oI fun i j => if (-(2 ^ 64) < i ∧ i < 2 ^ 64) ∨ (-(2 ^ 64) < j ∧ j < 2 ^ 64) then some (.int (i * j)) else none
def oFdiv := oI fun i j => if j ≠ 0 ∧ j.natAbs < 1073741824 then some (.int (i.fdiv j)) else none
def oMod := oI fun i j => if j ≠ 0 then some (.int (i.fmod j)) else none
def oPow := oI fun i j => if 0 ≤ j ∧ j ≤ 1000000 ∧ i.natAbs < 2 ^ 64 then some (.int (i ^ j.toNat)) else none
def oNeg : D → Option D
  | .int i => some (.int (-i))
  | _ => none
def rSubX : R2 := rI0 fun i j => .int (i - j)
def rMulX : R2 := rI CMul fun i j => .int (i * j)
def rFdivX : R2 := rI CDivN fun i j => .int (i.fdiv j)
def rModX : R2 := rI (fun _ j => j ≠ 0) fun i j => .int (i.fmod j)
def rPowX : R2 := rI CPow fun i j => .int (i ^ j.toNat)
def rNegX : V → Hp → VK → Prop := rU fun i => .int (-i)
theorem o2_sub : Op2 S false rSubX oSub := op_I0 fun i j z h F H => by cases h; rfl
theorem o2_mul : Op2 S false rMulX oMul := op_I fun i j z h => by
  split at h
  · cases h
    exact ⟨by assumption, fun _ _ => rfl⟩
  · cases h
theorem o2_fdiv : Op2 S false rFdivX oFdiv := op_I fun i j z h => by
  split at h
  · cases h
    exact ⟨by assumption, fun _ _ => rfl⟩
  · cases h
theorem o2_mod : Op2 S false rModX oMod := op_I fun i j z h => by
  split at h
  · cases h
    exact ⟨by assumption, fun _ _ => rfl⟩
  · cases h
theorem o2_pow : Op2 S false rPowX oPow := op_I fun i j z h => by
  split at h
  · cases h
    exact ⟨by assumption, fun _ _ => rfl⟩
  · cases h
theorem o1_neg : Op1 S false rNegX oNeg := fun F H x v z Q hF hx hz k => by
  cases x with
  | int i =>
    cases (show v = _ from hx)
    cases hz
    exact ⟨i, rfl, k _ H (Ext.refl _ _) rfl⟩
  | _ => cases hz
def oAdd : D → D → Option D
  | .int i, .int j => some (.int (i + j))
  | .str a, .str b => if a.length + b.length ≤ 100000 then some (.str (a ++ b)) else none
  | .lst xs, .lst ys => if xs.length + ys.length ≤ 100000 then some (.lst (xs ++ ys)) else none
  | .tup xs, .tup ys => if xs.length + ys.length ≤ 100000 then some (.tup (xs ++ ys)) else none
  | _, _ => none
def rAddS : R2 := fun x y H Q => ∃ i j, x = .str i ∧ y = .str j ∧ i.length + j.length ≤ sizeLine ∧ Q (.str (i ++ j)) H
def rAddX (K : PySem.W.Frag) : R2 := fun x y H Q => (rI0 fun i j => .int (i + j)) x y H Q ∨ (rAddS x y H Q ∨ (rCat x y H Q ∨ rCatA K x y H Q))
theorem op_addX {X : Cx} : OpR X (binaryOp .Add) (rAddX X.K) := opr_or op_add (opr_or op_add_str (opr_or op_cat op_catA))
theorem o2_add : Op2 S false (rAddX S.K) oAdd := fun F H x y v u z Q hF hx hy hz k => by
  unfold oAdd at hz
  split at hz
  · cases hz
    cases (show v = _ from hx)
    cases (show u = _ from hy)
    exact .inl ⟨_, _, rfl, rfl, k _ H (Ext.refl _ _) rfl⟩
  · split at hz
    · cases hz
      cases (show v = _ from hx)
      cases (show u = _ from hy)
      exact .inr (.inl ⟨_, _, rfl, rfl, sz_of (by assumption), k _ H (Ext.refl _ _) rfl⟩)
    · cases hz
  · split at hz
    · rename_i hl
      cases hz
      obtain ⟨a, vs, rfl, n1, h1, h2⟩ := hx
      obtain ⟨b, us, rfl, n2, h3, h4⟩ := hy
      refine .inr (.inr (.inl ⟨a, b, vs, us, rfl, rfl, h1, h3, by rw [h2.length, h4.length]; exact sz_of hl, fun p hp => k _ _ (Ext.new hp) ?_⟩))
      exact ⟨p, _, rfl, fun z => hF p z hp, upd_same, (h2.append h4).grow (Ext.new hp)⟩
    · cases hz
  · split at hz
    · rename_i xs ys hl
      cases hz
      obtain ⟨a, vs, rfl, h1, h2⟩ := hx
      obtain ⟨b, us, rfl, h3, h4⟩ := hy
      refine .inr (.inr (.inr ⟨a, b, vs, us, rfl, rfl, h1, h3, by rw [h2.length, h4.length]; exact sz_of hl, fun e => ?_, fun _ e => ?_, fun _ _ p hp => k _ _ (Ext.new hp) ?_⟩))
      · subst e
        have : xs = [] := List.eq_nil_of_length_eq_zero h2.length.symm
        subst this
        exact k _ H (Ext.refl _ _) ⟨b, us, rfl, h3, h4⟩
      · subst e
        have : ys = [] := List.eq_nil_of_length_eq_zero h4.length.symm
        subst this
        exact k _ H (Ext.refl _ _) ⟨a, vs, rfl, h1, by rw [List.append_nil]; exact h2⟩
      · exact ⟨p, _, rfl, .inl (.inl upd_same), (h2.append h4).grow (Ext.new hp)⟩
    · cases hz
  · cases hz
def oLtI := oI fun i j => some (.bl (decide (i < j)))
def oLeI := oI fun i j => some (.bl (decide (i ≤ j)))
def oGtI := oI fun i j => some (.bl (decide (j < i)))
def oGeI := oI fun i j => some (.bl (decide (j ≤ i)))
def rLtI : R2 := rI0 fun i j => .bl (decide (i < j))
def rLeI : R2 := rI0 fun i j => .bl (decide (i ≤ j))
def rGtI : R2 := rI0 fun i j => .bl (decide (j < i))
def rGeI : R2 := rI0 fun i j => .bl (decide (j ≤ i))
theorem o2_ltI : Op2 S false rLtI oLtI := op_I0 fun i j z h F H => by cases h; rfl
theorem o2_leI : Op2 S false rLeI oLeI := op_I0 fun i j z h F H => by cases h; rfl
theorem o2_gtI : Op2 S false rGtI oGtI := op_I0 fun i j z h F H => by cases h; rfl
def intsOf : List D → Option (List Int)
  | [] => some []
  | .int i :: r => (intsOf r).map (i :: ·)
  | _ :: _ => none
theorem intsOf_some : ∀ {ds : List D} {ns : List Int}, intsOf ds = some ns → ds = ns.map D.int
  | [], ns, h => by cases h; rfl
  | d :: ds, ns, h => by
    cases d with
    | int i =>
      have h : (intsOf ds).map (i :: ·) = some ns := h
      cases q : intsOf ds with
      | none => rw [q] at h; cases h
      | some ms =>
        rw [q] at h
        cases h
        rw [intsOf_some q]
        rfl
    | _ => cases h
@[simp] theorem intsOf_map (ns : List Int) : intsOf (ns.map D.int) = some ns := by
  induction ns with
  | nil => rfl
  | cons n ns ih =>
    show (intsOf (ns.map D.int)).map (n :: ·) = _
    rw [ih]; rfl
def strsOf : List D → Option (List Str)
  | [] => some []
  | .str i :: r => (strsOf r).map (i :: ·)
  | _ :: _ => none
theorem strsOf_some : ∀ {ds : List D} {ns : List Str}, strsOf ds = some ns → ds = ns.map D.str
  | [], ns, h => by cases h; rfl
  | d :: ds, ns, h => by
    cases d with
    | str i =>
      have h : (strsOf ds).map (i :: ·) = some ns := h
      cases q : strsOf ds with
      | none => rw [q] at h; cases h
      | some ms =>
        rw [q] at h
        cases h
        rw [strsOf_some q]
        rfl
    | _ => cases h
@[simp] theorem strsOf_map (ns : List Str) : strsOf (ns.map D.str) = some ns := by
  induction ns with
  | nil => rfl
  | cons n ns ih =>
    show (strsOf (ns.map D.str)).map (n :: ·) = _
    rw [ih]; rfl
def blsOf : List D → Option (List Bool)
  | [] => some []
  | .bl i :: r => (blsOf r).map (i :: ·)
  | _ :: _ => none
theorem blsOf_some : ∀ {ds : List D} {ns : List Bool}, blsOf ds = some ns → ds = ns.map D.bl
  | [], ns, h => by cases h; rfl
  | d :: ds, ns, h => by
    cases d with
    | bl i =>
      have h : (blsOf ds).map (i :: ·) = some ns := h
      cases q : blsOf ds with
      | none => rw [q] at h; cases h
      | some ms =>
        rw [q] at h
        cases h
        rw [blsOf_some q]
        rfl
    | _ => cases h
@[simp] theorem blsOf_map (ns : List Bool) : blsOf (ns.map D.bl) = some ns := by
  induction ns with
  | nil => rfl
  | cons n ns ih =>
    show (blsOf (ns.map D.bl)).map (n :: ·) = _
    rw [ih]; rfl
def leInts (ns ms : List Int) : Bool := Ob.lexAt (fun j => decide (ns.getD j 0 = ms.getD j 0)) (fun j => decide (ns.getD j 0 ≤ ms.getD j 0)) (decide (ns.length ≤ ms.length)) 0 (min ns.length ms.length)
def oLe : D → D → Option D
  | .int i, .int j => some (.bl (decide (i ≤ j)))
  | .tup xs, .tup ys => (intsOf xs).bind fun ns => (intsOf ys).bind fun ms => some (.bl (leInts ns ms))
  | _, _ => none
def rLeX (K : PySem.W.Frag) : R2 := fun x y H Q => rLeI x y H Q ∨ rLeT K x y H Q
theorem op_leX {X : Cx} (hu : X.A.units < cLine) : OpR X (compareOp .LtE) (rLeX X.K) := opr_or op_le (op_leT hu)
theorem o2_le : Op2 S false (rLeX S.K) oLe := fun F H x y v u z Q hF hx hy hz k => by
  unfold oLe at hz
  split at hz
  · cases hz
    cases (show v = _ from hx)
    cases (show u = _ from hy)
    exact .inl ⟨_, _, rfl, rfl, k _ H (Ext.refl _ _) rfl⟩
  · rename_i xs ys
    obtain ⟨ns, e1, e2⟩ := Option.bind_eq_some_iff.mp hz
    obtain ⟨ms, e3, e4⟩ := Option.bind_eq_some_iff.mp e2
    cases e4
    obtain ⟨a, vs, rfl, h1, h2⟩ := hx
    obtain ⟨b, us, rfl, h3, h4⟩ := hy
    have f1 := intsOf_some e1
    have f2 := intsOf_some e3
    subst f1 f2
    rw [h2.ints] at h1
    rw [h4.ints] at h3
    exact .inr ⟨a, b, ns, ms, rfl, rfl, h1, h3, k _ H (Ext.refl _ _) rfl⟩
  · cases hz
mutual
def D.py : D → Option PyData
  | .non => some .none
  | .bl b => some (.bool b)
  | .int i => some (.int i)
  | .str x => some (.str x)
  | .tup ds => (D.pyL ds).map .tuple
  | .lst ds => (D.pyL ds).map .list
  | _ => none
def D.pyL : List D → Option (List PyData)
  | [] => some []
  | d :: ds => d.py.bind fun p => (D.pyL ds).map (p :: ·)
end
mutual
theorem rep_dp {F : Addr → Prop} {H : Hp} : ∀ {d : D} {v : V} {p : PyData}, Rep S F H d v → d.py = some p → Dp S.K H v p
  | .non, _, _, h, e => by cases (show _ = _ from h); cases e; exact .non
  | .bl b, _, _, h, e => by cases (show _ = _ from h); cases e; exact .bl b
  | .int b, _, _, h, e => by cases (show _ = _ from h); cases e; exact .int b
  | .str b, _, _, h, e => by cases (show _ = _ from h); cases e; exact .str b
  | .tup ds, _, p, h, e => by
    obtain ⟨a, vs, rfl, h1, h2⟩ := h
    have e : (D.pyL ds).map PyData.tuple = some p := e
    cases q : D.pyL ds with
    | none => rw [q] at e; cases e
    | some ps =>
      rw [q] at e
      cases e
      exact .tup h1 (repL_dp h2 q)
  | .lst ds, _, p, h, e => by
    obtain ⟨a, vs, rfl, _, h1, h2⟩ := h
    have e : (D.pyL ds).map PyData.list = some p := e
    cases q : D.pyL ds with
    | none => rw [q] at e; cases e
    | some ps =>
      rw [q] at e
      cases e
      exact .lst (.inl (.inl h1)) (repL_dp h2 q)
  | .ins _ _, _, _, _, e => by cases e
  | .dic _ _, _, _, _, e => by cases e
  | .map _ _, _, _, _, e => by cases e
theorem repL_dp {F : Addr → Prop} {H : Hp} : ∀ {ds : List D} {vs : List V} {ps : List PyData}, RepL S F H ds vs → D.pyL ds = some ps → DpAll S.K H vs ps
  | [], _, _, h, e => by cases (show _ = _ from h); cases e; exact .nil
  | d :: ds, _, ps, h, e => by
    obtain ⟨v, r, rfl, h1, h2⟩ := h
    have e : (d.py.bind fun p => (D.pyL ds).map (p :: ·)) = some ps := e
    obtain ⟨p, e1, e2⟩ := Option.bind_eq_some_iff.mp e
    cases q : D.pyL ds with
    | none => rw [q] at e2; cases e2
    | some qs =>
      rw [q] at e2
      cases e2
      exact .cons (rep_dp h1 e1) (repL_dp h2 q)
end
mutual
def D.eqb : D → D → Bool
  | .non, .non => true
  | .bl a, .bl b => a == b
  | .bl a, .int j => (if a then 1 else 0) == j
  | .int i, .bl b => i == (if b then 1 else 0)
  | .int i, .int j => i == j
  | .str a, .str b => a == b
  | .lst xs, .lst ys => D.eqbL xs ys
  | .tup xs, .tup ys => D.eqbL xs ys
  | _, _ => false
def D.eqbL : List D → List D → Bool
  | [], [] => true
  | x :: xs, y :: ys => x.eqb y && D.eqbL xs ys
  | _, _ => false
def D.lay : D → Bool
  | .non => true
  | .bl _ => true
  | .int _ => true
  | .str x => PyData.strOk x
  | .tup ds => D.layL ds
  | .lst ds => D.layL ds
  | _ => false
def D.layL : List D → Bool
  | [] => true
  | d :: ds => d.lay && D.layL ds
def D.dep : D → Nat
  | .tup ds => D.depL ds + 1
  | .lst ds => D.depL ds + 1
  | _ => 0
def D.depL : List D → Nat
  | [] => 0
  | d :: ds => max d.dep (D.depL ds)
end
def D.fit (d : D) : Bool := d.lay && decide (d.dep ≤ 64)
mutual
theorem py_some : ∀ d : D, d.lay = true → ∃ p, d.py = some p ∧ p.canLay0 = true ∧ p.depth = d.dep
  | .non, _ => ⟨_, rfl, rfl, rfl⟩
  | .bl _, _ => ⟨_, rfl, rfl, rfl⟩
  | .int _, _ => ⟨_, rfl, rfl, rfl⟩
  | .str x, h => ⟨_, rfl, by simp only [PyData.canLay0]; exact h, by simp only [PyData.depth]; rfl⟩
  | .tup ds, h => by
    obtain ⟨ps, e, l, d⟩ := pyL_some ds h
    exact ⟨.tuple ps, by show (D.pyL ds).map _ = _; rw [e]; rfl, by simp only [PyData.canLay0]; exact l, by simp only [PyData.depth]; rw [d]; rfl⟩
  | .lst ds, h => by
    obtain ⟨ps, e, l, d⟩ := pyL_some ds h
    exact ⟨.list ps, by show (D.pyL ds).map _ = _; rw [e]; rfl, by simp only [PyData.canLay0]; exact l, by simp only [PyData.depth]; rw [d]; rfl⟩
  | .ins _ _, h => by cases h
  | .dic _ _, h => by cases h
  | .map _ _, h => by cases h
theorem pyL_some : ∀ ds : List D, D.layL ds = true → ∃ ps, D.pyL ds = some ps ∧ PyData.canLayAll0 ps = true ∧ PyData.depthAll ps = D.depL ds
  | [], _ => ⟨[], rfl, by simp only [PyData.canLayAll0], by simp only [PyData.depthAll]; rfl⟩
  | d :: ds, h => by
    have h := Bool.and_eq_true_iff.mp (show (d.lay && D.layL ds) = true from h)
    obtain ⟨p, e1, l1, d1⟩ := py_some d h.1
    obtain ⟨ps, e2, l2, d2⟩ := pyL_some ds h.2
    refine ⟨p :: ps, ?_, by simp only [PyData.canLayAll0]; rw [l1, l2]; rfl, by simp only [PyData.depthAll]; rw [d1, d2]; rfl⟩
    show (d.py.bind fun p => (D.pyL ds).map (p :: ·)) = _
    rw [e1, e2]; rfl
end
theorem fit_py {d : D} (h : d.fit = true) : ∃ p, d.py = some p ∧ SeqAt.shaped p = true := by
  have h := Bool.and_eq_true_iff.mp h
  obtain ⟨p, e, l, d⟩ := py_some d h.1
  refine ⟨p, e, ?_⟩
  show (p.canLay0 && decide (p.depth ≤ 64)) = true
  rw [l, d, h.2]; rfl
mutual
theorem eqv_py : ∀ (x y : D) (p q : PyData), x.py = some p → y.py = some q → PyData.eqv p q = x.eqb y
  | .non, y, p, q, e1, e2 => by
    cases e1
    cases y with
    | tup ds =>
      have e2 : (D.pyL ds).map PyData.tuple = some q := e2
      cases z : D.pyL ds with
      | none => rw [z] at e2; cases e2
      | some ps => rw [z] at e2; cases e2; simp only [PyData.eqv, D.eqb]
    | lst ds =>
      have e2 : (D.pyL ds).map PyData.list = some q := e2
      cases z : D.pyL ds with
      | none => rw [z] at e2; cases e2
      | some ps => rw [z] at e2; cases e2; simp only [PyData.eqv, D.eqb]
    | _ => cases e2 <;> simp only [PyData.eqv, D.eqb]
  | .bl a, y, p, q, e1, e2 => by
    cases e1
    cases y with
    | tup ds =>
      have e2 : (D.pyL ds).map PyData.tuple = some q := e2
      cases z : D.pyL ds with
      | none => rw [z] at e2; cases e2
      | some ps => rw [z] at e2; cases e2; simp only [PyData.eqv, D.eqb]
    | lst ds =>
      have e2 : (D.pyL ds).map PyData.list = some q := e2
      cases z : D.pyL ds with
      | none => rw [z] at e2; cases e2
      | some ps => rw [z] at e2; cases e2; simp only [PyData.eqv, D.eqb]
    | _ => cases e2 <;> simp only [PyData.eqv, D.eqb]
  | .int a, y, p, q, e1, e2 => by
    cases e1
    cases y with
    | tup ds =>
      have e2 : (D.pyL ds).map PyData.tuple = some q := e2
      cases z : D.pyL ds with
      | none => rw [z] at e2; cases e2
      | some ps => rw [z] at e2; cases e2; simp only [PyData.eqv, D.eqb]
    | lst ds =>
      have e2 : (D.pyL ds).map PyData.list = some q := e2
      cases z : D.pyL ds with
      | none => rw [z] at e2; cases e2
      | some ps => rw [z] at e2; cases e2; simp only [PyData.eqv, D.eqb]
    | _ => cases e2 <;> simp only [PyData.eqv, D.eqb]
  | .str a, y, p, q, e1, e2 => by
    cases e1
    cases y with
    | tup ds =>
      have e2 : (D.pyL ds).map PyData.tuple = some q := e2
      cases z : D.pyL ds with
      | none => rw [z] at e2; cases e2
      | some ps => rw [z] at e2; cases e2; simp only [PyData.eqv, D.eqb]
    | lst ds =>
      have e2 : (D.pyL ds).map PyData.list = some q := e2
      cases z : D.pyL ds with
      | none => rw [z] at e2; cases e2
      | some ps => rw [z] at e2; cases e2; simp only [PyData.eqv, D.eqb]
    | _ => cases e2 <;> simp only [PyData.eqv, D.eqb]
  | .tup xs, y, p, q, e1, e2 => by
    have e1 : (D.pyL xs).map PyData.tuple = some p := e1
    cases z1 : D.pyL xs with
    | none => rw [z1] at e1; cases e1
    | some ps =>
      rw [z1] at e1
      cases e1
      cases y with
      | tup ds =>
        have e2 : (D.pyL ds).map PyData.tuple = some q := e2
        cases z : D.pyL ds with
        | none => rw [z] at e2; cases e2
        | some qs => rw [z] at e2; cases e2; simp only [PyData.eqv, D.eqb]; exact eqvL_py xs ds ps qs z1 z
      | lst ds =>
        have e2 : (D.pyL ds).map PyData.list = some q := e2
        cases z : D.pyL ds with
        | none => rw [z] at e2; cases e2
        | some ps => rw [z] at e2; cases e2; simp only [PyData.eqv, D.eqb]
      | _ => cases e2 <;> simp only [PyData.eqv, D.eqb]
  | .lst xs, y, p, q, e1, e2 => by
    have e1 : (D.pyL xs).map PyData.list = some p := e1
    cases z1 : D.pyL xs with
    | none => rw [z1] at e1; cases e1
    | some ps =>
      rw [z1] at e1
      cases e1
      cases y with
      | lst ds =>
        have e2 : (D.pyL ds).map PyData.list = some q := e2
        cases z : D.pyL ds with
        | none => rw [z] at e2; cases e2
        | some qs => rw [z] at e2; cases e2; simp only [PyData.eqv, D.eqb]; exact eqvL_py xs ds ps qs z1 z
      | tup ds =>
        have e2 : (D.pyL ds).map PyData.tuple = some q := e2
        cases z : D.pyL ds with
        | none => rw [z] at e2; cases e2
        | some ps => rw [z] at e2; cases e2; simp only [PyData.eqv, D.eqb]
      | _ => cases e2 <;> simp only [PyData.eqv, D.eqb]
  | .ins _ _, _, _, _, e, _ => by cases e
  | .dic _ _, _, _, _, e, _ => by cases e
  | .map _ _, _, _, _, e, _ => by cases e
theorem eqvL_py : ∀ (xs ys : List D) (ps qs : List PyData), D.pyL xs = some ps → D.pyL ys = some qs → PyData.eqvAll ps qs = D.eqbL xs ys
  | [], ys, ps, qs, e1, e2 => by
    cases e1
    cases ys with
    | nil => cases e2; simp only [PyData.eqvAll, D.eqbL]
    | cons y ys =>
      have e2 : (y.py.bind fun p => (D.pyL ys).map (p :: ·)) = some qs := e2
      obtain ⟨p, z1, z2⟩ := Option.bind_eq_some_iff.mp e2
      cases z : D.pyL ys with
      | none => rw [z] at z2; cases z2
      | some rs => rw [z] at z2; cases z2; simp only [PyData.eqvAll, D.eqbL]
  | x :: xs, ys, ps, qs, e1, e2 => by
    have e1 : (x.py.bind fun p => (D.pyL xs).map (p :: ·)) = some ps := e1
    obtain ⟨p, w1, w2⟩ := Option.bind_eq_some_iff.mp e1
    cases w : D.pyL xs with
    | none => rw [w] at w2; cases w2
    | some ts =>
      rw [w] at w2
      cases w2
      cases ys with
      | nil => cases e2; simp only [PyData.eqvAll, D.eqbL]
      | cons y ys =>
        have e2 : (y.py.bind fun p => (D.pyL ys).map (p :: ·)) = some qs := e2
        obtain ⟨p, z1, z2⟩ := Option.bind_eq_some_iff.mp e2
        cases z : D.pyL ys with
        | none => rw [z] at z2; cases z2
        | some rs =>
          rw [z] at z2
          cases z2
          simp only [PyData.eqvAll, D.eqbL]
          rw [eqv_py x y _ _ w1 z1, eqvL_py xs ys _ _ w z]
end
def oEqB (x y : D) : Option Bool := match x, y with
  | .str a, .str b => some (decide (a = b))
  | .str a, .non => some false
  | .non, .str b => some false
  | x, y => if x.fit && y.fit then some (x.eqb y) else none
def oEq (x y : D) : Option D := (oEqB x y).map .bl
def oNe (x y : D) : Option D := (oEqB x y).map fun b => .bl (!b)
def rEqX (K : PySem.W.Frag) : R2 := fun x y H Q => rEq x y H Q ∨ rEqD K x y H Q
def rNeX (K : PySem.W.Frag) : R2 := fun x y H Q => rNe x y H Q ∨ rNeD K x y H Q
theorem op_eqX {X : Cx} (hu : X.A.units + 64 < cLine) : OpR X (compareOp .Eq) (rEqX X.K) := opr_or op_eq (op_eqD hu)
theorem op_neX {X : Cx} (hu : X.A.units + 64 < cLine) : OpR X (compareOp .NotEq) (rNeX X.K) := opr_or op_ne (op_neD hu)
theorem eqB_cases {F : Addr → Prop} {H : Hp} {x y : D} {v u : V} {b : Bool} (hx : Rep S F H x v) (hy : Rep S F H y u) (h : oEqB x y = some b) :
    (scal v u = true ∧ decide (v = u) = b) ∨ ∃ d e, Dp S.K H v d ∧ Dp S.K H u e ∧ SeqAt.shaped d = true ∧ SeqAt.shaped e = true ∧ PyData.eqv d e = b := by
  unfold oEqB at h
  split at h
  · cases (show v = _ from hx)
    cases (show u = _ from hy)
    cases h
    rename_i a b
    refine .inl ⟨rfl, ?_⟩
    by_cases e : a = b
    · exact (decide_eq_true (congrArg V.str e)).trans (decide_eq_true e).symm
    · exact (decide_eq_false fun z => e (V.str.inj z)).trans (decide_eq_false e).symm
  · cases (show v = _ from hx)
    cases (show u = _ from hy)
    cases h
    exact .inl ⟨rfl, rfl⟩
  · cases (show v = _ from hx)
    cases (show u = _ from hy)
    cases h
    exact .inl ⟨rfl, rfl⟩
  · split at h
    · rename_i c
      cases h
      have c := Bool.and_eq_true_iff.mp c
      obtain ⟨p, e1, s1⟩ := fit_py c.1
      obtain ⟨q, e2, s2⟩ := fit_py c.2
      exact .inr ⟨p, q, rep_dp hx e1, rep_dp hy e2, s1, s2, eqv_py _ _ _ _ e1 e2⟩
    · cases h
theorem o2_eq : Op2 S false (rEqX S.K) oEq := fun F H x y v u z Q hF hx hy hz k => by
  unfold oEq at hz
  cases q : oEqB x y with
  | none => rw [q] at hz; cases hz
  | some b =>
    rw [q] at hz
    cases hz
    rcases eqB_cases hx hy q with ⟨h1, h2⟩ | ⟨d, e, h1, h2, h3, h4, h5⟩
    · exact .inl ⟨h1, by rw [h2]; exact k _ H (Ext.refl _ _) rfl⟩
    · exact .inr ⟨d, e, h1, h2, h3, h4, by rw [h5]; exact k _ H (Ext.refl _ _) rfl⟩
theorem o2_ne : Op2 S false (rNeX S.K) oNe := fun F H x y v u z Q hF hx hy hz k => by
  unfold oNe at hz
  cases q : oEqB x y with
  | none => rw [q] at hz; cases hz
  | some b =>
    rw [q] at hz
    cases hz
    rcases eqB_cases hx hy q with ⟨h1, h2⟩ | ⟨d, e, h1, h2, h3, h4, h5⟩
    · exact .inl ⟨h1, by rw [h2]; exact k _ H (Ext.refl _ _) rfl⟩
    · exact .inr ⟨d, e, h1, h2, h3, h4, by rw [h5]; exact k _ H (Ext.refl _ _) rfl⟩
end
end Mir
namespace Mir
open PySem PySem.Spec PyProof.Rows L2
variable [Tbl]
section
variable {S : Sc}
def rInT (K : PySem.W.Frag) : R2 := fun x y H Q => ∃ d ds, Dp K H x d ∧ Dp K H y (.tuple ds) ∧ SeqAt.shaped d = true ∧ SeqAt.shaped (.tuple ds) = true ∧ Q (.bl (ds.any fun z => PyData.eqv z d)) H
def rNotInT (K : PySem.W.Frag) : R2 := fun x y H Q => ∃ d ds, Dp K H x d ∧ Dp K H y (.tuple ds) ∧ SeqAt.shaped d = true ∧ SeqAt.shaped (.tuple ds) = true ∧ Q (.bl (!ds.any fun z => PyData.eqv z d)) H
theorem room_tup {A : Around} {d : PyData} {ds : List PyData} (h : SeqAt.shaped d = true) (hu : A.units + 65 < cLine) : A.units + 1 + min (PyData.depthAll ds) d.depth < cLine := by
  have h1 := SeqAt.depth_of_shaped h
  have h2 : min (PyData.depthAll ds) d.depth ≤ d.depth := Nat.min_le_right _ _
  omega
theorem op_inT {X : Cx} (hu : X.A.units + 65 < cLine) : OpR X (compareOp .In) (rInT X.K) := by
  intro pins s σ H x y v u Q I rx ry h
  obtain ⟨d, ds, hd, he, sd, se, q⟩ := h
  obtain ⟨as, r1⟩ := Dp.reads I d x v hd rx
  obtain ⟨bs, r2⟩ := Dp.reads I (.tuple ds) y u he ry
  exact SeqAt.in_tuple_reads r2 r1 (by have := SeqAt.canLay_of_shaped se; simpa only [PyData.canLay0] using this) (SeqAt.canLay_of_shaped sd) (room_tup sd hu) ⟨.bl _, H, I, rfl, q⟩
theorem op_notInT {X : Cx} (hu : X.A.units + 65 < cLine) : OpR X (compareOp .NotIn) (rNotInT X.K) := by
  intro pins s σ H x y v u Q I rx ry h
  obtain ⟨d, ds, hd, he, sd, se, q⟩ := h
  obtain ⟨as, r1⟩ := Dp.reads I d x v hd rx
  obtain ⟨bs, r2⟩ := Dp.reads I (.tuple ds) y u he ry
  exact SeqAt.notIn_tuple_reads r2 r1 (by have := SeqAt.canLay_of_shaped se; simpa only [PyData.canLay0] using this) (SeqAt.canLay_of_shaped sd) (room_tup sd hu) ⟨.bl _, H, I, rfl, q⟩
def rInSg : R2 := fun x y H Q => ∃ (c : Nat) (z : Str), x = .str ⟨#[c]⟩ ∧ y = .str z ∧ Q (.bl (decide (c ∈ z.cps.toList))) H
def rNotInSg : R2 := fun x y H Q => ∃ (c : Nat) (z : Str), x = .str ⟨#[c]⟩ ∧ y = .str z ∧ Q (.bl (!decide (c ∈ z.cps.toList))) H
def rInX (K : PySem.W.Frag) : R2 := fun x y H Q => rInSg x y H Q ∨ (rInD K x y H Q ∨ rInT K x y H Q)
def rNotInX (K : PySem.W.Frag) : R2 := fun x y H Q => rNotInSg x y H Q ∨ (rNotInD K x y H Q ∨ rNotInT K x y H Q)
theorem op_inX {X : Cx} (hu : X.A.units + 65 < cLine) : OpR X (compareOp .In) (rInX X.K) := opr_or op_in_sign (opr_or (op_inD hu) (op_inT hu))
theorem op_notInX {X : Cx} (hu : X.A.units + 65 < cLine) : OpR X (compareOp .NotIn) (rNotInX X.K) := opr_or op_notIn_sign (opr_or (op_notInD hu) (op_notInT hu))
def oInB (x y : D) : Option Bool := match x, y with
  | .str ⟨⟨[c]⟩⟩, .str z => some (decide (c ∈ z.cps.toList))
  | x, .lst ds => if x.fit && (D.lst ds).fit then some (ds.any fun z => z.eqb x) else none
  | x, .tup ds => if x.fit && (D.tup ds).fit then some (ds.any fun z => z.eqb x) else none
  | _, _ => none
def oIn (x y : D) : Option D := (oInB x y).map .bl
def oNotIn (x y : D) : Option D := (oInB x y).map fun b => .bl (!b)
theorem any_py {x : D} {p : PyData} (hp : x.py = some p) : ∀ {ds : List D} {ps : List PyData}, D.pyL ds = some ps → (ps.any fun z => PyData.eqv z p) = ds.any fun z => z.eqb x
  | [], ps, h => by cases h; rfl
  | d :: ds, ps, h => by
    have h : (d.py.bind fun p => (D.pyL ds).map (p :: ·)) = some ps := h
    obtain ⟨q, z1, z2⟩ := Option.bind_eq_some_iff.mp h
    cases z : D.pyL ds with
    | none => rw [z] at z2; cases z2
    | some rs =>
      rw [z] at z2
      cases z2
      rw [List.any_cons, List.any_cons, any_py hp z, eqv_py _ _ _ _ z1 hp]
theorem inB_cases {F : Addr → Prop} {H : Hp} {x y : D} {v u : V} {b : Bool} (hx : Rep S F H x v) (hy : Rep S F H y u) (h : oInB x y = some b) :
    (∃ (c : Nat) (z : Str), v = .str ⟨#[c]⟩ ∧ u = .str z ∧ decide (c ∈ z.cps.toList) = b) ∨
    (∃ d ds, Dp S.K H v d ∧ Dp S.K H u (.list ds) ∧ SeqAt.shaped d = true ∧ SeqAt.shaped (.list ds) = true ∧ (ds.any fun z => PyData.eqv z d) = b) ∨
    (∃ d ds, Dp S.K H v d ∧ Dp S.K H u (.tuple ds) ∧ SeqAt.shaped d = true ∧ SeqAt.shaped (.tuple ds) = true ∧ (ds.any fun z => PyData.eqv z d) = b) := by
  unfold oInB at h
  split at h
  · cases (show v = _ from hx)
    cases (show u = _ from hy)
    cases h
    exact .inl ⟨_, _, rfl, rfl, rfl⟩
  · rename_i ds
    split at h
    · rename_i c
      cases h
      have c := Bool.and_eq_true_iff.mp c
      obtain ⟨p, e1, s1⟩ := fit_py c.1
      obtain ⟨q, e2, s2⟩ := fit_py c.2
      have e3 := e2
      have e2 : (D.pyL ds).map PyData.list = some q := e2
      cases z : D.pyL ds with
      | none => rw [z] at e2; cases e2
      | some ps =>
        rw [z] at e2
        cases e2
        exact .inr (.inl ⟨p, ps, rep_dp hx e1, rep_dp hy e3, s1, s2, any_py e1 z⟩)
    · cases h
  · rename_i ds
    split at h
    · rename_i c
      cases h
      have c := Bool.and_eq_true_iff.mp c
      obtain ⟨p, e1, s1⟩ := fit_py c.1
      obtain ⟨q, e2, s2⟩ := fit_py c.2
      have e3 := e2
      have e2 : (D.pyL ds).map PyData.tuple = some q := e2
      cases z : D.pyL ds with
      | none => rw [z] at e2; cases e2
      | some ps =>
        rw [z] at e2
        cases e2
        exact .inr (.inr ⟨p, ps, rep_dp hx e1, rep_dp hy e3, s1, s2, any_py e1 z⟩)
    · cases h
  · cases h
theorem o2_in : Op2 S false (rInX S.K) oIn := fun F H x y v u z Q hF hx hy hz k => by
  unfold oIn at hz
  cases q : oInB x y with
  | none => rw [q] at hz; cases hz
  | some b =>
    rw [q] at hz
    cases hz
    have kb := k (.bl b) H (Ext.refl _ _) rfl
    rcases inB_cases hx hy q with ⟨c, w, h1, h2, h3⟩ | ⟨d, e, h1, h2, h3, h4, h5⟩ | ⟨d, e, h1, h2, h3, h4, h5⟩
    · exact .inl ⟨c, w, h1, h2, by rw [h3]; exact kb⟩
    · exact .inr (.inl ⟨d, e, h1, h2, h3, h4, by rw [h5]; exact kb⟩)
    · exact .inr (.inr ⟨d, e, h1, h2, h3, h4, by rw [h5]; exact kb⟩)
theorem o2_notIn : Op2 S false (rNotInX S.K) oNotIn := fun F H x y v u z Q hF hx hy hz k => by
  unfold oNotIn at hz
  cases q : oInB x y with
  | none => rw [q] at hz; cases hz
  | some b =>
    rw [q] at hz
    cases hz
    have kb := k (.bl (!b)) H (Ext.refl _ _) rfl
    rcases inB_cases hx hy q with ⟨c, w, h1, h2, h3⟩ | ⟨d, e, h1, h2, h3, h4, h5⟩ | ⟨d, e, h1, h2, h3, h4, h5⟩
    · exact .inl ⟨c, w, h1, h2, by rw [h3]; exact kb⟩
    · exact .inr (.inl ⟨d, e, h1, h2, h3, h4, by rw [h5]; exact kb⟩)
    · exact .inr (.inr ⟨d, e, h1, h2, h3, h4, by rw [h5]; exact kb⟩)
theorem atI_rep {F : Addr → Prop} {H : Hp} {ds : List D} {vs : List V} {i : Int} {d : D} (h : RepL S F H ds vs) (e : atI ds i = some d) : ∃ v, atI vs i = some v ∧ Rep S F H d v := by
  unfold atI at e ⊢
  rw [h.length]
  obtain ⟨j, e1, e2⟩ := Option.bind_eq_some_iff.mp e
  obtain ⟨v, q1, q2⟩ := h.get e2
  exact ⟨v, by rw [e1]; exact q1, q2⟩
def oIx : D → D → Option D
  | .lst ds, .int i => atI ds i
  | .tup ds, .int i => atI ds i
  | .str z, .int i => if z.length ≤ 100000 then (atI z.cps.toList i).map fun c => .str ⟨#[c]⟩ else none
  | _, _ => none
theorem o2_ix : Op2 S false (rIx S.K) oIx := fun F H x y v u z Q hF hx hy hz k => by
  unfold oIx at hz
  split at hz
  · obtain ⟨a, vs, rfl, n, h1, h2⟩ := hx
    cases (show u = _ from hy)
    obtain ⟨w, e, r⟩ := atI_rep h2 hz
    exact .inl ⟨a, vs, _, w, rfl, rfl, .inl (.inl h1), e, k w H (Ext.refl _ _) r⟩
  · obtain ⟨a, vs, rfl, h1, h2⟩ := hx
    cases (show u = _ from hy)
    obtain ⟨w, e, r⟩ := atI_rep h2 hz
    exact .inr (.inl ⟨a, vs, _, w, rfl, rfl, h1, e, k w H (Ext.refl _ _) r⟩)
  · split at hz
    · rename_i hl
      cases (show v = _ from hx)
      cases (show u = _ from hy)
      rename_i s i
      cases q : atI s.cps.toList i with
      | none => rw [q] at hz; cases hz
      | some c =>
        rw [q] at hz
        cases hz
        exact .inr (.inr ⟨s, i, c, rfl, rfl, sz_of hl, q, k _ H (Ext.refl _ _) rfl⟩)
    · cases hz
  · cases hz
abbrev PM := Env → Out (Option Int)
def pNone : PM := fun e => .ok none e
def D.toI : D → Option Int
  | .int i => some i
  | _ => none
def pSome (a : EM) : PM := fun env => (a env).bind fun x e => (Out.opt x.toI e).bind fun i e => .ok (some i) e
def eSl (f : D → Option Int → Option Int → Option D) (a : EM) (lo hi : PM) : EM := fun env => (a env).bind fun x e => (lo e).bind fun l e1 => (hi e1).bind fun u e2 => .opt (f x l u) e2
section
variable {O P : List Nat} {E : XK} {μ : Mo} {fr fa fb : Bool} {ta tb te : TE} {ma mb : EM} {t u : TT} {m n : TM} {tA : TA} {mA : AM} {tl th : TO} {pl ph : PM}
def D.isS : D → Bool
  | .str _ => true
  | _ => false
def eM1 (f : D → D → Option D) (a b : EM) : EM := fun env => (a env).bind fun x e => if x.isS then (b e).bind fun y e' => .opt (f x y) e' else .bad
theorem ref_m1 {r : V → List V → Hp → VK → Prop} {f : D → D → Option D} (hr : Op2 S fr (fun x y H Q => r x [y] H Q) f) (ha : RefE S O P E μ fa ta ma) (hb : RefE S O P E μ fb tb mb) : RefE S O P E μ fr (tM1 r ta tb) (eM1 f ma mb) := by
  intro R σ H fp env I Q h
  refine ha R σ H fp env I _ ((Want.bind h).mono fun x e1 H1 f1 I1 s1 h1 v hv _ => ?_)
  by_cases c : x.isS = true
  · rw [if_pos c] at h1
    refine ⟨?_, ?_⟩
    · cases x with
      | str z => exact ⟨z, hv.rep⟩
      | _ => cases c
    · refine hb R σ H1 f1 e1 I1 _ ((Want.bind h1).mono fun y e2 H2 f2 I2 s2 h2 u hu _ => ?_)
      obtain ⟨z, hz⟩ := want_some h2
      exact hr (FM R f2 μ) H2 x y v u z Q (fun a q => I2.fm q) (Rep.fwd s2.fwd _ _ hv.rep) hu.rep hz fun w H' ex hk => want_opt h2 hz I2 (fun a q => (s1.trans s2).dom q) ex hk
  · rw [if_neg c] at h1
    exact h1.elim
end
def oJoin : D → D → Option D
  | .str a, .lst ds => (strsOf ds).bind fun ys => if (ys.map (·.length)).sum + ys.length * a.length ≤ 100000 then some (.str (Txt.join a ys)) else none
  | .str a, .tup ds => (strsOf ds).bind fun ys => if (ys.map (·.length)).sum + ys.length * a.length ≤ 100000 then some (.str (Txt.join a ys)) else none
  | _, _ => none
def rJoinX (K : PySem.W.Frag) : V → List V → Hp → VK → Prop := fun x xs H Q => ∃ a p, ∃ ys : List Str, x = .str a ∧ xs = [.ref p] ∧ (SqL K H p (ys.map V.str) ∨ SqT K H p (ys.map V.str)) ∧
      (ys.map (·.length)).sum + ys.length * a.length ≤ 16777216 ∧ Q (.str (Txt.join a ys)) H
theorem o2_join : Op2 S false (fun x y H Q => rJoinX S.K x [y] H Q) oJoin := fun F H x y v u z Q hF hx hy hz k => by
  unfold oJoin at hz
  split at hz
  · obtain ⟨ys, e1, e2⟩ := Option.bind_eq_some_iff.mp hz
    split at e2
    · rename_i hl
      cases e2
      have e1 := strsOf_some e1
      subst e1
      cases (show v = _ from hx)
      obtain ⟨p, vs, rfl, _, h1, h2⟩ := hy
      rw [h2.strs] at h1
      exact ⟨_, p, ys, rfl, rfl, .inl (.inl (.inl h1)), by omega, k _ H (Ext.refl _ _) rfl⟩
    · cases e2
  · obtain ⟨ys, e1, e2⟩ := Option.bind_eq_some_iff.mp hz
    split at e2
    · rename_i hl
      cases e2
      have e1 := strsOf_some e1
      subst e1
      cases (show v = _ from hx)
      obtain ⟨p, vs, rfl, h1, h2⟩ := hy
      rw [h2.strs] at h1
      exact ⟨_, p, ys, rfl, rfl, .inr h1, by omega, k _ H (Ext.refl _ _) rfl⟩
    · cases e2
  · cases hz
def A1 (f : D → Option D) : List D → Option D
  | [d] => f d
  | _ => none
theorem opA1 {fr : Bool} {r : List V → Hp → VK → Prop} {f : D → Option D} (h : Op1 S fr (fun v H Q => r [v] H Q) f) : OpA S fr r (A1 f) := fun F H xs vs z Q hF hx hz k => by
  match xs, hz with
  | [d], hz =>
    obtain ⟨v, r', rfl, h1, h2⟩ := hx
    cases (show r' = _ from h2)
    exact h F H d v z Q hF h1 hz k
def oLen : D → Option D
  | .str z => if z.length ≤ 100000 then some (.int z.length) else none
  | .lst ds => some (.int ds.length)
  | .tup ds => some (.int ds.length)
  | _ => none
def rLenX (K : PySem.W.Frag) : List V → Hp → VK → Prop := fun xs H Q => ∃ x n, xs = [x] ∧ LenV K x H n ∧ Q (.int n) H
theorem oA_len : OpA S false (rLenX S.K) (A1 oLen) := opA1 fun F H x v z Q hF hx hz k => by
  cases x with
  | str s =>
    unfold oLen at hz
    dsimp only at hz
    split at hz
    · cases hz
      cases (show v = _ from hx)
      exact ⟨_, s.length, rfl, ⟨sz_of (by assumption), rfl⟩, k _ H (Ext.refl _ _) rfl⟩
    · cases hz
  | lst ds =>
    cases hz
    obtain ⟨a, vs, rfl, _, h1, h2⟩ := hx
    exact ⟨_, ds.length, rfl, .inl ⟨vs, .inl (.inl h1), h2.length.symm⟩, k _ H (Ext.refl _ _) rfl⟩
  | tup ds =>
    cases hz
    obtain ⟨a, vs, rfl, h1, h2⟩ := hx
    exact ⟨_, ds.length, rfl, .inr ⟨vs, h1, h2.length.symm⟩, k _ H (Ext.refl _ _) rfl⟩
  | _ => cases hz
def oList : D → Option D
  | .lst ds => some (.lst ds)
  | .tup ds => some (.lst ds)
  | _ => none
def rListX (K : PySem.W.Frag) : List V → Hp → VK → Prop := fun xs H Q => ∃ p ys, xs = [.ref p] ∧ (SqL K H p ys ∨ SqT K H p ys) ∧ ∀ l, H l = none → Q (.ref l) (upd H l (.lst ys))
theorem oA_list : OpA S true (rListX S.K) (A1 oList) := opA1 fun F H x v z Q hF hx hz k => by
  cases x with
  | lst ds =>
    cases hz
    obtain ⟨a, vs, rfl, _, h1, h2⟩ := hx
    exact ⟨a, vs, rfl, .inl (.inl (.inl h1)), fun p hp => k _ _ (Ext.new hp) ⟨p, vs, ds, rfl, hp, rfl, upd_same, fun z => hF p z hp, (h2.less fun x z => z.imp id fun e => by rw [e]; exact hp).grow (Ext.new hp)⟩⟩
  | tup ds =>
    cases hz
    obtain ⟨a, vs, rfl, h1, h2⟩ := hx
    exact ⟨a, vs, rfl, .inr h1, fun p hp => k _ _ (Ext.new hp) ⟨p, vs, ds, rfl, hp, rfl, upd_same, fun z => hF p z hp, (h2.less fun x z => z.imp id fun e => by rw [e]; exact hp).grow (Ext.new hp)⟩⟩
  | _ => cases hz
def oTuple : D → Option D
  | .lst ds => some (.tup ds)
  | .tup ds => some (.tup ds)
  | _ => none
def rTupleX (K : PySem.W.Frag) : List V → Hp → VK → Prop := fun xs H Q => ∃ p ys, xs = [.ref p] ∧ ((SqL K H p ys ∧ ∀ l, H l = none → Q (.ref l) (upd H l (.tup ys))) ∨ (SqT K H p ys ∧ Q (.ref p) H))
theorem oA_tuple : OpA S false (rTupleX S.K) (A1 oTuple) := opA1 fun F H x v z Q hF hx hz k => by
  cases x with
  | lst ds =>
    cases hz
    obtain ⟨a, vs, rfl, _, h1, h2⟩ := hx
    exact ⟨a, vs, rfl, .inl ⟨.inl (.inl h1), fun p hp => k _ _ (Ext.new hp) ⟨p, vs, rfl, .inl (.inl upd_same), h2.grow (Ext.new hp)⟩⟩⟩
  | tup ds =>
    cases hz
    obtain ⟨a, vs, rfl, h1, h2⟩ := hx
    exact ⟨a, vs, rfl, .inr ⟨h1, k _ H (Ext.refl _ _) ⟨a, vs, rfl, h1, h2⟩⟩⟩
  | _ => cases hz
def oAll : D → Option D
  | .lst ds => (blsOf ds).map fun ns => .bl (ns.all id)
  | _ => none
def oAny : D → Option D
  | .lst ds => (blsOf ds).map fun ns => .bl (ns.any id)
  | _ => none
theorem oA_all : OpA S false (rAll S.K) (A1 oAll) := opA1 fun F H x v z Q hF hx hz k => by
  cases x with
  | lst ds =>
    have hz : (blsOf ds).map (fun ns => D.bl (ns.all id)) = some z := hz
    cases e : blsOf ds with
    | none => rw [e] at hz; cases hz
    | some ns =>
      rw [e] at hz
      cases hz
      have e := blsOf_some e
      subst e
      obtain ⟨a, vs, rfl, _, h1, h2⟩ := hx
      rw [h2.bls] at h1
      exact ⟨a, ns, rfl, .inl (.inl h1), k _ H (Ext.refl _ _) rfl⟩
  | _ => cases hz
theorem oA_any : OpA S false (rAny S.K) (A1 oAny) := opA1 fun F H x v z Q hF hx hz k => by
  cases x with
  | lst ds =>
    have hz : (blsOf ds).map (fun ns => D.bl (ns.any id)) = some z := hz
    cases e : blsOf ds with
    | none => rw [e] at hz; cases hz
    | some ns =>
      rw [e] at hz
      cases hz
      have e := blsOf_some e
      subst e
      obtain ⟨a, vs, rfl, _, h1, h2⟩ := hx
      rw [h2.bls] at h1
      exact ⟨a, ns, rfl, .inl (.inl h1), k _ H (Ext.refl _ _) rfl⟩
  | _ => cases hz
def rAbsX : List V → Hp → VK → Prop := fun xs H Q => ∃ i, xs = [.int i] ∧ Q (.int (if i < 0 then -i else i)) H
theorem callR_or {X : Cx} {f : Value} {r1 r2 : List V → Hp → VK → Prop} (h1 : CallR X f r1) (h2 : CallR X f r2) : CallR X f (fun xs H Q => r1 xs H Q ∨ r2 xs H Q) := by
  intro pins s σ H xs us Q I r h
  rcases h with h | h
  · exact h1 pins s σ H xs us Q I r h
  · exact h2 pins s σ H xs us Q I r h
def D.tyN : D → Option String
  | .non => some "NoneType"
  | .bl _ => some "bool"
  | .int _ => some "int"
  | .str _ => some "str"
  | .tup _ => some "tuple"
  | .lst _ => some "list"
  | _ => none
def oIsi (T : String) (d : D) : Option D := d.tyN.bind fun n => (kitB n T).map .bl
theorem rep_ty {F : Addr → Prop} {H : Hp} {d : D} {v : V} {n : String} (h : Rep S F H d v) (e : d.tyN = some n) : TyX S.K H v (.type n) := by
  cases d with
  | non => cases e; cases (show v = _ from h); exact .base .non
  | bl b => cases e; cases (show v = _ from h); exact .base (.bl b)
  | int b => cases e; cases (show v = _ from h); exact .base (.int b)
  | str b => cases e; cases (show v = _ from h); exact .base (.str b)
  | tup ds =>
    cases e
    obtain ⟨a, vs, rfl, (h1 | ⟨o, h1⟩) | ⟨o, its, k, h1, h2, _⟩, _⟩ := h
    · exact .base (.tup h1)
    · exact .fTuple h1
    · exact .kTuple h1 h2
  | lst ds =>
    cases e
    obtain ⟨a, vs, rfl, _, h1, _⟩ := h
    exact .base (.lst h1)
  | _ => cases e
theorem ref_isi {O P : List Nat} {E : XK} {μ : Mo} {fa : Bool} {ta : TE} {ma : EM} {T : String} (ha : RefE S O P E μ fa ta ma) : RefE S O P E μ false (tCB (rIsi S.K) (tCons ta (tCons (tC (.ty T)) tNil))) (e1 (oIsi T) ma) := by
  refine ref_op1 (r := fun x H1 Q => ∃ (y c : V) (t u : Value) (b : Bool), [x, V.ty T] = [y, c] ∧ ClsV c u ∧ TyX S.K H1 y t ∧ PySem.W.kitOne S.K t u = some b ∧ Q (.bl b) H1) (f := oIsi T) (fun F H x v z Q hF hx hz k => ?_) ha
  obtain ⟨n, e1, e2⟩ := Option.bind_eq_some_iff.mp hz
  cases e : kitB n T with
  | none => rw [e] at e2; cases e2
  | some b =>
    rw [e] at e2
    cases e2
    exact ⟨v, _, _, _, b, rfl, .ty T, rep_ty hx e1, kit_ty e, k _ H (Ext.refl _ _) rfl⟩
end
end Mir
namespace PySem
open Sem (wp)
set_option maxHeartbeats 1000000 in
theorem meets_enumerate_newB1 {v : Value} {o : Obj} {H : Heap → Prop} (B : Begins v o H) :
    Meets (Builtin.«enumerate.__new__» ⟨[.type "enumerate", v], []⟩) (fun _ R s => H s.heap ∧
      R (.ok (.ret (.ref (s.heap.push o).objs.size))) { s with heap := (s.heap.push o).push { cls := .type "enumerate", data := .fields #[.none, .bool false, .ref s.heap.objs.size, rawInt 0, .none, .none] } }) :=
  .of_wp fun prog w A R s h => by
    obtain ⟨hp, g, d, tk, os⟩ := s; obtain ⟨h1, h⟩ := h
    have hsub := sub_enumerate
    have q1 : ∀ {A' : Around} {E : Value → Shared → Prop} {Q : Value → Shared → Prop}, Q (.ref hp.objs.size) ⟨hp.push o, g, d, tk, os⟩ → wpAny (model prog w) A' (pyIter v) Q E ⟨hp, g, d, tk, os⟩ :=
      fun q => B.iter prog w _ _ ⟨hp, g, d, tk, os⟩ _ h1 q
    wp_walk using q1
    refine wpAny_stack_any fun st => wpAny_pure ?_
    split
    · rename_i c _ _ _ _ _
      cases (c == Value.type "enumerate")
      · wp_walk using q1
        exact ⟨_, rfl, h⟩
      · wp_walk using q1
        exact ⟨_, rfl, h⟩
    · wp_walk using q1
      exact ⟨_, rfl, h⟩
section
variable {prog : Program} {w : World} {A : Around} {E : Value → Shared → Prop} {s : Shared}
theorem enum_begins1 {v : Value} {o : Obj} {H : Heap → Prop} {Q : Value → Shared → Prop} (B : Begins v o H) (h1 : H s.heap)
    (h : ∀ h', IsEnum h' (s.heap.objs.size + 1) s.heap.objs.size 0 .none → h'.get? s.heap.objs.size = some o → h'.objs.size = s.heap.objs.size + 2 →
      (∀ b o, s.heap.get? b = some o → h'.get? b = some o) → Q (.ref (s.heap.objs.size + 1)) { s with heap := h' }) :
    wpAny (model prog w) A (call (.type "enumerate") [v]) Q E s := by
  refine callType_new F.called_enumerate (by decide) (F.typeCall_enumerate_1 _) (F.newCall_enumerate_1 _) (fun obj => F.args_object_init_2 obj _) F.entry_enumerate_new
    (meets_enumerate_newB1 B) ⟨h1, ?_⟩
  have hz : (s.heap.push o).objs.size = s.heap.objs.size + 1 := Heap.size_push ..
  show _ ∧ _
  rw [hz]
  have he : IsEnum ((s.heap.push o).push { cls := .type "enumerate", data := .fields #[.none, .bool false, .ref s.heap.objs.size, rawInt 0, .none, .none] }) (s.heap.objs.size + 1) s.heap.objs.size 0 .none := by
    have := Heap.get?_push_size (s.heap.push o) (o := { cls := .type "enumerate", data := .fields #[.none, .bool false, .ref s.heap.objs.size, rawInt 0, .none, .none] }) rfl
    rw [hz] at this; exact this
  refine ⟨⟨_, he, rfl⟩, h _ he (Heap.get?_push_of_some _ (Heap.get?_push_size _ B.free)) (by rw [Heap.size_push, hz]) fun b o x => Heap.get?_push_of_some _ (Heap.get?_push_of_some _ x)⟩
end
end PySem
namespace L2
open PySem PySem.Spec PyProof.Rows
section
variable {X : Cx} {tg : Expr}
def iSeqX (K : PySem.W.Frag) (tl : TE) : TI := fun σ H R => tl σ H fun x H1 => (∃ a, x = .ref a ∧ (∃ xs, SqL K H1 a xs) ∧ R (Itl K a) H1) ∨ ((∃ a, x = .ref a ∧ (∃ xs, SqT K H1 a xs) ∧ R (Itt K a) H1) ∨ ∃ z, x = .str z ∧ R (Its z) H1)
theorem pi_seqX {l : Expr} {tl : TE} (hl : PE X l tl) : PI X tg l (iSeqX X.K tl) := by
  refine ⟨fun pins s σ H R I h => ?_⟩
  refine thn (hl.run pins s σ H _ I h) fun v s1 ⟨x, H1, I1, r1, q1⟩ => ?_
  rcases q1 with ⟨a, e, ⟨xs, hq⟩, q⟩ | ⟨a, e, ⟨xs, hq⟩, q⟩ | ⟨x, ex, q⟩
  · subst e
    cases r1
    obtain ⟨its, rv, p, hz⟩ := I1.list hq
    refine wpAny_pyIter_list p.isList ?_
    refine ⟨s1.heap.objs.size, [s1.heap.objs.size], _, _, H1, rfl, I1.kept (t' := s1.toks) fun b o e => Heap.get?_push_of_some _ e, turn_list a _, ⟨_, Heap.get?_push_size _ rfl, rfl, rfl⟩, fun b hb => ?_, q⟩
    have e : b = s1.heap.objs.size := by simpa using hb
    subst e
    exact I1.fpOk (Nat.le_refl _) (I1.hok.fresh (Nat.le_refl _))
  · subst e
    cases r1
    obtain ⟨its, rv, p, hz⟩ := I1.tuple hq
    refine wpAny_pyIter_tuple (show s1.heap.IsTuple a its.toArray from p) ?_
    refine ⟨s1.heap.objs.size, [s1.heap.objs.size], _, _, H1, rfl, I1.kept (t' := s1.toks) fun b o e => Heap.get?_push_of_some _ e, turn_tuple a _, ⟨_, Heap.get?_push_size _ rfl, rfl, rfl⟩, fun b hb => ?_, q⟩
    have e : b = s1.heap.objs.size := by simpa using hb
    subst e
    exact I1.fpOk (Nat.le_refl _) (I1.hok.fresh (Nat.le_refl _))
  · subst ex
    obtain ⟨t, rfl⟩ := r1
    cases ha : x.cps.all (· < 128)
    · exact wpAny_pyIter_wide ha (pi_one (tk := s1.toks) I1 _ (turn_str _ x t "str_iterator" (.inr rfl)) ⟨_, Heap.get?_push_size _ rfl, rfl, rfl⟩ q)
    · exact wpAny_pyIter_ascii ha (pi_one (tk := s1.toks) I1 _ (turn_str _ x t "str_ascii_iterator" (.inl rfl)) ⟨_, Heap.get?_push_size _ rfl, rfl, rfl⟩ q)
def IteT (K : PySem.W.Frag) (a : Addr) : It :=
  ⟨fun i H => ∃ (xs : List V) (x : V), SqT K H a xs ∧ xs[i]? = some x, fun i H v H' => ∃ T x, v = .ref T ∧ H T = none ∧ H' = upd H T (.tup [.int (i : Nat), x]) ∧ ∀ xs, SqT K H a xs → xs[i]? = some x, fun i H => ∃ xs : List V, SqT K H a xs ∧ xs.length ≤ i⟩
theorem turn_enumT {P : Program} {w : World} {K : PySem.W.Frag} {elts : List Expr} {kk : Nat} {tpos : Pos} (a e it : Addr) :
    Turn P w K (.Tuple elts kk tpos) (IteT K a) [e, it] e (fun i h => (∃ old, IsEnum h e it ((i : Nat) : Int) old) ∧ h.IsTupleIter it a i ∧ e ≠ it ∧ a ≠ it ∧ a ≠ e) where
  mem := by simp
  obj := fun i h st b hb => by
    obtain ⟨⟨old, he⟩, ⟨o, ho, hc, hd⟩, _⟩ := st
    have e' : b = e ∨ b = it := by simpa using hb
    rcases e' with z | z
    · rw [z]; exact ⟨_, he, fun v q => nomatch q⟩
    · rw [z]; exact ⟨o, ho, fun v q => by rw [hd] at q; cases q⟩
  keep := fun i h h' st k => let ⟨⟨old, he⟩, hi, hne⟩ := st; ⟨⟨old, k e (by simp) _ he⟩, hi.at fun o q => k it (by simp) o q, hne⟩
  item := by
    intro X hP hw hK hc i pins s σ H E I hf st hg
    subst hP hw hK
    obtain ⟨⟨old, he⟩, hit, hne, hai, hae⟩ := st
    obtain ⟨xs, x, hq, hx⟩ := hg
    obtain ⟨its, rv, p, hz⟩ := I.tuple hq
    obtain ⟨u, hu, ru⟩ := rv.get hx
    have hel : e < s.heap.objs.size := Heap.lt_size he
    have hil : it < s.heap.objs.size := by obtain ⟨_, q, _⟩ := hit; exact Heap.lt_size q
    have hD := Draws.tuple (prog := X.prog) (w := X.w) (A := X.A.in1) (by first | exact I.ok.hd hc | (rw [show X.A.in1.handled = none from I.ok.hd hc])) it a hai its.toArray
    refine wpAny_pyNext_enum_itemC hD he ⟨hit, show s.heap.IsTuple a its.toArray from p⟩ (by rw [List.size_toArray, ← rv.length]; exact (List.getElem?_eq_some_iff.mp hx).1) hne (by simp [hne, Ne.symm hae]) fun x' h' tk hx' ho hit' hT hsz hk => ?_
    have ex : x' = u := by
      have hx' : its.toArray[i]? = some x' := hx'
      have : its.toArray[i]? = some u := by simpa using hu
      rw [this] at hx'
      exact (Option.some.inj hx').symm
    subst ex
    refine ⟨_, rfl, wpAny_letOwnedTupleGo_enum (s := { s with heap := h', toks := tk + 1 }) ho fun h'' he' sb => ?_⟩
    have hT2 : h''.get? s.heap.objs.size = some { cls := .type "tuple", data := .seq #[.int i tk, x'] } := (sb.2 _ (Nat.ne_of_gt hel)).trans hT
    have new : ObjOk X.prog X.w (upd H s.heap.objs.size (.tup [.int (i : Nat), x])) h'' s.heap.objs.size (.tup [.int (i : Nat), x]) :=
      ⟨by show 2 ≤ sizeLine; decide, [.int i tk, x'], .cons ⟨_, rfl⟩ (.cons ru .nil), ⟨_, hT2, rfl, _, rfl⟩⟩
    have I1 : Inv X pins σ (upd H s.heap.objs.size (.tup [.int (i : Nat), x])) { s with heap := h'', toks := tk + 1 } :=
      I.turnedNew (ch := [e, it]) (fun b ob hb q => (sb.2 b (fun z => hb (by simp [z]))).trans (hk b ob (fun z => hb (by simp [z])) (fun z => hb (by simp [z])) q)) hf (Nat.le_refl _) new
    refine ⟨.ref s.heap.objs.size, _, I1, rfl, ⟨_, x, rfl, I.hok.fresh (Nat.le_refl _), rfl, fun ys hy => by rw [I.tuple_inj hy hq]; exact hx⟩, ⟨⟨x', ?_⟩, hit'.1.at fun o q => (sb.2 it (Ne.symm hne)).trans q, hne, hai, hae⟩, fun b hb => ?_⟩
    · have e1 : ((i + 1 : Nat) : Int) = (i : Int) + 1 := by omega
      rw [e1]; exact he'
    · have hb' : b < s.heap.objs.size := by
        have e' : b = e ∨ b = it := by simpa using hb
        rcases e' with z | z
        · rw [z]; exact hel
        · rw [z]; exact hil
      rw [upd_ne (Nat.ne_of_lt hb')]
      exact (hf b hb).1
  done := by
    intro X hP hw hK hc i pins s σ H E I hf st hg
    subst hP hw hK
    obtain ⟨⟨old, he⟩, hit, hne, hai, hae⟩ := st
    obtain ⟨xs, hq, hx⟩ := hg
    obtain ⟨its, rv, p, hz⟩ := I.tuple hq
    obtain ⟨f0, f1, f2, f3, f4, f5⟩ := hf it (by simp)
    have hl := rv.length
    have hT : s.TypeIs (.ref e) "enumerate" := ⟨_, he, rfl⟩
    unfold pyNext
    refine wpAny_bind (wpAny_attempt (wpAny_callSpecial?_slot (name := Str.ofString "__next__") hT F.slot_enumerate_next
      (wpAny_call_entry F.slot_enumerate_next hT F.entry_enumerate_next ?_ (F.args_enumerate_next_1 _))))
    show wpAny _ _ (field (.ref e) 2 >>= _) _ _ _
    refine wpAny_bind (wpAny_field he rfl (x := .ref it) rfl ?_)
    refine wpAny_bind (wpAny_nextOf_tuple_end (by first | exact I.ok.hd hc | (rw [show X.A.in1.handled = none from I.ok.hd hc])) hit (show s.heap.IsTuple a its.toArray from p) (by simp; omega) fun h' x he' hx' => ?_)
    obtain ⟨o, ho, hc'⟩ := hx'
    refine wpAny_bind (wpAny_isInstance (T := "StopIteration") (b := true) ⟨o, ho, hc'⟩ isSubtype_stop ?_)
    exact wpAny_pure ⟨rfl, I.turned (t' := s.toks) (fun b o hb e => he' b o hb e) f0 f1 f3 f4 f5⟩
  self := fun A i s Q E st h => let ⟨⟨_, he⟩, _⟩ := st; wpAny_pyIter_enum he h
def iEnumT (K : PySem.W.Frag) (ta : TA) : TI := fun σ H R => ta σ H fun vs H1 => ∃ a xs, vs = [.ref a] ∧ SqT K H1 a xs ∧ R (IteT K a) H1
theorem pi_enumT {e : Expr} {ta : TA} {p pos tpos : Pos} {elts : List Expr} {kk : Nat} (hg : Gl X "enumerate") (hm : X.mg "enumerate" = none) (ha : PA X [e] ta) (hs : starEach [e] X.env = [(false, eval e X.env)] := by rfl) :
    PI X (.Tuple elts kk tpos) (.Call (.Name "enumerate" p) [e] [] pos) (iEnumT X.K ta) := by
  refine ⟨fun pins s σ H R I h => ?_⟩
  refine Call_ (ld_blt I hg hm boot_enumerate (PyProof.Rows.callWith_type1 (thn (ha.run pos pins s σ H _ I h) fun us s1 ⟨vs, H1, I1, r1, q1⟩ => ?_) hs rfl))
  obtain ⟨a, xs, ex, hq, q⟩ := q1
  subst ex
  cases r1 with
  | cons r rr =>
    cases rr
    cases r
    obtain ⟨its, rv, p', hz⟩ := I1.tuple hq
    have hal : a < s1.heap.objs.size := by obtain ⟨_, q, _⟩ := (show s1.heap.IsTuple a its.toArray from p'); exact Heap.lt_size q
    refine enum_begins1 (begins_tuple a its.toArray) (show s1.heap.IsTuple a its.toArray from p') fun h' he hit hsz hk => wpAny_pyIter_enum he ?_
    have I2 : Inv X pins σ H1 { s1 with heap := h' } := I1.kept (t' := s1.toks) hk
    refine ⟨s1.heap.objs.size + 1, [s1.heap.objs.size + 1, s1.heap.objs.size], _, _, H1, rfl, I2, turn_enumT a (s1.heap.objs.size + 1) s1.heap.objs.size, ⟨⟨.none, he⟩, ⟨_, hit, rfl, rfl⟩, Nat.succ_ne_self _, Nat.ne_of_lt hal, Nat.ne_of_lt (Nat.lt_succ_of_lt hal)⟩, fun b hb => ?_, q⟩
    have e' : b = s1.heap.objs.size + 1 ∨ b = s1.heap.objs.size := by simpa using hb
    have hle : s1.heap.objs.size ≤ b := by
      rcases e' with z | z
      · rw [z]; exact Nat.le_add_right _ _
      · rw [z]; exact Nat.le_refl _
    exact I1.fpOk hle (I1.hok.fresh hle)
def rSortedPT (K : PySem.W.Frag) : List V → Hp → VK → Prop := fun vs H Q => (∀ (a : Addr) (xs ys : List V), SqT K H a xs → SqT K H a ys → xs = ys) → ∃ (a : Addr) (xs : List V) (k : V → Int × Int), vs = [V.ref a] ∧ SqL K H a xs ∧ (∀ x ∈ xs, ∃ t, x = V.ref t ∧ SqT K H t [.int (k x).1, .int (k x).2]) ∧
  ∀ ys p, SrtO.Srtd (ltP k) ys → SrtO.Stb (ltP k) ys xs → H p = none → Q (.ref p) (upd H p (.lst ys))
theorem cr_sortedPT : CallR X (.builtin "sorted") (rSortedPT X.K) := by
  intro pins s σ H vs us Q I r h
  replace h := h fun a xs ys h1 h2 => I.tuple_inj h1 h2
  obtain ⟨a, xs, k, rfl, hs, hx, q⟩ := h
  obtain ⟨its, rv, hl, hz⟩ := I.list hs
  obtain ⟨u, rfl, ru⟩ := vals1 r
  obtain rfl : u = Value.ref a := ru
  obtain ⟨e1, e2⟩ := refs_back rv fun x m => by
    obtain ⟨t, e, _⟩ := hx x m
    exact ⟨t, e⟩
  refine SrtO.sorted_pairsO (k := fun u => k (backV u)) hl.isList (by rw [← rv.length]; exact hz) (fun v hv => ?_) fun h' d out h1 h2 kp hd hn => ?_
  · obtain ⟨t, rfl⟩ := e2 v hv
    have hm : V.ref t ∈ xs := by rw [e1]; exact List.mem_map.mpr ⟨_, hv, rfl⟩
    obtain ⟨t', e, ht⟩ := hx _ hm
    cases e
    obtain ⟨its2, r2, ⟨o, ho, hc, n, hd⟩, _⟩ := I.tuple ht
    obtain ⟨u1, u2, rfl, ri, rj⟩ := vals2 r2
    obtain ⟨t1, rfl⟩ := ri
    obtain ⟨t2, rfl⟩ := rj
    exact ⟨t, o, t1, t2, n, rfl, ho, hc, hd⟩
  · have h3 : ∀ u ∈ out, ∃ a, u = Value.ref a := fun u hu => e2 u (h2.perm.mem_iff.mp hu)
    obtain ⟨n, hn⟩ := hn
    have hb : SrtO.Stb (ltP k) (out.map backV) xs := by
      rw [e1]
      exact SrtO.Stb.map (ltP_swo k) backV h2
    refine ⟨.ref d, upd H d (.lst (out.map backV)), I.laid (t' := s.toks) kp hd ⟨?_, out, n, vals_back h3, hn⟩, rfl, q _ d (SrtO.srtd_map h1) hb (I.hok.fresh hd)⟩
    rw [hb.len]
    exact hz
end
end L2
namespace Mir
open PySem PySem.Spec PyProof.Rows L2
variable [Tbl]
def D.items : D → Option (List D)
  | .lst ds => some ds
  | .tup ds => some ds
  | .str x => some (x.cps.toList.map fun c => .str ⟨#[c]⟩)
  | _ => none
def iSeqM (a : EM) : IM := fun env => (a env).bind fun x e => .opt x.items e
def iSeqP (a : EM) : IM := fun env => (a env).bind fun x e => (Out.opt x.items e).bind fun ds e => if D.pureL ds then .ok ds e else .bad
section
variable {S : Sc} {O P : List Nat} {E : XK} {μ : Mo} {fr fa fb : Bool} {ta tb : TE} {ma mb : EM} {t u : TS} {m n : SM} {tt : TT} {mt : TM}
theorem itok_str {F : Addr → Prop} {H : Hp} {x : Str} : ItOk S μ F H (Its x) (x.cps.toList.map fun c => .str ⟨#[c]⟩) := fun F' H' w al => by
  have hl : (x.cps.toList.map fun c => D.str ⟨#[c]⟩).length = x.cps.size := by rw [List.length_map, Array.length_toList]
  refine ⟨fun k hk => ?_, fun k y H3 d q hd => ?_, fun k hk => ?_⟩
  · rw [hl] at hk
    exact hk
  · obtain ⟨rfl, c, e1, rfl⟩ := q
    rw [List.getElem?_map, Array.getElem?_toList, e1] at hd
    cases hd
    exact ⟨Ext.refl _ _, rfl⟩
  · rw [hl] at hk
    exact hk
theorem ri_seq (ha : RefE S O P E none fa ta ma) : RefI S O P E none (iSeqX S.K ta) (iSeqM ma) := by
  intro R σ H fp env I Q h
  refine ha R σ H fp env I _ ((Want.bind h).mono fun x e1 H1 f1 I1 s1 h1 v hv _ => ?_)
  obtain ⟨ds, hd⟩ := want_some h1
  rw [hd] at h1
  have hv := hv.rep
  cases x with
  | lst es =>
    cases hd
    obtain ⟨a, vs, rfl, nf, r1, r2⟩ := hv
    exact .inl ⟨a, rfl, ⟨vs, .inl (.inl r1)⟩, h1 H1 f1 I1 Stp.refl _ (itok_list (fun _ => nf) (.inl r1) r2)⟩
  | tup es =>
    cases hd
    obtain ⟨a, vs, rfl, r1, r2⟩ := hv
    exact .inr (.inl ⟨a, rfl, ⟨vs, r1⟩, h1 H1 f1 I1 Stp.refl _ (itok_tup r1 r2)⟩)
  | str z =>
    cases hd
    exact .inr (.inr ⟨z, hv, h1 H1 f1 I1 Stp.refl _ itok_str⟩)
  | _ => cases hd
theorem itok_enumT {F : Addr → Prop} {H : Hp} {a : Addr} {vs : List V} {ds : List D} (h1 : SqT S.K H a vs) (h2 : RepL S F H ds vs) : ItOk S μ F H (IteT S.K a) (enumL 0 ds) := fun F' H' w al => by
  have w := w.fwd
  have r := sqt_ext w.1 h1
  refine ⟨fun n hn => ?_, fun n x H3 d y hd => ?_, fun n hn => ⟨vs, r, by rw [h2.length]; rw [enumL_len] at hn; exact hn⟩⟩
  · rw [enumL_len] at hn
    obtain ⟨v, e, _⟩ := h2.get (List.getElem?_eq_getElem hn)
    exact ⟨vs, v, r, e⟩
  · obtain ⟨T, z, rfl, nT, rfl, k⟩ := y
    obtain ⟨d0, e0, rfl⟩ := enumL_get hd
    obtain ⟨v, e, q⟩ := h2.get e0
    have := (k vs r).symm.trans e
    cases this
    refine ⟨Ext.new nT, T, _, rfl, .inl (.inl upd_same), ?_⟩
    rw [Nat.zero_add]
    exact .cons rfl (.cons ((Rep.fwd w _ _ q).grow (Ext.new nT)) .nil)
theorem ri_enumT (ha : RefE S O P E none fa ta ma) : RefI S O P E none (L2.iEnumT S.K (tCons ta tNil)) (Mir.iEnumT ma) := by
  intro R σ H fp env I Q h
  refine ha R σ H fp env I _ ((Want.bind h).mono fun x e1 H1 f1 I1 s1 h1 v hv _ => ?_)
  have h5 := Want.bind h1
  obtain ⟨ds, hd⟩ := want_some h5
  rw [hd] at h5
  have hw := hv.rep
  cases x with
  | tup es =>
    cases hd
    obtain ⟨a, vs, rfl, r1, r2⟩ := hw
    exact ⟨a, vs, rfl, r1, (h5 H1 f1 I1 Stp.refl) H1 f1 I1 Stp.refl _ (itok_enumT r1 r2)⟩
  | _ => cases hd
def pairD (p : Int × Int) : D := .tup [.int p.1, .int p.2]
def pairOf : D → Option (Int × Int)
  | .tup [.int i, .int j] => some (i, j)
  | _ => none
theorem pairOf_some {d : D} {p : Int × Int} (h : pairOf d = some p) : d = pairD p := by
  unfold pairOf at h
  split at h
  · cases h; rfl
  · cases h
def pairsOf : List D → Option (List (Int × Int))
  | [] => some []
  | d :: ds => (pairOf d).bind fun p => (pairsOf ds).map (p :: ·)
theorem pairsOf_some : ∀ {ds : List D} {ps : List (Int × Int)}, pairsOf ds = some ps → ds = ps.map pairD
  | [], ps, h => by cases h; rfl
  | d :: ds, ps, h => by
    have h : ((pairOf d).bind fun p => (pairsOf ds).map (p :: ·)) = some ps := h
    obtain ⟨p, z1, z2⟩ := Option.bind_eq_some_iff.mp h
    cases z : pairsOf ds with
    | none => rw [z] at z2; cases z2
    | some rs =>
      rw [z] at z2
      cases z2
      rw [pairsOf_some z, pairOf_some z1]; rfl
@[simp] theorem pairsOf_map (ps : List (Int × Int)) : pairsOf (ps.map pairD) = some ps := by
  induction ps with
  | nil => rfl
  | cons p ps ih =>
    show ((pairOf (pairD p)).bind fun p => (pairsOf (ps.map pairD)).map (p :: ·)) = _
    rw [ih]; rfl
def leB (p q : Int × Int) : Bool := !SrtO.lexB q p
theorem leB_iff {p q : Int × Int} : leB p q = true ↔ p.1 < q.1 ∨ (p.1 = q.1 ∧ p.2 ≤ q.2) := by
  unfold leB SrtO.lexB
  split <;> simp <;> omega
def sortI (ns : List Int) : List Int := ns.mergeSort fun a b => decide (a ≤ b)
def sortP (ps : List (Int × Int)) : List (Int × Int) := ps.mergeSort leB
theorem sortI_perm (ns : List Int) : (sortI ns).Perm ns := List.mergeSort_perm _ _
theorem sortP_perm (ns : List (Int × Int)) : (sortP ns).Perm ns := List.mergeSort_perm _ _
theorem sortI_le (ns : List Int) : (sortI ns).Pairwise (· ≤ ·) := by
  have h := List.pairwise_mergeSort (le := fun a b : Int => decide (a ≤ b)) (fun a b c h1 h2 => by simp at *; omega) (fun a b => by simp; omega) ns
  exact h.imp fun h => by simpa using h
theorem sortP_le (ns : List (Int × Int)) : (sortP ns).Pairwise (fun p q => leB p q = true) :=
  List.pairwise_mergeSort (le := leB) (fun a b c h1 h2 => by rw [leB_iff] at *; omega) (fun a b => by rw [Bool.or_eq_true, leB_iff, leB_iff]; omega) ns
theorem sortI_uniq {ns ms : List Int} (h1 : ms.Perm ns) (h2 : ms.Pairwise (· ≤ ·)) : ms = sortI ns :=
  List.Perm.eq_of_pairwise (le := (· ≤ ·)) (fun a b _ _ x y => by omega) h2 (sortI_le ns) (h1.trans (sortI_perm ns).symm)
theorem sortP_uniq {ns ms : List (Int × Int)} (h1 : ms.Perm ns) (h2 : ms.Pairwise (fun p q => leB p q = true)) : ms = sortP ns :=
  List.Perm.eq_of_pairwise (le := fun p q => leB p q = true) (fun a b _ _ x y => by
    rw [leB_iff] at x y
    exact Prod.ext (by omega) (by omega)) h2 (sortP_le ns) (h1.trans (sortP_perm ns).symm)
def oSort : D → Option D
  | .lst ds => match intsOf ds with
    | some ns => some (.lst ((sortI ns).map .int))
    | none => (pairsOf ds).map fun ps => .lst ((sortP ps).map pairD)
  | _ => none
def rSortX (K : PySem.W.Frag) : List V → Hp → VK → Prop := fun xs H Q => rSortedI K xs H Q ∨ rSortedPT K xs H Q
theorem cr_sortX {X : Cx} : CallR X (.builtin "sorted") (rSortX X.K) := callR_or cr_sortedI cr_sortedPT
theorem repL_map {F : Addr → Prop} {H : Hp} {f : V → D} : ∀ {vs : List V}, (∀ v ∈ vs, Rep S F H (f v) v) → RepL S F H (vs.map f) vs
  | [], _ => .nil
  | v :: vs, h => .cons (h v List.mem_cons_self) (repL_map fun u m => h u (List.mem_cons_of_mem _ m))
theorem repL_mem {F : Addr → Prop} {H : Hp} : ∀ {ds : List D} {vs : List V}, RepL S F H ds vs → ∀ v ∈ vs, ∃ d ∈ ds, Rep S F H d v
  | [], vs, h, v, m => by cases (show vs = [] from h); cases m
  | d :: ds, vs, h, v, m => by
    obtain ⟨u, r, rfl, h1, h2⟩ := h
    rcases List.mem_cons.mp m with e | e
    · subst e
      exact ⟨d, List.mem_cons_self, h1⟩
    · obtain ⟨d', m', q⟩ := repL_mem h2 v e
      exact ⟨d', List.mem_cons_of_mem _ m', q⟩
theorem sqt_det {K : PySem.W.Frag} {H : Hp} {a : Addr} {p q : Int × Int} (h1 : SqT K H a [.int p.1, .int p.2]) (h2 : SqT K H a [.int q.1, .int q.2]) (hd : ∀ xs ys, SqT K H a xs → SqT K H a ys → xs = ys) : p = q := by
  have e := hd _ _ h1 h2
  simp only [List.cons.injEq, V.int.injEq, and_true] at e
  exact Prod.ext e.1 e.2
theorem pairs_choice {F : Addr → Prop} {H : Hp} : ∀ {ps : List (Int × Int)} {vs : List V}, RepL S F H (ps.map pairD) vs → (∀ (a : Addr) (xs ys : List V), SqT S.K H a xs → SqT S.K H a ys → xs = ys) → ∃ k : V → Int × Int, vs.map k = ps ∧ ∀ x ∈ vs, ∃ t, x = V.ref t ∧ SqT S.K H t [.int (k x).1, .int (k x).2] := by
  intro ps vs h hd
  have key : ∀ v : V, ∃ p : Int × Int, (∃ q : Int × Int, ∃ t, v = V.ref t ∧ SqT S.K H t [.int q.1, .int q.2]) → ∃ t, v = V.ref t ∧ SqT S.K H t [.int p.1, .int p.2] := fun v => by
    by_cases c : ∃ q : Int × Int, ∃ t, v = V.ref t ∧ SqT S.K H t [.int q.1, .int q.2]
    · obtain ⟨q, hq⟩ := c
      exact ⟨q, fun _ => hq⟩
    · exact ⟨(0, 0), fun z => absurd z c⟩
  refine ⟨fun v => Classical.choose (key v), ?_, fun x m => ?_⟩
  · induction ps generalizing vs with
    | nil => cases (show vs = [] from h); rfl
    | cons p ps ih =>
      obtain ⟨v, r, rfl, h1, h2⟩ := h
      rw [List.map_cons, ih h2]
      obtain ⟨a, us, rfl, q1, q2⟩ := h1
      have e := RepL.ints (ns := [p.1, p.2]) q2
      subst e
      have q1 : SqT S.K H a [.int p.1, .int p.2] := q1
      obtain ⟨t, e, q3⟩ := Classical.choose_spec (key (.ref a)) ⟨p, a, rfl, q1⟩
      cases e
      rw [sqt_det q3 q1 (hd a)]
  · obtain ⟨d, m', hr⟩ := repL_mem h x m
    obtain ⟨p, _, rfl⟩ := List.mem_map.mp m'
    obtain ⟨a, us, rfl, q1, q2⟩ := hr
    have e := RepL.ints (ns := [p.1, p.2]) q2
    subst e
    exact Classical.choose_spec (key (.ref a)) ⟨p, a, rfl, q1⟩
theorem repL_ofMap {F : Addr → Prop} {H : Hp} {k : V → Int × Int} {vs us : List V} (h : ∀ x ∈ vs, ∃ t, x = V.ref t ∧ SqT S.K H t [.int (k x).1, .int (k x).2]) (hs : ∀ x ∈ us, x ∈ vs) : RepL S F H ((us.map k).map pairD) us := by
  rw [List.map_map]
  refine repL_map fun v m => ?_
  obtain ⟨t, rfl, q⟩ := h v (hs v m)
  exact ⟨t, _, rfl, q, RepL.ofInts (ns := [(k (.ref t)).1, (k (.ref t)).2])⟩
theorem oA_sorted : OpA S true (rSortX S.K) (A1 oSort) := opA1 fun F H x v z Q hF hx hz k => by
  cases x with
  | lst ds =>
    unfold oSort at hz
    dsimp only at hz
    obtain ⟨a, vs, rfl, nf, h1, h2⟩ := hx
    split at hz
    · rename_i ns e
      cases hz
      have e := intsOf_some e
      subst e
      rw [h2.ints] at h1
      refine .inl ⟨a, ns, rfl, .inl (.inl h1), fun ns' p hp hs hn => k _ _ (Ext.new hn) ⟨p, _, _, rfl, hn, rfl, upd_same, fun z => hF p z hn, ?_⟩⟩
      rw [sortI_uniq hp hs]
      exact RepL.ofInts
    · cases e : pairsOf ds with
      | none => rw [e] at hz; cases hz
      | some ps =>
        rw [e] at hz
        cases hz
        have e := pairsOf_some e
        subst e
        refine .inr fun hd => ?_
        obtain ⟨kk, k1, k2⟩ := pairs_choice h2 hd
        refine ⟨a, vs, kk, rfl, .inl (.inl h1), k2, fun ys p hs hb hn => k _ _ (Ext.new hn) ⟨p, ys, _, rfl, hn, rfl, upd_same, fun z => hF p z hn, ?_⟩⟩
        have e2 : ys.map kk = sortP ps := by
          refine sortP_uniq ?_ ?_
          · rw [← k1]
            exact hb.perm.map kk
          · refine List.pairwise_map.mpr (hs.imp fun {x y} h => ?_)
            unfold leB
            rw [show SrtO.lexB (kk y) (kk x) = false from h]; rfl
        rw [← e2]
        exact (repL_ofMap k2 fun x m => hb.perm.mem_iff.mp m).grow (Ext.new hn)
  | _ => cases hz
def eChain (f g : D → D → Option D) (a b c : EM) : EM := fun env => (a env).bind fun x e => (b e).bind fun y e1 => (Out.opt ((f x y).bind fun z => match z with | .bl k => some k | _ => none) e1).bind fun k e1 => if k then (c e1).bind fun z e2 => .opt (g y z) e2 else .ok (.bl false) e1
theorem ref_chain {r r' : R2} {f g : D → D → Option D} {tc : TE} {mc : EM} (hr : ∀ F H x y v u z Q, (∀ a, F a → H a ≠ none) → Rep S F H x v → Rep S F H y u → f x y = some z → (∀ w, Rep S F H z w → Q w H) → r v u H Q) (hr' : Op2 S false r' g)
    (ha : RefE S O P E μ fa ta ma) (hb : RefE S O P E μ fb tb mb) (hc : RefE S O P E μ fr tc mc) : RefE S O P E μ false (tChain r r' ta tb tc) (eChain f g ma mb mc) := by
  intro R σ H fp env I Q h
  refine ha R σ H fp env I _ ((Want.bind h).mono fun x e1 H1 f1 I1 s1 h1 v hv _ => ?_)
  refine hb R σ H1 f1 e1 I1 _ ((Want.bind h1).mono fun y e2 H2 f2 I2 s2 h2 u hu _ => ?_)
  have h5 := Want.bind h2
  obtain ⟨k, hk⟩ := want_some h5
  rw [hk] at h5
  obtain ⟨z, z1, z2⟩ := Option.bind_eq_some_iff.mp hk
  cases z with
  | bl b =>
    cases z2
    refine hr (FM R f2 μ) H2 x y v u _ _ (fun a q => I2.fm q) (Rep.fwd s2.fwd _ _ hv.rep) hu.rep z1 fun w hw => ?_
    cases (show w = _ from hw)
    have h6 := h5 H2 f2 I2 Stp.refl
    refine ⟨k, rfl, ?_⟩
    cases k with
    | false => exact h6 H2 f2 I2 Stp.refl _ rfl sep0
    | true =>
      simp only [if_true] at h6
      refine hc R σ H2 f2 e2 I2 _ ((Want.bind h6).mono fun y' e3 H3 f3 I3 s3 h3 u' hu' _ => ?_)
      obtain ⟨z, hz⟩ := want_some h3
      exact hr' (FM R f3 μ) H3 y y' u u' z Q (fun a q => I3.fm q) (Rep.fwd s3.fwd _ _ hu.rep) hu'.rep hz fun w H' ex hk => want_opt h3 hz I3 (fun a q => ((s1.trans s2).trans s3).dom q) ex hk
  | _ => cases z2
def Op2K (S : Sc) (r : R2) (f : D → D → Option D) : Prop := ∀ F H x y v u z Q, (∀ a, F a → H a ≠ none) → Rep S F H x v → Rep S F H y u → f x y = some z → (∀ w, Rep S F H z w → Q w H) → r v u H Q
theorem opk_I0 {g : Int → Int → V} {f : Int → Int → Option D} (h : ∀ i j z, f i j = some z → ∀ F H, Rep S F H z (g i j)) : Op2K S (rI0 g) (oI f) := fun F H x y v u z Q hF hx hy hz k => by
  cases x with
  | int i =>
    cases y with
    | int j =>
      cases (show v = _ from hx)
      cases (show u = _ from hy)
      exact ⟨i, j, rfl, rfl, k _ (h i j z hz F H)⟩
    | _ => cases hz
  | _ => cases hz
theorem ok_leI : Op2K S rLeI oLeI := opk_I0 fun i j z h F H => by cases h; rfl
def sAug (i : Nat) (a : EM) (f : Int → Int → Int) : SM := fun env => match env[i]? with
  | some (some (.int x)) => (a env).fl fun d e => match d with
    | .int y => .next (e.set i (some (.int (f x y))))
    | _ => .bad
  | _ => .bad
theorem rs_aug {i : Nat} {f : Int → Int → Int} (hO : i ∉ O) (ha : RefE S O P E none fa ta ma) : RefS S O P E fr (tAug i ta (ipI f)) (sAug i ma f) := by
  intro R σ H fp env I D h
  unfold sAug at h
  split at h
  · rename_i x0 e0
    obtain ⟨v, h1, h2⟩ := I.val i _ e0 hO
    cases (show v = _ from h2)
    refine ⟨_, h1, ?_⟩
    refine ha R σ H fp env I _ ((want_fl h).mono fun d e1 H1 f1 I1 s1 hp v hv _ => ?_)
    split at hp
    · cases (show v = _ from hv.rep)
      exact ⟨x0, _, rfl, rfl, hp _ H1 f1 (I1.set hO (show Rep S _ _ (.int _) (.int _) from rfl)) (Fwd.refl _ _)⟩
    · exact hp.elim
  · exact h.elim
def sParO (i : Nat) (a : EM) (j : Nat) (b : EM) : SM := fun env => (a env).fl fun d e => (b e).fl fun c e1 => if j < e1.length then .next ((e1.set i (some d)).set j (some c)) else .bad
theorem rs_parO {i j : Nat} (hi : i ∉ O) (hj : j ∈ O) (hP : j ∉ P) (ha : RefE S O P E none fa ta ma) (hb : RefE S O P E none true tb mb) : RefS S O P E fr (tPar i j (tCons ta (tCons tb tNil))) (sParO i ma j mb) := by
  intro R σ H fp env I D h
  refine ha R σ H fp env I _ ((want_fl h).mono fun d e1 H1 f1 I1 s1 hp v hv _ => ?_)
  refine hb R σ H1 f1 e1 I1 _ ((want_fl0 hp).mono fun c e2 H2 f2 I2 s2 hq u hu sp => ?_)
  by_cases hl : j < e2.length
  · rw [if_pos hl] at hq
    obtain ⟨a, vs, ds, rfl, new, rfl, ha1, nf, r⟩ := hu
    have Ib := sp rfl a rfl
    have w : ∀ x, (Fs R f2 x ∨ x = a) → Fs (R.plus a) f2 x ∨ H2 x = none := fun x z => .inl (fs_plus.mpr z)
    have n0 : R.H0 a = none := by
      cases q : R.H0 a with
      | none => rfl
      | some o => exact absurd new (I1.dom a (by rw [q]; exact fun z => nomatch z))
    have rv := Rep.fwd s2.fwd _ _ hv.rep
    have rv2 : Rep S (Fs (R.plus a) f2) H2 d v := Rep.fwd ⟨s2.strong.1.mono fun x z => .inr z, fun x z => by
      rcases fs_plus.mp z with z | z
      · exact s2.fwd.2.1 x z
      · exact .inr (by rw [z]; exact new), s2.fwd.2.2⟩ _ _ hv.rep
    have I3 := I2.set hi rv
    have Ib3 := Ib.set hi rv2
    have I4 : Rel S O P R ((σ.set i (some v)).set j (some (.ref a))) H2 (fpSet f2 j [a]) ((e2.set i (some d)).set j (some (.lst ds))) := I3.setOwn hj hP (by rw [List.length_set]; exact hl) n0 nf ha1 r fun k d h1 hk =>
      ⟨fun h2 => let ⟨v, q1, q2⟩ := Ib3.val k d h1 h2; ⟨v, q1, q2.less w⟩,
       fun h2 => let ⟨v, q1, q2⟩ := Ib3.own k d h1 h2; ⟨v, q1, q2.fwd (Ext.refl _ _) w⟩⟩
    refine ⟨v, _, rfl, hq _ H2 _ I4 ⟨s2.strong.1, fun x z => ?_, s2.strong.2.2⟩⟩
    obtain ⟨k, z⟩ := z
    unfold fpSet at z
    split at z
    · cases List.mem_singleton.mp z
      exact .inr new
    · exact s2.strong.2.1 x ⟨k, z⟩
  · rw [if_neg hl] at hq
    exact hq.elim
def sSetIx (i : Nat) (j : Int) (a : EM) : SM := fun env => (a env).fl fun d e => match e[i]? with
  | some (some (.lst ds)) => match ixN ds.length j with
    | some k => .next (e.set i (some (.lst (ds.set k d))))
    | none => .bad
  | _ => .bad
theorem rs_setIx {i : Nat} {j : Int} (hO : i ∈ O) (ha : RefE S O P E none fa ta ma) : RefS S O P E fr (tAsg ta (gSub (tVar i) (tC (.int j)) rSetL)) (sSetIx i j ma) := by
  intro R σ H fp env I D h
  refine ha R σ H fp env I _ ((want_fl h).mono fun d e1 H1 f1 I1 s1 hp v hv _ => ?_)
  split at hp
  · rename_i ds e2
    obtain ⟨b, vs, x1, x2, x3, x4⟩ := own_lst I1 hO e2
    split at hp
    · rename_i k hk
      obtain ⟨I2, w2⟩ := I1.upd hO e2 x1 (x4.set k hv.rep)
      exact ⟨_, x1, b, vs, j, k, rfl, rfl, x3, by rw [x4.length]; exact hk, hp _ _ _ I2 w2⟩
    · exact hp.elim
  · exact hp.elim
def ePopAt (i : Nat) (j : Int) : EM := fun env => match env[i]? with
  | some (some (.lst ds)) => match seqIndex? j ds.length with
    | some k => match ds[k]? with
      | some d => if -(2 ^ 63) ≤ j ∧ j < 2 ^ 63 then .ok d (env.set i (some (.lst (ds.eraseIdx k)))) else .bad
      | none => .bad
    | none => .bad
  | _ => .bad
theorem ref_popAt {i : Nat} {j : Int} (hO : i ∈ O) : RefE S O P E none false (tBM S.K "list" rPopAt (tVar i) (tCons (tC (.int j)) tNil)) (ePopAt i j) := by
  intro R σ H fp env I Q h
  unfold ePopAt at h
  split at h
  · rename_i ds e2
    obtain ⟨b, vs, x1, x2, x3, x4⟩ := own_lst I hO e2
    split at h
    · rename_i k hk
      split at h
      · rename_i d hd
        split at h
        · rename_i hz
          obtain ⟨v, q1, q2⟩ := x4.get hd
          obtain ⟨I2, w2⟩ := I.upd hO e2 x1 (x4.erase k)
          refine ⟨_, x1, .inl ⟨rfl, vs, .inl (.inl x3)⟩, ?_⟩
          refine ⟨b, vs, j, k, v, rfl, rfl, x3, hz.1, hz.2, by rw [x4.length]; exact hk, q1, h _ fp I2 w2 v (Rep.fwd (adv_fs w2) _ _ q2) sep0⟩
        · exact h.elim
      · exact h.elim
    · exact h.elim
  · exact h.elim
def sSetFld (i c k : Nat) (a : EM) : SM := fun env => (a env).fl fun d e => match e[i]? with
  | some (some (.ins c' ds)) => if c' = c then (if k = ds.length then .next (e.set i (some (.ins c (ds ++ [d])))) else if k < ds.length then .next (e.set i (some (.ins c (ds.set k d)))) else .bad) else .bad
  | _ => .bad
theorem putF_new : ∀ {fs : List (Str × V)} {f : Str} {v : V}, f ∉ fs.map (·.1) → putF f v fs = fs ++ [(f, v)]
  | [], _, _, _ => rfl
  | (g, x) :: r, f, v, h => by
    have h1 : g ≠ f := fun z => h (by rw [← z]; exact List.mem_cons_self)
    show (if g = f then _ else _) = _
    rw [if_neg h1, putF_new fun z => h (List.mem_cons_of_mem _ z)]
    rfl
theorem putF_at : ∀ {fs : List (Str × V)} {f : Str} {v : V} {k : Nat}, (fs.map (·.1)).Nodup → (fs.map (·.1))[k]? = some f → (putF f v fs).map (·.1) = fs.map (·.1) ∧ (putF f v fs).map (·.2) = (fs.map (·.2)).set k v
  | [], _, _, _, _, h => by simp at h
  | (g, x) :: r, f, v, 0, nd, h => by
    cases (show g = f from by simpa using h)
    simp [putF]
  | (g, x) :: r, f, v, k + 1, nd, h => by
    have nd : ((g :: r.map (·.1)) : List Str).Nodup := nd
    have h : (r.map (·.1))[k]? = some f := h
    have ne : g ≠ f := fun z => (List.nodup_cons.mp nd).1 (by rw [z]; exact List.mem_of_getElem? h)
    obtain ⟨e1, e2⟩ := putF_at (v := v) (List.nodup_cons.mp nd).2 h
    unfold putF
    rw [if_neg ne]
    exact ⟨by rw [List.map_cons, e1]; rfl, by rw [List.map_cons, e2]; rfl⟩
theorem rs_setFld {i c k : Nat} {f : Str} (hC : Cls S.K (S.ca c)) (hN : NoAttr S.K (S.ca c) f) (hf : (S.fn c)[k]? = some f) (nd : (S.fn c).Nodup) (h1000 : (S.fn c).length < 1000) (hO : i ∈ O) (ha : RefE S O P E none fa ta ma) (how : (S.ow c)[k]? ≠ some true := by exact (fun z => nomatch z)) : RefS S O P E fr (sFld S.K (tVar i) ta f) (sSetFld i c k ma) := by
  intro R σ H fp env I D h
  refine ha R σ H fp env I _ ((want_fl h).mono fun d e1 H1 f1 I1 s1 hp v hv _ => ?_)
  have hk : k < (S.fn c).length := (List.getElem?_eq_some_iff.mp hf).1
  split at hp
  · rename_i c' ds e2
    split at hp
    · rename_i ec
      subst ec
      obtain ⟨a, x1, fl, x2, dx, fs, x3, x4, x5⟩ := I1.own i _ e2 hO
      have ham : a ∈ f1 i := by rw [x2]; exact List.mem_cons_self
      have nfl : ∀ b ∈ fl, b ≠ a := fun b m z => by
        have := I1.nd i
        rw [x2] at this
        exact (List.nodup_cons.mp this).1 (z ▸ m)
      have hlen : fs.length = ds.length := by
        have := x5.len
        rwa [List.length_map] at this
      have hle : fs.length ≤ (S.fn c').length := by
        have := congrArg List.length x4
        rw [List.length_map, List.length_take] at this
        omega
      have ndf : (fs.map (·.1)).Nodup := by
        rw [x4]
        exact nd.sublist (List.take_sublist _ _)
      split at hp
      · rename_i e3
        have hnf : f ∉ fs.map (·.1) := fun z => by
          rw [x4] at z
          obtain ⟨j, hj⟩ := List.mem_iff_getElem?.mp z
          have hj2 := (List.getElem?_eq_some_iff.mp hj).1
          rw [List.length_take] at hj2
          rw [List.getElem?_take_of_lt (by omega)] at hj
          have a1 := (List.getElem?_eq_some_iff.mp hj).2
          have a2 := (List.getElem?_eq_some_iff.mp hf).2
          exact List.pairwise_iff_getElem.mp nd j k (by omega) hk (by omega) (a1.trans a2.symm)
        have hu := I1.updA (o' := .ins (S.ca c') dx (putF f v fs)) (d' := .ins c' (ds ++ [d])) hO e2 x1 ham x3 trivial (fun w => ⟨fl, x2, dx, _, upd_same, by
          rw [putF_new hnf, List.map_append, x4, List.length_append]
          show _ ++ [f] = _
          rw [← e3]
          show _ = List.take (k + 1) (S.fn c')
          rw [List.take_succ, hf]
          rfl, by
          have e9 : (putF f v fs).map (·.2) = fs.map (·.2) ++ [v] := by rw [putF_new hnf, List.map_append]; rfl
          rw [e9]
          exact (x5.snoc (by rw [← e3]; exact how) hv.rep).keep w fun b m u e _ => by rw [upd_ne (nfl b m)]; exact e⟩) (NX.y trivial)
        exact ⟨_, x1, a, _, dx, fs, rfl, x3, hC, hN, by omega, hp _ _ _ hu.1 hu.2⟩
      · split at hp
        · rename_i e3 e4
          have hat : (fs.map (·.1))[k]? = some f := by
            rw [x4, List.getElem?_take_of_lt e4]
            exact hf
          obtain ⟨p1, p2⟩ := putF_at (v := v) ndf hat
          have hu := I1.updA (o' := .ins (S.ca c') dx (putF f v fs)) (d' := .ins c' (ds.set k d)) hO e2 x1 ham x3 trivial (fun w => ⟨fl, x2, dx, _, upd_same, by
            rw [p1, x4, List.length_set], by
            rw [p2]
            exact (x5.set how hv.rep).keep w fun b m u e _ => by rw [upd_ne (nfl b m)]; exact e⟩) (NX.y trivial)
          exact ⟨_, x1, a, _, dx, fs, rfl, x3, hC, hN, by omega, hp _ _ _ hu.1 hu.2⟩
        · exact hp.elim
    · exact hp.elim
  · exact hp.elim
end
end Mir
namespace Mir
open PySem PySem.Spec PyProof.Rows L2
variable [Tbl]
theorem passE {X : Cx} {E : XK} : Passes CX0 X E := fun _ _ _ _ _ _ _ h => h.elim
section
variable {P : Program} {w : World} {K : PySem.W.Frag} {mg : Str → Option Value} {base : Heap} {S : Sc}
theorem fnD_ok {x qual : Str} {params : Arguments} {body : List Stmt} {scope : Scope} {dvs : List V} {kws : List (Str × V)} {f : Addr} {fd : FuncData} {N ps : List Str} {k : Nat} {fr : Bool} {O : List Nat} {m : SM} (F : FunD K x qual params body scope dvs kws f fd) (sc : FnScope N ps scope) (hN : ps.length ≤ N.length) (hO : ∀ i ∈ O, ps.length ≤ i)
    (hb : ∀ (cdv : Value) (A : Around) (outer : List PySem.Env) (s : Shared) (H : Hp) (E : XK), Room k (A.deeper (envOfC qual scope s.heap.objs.size f cdv)) →
      ∃ t, PSs (cxOf CX0 P w K mg base N qual scope f cdv A outer s H E).nox body t ∧ RefS S O [] E fr t m) :
    FnOk P w K mg base CX0 (k + 1) f fd ps (spM S fr ps.length (runF fr ps.length N.length m)) := by
  obtain ⟨oc, od, dV, kV, doc, pm, an, cdv, ct, osl, rfl, lk, hcd, _, _⟩ := F.ex
  refine fn_of lk hcd sc (fun vs H Q E h => h.choose_spec.choose_spec.1) fun A outer s H vs Q E hr hsp => ?_
  obtain ⟨t, h1, h2⟩ := hb cdv A outer s H E hr
  exact ⟨t, h1.nox, body_ok h2 hN hO hsp⟩
theorem fnD_ok0 {x qual : Str} {params : Arguments} {body : List Stmt} {scope : Scope} {dvs : List V} {kws : List (Str × V)} {f : Addr} {fd : FuncData} {N ps : List Str} {k : Nat} {O : List Nat} {m : SM} (F : FunD K x qual params body scope dvs kws f fd) (sc : FnScope N ps scope) (hN : ps.length ≤ N.length) (hO : ∀ i ∈ O, ps.length ≤ i)
    (hb : ∀ (cdv : Value) (A : Around) (outer : List PySem.Env) (s : Shared) (H : Hp) (E : XK), Room k (A.deeper (envOfC qual scope s.heap.objs.size f cdv)) →
      ∃ t, PSs (cxOf CX0 P w K mg base N qual scope f cdv A outer s H E).nox body t ∧ RefS S (0 :: O) [0] E false t m) :
    FnOk P w K mg base CX0 (k + 1) f fd ps (spM0 S ps.length (runF0 ps.length N.length m)) := by
  obtain ⟨oc, od, dV, kV, doc, pm, an, cdv, ct, osl, rfl, lk, hcd, _, _⟩ := F.ex
  refine fn_of lk hcd sc (fun vs H Q E h => ?_) fun A outer s H vs Q E hr hsp => ?_
  · obtain ⟨G, d0, ds, a, us, l, _, h, _⟩ := h
    exact h
  · obtain ⟨t, h1, h2⟩ := hb cdv A outer s H E hr
    exact ⟨t, h1.nox, body_ok0 h2 hN hO hsp⟩
end
def eMethO (c : Nat) (f : DM0) (j : Nat) (a : AM) : EM := fun env => match env[j]? with
  | some (some (.ins c' _)) => if c' = c then (a env).bind fun ds e => match e[j]? with
    | some (some d0) => match f d0 ds with
      | .ok d o => .ok d (e.set j (some o))
      | .exc x o => .exc x (e.set j (some o))
      | .bad => .bad
    | _ => .bad
  else .bad
  | _ => .bad
section
variable {S : Sc} {O P : List Nat} {E : XK} {μ : Mo} {fr fa fb : Bool} {ta tb : TE} {ma mb : EM} {t u : TS} {m n : SM} {tt : TT} {mt : TM} {tA : TA} {mA : AM}
def eUpL (a : EM) : EM := fun env => (a env).bind fun x e => match x with
  | .lst ds => if D.pureL ds then .ok (.lst ds) e else .bad
  | _ => .bad
def sAugFld (i c k : Nat) (a : EM) (f : Int → Int → Int) : SM := fun env => match env[i]? with
  | some (some (.ins c' ds)) => if c' = c then (match ds[k]? with
    | some (.int x) => (a env).fl fun d e => match d, e[i]? with
      | .int y, some (some (.ins c2 es)) => if c2 = c ∧ k < es.length then .next (e.set i (some (.ins c (es.set k (.int (f x y)))))) else .bad
      | _, _ => .bad
    | _ => .bad) else .bad
  | _ => .bad
end
mutual
def D.vs : D → Option V
  | .non => some .non
  | .bl b => some (.bl b)
  | .int i => some (.int i)
  | .str x => some (.str x)
  | _ => none
end
theorem rep_ktup {S : Sc} {a : Addr} {o : Obj} {its : Array Value} {n : Nat} {ds : List D} {vs : List V} (hk : S.K.lookup a = some o) (hc : o.cls = .type "tuple") (hd : o.data = .seq its n) (hz : its.size ≤ sizeLine) (hv : Vals vs its.toList) (hr : ∀ F H, RepL S F H ds vs) : ∀ F H, Rep S F H (.tup ds) (.ref a) :=
  fun F H => ⟨a, vs, rfl, .inr ⟨o, its, n, hk, hc, hd, hz, hv⟩, hr F H⟩
end Mir
namespace Mir
open PySem PySem.Spec PyProof.Rows L2
variable [Tbl]
section
variable {S : Sc} {O P : List Nat} {E : XK} {μ : Mo} {fr fa fb : Bool} {ta tb : TE} {ma mb : EM} {t u : TS} {m n : SM} {tt : TT} {mt : TM} {tA : TA} {mA : AM}
def sMakeO (i c : Nat) (f : DM0) (dds : List D) (a : AM) : SM := fun env => (a env).fl fun ds e => match f (.ins c []) (ds ++ dds) with
  | .ok d o => match d, o with
    | .non, .ins c' es => if c' = c ∧ i < e.length then .next (e.set i (some (.ins c es))) else .bad
    | _, _ => .bad
  | _ => .bad
end
end Mir
namespace Mir
open PySem PySem.Spec PyProof.Rows L2
variable [Tbl]
theorem bt_len : bootBuiltins "len" = some (.builtin "len") := by decide +kernel
theorem bt_abs : bootBuiltins "abs" = some (.builtin "abs") := by decide +kernel
theorem bt_all : bootBuiltins "all" = some (.builtin "all") := by decide +kernel
theorem bt_any : bootBuiltins "any" = some (.builtin "any") := by decide +kernel
theorem bt_sorted : bootBuiltins "sorted" = some (.builtin "sorted") := by decide +kernel
theorem bt_isinstance : bootBuiltins "isinstance" = some (.builtin "isinstance") := by decide +kernel
theorem bt_list : bootBuiltins "list" = some (.type "list") := by decide +kernel
theorem bt_tuple : bootBuiltins "tuple" = some (.type "tuple") := by decide +kernel
theorem bt_str : bootBuiltins "str" = some (.type "str") := by decide +kernel
theorem bt_int : bootBuiltins "int" = some (.type "int") := by decide +kernel
theorem bt_bool : bootBuiltins "bool" = some (.type "bool") := by decide +kernel
theorem hu0 {A : Around} {k : Nat} (h : Room k A) : A.units < cLine := by have := h.un; omega
theorem hu64 {A : Around} {k : Nat} (h : Room k A) : A.units + 64 < cLine := by have := h.un; omega
theorem hu65 {A : Around} {k : Nat} (h : Room k A) : A.units + 65 < cLine := by have := h.un; omega
theorem funD_mk {K : PySem.W.Frag} {x qual : Str} {st : Stmt} {f : Addr} {oc : Value} {od an : Option Addr} {osl : Array (Option Value)} {kV doc pm cdv ct : Value} (l : K.lookup f = some ⟨oc, od, .func (PySem.W.fnOf x qual (defArgs st) (defBody st) (defScope st) .none kV doc pm an cdv ct), osl⟩)
    (c : PySem.W.codeIn K cdv qual = true) (k : PySem.W.keepIn K (.ref f) = true) : FunD K x qual (defArgs st) (defBody st) (defScope st) [] [] f (PySem.W.fnOf x qual (defArgs st) (defBody st) (defScope st) .none kV doc pm an cdv ct) := ⟨⟨oc, od, .none, kV, doc, pm, an, cdv, ct, osl, rfl, l, c, .inl ⟨rfl, rfl⟩, .inl rfl⟩, k⟩
theorem funD_mkD {K : PySem.W.Frag} {x qual : Str} {st : Stmt} {f T : Addr} {oc : Value} {od an : Option Addr} {osl : Array (Option Value)} {kV doc pm cdv ct : Value} {dvs : List V} {oT : Obj} {its : List Value} {n : Nat} (l : K.lookup f = some ⟨oc, od, .func (PySem.W.fnOf x qual (defArgs st) (defBody st) (defScope st) (.ref T) kV doc pm an cdv ct), osl⟩)
    (c : PySem.W.codeIn K cdv qual = true) (k : PySem.W.keepIn K (.ref f) = true) (hd : dvs ≠ []) (lT : K.lookup T = some oT) (hT : oT.data = .seq its.toArray n) (hv : Vals dvs its) : FunD K x qual (defArgs st) (defBody st) (defScope st) dvs [] f (PySem.W.fnOf x qual (defArgs st) (defBody st) (defScope st) (.ref T) kV doc pm an cdv ct) := ⟨⟨oc, od, .ref T, kV, doc, pm, an, cdv, ct, osl, rfl, l, c, .inr ⟨hd, T, oT, its, n, rfl, lT, hT, hv⟩, .inl rfl⟩, k⟩
def rndSeed (ns : List Int) (salt : Int) : Int := ns.foldl (fun s c => (s * 31 + (if c < 0 then -c else c)).fmod 2147483647) salt
def rndL (ns : List Int) (salt : Int) : List Int := rndSeed ns salt :: 0 :: ns.filter fun c => decide ((10 : Int) ^ 18 ≤ c)
def spRnd (K : PySem.W.Frag) : Sp := fun vs H Q _ => ∃ (a : Addr) (ns : List Int) (salt : Int), vs = [.ref a, .int salt] ∧ SqL K H a (ns.map V.int) ∧ ns.length ≤ 1000 ∧
  ∀ (H' : Hp) (p : Addr), Ext Nil H H' → H p = none → H' p = some (.lst ((rndL ns salt).map V.int)) → Q (.ref p) H'
theorem rndSeed_take {ns : List Int} {salt : Int} {i : Nat} {c : Int} (h : ns[i]? = some c) : rndSeed (ns.take (i + 1)) salt = (rndSeed (ns.take i) salt * 31 + (if c < 0 then -c else c)).fmod 2147483647 := by
  unfold rndSeed
  rw [List.take_add_one, h, List.foldl_append]
  rfl
theorem ints_get {ns : List Int} {i : Nat} {x : V} (h : (ns.map V.int)[i]? = some x) : ∃ c, ns[i]? = some c ∧ x = .int c := by
  rw [List.getElem?_map] at h
  cases q : ns[i]? with
  | none => rw [q] at h; cases h
  | some c => rw [q] at h; cases h; exact ⟨c, rfl, rfl⟩
theorem sql_ext {K : PySem.W.Frag} {H H' : Hp} {a : Addr} {xs : List V} (h : SqL K H a xs) (e : Ext Nil H H') : SqL K H' a xs := by
  rcases h with h | h
  · exact .inl (rd_ext e (fun z => z) h)
  · exact .inr h
theorem iteT' {b : Bool} {p q : Prop} (h : b = true) (k : p) : if b = true then p else q := by rw [if_pos h]; exact k
theorem iteF' {b : Bool} {p q : Prop} (h : b = false) (k : q) : if b = true then p else q := by rw [if_neg (by rw [h]; decide)]; exact k
theorem rnd_run {K : PySem.W.Frag} {vs : List V} {H : Hp} {Q : VK} {E : XK} (h : spRnd K vs H Q E) :
    (tSeq (tAsg (tVar 1) (gName 2)) (tSeq (tFor (iList K (tVar 0)) (gName 3) (tAsg (tOp rModX (tOp (rI0 fun i j => .int (i + j)) (tOp rMulX (tVar 2) (tC (.int 31))) (tCB rAbsX (tCons (tVar 3) tNil))) (tC (.int 2147483647))) (gName 2)))
      (tRet (tOp rCat (tLst (tCons (tVar 2) (tCons (tC (.int 0)) tNil))) (tLc (iList K (tVar 0)) (gName 3) (tTest (tOp rGeI (tVar 3) (tOp rPowX (tC (.int 10)) (tC (.int 18))))) (tVar 3) [3])))) : TS)
      { nx := fun _ H' => Q .non H', rt := Q } (L2.start ["_law_script", "_law_salt", "_law_seed", "_law_cell"] vs) H := by
  obtain ⟨a, ns, salt, rfl, hS, hlen, k⟩ := h
  refine ⟨.int salt, rfl, ?_⟩
  refine ⟨.ref a, rfl, a, rfl, ⟨_, hS⟩, for_list (K := K) (a := a) (xs := ns.map V.int) (fun i σ H2 => ∃ c, σ = [some (.ref a), some (.int salt), some (.int (rndSeed (ns.take i) salt)), c] ∧ H2 = H)
    ⟨none, rfl, rfl⟩ (fun i σ H2 _ ⟨_, _, e⟩ => by rw [e]; exact hS) ?_ ?_⟩
  · rintro i x σ H2 hi ⟨c, rfl, rfl⟩
    obtain ⟨z, hz, rfl⟩ := ints_get hi
    refine ⟨_, rfl, _, _, rfl, rfl, .inr (by decide), .int z, rfl, z, rfl, _, _, rfl, rfl, _, _, rfl, rfl, (by show (2147483647 : Int) ≠ 0; decide), some (.int z), ?_, rfl⟩
    rw [rndSeed_take hz]
    rfl
  · rintro σ H2 ⟨c, rfl, rfl⟩
    rw [List.length_map, List.take_length]
    refine ⟨_, rfl, (by show 2 ≤ sizeLine; decide), fun p hp => ?_⟩
    have e1 : Ext Nil H2 (upd H2 p (.lst [.int (rndSeed ns salt), .int 0])) := Ext.new hp
    have hS1 := sql_ext hS e1
    refine ⟨.ref a, rfl, a, rfl, ⟨_, hS1⟩, fun D hD => ?_⟩
    have npD : p ≠ D := fun z => by rw [← z, upd_same] at hD; cases hD
    have nD2 : H2 D = none := by
      cases q : H2 D with
      | none => rfl
      | some o => exact absurd hD (e1.dom (by rw [q]; exact fun z => nomatch z))
    refine lc_list (fun i H3 => Ext Nil H2 H3 ∧ H3 p = some (.lst [.int (rndSeed ns salt), .int 0]) ∧ H3 D = some (.lst (((ns.take i).filter fun c => decide ((10 : Int) ^ 18 ≤ c)).map V.int)))
      ⟨e1.trans (Ext.new hD), by rw [upd_ne npD, upd_same], upd_same⟩ (fun i H3 _ ⟨e, _⟩ => sql_ext hS e) ?_ ?_
    · rintro i x H3 hi ⟨e3, p3, d3⟩
      obtain ⟨z, hz, rfl⟩ := ints_get hi
      refine ⟨rfl, .int z, rfl, _, _, rfl, rfl, ⟨by decide, by decide, by decide⟩, z, _, rfl, rfl, _, rfl, ?_⟩
      have ht : ns.take (i + 1) = ns.take i ++ [z] := by rw [List.take_add_one, hz]; rfl
      have hp10 : ((10 : Int) ^ (18 : Int).toNat ≤ z) = ((10 : Int) ^ 18 ≤ z) := rfl
      by_cases c : (10 : Int) ^ 18 ≤ z
      · refine iteT' (decide_eq_true (show (10 : Int) ^ (18 : Int).toNat ≤ z from c)) ?_
        refine ⟨.int z, rfl, _, d3, ?_, ?_⟩
        · rw [List.length_map]
          refine Nat.lt_of_le_of_lt (List.length_filter_le _ _) (Nat.lt_of_le_of_lt (List.length_take_le' _ _) (small1000 hlen))
        · refine ⟨ext_again e3 d3 (.inr nD2) trivial trivial, ?_, ?_⟩
          · rw [upd_ne npD]
            exact p3
          · have e5 : [z].filter (fun c => decide ((10 : Int) ^ 18 ≤ c)) = [z] := List.filter_cons_of_pos (p := fun c => decide ((10 : Int) ^ 18 ≤ c)) (decide_eq_true c)
            rw [upd_same, ht, List.filter_append, List.map_append, e5]
            rfl
      · refine iteF' (decide_eq_false (show ¬ (10 : Int) ^ (18 : Int).toNat ≤ z from c)) ?_
        refine ⟨e3, p3, ?_⟩
        have e5 : [z].filter (fun c => decide ((10 : Int) ^ 18 ≤ c)) = [] := List.filter_cons_of_neg (p := fun c => decide ((10 : Int) ^ 18 ≤ c)) (by rw [decide_eq_false c]; decide)
        rw [d3, ht, List.filter_append, e5, List.append_nil]
    · rintro H3 ⟨e3, p3, d3⟩
      rw [List.length_map, List.take_length] at d3
      refine ⟨p, D, _, _, rfl, rfl, p3, d3, ?_, fun r hr => ?_⟩
      · rw [List.length_map]
        have := List.length_filter_le (fun c => decide ((10 : Int) ^ 18 ≤ c)) ns
        show 2 + _ ≤ sizeLine
        exact Nat.le_trans (by omega : _ ≤ 1002) (by decide)
      · refine k _ r (e3.trans (Ext.new hr)) ?_ upd_same
        cases q : H2 r with
        | none => rfl
        | some o => exact absurd hr (e3.dom (by rw [q]; exact fun z => nomatch z))
end Mir
namespace Mir
open PySem PySem.Spec PyProof.Rows L2
variable [Tbl]
def spLaw (K : PySem.W.Frag) : Sp := fun vs H Q _ => ∃ (a : Addr) (ns : List Int), vs = [.ref a] ∧ SqL K H a (ns.map V.int) ∧ ns.length ≤ 63 ∧ (∀ H', Q (.bl true) H') ∧ LamX.Tabs Tbl.T H
def env1 (n : Nat) (ns : List Int) : Env := none :: some (.lst (ns.map .int)) :: List.replicate n none
theorem env1_get {n : Nat} {ns : List Int} {i : Nat} {d : D} (h : (env1 n ns)[i]? = some (some d)) : i = 1 ∧ d = .lst (ns.map .int) := by
  match i, h with
  | 0, h => cases h
  | 1, h => cases h; exact ⟨rfl, rfl⟩
  | i + 2, h =>
    have h : (List.replicate n (none : Option D))[i]? = some (some d) := h
    rw [List.getElem?_replicate] at h
    split at h <;> cases h
theorem law_run {S : Sc} {O : List Nat} {E : XK} {t : TS} {m : SM} {n : Nat} {a p : Addr} {H H' : Hp} {ns : List Int} {Q : VK} (hr : RefS S O [] E false t m) (hO : 1 ∈ O) (ext : Ext Nil H H') (hp : H p = none) (hl : H' p = some (.lst (ns.map V.int)))
    (hm : ∃ e, m (env1 n ns) = .ret (.bl true) e) (tb : LamX.Tabs Tbl.T H) (hb : Ext Nil S.Hb H) (k : ∀ H, Q (.bl true) H) {D : Ends} (hD : D.rt = Q) : t D (some (.ref a) :: some (.ref p) :: List.replicate n none) H' := by
  have fpm : ∀ {i b}, b ∈ (fun i => if i = 1 then [p] else [] : Fp) i → i = 1 ∧ b = p := fun {i b} h => by
    dsimp only at h
    split at h
    · rename_i e
      exact ⟨e, List.mem_singleton.mp h⟩
    · cases h
  refine hr ⟨Nil, Nil, H, fun _ => none⟩ _ H' (fun i => if i = 1 then [p] else []) (env1 n ns) ?_ D ?_
  · refine ⟨by simp [env1], fun i d h1 h2 => ?_, fun i d h1 h2 => ?_, fun i h => ?_, fun i j b h1 h2 => (fpm h1).1.trans (fpm h2).1.symm, fun i => ?_, fun i b h => ?_, ext, fun b h => h.elim, fun i b h => ?_, fun b h => ext.dom h, fun b h => h.elim, tb_ext ext tb, ⟨hb, fun a h => h.elim⟩, .nil⟩
    · obtain ⟨rfl, _⟩ := env1_get h1
      exact absurd hO h2
    · obtain ⟨rfl, rfl⟩ := env1_get h1
      exact ⟨p, rfl, rfl, _, hl, RepL.ofInts⟩
    · split
      · rename_i e
        subst e
        rcases h with h | h
        · exact absurd hO h
        · exact absurd rfl (h _)
      · rfl
    · split
      · simp
      · exact List.nodup_nil
    · obtain ⟨rfl, rfl⟩ := fpm h
      exact ⟨fun z => (by cases z), fun _ => ⟨hp, fun z => z⟩⟩
    · obtain ⟨rfl, rfl⟩ := fpm h
      rw [hl]
      exact fun z => nomatch z
  · obtain ⟨e, he⟩ := hm
    rw [he]
    intro σ' v H2 fp' I w r
    cases (show v = _ from r)
    rw [hD]
    exact k H2
end Mir
namespace Mir
open PySem PySem.Spec PyProof.Rows L2
variable [Tbl]
section
variable {env : Env} {a b c : EM} {m n : SM} {t u : TM} {ar : AM}
@[simp] theorem ap_eVar (i : Nat) : eVar i env = match env[i]? with | some (some d) => .ok d env | _ => .bad := rfl
@[simp] theorem ap_eC (d : D) : eC d env = .ok d env := rfl
@[simp] theorem ap_e1 (f : D → Option D) : e1 f a env = (a env).bind fun x e => .opt (f x) e := rfl
@[simp] theorem ap_e2 (f : D → D → Option D) : e2 f a b env = (a env).bind fun x e => (b e).bind fun y e' => .opt (f x y) e' := rfl
@[simp] theorem ap_eA (f : List D → Option D) : eA f ar env = (ar env).bind fun xs e => .opt (f xs) e := rfl
@[simp] theorem ap_mTest : mTest a env = (a env).bind fun x e => .opt x.boo e := rfl
@[simp] theorem ap_mAnd : mAnd t u env = (t env).bind fun c e => if c then u e else .ok false e := rfl
@[simp] theorem ap_mOr : mOr t u env = (t env).bind fun c e => if c then .ok true e else u e := rfl
@[simp] theorem ap_mNot : mNot t env = (t env).bind fun c e => .ok (!c) e := rfl
@[simp] theorem ap_mYes : mYes env = .ok true env := rfl
@[simp] theorem ap_eAndV : eAndV a b env = (a env).bind fun x e => (Out.opt x.boo e).bind fun c e' => if c then b e' else .ok (.bl false) e' := rfl
@[simp] theorem ap_eOrV : eOrV a b env = (a env).bind fun x e => (Out.opt x.boo e).bind fun c e' => if c then .ok (.bl true) e' else b e' := rfl
@[simp] theorem ap_eNotV : eNotV a env = (a env).bind fun x e => (Out.opt x.boo e).bind fun c e' => .ok (.bl (!c)) e' := rfl
@[simp] theorem ap_eIf : eIf t a b env = (t env).bind fun c e => if c then a e else b e := rfl
@[simp] theorem ap_aNil : aNil env = .ok [] env := rfl
@[simp] theorem ap_aCons : aCons a ar env = (a env).bind fun x e => (ar e).bind fun xs e' => .ok (x :: xs) e' := rfl
@[simp] theorem ap_aStar : aStar a ar env = (a env).bind fun x e => (Out.opt x.seq e).bind fun ys e1 => (ar e1).bind fun xs e' => .ok (ys ++ xs) e' := rfl
@[simp] theorem ap_eTup : eTup ar env = (ar env).bind fun xs e => .opt (if xs.length ≤ 100000 then some (.tup xs) else none) e := rfl
@[simp] theorem ap_eLst : eLst ar env = (ar env).bind fun xs e => .opt (if xs.length ≤ 100000 then some (.lst xs) else none) e := rfl
@[simp] theorem ap_eUp : eUp a env = (a env).bind fun x e => if x.pure then .ok x e else .bad := rfl
@[simp] theorem ap_eUpL : eUpL a env = (a env).bind fun x e => match x with | .lst ds => if D.pureL ds then .ok (.lst ds) e else .bad | _ => .bad := rfl
@[simp] theorem ap_eSl (f : D → Option Int → Option Int → Option D) (lo hi : PM) : eSl f a lo hi env = (a env).bind fun x e => (lo e).bind fun l e1 => (hi e1).bind fun u e2 => .opt (f x l u) e2 := rfl
@[simp] theorem ap_pNone : pNone env = .ok none env := rfl
@[simp] theorem ap_pSome : pSome a env = (a env).bind fun x e => (Out.opt x.toI e).bind fun i e => .ok (some i) e := rfl
@[simp] theorem ap_eM1 (f : D → D → Option D) : eM1 f a b env = (a env).bind fun x e => if x.isS then (b e).bind fun y e' => .opt (f x y) e' else .bad := rfl
@[simp] theorem ap_eChain (f g : D → D → Option D) : eChain f g a b c env = (a env).bind fun x e => (b e).bind fun y e1 => (Out.opt ((f x y).bind fun z => match z with | .bl k => some k | _ => none) e1).bind fun k e1 => if k then (c e1).bind fun z e2 => .opt (g y z) e2 else .ok (.bl false) e1 := rfl
@[simp] theorem ap_eCall (f : DM) (dds : List D) : eCall f dds ar env = (ar env).bind fun ds e => (f (ds ++ dds)).out e := rfl
@[simp] theorem ap_eMeth (k : Nat) (f : DM) (dds : List D) : eMeth k f dds a ar env = (a env).bind fun x e => match x with
  | .ins c' _ => if c' = k then (ar e).bind fun ds e' => (f (x :: (ds ++ dds))).out e' else .bad
  | _ => .bad := rfl
@[simp] theorem ap_eFld (k i : Nat) : eFld k i a env = (a env).bind fun x e => .opt (D.fld k i x) e := rfl
@[simp] theorem ap_eProp (k : Nat) (f : DM) : eProp k f a env = (a env).bind fun x e => match x with
  | .ins c' _ => if c' = k then (match f [x] with
    | .ok d => .ok d e
    | _ => .bad) else .bad
  | _ => .bad := rfl
@[simp] theorem ap_eMake (k : Nat) (f : DM0) (dds : List D) : eMake k f dds ar env = (ar env).bind fun ds e => match f (.ins k []) (ds ++ dds) with
  | .ok d o => match d, o with
    | .non, .ins c' es => if c' = k then .ok (.ins k es) e else .bad
    | _, _ => .bad
  | .exc x _ => .exc x e
  | .bad => .bad := rfl
@[simp] theorem ap_eCallO (f : DM0) (j : Nat) : eCallO f j ar env = match env[j]? with
  | some (some _) => (ar env).bind fun ds e => match e[j]? with
    | some (some d0) => match f d0 ds with
      | .ok d o => .ok d (e.set j (some o))
      | .exc x o => .exc x (e.set j (some o))
      | .bad => .bad
    | _ => .bad
  | _ => .bad := rfl
@[simp] theorem ap_eMethO (k : Nat) (f : DM0) (j : Nat) : eMethO k f j ar env = match env[j]? with
  | some (some (.ins c' _)) => if c' = k then (ar env).bind fun ds e => match e[j]? with
    | some (some d0) => match f d0 ds with
      | .ok d o => .ok d (e.set j (some o))
      | .exc x o => .exc x (e.set j (some o))
      | .bad => .bad
    | _ => .bad
  else .bad
  | _ => .bad := rfl
@[simp] theorem ap_sNext : sNext env = .next env := rfl
@[simp] theorem ap_sSeq : sSeq m n env = (m env).bind n := rfl
@[simp] theorem ap_sIf : sIf t m n env = (t env).fl fun c e => if c then m e else n e := rfl
@[simp] theorem ap_sAsg (g : GM) : sAsg a g env = (a env).fl fun d e => match g d e with | some e' => .next e' | none => .bad := rfl
@[simp] theorem ap_sDrop : sDrop a env = (a env).fl fun _ e => .next e := rfl
@[simp] theorem ap_sRet : sRet a env = (a env).fl fun d e => .ret d e := rfl
@[simp] theorem ap_sRetN : sRetN env = .ret .non env := rfl
@[simp] theorem ap_sBad : sBad env = .bad := rfl
@[simp] theorem ap_gSet (i : Nat) (d : D) : gSet i d env = some (env.set i (some d)) := rfl
@[simp] theorem ap_gTupM0 : gTupM [] [] env = some env := rfl
@[simp] theorem ap_gTupM1 (g : GM) (gs : List GM) (d : D) (ds : List D) : gTupM (g :: gs) (d :: ds) env = (g d env).bind (gTupM gs ds) := rfl
@[simp] theorem ap_gTupleM (gs : List GM) (ds : List D) : gTupleM gs (.tup ds) env = gTupM gs ds env := rfl
@[simp] theorem ap_sOwn (i : Nat) : sOwn a i env = (a env).fl fun d e => if i < e.length then .next (e.set i (some d)) else .bad := rfl
@[simp] theorem ap_sApp (i : Nat) : sApp i a env = match env[i]? with
  | some (some (.lst _)) => (a env).fl fun d e => match e[i]? with
    | some (some (.lst ds)) => if ds.length < 100000 then .next (e.set i (some (.lst (ds ++ [d])))) else .bad
    | _ => .bad
  | _ => .bad := rfl
@[simp] theorem ap_sExt (i : Nat) : sExt i a env = match env[i]? with
  | some (some (.lst _)) => (a env).fl fun d e => match e[i]?, d with
    | some (some (.lst ds)), .lst xs => if ds.length + xs.length ≤ 100000 then .next (e.set i (some (.lst (ds ++ xs)))) else .bad
    | _, _ => .bad
  | _ => .bad := rfl
@[simp] theorem ap_sRetOwn (i : Nat) : sRetOwn i env = match env[i]? with
  | some (some (.lst ds)) => .ret (.lst ds) env
  | _ => .bad := rfl
@[simp] theorem ap_sSetIx (i : Nat) (j : Int) : sSetIx i j a env = (a env).fl fun d e => match e[i]? with
  | some (some (.lst ds)) => match ixN ds.length j with
    | some k => .next (e.set i (some (.lst (ds.set k d))))
    | none => .bad
  | _ => .bad := rfl
@[simp] theorem ap_ePopAt (i : Nat) (j : Int) : ePopAt i j env = match env[i]? with
  | some (some (.lst ds)) => match seqIndex? j ds.length with
    | some k => match ds[k]? with
      | some d => if -(2 ^ 63) ≤ j ∧ j < 2 ^ 63 then .ok d (env.set i (some (.lst (ds.eraseIdx k)))) else .bad
      | none => .bad
    | none => .bad
  | _ => .bad := rfl
@[simp] theorem ap_sSetFld (i k l : Nat) : sSetFld i k l a env = (a env).fl fun d e => match e[i]? with
  | some (some (.ins c' ds)) => if c' = k then (if l = ds.length then .next (e.set i (some (.ins k (ds ++ [d])))) else if l < ds.length then .next (e.set i (some (.ins k (ds.set l d)))) else .bad) else .bad
  | _ => .bad := rfl
@[simp] theorem ap_sAugFld (i k l : Nat) (f : Int → Int → Int) : sAugFld i k l a f env = match env[i]? with
  | some (some (.ins c' ds)) => if c' = k then (match ds[l]? with
    | some (.int x) => (a env).fl fun d e => match d, e[i]? with
      | .int y, some (some (.ins c2 es)) => if c2 = k ∧ l < es.length then .next (e.set i (some (.ins k (es.set l (.int (f x y)))))) else .bad
      | _, _ => .bad
    | _ => .bad) else .bad
  | _ => .bad := rfl
@[simp] theorem ap_sMakeO (i k : Nat) (f : DM0) (dds : List D) : sMakeO i k f dds ar env = (ar env).fl fun ds e => match f (.ins k []) (ds ++ dds) with
  | .ok d o => match d, o with
    | .non, .ins c' es => if c' = k ∧ i < e.length then .next (e.set i (some (.ins k es))) else .bad
    | _, _ => .bad
  | _ => .bad := rfl
@[simp] theorem ap_sAug (i : Nat) (f : Int → Int → Int) : sAug i a f env = match env[i]? with
  | some (some (.int x)) => (a env).fl fun d e => match d with
    | .int y => .next (e.set i (some (.int (f x y))))
    | _ => .bad
  | _ => .bad := rfl
@[simp] theorem ap_sParO (i j : Nat) : sParO i a j b env = (a env).fl fun d e => (b e).fl fun c e1 => if j < e1.length then .next ((e1.set i (some d)).set j (some c)) else .bad := rfl
@[simp] theorem ap_sFor (it : IM) (g : GM) : sFor it g m env = (it env).fl fun ds e => forGo g m ds e := rfl
@[simp] theorem ap_eLc (vs : List Nat) (it : IM) (g : GM) : eLc vs it g t a env = (it env).bind fun ds e0 => (lcGo vs g t a ds [] (wipeE e0 vs)).bind fun xs e1 => .ok (.lst xs) (resE e1 e0 vs) := rfl
@[simp] theorem ap_iSeqM : iSeqM a env = (a env).bind fun x e => .opt x.items e := rfl
@[simp] theorem ap_iSeqP : iSeqP a env = (a env).bind fun x e => (Out.opt x.items e).bind fun ds e => if D.pureL ds then .ok ds e else .bad := rfl
@[simp] theorem ap_iLst : iLst a env = (a env).bind fun x e => .opt x.isL e := rfl
@[simp] theorem ap_iRng1M : iRng1M ar env = (ar env).bind fun xs e => .opt (rng1 xs) e := rfl
@[simp] theorem ap_iRng2M : iRng2M ar env = (ar env).bind fun xs e => .opt (rng2 xs) e := rfl
@[simp] theorem ap_iEnumT : Mir.iEnumT a env = (a env).bind fun x e => (Out.opt x.isT e).bind fun ds e => .ok (enumL 0 ds) e := rfl
@[simp] theorem ap_A1 (f : D → Option D) (d : D) : A1 f [d] = f d := rfl
end
end Mir
namespace Mir
open PySem PySem.Spec PyProof.Rows L2
variable [Tbl]
@[simp] theorem dd_boo (b : Bool) : D.boo (.bl b) = some b := rfl
@[simp] theorem dd_seqT (ds : List D) : D.seq (.tup ds) = some ds := rfl
@[simp] theorem dd_seqL (ds : List D) : D.seq (.lst ds) = some ds := rfl
@[simp] theorem dd_itT (ds : List D) : D.items (.tup ds) = some ds := rfl
@[simp] theorem dd_itL (ds : List D) : D.items (.lst ds) = some ds := rfl
@[simp] theorem dd_itS (x : Str) : D.items (.str x) = some (x.cps.toList.map fun c => .str ⟨#[c]⟩) := rfl
@[simp] theorem dd_isL (ds : List D) : D.isL (.lst ds) = some ds := rfl
@[simp] theorem dd_isT (ds : List D) : D.isT (.tup ds) = some ds := rfl
@[simp] theorem dd_toI (i : Int) : D.toI (.int i) = some i := rfl
@[simp] theorem dd_isS (i : Str) : D.isS (.str i) = true := rfl
@[simp] theorem dp_int (i : Int) : D.pure (.int i) = true := rfl
@[simp] theorem dp_str (i : Str) : D.pure (.str i) = true := rfl
@[simp] theorem dp_bl (i : Bool) : D.pure (.bl i) = true := rfl
@[simp] theorem dp_tup (ds : List D) : D.pure (.tup ds) = D.pureL ds := rfl
@[simp] theorem dp_nil : D.pureL [] = true := rfl
@[simp] theorem dp_cons (d : D) (ds : List D) : D.pureL (d :: ds) = (d.pure && D.pureL ds) := rfl
@[simp] theorem dp_append (ds es : List D) : D.pureL (ds ++ es) = (D.pureL ds && D.pureL es) := by
  induction ds with
  | nil => rfl
  | cons d ds ih => show (d.pure && D.pureL (ds ++ es)) = ((d.pure && D.pureL ds) && D.pureL es); rw [ih, Bool.and_assoc]
@[simp] theorem dp_ints (ns : List Int) : D.pureL (ns.map D.int) = true := by
  induction ns with
  | nil => rfl
  | cons n ns ih => exact ih
@[simp] theorem dp_strsL (ns : List Str) : D.pureL (ns.map D.str) = true := by
  induction ns with
  | nil => rfl
  | cons n ns ih => exact ih
@[simp] theorem dp_pairs (ns : List (Int × Int)) : D.pureL (ns.map pairD) = true := by
  induction ns with
  | nil => rfl
  | cons n ns ih => exact ih
@[simp] theorem dl_int (i : Int) : D.lay (.int i) = true := rfl
@[simp] theorem dl_bl (i : Bool) : D.lay (.bl i) = true := rfl
@[simp] theorem dl_str (i : Str) : D.lay (.str i) = PyData.strOk i := rfl
@[simp] theorem dl_non : D.lay .non = true := rfl
@[simp] theorem dl_tup (i : List D) : D.lay (.tup i) = D.layL i := rfl
@[simp] theorem dl_lst (i : List D) : D.lay (.lst i) = D.layL i := rfl
@[simp] theorem dl_nil : D.layL [] = true := rfl
@[simp] theorem dl_cons (d : D) (i : List D) : D.layL (d :: i) = (d.lay && D.layL i) := rfl
@[simp] theorem dl_ints (ns : List Int) : D.layL (ns.map D.int) = true := by
  induction ns with
  | nil => rfl
  | cons n ns ih => exact ih
@[simp] theorem dl_pairs (ns : List (Int × Int)) : D.layL (ns.map pairD) = true := by
  induction ns with
  | nil => rfl
  | cons n ns ih => exact ih
@[simp] theorem de_int (i : Int) : D.dep (.int i) = 0 := rfl
@[simp] theorem de_bl (i : Bool) : D.dep (.bl i) = 0 := rfl
@[simp] theorem de_str (i : Str) : D.dep (.str i) = 0 := rfl
@[simp] theorem de_non : D.dep .non = 0 := rfl
@[simp] theorem de_tup (i : List D) : D.dep (.tup i) = D.depL i + 1 := rfl
@[simp] theorem de_lst (i : List D) : D.dep (.lst i) = D.depL i + 1 := rfl
@[simp] theorem de_nil : D.depL [] = 0 := rfl
@[simp] theorem de_cons (d : D) (i : List D) : D.depL (d :: i) = max d.dep (D.depL i) := rfl
@[simp] theorem de_ints (ns : List Int) : D.depL (ns.map D.int) = 0 := by
  induction ns with
  | nil => rfl
  | cons n ns ih => show max 0 (D.depL (ns.map D.int)) = 0; rw [ih]; rfl
theorem de_pairs (ns : List (Int × Int)) : D.depL (ns.map pairD) ≤ 1 := by
  induction ns with
  | nil => exact Nat.zero_le _
  | cons n ns ih => show max 1 (D.depL (ns.map pairD)) ≤ 1; omega
theorem fit_of {d : D} (h1 : d.lay = true) (h2 : d.dep ≤ 64) : d.fit = true := by unfold D.fit; rw [h1, decide_eq_true h2]; rfl
@[simp] theorem fit_int (i : Int) : (D.int i).fit = true := rfl
@[simp] theorem fit_bl (i : Bool) : (D.bl i).fit = true := rfl
@[simp] theorem fit_ints (ns : List Int) : (D.lst (ns.map .int)).fit = true := fit_of (by simp) (by simp)
@[simp] theorem fit_intsT (ns : List Int) : (D.tup (ns.map .int)).fit = true := fit_of (by simp) (by simp)
@[simp] theorem fit_nilT : (D.tup []).fit = true := rfl
@[simp] theorem fit_nilL : (D.lst []).fit = true := rfl
@[simp] theorem eq_int (i j : Int) : D.eqb (.int i) (.int j) = (i == j) := by simp only [D.eqb]
theorem eqbL_refl_int (ns ms : List Int) : D.eqbL (ns.map .int) (ms.map .int) = decide (ns = ms) := by
  induction ns generalizing ms with
  | nil => cases ms with
    | nil => simp [D.eqbL]
    | cons m ms => simp [D.eqbL]
  | cons n ns ih => cases ms with
    | nil => simp [D.eqbL]
    | cons m ms =>
      simp only [List.map_cons, D.eqbL, D.eqb, ih]
      by_cases h : n = m <;> simp [h]
@[simp] theorem oEq_int (i j : Int) : oEq (.int i) (.int j) = some (.bl (decide (i = j))) := by
  unfold oEq oEqB
  simp only [fit_int, Bool.and_self, if_true, eq_int, Option.map_some]
  by_cases h : i = j <;> simp [h]
@[simp] theorem oNe_int (i j : Int) : oNe (.int i) (.int j) = some (.bl (!decide (i = j))) := by
  unfold oNe oEqB
  simp only [fit_int, Bool.and_self, if_true, eq_int, Option.map_some]
  by_cases h : i = j <;> simp [h]
@[simp] theorem oEq_str (i j : Str) : oEq (.str i) (.str j) = some (.bl (decide (i = j))) := rfl
@[simp] theorem oNe_str (i j : Str) : oNe (.str i) (.str j) = some (.bl (!decide (i = j))) := rfl
@[simp] theorem oAdd_int (i j : Int) : oAdd (.int i) (.int j) = some (.int (i + j)) := rfl
@[simp] theorem oSub_int (i j : Int) : oSub (.int i) (.int j) = some (.int (i - j)) := rfl
@[simp] theorem oNeg_int (i : Int) : oNeg (.int i) = some (.int (-i)) := rfl
theorem oMul_int (i j : Int) (h : (-(2 ^ 64) < i ∧ i < 2 ^ 64) ∨ (-(2 ^ 64) < j ∧ j < 2 ^ 64)) : oMul (.int i) (.int j) = some (.int (i * j)) := by unfold oMul oI; dsimp only; rw [if_pos h]
theorem oFdiv_int (i j : Int) (h : j ≠ 0 ∧ j.natAbs < 1073741824) : oFdiv (.int i) (.int j) = some (.int (i.fdiv j)) := by unfold oFdiv oI; dsimp only; rw [if_pos h]
theorem oMod_int (i j : Int) (h : j ≠ 0) : oMod (.int i) (.int j) = some (.int (i.fmod j)) := by unfold oMod oI; dsimp only; rw [if_pos h]
@[simp] theorem oLtI_int (i j : Int) : oLtI (.int i) (.int j) = some (.bl (decide (i < j))) := rfl
@[simp] theorem oLeI_int (i j : Int) : oLeI (.int i) (.int j) = some (.bl (decide (i ≤ j))) := rfl
@[simp] theorem oGtI_int (i j : Int) : oGtI (.int i) (.int j) = some (.bl (decide (j < i))) := rfl
@[simp] theorem oGeI_int (i j : Int) : oGeI (.int i) (.int j) = some (.bl (decide (j ≤ i))) := rfl
@[simp] theorem oLe_int (i j : Int) : oLe (.int i) (.int j) = some (.bl (decide (i ≤ j))) := rfl
@[simp] theorem oLen_lst (ds : List D) : oLen (.lst ds) = some (.int ds.length) := rfl
@[simp] theorem oLen_tup (ds : List D) : oLen (.tup ds) = some (.int ds.length) := rfl
theorem oLen_str (z : Str) (h : z.length ≤ 100000) : oLen (.str z) = some (.int z.length) := by unfold oLen; dsimp only; rw [if_pos h]
@[simp] theorem oTuple_lst (ds : List D) : oTuple (.lst ds) = some (.tup ds) := rfl
@[simp] theorem oTuple_tup (ds : List D) : oTuple (.tup ds) = some (.tup ds) := rfl
@[simp] theorem oList_lst (ds : List D) : oList (.lst ds) = some (.lst ds) := rfl
@[simp] theorem oList_tup (ds : List D) : oList (.tup ds) = some (.lst ds) := rfl
@[simp] theorem oIx_lst (ds : List D) (i : Int) : oIx (.lst ds) (.int i) = atI ds i := rfl
@[simp] theorem oIx_tup (ds : List D) (i : Int) : oIx (.tup ds) (.int i) = atI ds i := rfl
@[simp] theorem atI_c0 {α : Type} (a : α) (l : List α) : atI (a :: l) 0 = some a := atI_nat (j := 0) rfl
@[simp] theorem atI_c1 {α : Type} (a b : α) (l : List α) : atI (a :: b :: l) 1 = some b := atI_nat (j := 1) rfl
@[simp] theorem atI_c2 {α : Type} (a b c : α) (l : List α) : atI (a :: b :: c :: l) 2 = some c := atI_nat (j := 2) rfl
@[simp] theorem atI_c3 {α : Type} (a b c d : α) (l : List α) : atI (a :: b :: c :: d :: l) 3 = some d := atI_nat (j := 3) rfl
theorem ixN_at {n j : Nat} (hj : j < n) {i : Int} (hi : i = (j : Int)) : ixN n i = some j := by
  subst hi
  unfold ixN
  rw [if_pos (Int.natCast_nonneg j), if_pos (by omega)]
  rfl
theorem seqIx_at {n j : Nat} (hj : j < n) {i : Int} (hi : i = (j : Int)) : seqIndex? i n = some j := (ixN_seq (ixN_at hj hi)).1
theorem atI_at {α : Type} {xs : List α} {j : Nat} {v : α} (h : xs[j]? = some v) {i : Int} (hi : i = (j : Int)) : atI xs i = some v := by rw [hi]; exact atI_nat h
@[simp] theorem set_0 {α : Type} (a x : α) (l : List α) : (a :: l).set 0 x = x :: l := rfl
@[simp] theorem set_1 {α : Type} (a b x : α) (l : List α) : (a :: b :: l).set 1 x = a :: x :: l := rfl
@[simp] theorem set_2 {α : Type} (a b c x : α) (l : List α) : (a :: b :: c :: l).set 2 x = a :: b :: x :: l := rfl
theorem runF0_ret {k n : Nat} {m : SM} {d0 d o : D} {ds : List D} {e : Env} (hm : m ((d0 :: ds).map some ++ List.replicate (n - (ds.length + 1)) none) = .ret d e) (he : e[0]? = some (some o)) (h : ds.length + 1 = k) : runF0 k n m d0 ds = .ok d o := by
  unfold runF0
  rw [if_pos h, hm]
  dsimp only
  rw [he]
theorem runF0_next {k n : Nat} {m : SM} {d0 o : D} {ds : List D} {e : Env} (hm : m ((d0 :: ds).map some ++ List.replicate (n - (ds.length + 1)) none) = .next e) (he : e[0]? = some (some o)) (h : ds.length + 1 = k) : runF0 k n m d0 ds = .ok .non o := by
  unfold runF0
  rw [if_pos h, hm]
  dsimp only
  rw [he]
theorem runF_ret {fr : Bool} {k n : Nat} {m : SM} {d : D} {ds : List D} {e : Env} (hm : m (ds.map some ++ List.replicate (n - ds.length) none) = .ret d e) (h : ds.length = k) : runF fr k n m ds = .ok d := by
  unfold runF
  rw [if_pos h, hm]
theorem runF_next {k n : Nat} {m : SM} {ds : List D} {e : Env} (hm : m (ds.map some ++ List.replicate (n - ds.length) none) = .next e) (h : ds.length = k) : runF false k n m ds = .ok .non := by
  unfold runF
  rw [if_pos h, hm]
  rfl
theorem lcGo_inv {vs : List Nat} {g : GM} {c : TM} {e : EM} (P : List D → List D → Env → Prop) : ∀ {ds done acc : List D} {env : Env}, P done acc env → done.length + ds.length ≤ 100000 → acc.length ≤ done.length →
    (∀ done acc d env, P done acc env → d ∈ ds → ∃ e1, g d env = some e1 ∧ ∃ b e2, c e1 = .ok b e2 ∧ (b = false → P (done ++ [d]) acc (wipeE e2 vs)) ∧ (b = true → ∃ x e3, e e2 = .ok x e3 ∧ P (done ++ [d]) (acc ++ [x]) (wipeE e3 vs))) →
    ∃ xs env', lcGo vs g c e ds acc env = .ok xs env' ∧ P (done ++ ds) xs env'
  | [], done, acc, env, h0, _, _, _ => ⟨acc, env, rfl, by rw [List.append_nil]; exact h0⟩
  | d :: ds, done, acc, env, h0, hl, ha, hs => by
    obtain ⟨e1, h1, b, e2, h2, h3, h4⟩ := hs done acc d env h0 List.mem_cons_self
    have hl2 : (done ++ [d]).length + ds.length ≤ 100000 := by
      rw [List.length_append]; simp only [List.length_cons, List.length_nil] at hl ⊢; omega
    have hs2 := fun done acc d' env p (m : d' ∈ ds) => hs done acc d' env p (List.mem_cons_of_mem _ m)
    unfold lcGo
    rw [h1]
    dsimp only
    rw [h2]
    simp only [Out.noX_ok, Out.bind_ok]
    cases b with
    | false =>
      obtain ⟨xs, env', h5, h6⟩ := lcGo_inv P (ds := ds) (h3 rfl) hl2 (by rw [List.length_append]; omega) hs2
      exact ⟨xs, env', by simpa using h5, by rw [← List.append_cons] at h6; exact h6⟩
    | true =>
      obtain ⟨x, e3, h5, h6⟩ := h4 rfl
      obtain ⟨xs, env', h7, h8⟩ := lcGo_inv P (ds := ds) h6 hl2 (by rw [List.length_append, List.length_append]; simpa using ha) hs2
      refine ⟨xs, env', ?_, by rw [← List.append_cons] at h8; exact h8⟩
      rw [if_pos rfl, h5]
      simp only [Out.noX_ok, Out.bind_ok]
      rw [if_pos (by simp only [List.length_cons] at hl; omega)]
      exact h7
theorem lcGo_map {vs : List Nat} {g : GM} {c : TM} {e : EM} (f : D → D) {w : Env} {ds : List D} (hl : ds.length ≤ 100000) (h : ∀ d ∈ ds, ∃ e1, g d w = some e1 ∧ ∃ e2, c e1 = .ok true e2 ∧ ∃ e3, e e2 = .ok (f d) e3 ∧ wipeE e3 vs = w) : lcGo vs g c e ds [] w = .ok (ds.map f) w := by
  obtain ⟨xs, env', h1, h2, h3⟩ := lcGo_inv (vs := vs) (g := g) (c := c) (e := e) (fun done acc env => env = w ∧ acc = done.map f) (ds := ds) (done := []) (acc := []) (env := w) ⟨rfl, rfl⟩ (by simpa using hl) (Nat.zero_le _) (fun done acc d env ⟨p1, p2⟩ m => by
    subst p1 p2
    obtain ⟨e1, q1, e2, q2, e3, q3, q4⟩ := h d m
    exact ⟨e1, q1, true, e2, q2, fun z => (by cases z), fun _ => ⟨_, e3, q3, q4, by rw [List.map_append]; rfl⟩⟩)
  rw [h1, h2, h3]; rfl
theorem lcGo_filter {vs : List Nat} {g : GM} {c : TM} {e : EM} (p : D → Bool) (f : D → D) {w : Env} {ds : List D} (hl : ds.length ≤ 100000) (h : ∀ d ∈ ds, ∃ e1, g d w = some e1 ∧ ∃ e2, c e1 = .ok (p d) e2 ∧ (p d = false → wipeE e2 vs = w) ∧ (p d = true → ∃ e3, e e2 = .ok (f d) e3 ∧ wipeE e3 vs = w)) : lcGo vs g c e ds [] w = .ok ((ds.filter p).map f) w := by
  obtain ⟨xs, env', h1, h2, h3⟩ := lcGo_inv (vs := vs) (g := g) (c := c) (e := e) (fun done acc env => env = w ∧ acc = (done.filter p).map f) (ds := ds) (done := []) (acc := []) (env := w) ⟨rfl, rfl⟩ (by simpa using hl) (Nat.zero_le _) (fun done acc d env ⟨p1, p2⟩ m => by
    subst p1 p2
    obtain ⟨e1, q1, e2, q2, q3, q4⟩ := h d m
    refine ⟨e1, q1, p d, e2, q2, fun z => ⟨q3 z, ?_⟩, fun z => ?_⟩
    · rw [List.filter_append, List.filter_cons_of_neg (by rw [z]; decide), List.filter_nil, List.append_nil]
    · obtain ⟨e3, r1, r2⟩ := q4 z
      exact ⟨_, e3, r1, r2, by rw [List.filter_append, List.filter_cons_of_pos z, List.map_append]; rfl⟩)
  rw [h1, h2, h3]; rfl
theorem forGo_at {g : GM} {b : SM} {total : List D} (P : List D → Env → Prop) : ∀ {ds done : List D} {env : Env}, total = done ++ ds → P done env →
    (∀ done d rest env, total = done ++ d :: rest → P done env → ∃ e, g d env = some e ∧ ∃ env', (b e = .next env' ∨ b e = .cont env') ∧ P (done ++ [d]) env') → ∃ env', forGo g b ds env = .next env' ∧ P total env'
  | [], done, env, ht, h0, _ => ⟨env, rfl, by rw [ht, List.append_nil]; exact h0⟩
  | d :: ds, done, env, ht, h0, hs => by
    obtain ⟨e, h1, env1, h2, h3⟩ := hs done d ds env ht h0
    obtain ⟨env2, h4, h5⟩ := forGo_at P (ds := ds) (total := total) (by rw [ht]; simp) h3 hs
    refine ⟨env2, ?_, h5⟩
    unfold forGo
    rw [h1]
    rcases h2 with h2 | h2 <;> (dsimp only; rw [h2]; exact h4)
theorem lcGo_at {vs : List Nat} {g : GM} {c : TM} {e : EM} {total : List D} (hl : total.length ≤ 100000) (P : List D → List D → Env → Prop) : ∀ {ds done acc : List D} {env : Env}, total = done ++ ds → P done acc env → acc.length ≤ done.length →
    (∀ done acc d rest env, total = done ++ d :: rest → P done acc env → ∃ e1, g d env = some e1 ∧ ∃ b e2, c e1 = .ok b e2 ∧ (b = false → P (done ++ [d]) acc (wipeE e2 vs)) ∧ (b = true → ∃ x e3, e e2 = .ok x e3 ∧ P (done ++ [d]) (acc ++ [x]) (wipeE e3 vs))) →
    ∃ xs env', lcGo vs g c e ds acc env = .ok xs env' ∧ P total xs env'
  | [], done, acc, env, ht, h0, _, _ => ⟨acc, env, rfl, by rw [ht, List.append_nil]; exact h0⟩
  | d :: ds, done, acc, env, ht, h0, ha, hs => by
    obtain ⟨e1, h1, b, e2, h2, h3, h4⟩ := hs done acc d ds env ht h0
    have ht2 : total = (done ++ [d]) ++ ds := by rw [ht]; simp
    have hz : done.length + (ds.length + 1) ≤ 100000 := by
      have := congrArg List.length ht
      rw [List.length_append, List.length_cons] at this
      omega
    unfold lcGo
    rw [h1]
    dsimp only
    rw [h2]
    simp only [Out.noX_ok, Out.bind_ok]
    cases b with
    | false =>
      obtain ⟨xs, env', h5, h6⟩ := lcGo_at hl P (ds := ds) ht2 (h3 rfl) (by rw [List.length_append]; omega) hs
      exact ⟨xs, env', by simpa using h5, h6⟩
    | true =>
      obtain ⟨x, e3, h5, h6⟩ := h4 rfl
      obtain ⟨xs, env', h7, h8⟩ := lcGo_at hl P (ds := ds) ht2 h6 (by rw [List.length_append, List.length_append]; simpa using ha) hs
      refine ⟨xs, env', ?_, h8⟩
      rw [if_pos rfl, h5]
      simp only [Out.noX_ok, Out.bind_ok]
      rw [if_pos (by omega)]
      exact h7
theorem rangeL_at {lo : Int} {n : Nat} {done rest : List D} {d : D} (h : rangeL lo n = done ++ d :: rest) : d = .int (lo + done.length) ∧ done.length < n := by
  have e : (rangeL lo n)[done.length]? = some d := by rw [h]; simp
  unfold rangeL at e
  rw [List.getElem?_map] at e
  cases q : (List.range n)[done.length]? with
  | none => rw [q] at e; cases e
  | some j =>
    rw [q] at e
    cases e
    obtain ⟨h1, h2⟩ := List.getElem?_eq_some_iff.mp q
    rw [List.getElem_range] at h2
    rw [List.length_range] at h1
    subst h2
    exact ⟨rfl, h1⟩
theorem enumL_at {ds done rest : List D} {d : D} (h : enumL 0 ds = done ++ d :: rest) : ∃ x, ds[done.length]? = some x ∧ d = .tup [.int done.length, x] := by
  have e : (enumL 0 ds)[done.length]? = some d := by rw [h]; simp
  obtain ⟨x, h1, h2⟩ := enumL_get e
  exact ⟨x, h1, by rw [h2, Nat.zero_add]⟩
end Mir
namespace L2
open PySem PySem.Spec PyProof.Rows
end L2
namespace Mir
open PySem PySem.Spec PyProof.Rows L2
variable [Tbl]
abbrev D.cls (c : Nat) : D := .dic [.int (c : Int)] []
section
variable {S : Sc} {O P : List Nat} {E : XK} {μ : Mo} {fr fa fb : Bool} {ta tb : TE} {ma mb : EM} {tA : TA} {mA : AM}
def eCMeth (c : Nat) (f : DM) (a : AM) : EM := fun env => (a env).bind fun ds e => (f (.cls c :: ds)).out e
@[simp] theorem ap_eCMeth {env : Env} (c : Nat) (f : DM) (a : AM) : eCMeth c f a env = (a env).bind fun ds e => (f (.cls c :: ds)).out e := rfl
def eMakeS (c i : Nat) (f : DM0) (a : EM) : EM := fun env => match env[i]? with
  | some (some (.dic [.int k] [])) => if k = (c : Int) then (a env).bind fun x e => (Out.opt x.seq e).bind fun ds e => match f (.ins c []) ds with
    | .ok d o => match d, o with
      | .non, .ins c' es => if c' = c then .ok (.ins c es) e else .bad
      | _, _ => .bad
    | _ => .bad else .bad
  | _ => .bad
@[simp] theorem ap_eMakeS {env : Env} (c i : Nat) (f : DM0) (a : EM) : eMakeS c i f a env = match env[i]? with
  | some (some (.dic [.int k] [])) => if k = (c : Int) then (a env).bind fun x e => (Out.opt x.seq e).bind fun ds e => match f (.ins c []) ds with
    | .ok d o => match d, o with
      | .non, .ins c' es => if c' = c then .ok (.ins c es) e else .bad
      | _, _ => .bad
    | _ => .bad else .bad
  | _ => .bad := rfl
end
end Mir
namespace Mir
open PySem PySem.Spec PyProof.Rows L2
variable [Tbl]
def A2 (f : D → D → Option D) : List D → Option D
  | [x, y] => f x y
  | _ => none
@[simp] theorem ap_A2 (f : D → D → Option D) (x y : D) : A2 f [x, y] = f x y := rfl
section
variable {S : Sc}
def oMax2 := oI fun i j => some (.int (if j > i then j else i))
def oMin2 := oI fun i j => some (.int (if j < i then j else i))
@[simp] theorem oMax2_int (i j : Int) : oMax2 (.int i) (.int j) = some (.int (if j > i then j else i)) := rfl
@[simp] theorem oMin2_int (i j : Int) : oMin2 (.int i) (.int j) = some (.int (if j < i then j else i)) := rfl
theorem rangeL_rg {F : Addr → Prop} {H : Hp} {n : Int} : RepL S F H (rangeL 0 n.toNat) (rgV 0 n) := by
  unfold rangeL rgV
  rw [show n - 0 = n by omega]
  have key : ∀ l : List Nat, RepL S F H (l.map fun i => D.int (0 + (i : Nat))) (l.map fun i => V.int (0 + (i : Nat))) := by
    intro l
    induction l with
    | nil => exact .nil
    | cons x l ih => exact .cons rfl ih
  exact key _
theorem rgOk_of {n : Int} (h : n ≤ 1000) (h0 : -1000 ≤ n) : RgOk 0 n := ⟨by omega, by omega, by omega, by omega, by omega⟩
def eRg (t : Bool) (a : EM) : EM := fun env => (a env).bind fun x e => (Out.opt x.toI e).bind fun n e => if n ≤ 1000 ∧ -1000 ≤ n then .ok (if t then .tup (rangeL 0 n.toNat) else .lst (rangeL 0 n.toNat)) e else .bad
@[simp] theorem ap_eRg {env : Env} (t : Bool) (a : EM) : eRg t a env = (a env).bind fun x e => (Out.opt x.toI e).bind fun n e => if n ≤ 1000 ∧ -1000 ≤ n then .ok (if t then .tup (rangeL 0 n.toNat) else .lst (rangeL 0 n.toNat)) e else .bad := rfl
section
variable {O P : List Nat} {E : XK} {μ : Mo} {fa : Bool} {ta : TE} {ma : EM}
theorem ref_lstRg (ha : RefE S O P E μ fa ta ma) : RefE S O P E μ true (tLstRg (tRg1 ta)) (eRg false ma) := by
  intro R σ H fp env I Q h
  refine ha R σ H fp env I _ ((Want.bind h).mono fun x e1 H1 f1 I1 s1 h1 v hv _ => ?_)
  have h5 := Want.bind h1
  obtain ⟨n, hd⟩ := want_some h5
  rw [hd] at h5
  have h6 := h5 H1 f1 I1 Stp.refl
  dsimp only at h6
  have hw := hv.rep
  cases x with
  | int j =>
    cases hd
    split at h6
    · rename_i hc
      refine ⟨n, hw, rgOk_of hc.1 hc.2, fun q hq => ?_⟩
      have hz : (Out.ok (if false = true then D.tup (rangeL 0 n.toNat) else D.lst (rangeL 0 n.toNat)) e1 : Out D) = Out.opt (some (.lst (rangeL 0 n.toNat))) e1 := rfl
      rw [hz] at h6
      exact want_opt h6 rfl I1 (fun a q => s1.dom q) (Ext.new hq) ⟨q, _, _, rfl, hq, rfl, upd_same, fun z => I1.fm z hq, rangeL_rg⟩
    · exact h6.elim
  | _ => cases hd
end
end
end Mir
namespace Mir
open PySem PySem.Spec PyProof.Rows L2
variable [Tbl]
mutual
def keyD : D → NestedKey
  | .bl b => .num (if b = true then 1 else 0)
  | .int i => .num i
  | .str x => .text x
  | .tup ds => .tup (keyL ds)
  | _ => .none
def keyL : List D → List NestedKey
  | [] => []
  | d :: ds => keyD d :: keyL ds
end
section
variable {S : Sc} {X : Cx} {pins : List (Addr × Obj)} {σ : L2.St} {H : Hp} {s : Shared} {F : Addr → Prop}
mutual
theorem nis (hK : S.K = X.K) (I : Inv X pins σ H s) : ∀ (d : D) (v : V) (u : Value), d.pure = true → Rep S F H d v → RelV v u → NestedIs s.heap (keyD d) u
  | .non, v, u, _, r, q => by
    cases (show v = _ from r); cases (show u = _ from q); exact .none
  | .bl b, v, u, _, r, q => by
    cases (show v = _ from r); cases (show u = _ from q); exact .bool rfl
  | .int i, v, u, _, r, q => by
    cases (show v = _ from r); obtain ⟨t, rfl⟩ := q; exact .int i t
  | .str x, v, u, _, r, q => by
    cases (show v = _ from r); obtain ⟨t, rfl⟩ := q; exact .text x t
  | .tup ds, v, u, p, r, q => by
    obtain ⟨a, vs, rfl, h1, h2⟩ := r
    cases (show u = _ from q)
    rw [hK] at h1
    obtain ⟨its, r1, ⟨o, e1, e2, n, e3⟩, _⟩ := I.tuple h1
    exact .tup e1 e2 e3 (by simpa using nisL hK I ds vs its p h2 r1)
  | .lst _, _, _, p, _, _ => by cases p
  | .ins _ _, _, _, p, _, _ => by cases p
  | .dic _ _, _, _, p, _, _ => by cases p
  | .map _ _, _, _, p, _, _ => by cases p
theorem nisL (hK : S.K = X.K) (I : Inv X pins σ H s) : ∀ (ds : List D) (vs : List V) (us : List Value), D.pureL ds = true → RepL S F H ds vs → Vals vs us → NestedAll s.heap (keyL ds) us
  | [], vs, us, _, r, q => by
    cases (show vs = _ from r); cases q; exact .nil
  | d :: ds, vs, us, p, r, q => by
    obtain ⟨v, rr, rfl, h1, h2⟩ := r
    cases q with
    | cons a b =>
      have p := Bool.and_eq_true_iff.mp p
      exact .cons (nis hK I d v _ p.1 h1 a) (nisL hK I ds rr _ p.2 h2 b)
end
end
def KeyAt (S : Sc) (H : Hp) (d : D) (a : Addr) : Prop := d.pure = true ∧ (keyD d).depth ≤ 8 ∧ Rep S Nil H d (.ref a)
theorem KeyAt.grow {S : Sc} {H H' : Hp} {d : D} {a : Addr} (h : KeyAt S H d a) (e : Ext (fun _ => False) H H') : KeyAt S H' d a := ⟨h.1, h.2.1, h.2.2.grow e⟩
def nval (kvs : List NE) (k : NestedKey) : Option V := (kvs.find? fun x => decide (keyD x.1 = k)).map (·.2.2)
abbrev NP : List NE → List (NestedKey × Addr × Value) → Prop := Paired fun p q => keyD p.1 = q.1 ∧ p.2.1 = q.2.1 ∧ RelV p.2.2 q.2.2
theorem NP.val {kvs : List NE} {xs : List (NestedKey × Addr × Value)} (r : NP kvs xs) (k : NestedKey) : RelO (nval kvs k) ((atKey xs k).map (·.2)) := by
  induction r with
  | nil => exact True.intro
  | @cons p q ps qs h t ih =>
    obtain ⟨h1, _, h2⟩ := h
    by_cases e : keyD p.1 = k
    · have e' : q.1 = k := h1.symm.trans e
      have b : atKey (q :: qs) k = some q.2 := by simp [atKey, List.find?_cons, e']
      have c : nval (p :: ps) k = some p.2.2 := by simp [nval, List.find?_cons, e]
      rw [b, c]; exact h2
    · have e' : ¬ q.1 = k := fun z => e (h1.trans z)
      have b : atKey (q :: qs) k = atKey qs k := by simp [atKey, List.find?_cons, e']
      have c : nval (p :: ps) k = nval ps k := by simp [nval, List.find?_cons, e]
      rw [b, c]; exact ih
def NDp (P : Program) (w : World) (a : Addr) (kvs : List NE) (h : Heap) : Prop := kvs.length ≤ sizeLine ∧ (a == sysModules) = false ∧ ∃ xs : List (NestedKey × Addr × Value), NP kvs xs ∧
  ∃ o es ep, h.get? a = some o ∧ o.ExactDict ∧ o.data = .dict es ep ∧ es.toList = xs.map (entryOfKey (nestedKind P w)) ∧ (xs.map (·.1)).Nodup
def ndo (P : Program) (w : World) (a : Addr) (kvs : List NE) : HO := .ext (NDp P w a kvs)
theorem ndo_nc {P : Program} {w : World} {a : Addr} {kvs : List NE} : NY a (ndo P w a kvs) := by
  refine ⟨True.intro, fun q z => ?_⟩
  unfold ndo LamX.CodeO at z
  injection z with e
  have g : (⟨Array.replicate (a + 1) { cls := .none, data := .fields #[.none, .str q default] }, {}⟩ : Heap).get? a = some { cls := .none, data := .fields #[.none, .str q default] } := by
    unfold Heap.get?
    simp
  have r := congrFun e ⟨Array.replicate (a + 1) { cls := .none, data := .fields #[.none, .str q default] }, {}⟩
  have r2 : NDp P w a kvs ⟨Array.replicate (a + 1) { cls := .none, data := .fields #[.none, .str q default] }, {}⟩ := by
    rw [r]
    exact ⟨_, _, default, g, rfl, rfl⟩
  obtain ⟨_, _, xs, _, o, es, ep, g', _, d, _⟩ := r2
  rw [g] at g'
  cases g'
  cases d
theorem ndo_ok {P : Program} {w : World} {H : Hp} {h : Heap} {a : Addr} {kvs : List NE} (x : NDp P w a kvs h) : ObjOk P w H h a (ndo P w a kvs) := by
  refine ⟨x, ?_, fun h1 h2 y k => ?_⟩
  · obtain ⟨_, _, xs, _, o, es, ep, e, _⟩ := x
    exact ⟨o, e⟩
  · obtain ⟨z, y1, xs, r, o, es, ep, e, q⟩ := y
    exact ⟨z, y1, xs, r, o, es, ep, k _ e, q⟩
theorem ndo_of {P : Program} {w : World} {H : Hp} {h : Heap} {a : Addr} {kvs : List NE} (ok : HOk P w H h) (e : H a = some (ndo P w a kvs)) : NDp P w a kvs h := (ok a _ e).1
section
variable {S : Sc} {X : Cx} {pins : List (Addr × Obj)} {σ : L2.St} {H : Hp} {s : Shared} {a b : Addr} {kvs : List NE} {d : D} {A : Around} {E : Value → Shared → Prop}
theorem keyAt_is (hK : S.K = X.K) (I : Inv X pins σ H s) (k : KeyAt S H d b) : (nestedKind X.prog X.w).is s.heap (keyD d) b := ⟨nis hK I d (.ref b) (.ref b) k.1 k.2.2 rfl, k.2.1⟩
theorem np_all (hK : S.K = X.K) (I : Inv X pins σ H s) : ∀ {kvs : List NE} {xs : List (NestedKey × Addr × Value)}, NP kvs xs → (∀ e ∈ kvs, KeyAt S H e.1 e.2.1) → ∀ x ∈ xs, (nestedKind X.prog X.w).is s.heap x.1 x.2.1 := by
  intro kvs xs q
  induction q with
  | nil => intro _ x hx; exact nomatch hx
  | @cons p q ps qs hq t ih =>
    intro all x hx
    rcases List.mem_cons.mp hx with e | hx
    · subst e
      rw [← hq.1, ← hq.2.1]
      exact keyAt_is hK I (all p List.mem_cons_self)
    · exact ih (fun e he => all e (List.mem_cons_of_mem _ he)) x hx
theorem nd_at (hK : S.K = X.K) (I : Inv X pins σ H s) (e : H a = some (ndo X.prog X.w a kvs)) (all : ∀ e ∈ kvs, KeyAt S H e.1 e.2.1) : kvs.length ≤ sizeLine ∧ (a == sysModules) = false ∧ ∃ xs, NP kvs xs ∧ s.heap.DictOfH (nestedKind X.prog X.w) a xs := by
  obtain ⟨z, y, xs, r, o, es, ep, h1, h2, h3, h4, h5⟩ := ndo_of I.hok e
  exact ⟨z, y, xs, r, o, es, ep, h1, h2, h3, h4, np_all hK I r all, h5⟩
theorem nd_in {Q : Value → Shared → Prop} (hu : (nestedKind X.prog X.w).room A.in1) (hK : S.K = X.K) (I : Inv X pins σ H s) (e : H a = some (ndo X.prog X.w a kvs)) (all : ∀ e ∈ kvs, KeyAt S H e.1 e.2.1) (k : KeyAt S H d b) (h : ∀ s', Inv X pins σ H s' → Q (.bool (nval kvs (keyD d)).isSome) s') :
    wpAny (model X.prog X.w) A (compareOp .In (.ref b) (.ref a)) Q E s := by
  obtain ⟨z, hd, xs, rel, dd⟩ := nd_at hK I e all
  refine wpAny_in_heap hu (keyAt_is hK I k) hd dd ?_
  have q := (NP.val rel (keyD d)).isSome_eq
  rw [Option.isSome_map] at q
  rw [← q]
  exact h _ (I.tok _)
theorem nd_getItem {v : V} {Q : Value → Shared → Prop} (hu : (nestedKind X.prog X.w).room A.in1) (hK : S.K = X.K) (I : Inv X pins σ H s) (e : H a = some (ndo X.prog X.w a kvs)) (all : ∀ e ∈ kvs, KeyAt S H e.1 e.2.1) (k : KeyAt S H d b) (l : nval kvs (keyD d) = some v) (h : ∀ w' s', Inv X pins σ H s' → RelV v w' → Q w' s') :
    wpAny (model X.prog X.w) A (getItem (.ref a) (.ref b)) Q E s := by
  obtain ⟨z, hd, xs, rel, dd⟩ := nd_at hK I e all
  obtain ⟨w', hw, rw'⟩ := RelO.some_of (v := v) (o := (atKey xs (keyD d)).map (·.2)) (by rw [← l]; exact NP.val rel (keyD d))
  obtain ⟨p, hp, hp2⟩ := Option.map_eq_some_iff.mp hw
  refine wpAny_getItem_heap hu (keyAt_is hK I k) dd hp ?_
  rw [hp2]
  exact h w' _ (I.tok _) rw'
theorem nd_setItem {v : V} {r : Value} {Q : Unit → Shared → Prop} (hu : (nestedKind X.prog X.w).room A.in1) (hK : S.K = X.K) (I : Inv X pins σ H s) (e : H a = some (ndo X.prog X.w a kvs)) (all : ∀ e ∈ kvs, KeyAt S H e.1 e.2.1) (k : KeyAt S H d b) (l : nval kvs (keyD d) = none) (hz : kvs.length < sizeLine) (rv : RelV v r)
    (h : ∀ s', Inv X pins σ (upd H a (ndo X.prog X.w a (kvs ++ [(d, b, v)]))) s' → Q () s') :
    wpAny (model X.prog X.w) A (setItem (.ref a) (.ref b) r) Q E s := by
  obtain ⟨z, hd, xs, rel, dd⟩ := nd_at hK I e all
  have hl : xs.length = kvs.length := (Paired.length rel).symm
  refine wpAny_setItem_heap (hsz := by omega) hu (keyAt_is hK I k) dd fun h' dd' hs => h _ ?_
  have hn : atKey xs (keyD d) = none := by
    have q := (NP.val rel (keyD d)).isSome_eq
    rw [Option.isSome_map, l] at q
    cases w : atKey xs (keyD d) with
    | none => rfl
    | some _ => rw [w] at q; cases q
  rw [storedH_new hn] at dd'
  obtain ⟨q, es, ep, hq, h2, h3, h4, _, h5⟩ := dd'
  refine d_write I (by rw [e]; exact True.intro) hs ⟨q, hq⟩ (ndo_ok ⟨?_, hd, _, Paired.snoc rel ⟨rfl, rfl, rv⟩, q, es, ep, hq, h2, h3, h4, h5⟩)
  rw [List.length_append, List.length_singleton]
  omega
end
end Mir
namespace Mir
open PySem PySem.Spec PyProof.Rows L2
variable [Tbl]
def tNIn (S : Sc) (X : Cx) (ty td : TE) : TE := fun σ H Q => ty σ H fun y H1 => td σ H1 fun x H2 => ∃ a kvs d b, x = .ref a ∧ y = .ref b ∧ H2 a = some (ndo X.prog X.w a kvs) ∧ (∀ e ∈ kvs, KeyAt S H2 e.1 e.2.1) ∧ KeyAt S H2 d b ∧ Q (.bl (nval kvs (keyD d)).isSome) H2
def tNGet (S : Sc) (X : Cx) (td ty : TE) : TE := fun σ H Q => td σ H fun x H1 => ty σ H1 fun y H2 => ∃ a kvs d b v, x = .ref a ∧ y = .ref b ∧ H2 a = some (ndo X.prog X.w a kvs) ∧ (∀ e ∈ kvs, KeyAt S H2 e.1 e.2.1) ∧ KeyAt S H2 d b ∧ nval kvs (keyD d) = some v ∧ Q v H2
def sNPut (S : Sc) (X : Cx) (td ty tv : TE) : TS := fun D σ H => tv σ H fun v H1 => td σ H1 fun x H2 => ty σ H2 fun y H3 => ∃ a kvs d b, x = .ref a ∧ y = .ref b ∧ H3 a = some (ndo X.prog X.w a kvs) ∧ (∀ e ∈ kvs, KeyAt S H3 e.1 e.2.1) ∧ KeyAt S H3 d b ∧ nval kvs (keyD d) = none ∧ kvs.length < sizeLine ∧ D.nx σ (upd H3 a (ndo X.prog X.w a (kvs ++ [(d, b, v)])))
def tNNew (X : Cx) : TE := fun _ H Q => ∀ p, H p = none → Q (.ref p) (upd H p (ndo X.prog X.w p []))
section
variable {S : Sc} {X : Cx} {o i value : Expr} {pos pos' : Pos} {td ty tv : TE}
theorem nd_typeIs {pins : List (Addr × Obj)} {σ : L2.St} {H : Hp} {s : Shared} {a : Addr} {kvs : List NE} (I : Inv X pins σ H s) (e : H a = some (ndo X.prog X.w a kvs)) : s.TypeIs (.ref a) "dict" := by
  obtain ⟨_, _, xs, _, ob, _, _, h1, h2, _⟩ := ndo_of I.hok e
  exact ⟨ob, h1, h2.1⟩
theorem pe_nget (hu : (nestedKind X.prog X.w).room X.A.in1) (hK : S.K = X.K) (ho : PE X o td) (hi : PE X i ty) (hs : NoSl i) : PE X (.Subscript o i pos) (tNGet S X td ty) := by
  refine ⟨fun pins s σ H Q I h => ?_⟩
  refine subD_of PySem.F.slot_dict_getitem.lookup hs (thn (ho.run pins s σ H _ I h) fun u s1 ⟨x, H1, I1, rx, q1⟩ => thn (hi.run pins s1 σ H1 _ I1 q1) fun iv s2 ⟨y, H2, I2, ry, a, kvs, d, b, v, ex, ey, e, all, k, l, q2⟩ => ?_)
  subst ex ey
  obtain rfl : u = Value.ref a := rx
  obtain rfl : iv = Value.ref b := ry
  exact ⟨nd_typeIs I2 e, nd_getItem hu hK I2 e all k l fun w' s3 I3 rw' => ⟨v, H2, I3, rw', q2⟩⟩
theorem pc_nin (hu : (nestedKind X.prog X.w).room X.A.in1) (hK : S.K = X.K) (hi : PE X i ty) (ho : PE X o td) : PC X .In i o (tNIn S X ty td) := by
  refine ⟨fun pins s σ H Q I h => ?_⟩
  refine thn (hi.run pins s σ H _ I h) fun iv s1 ⟨y, H1, I1, ry, q1⟩ => thn (ho.run pins s1 σ H1 _ I1 q1) fun u s2 ⟨x, H2, I2, rx, a, kvs, d, b, ex, ey, e, all, k, q2⟩ => ?_
  subst ex ey
  obtain rfl : u = Value.ref a := rx
  obtain rfl : iv = Value.ref b := ry
  exact nd_in hu hK I2 e all k fun s3 I3 => ⟨.bl (nval kvs (keyD d)).isSome, H2, I3, rfl, q2⟩
theorem ps_nput (hu : (nestedKind X.prog X.w).room X.A.in1) (hK : S.K = X.K) (ho : PE X o td) (hi : PE X i ty) (hv : PE X value tv) (hs : swapsWith value (some (.Subscript o i pos')) pos.line X.env = pure false) :
    PS X (.Assign [.Subscript o i pos'] value pos) (sNPut S X td ty tv) := by
  refine ⟨fun pins s σ H D I h => ?_⟩
  refine wpAny_Assign_Subscript (thn (hv.run pins s σ H _ I h) fun r s1 ⟨v, H1, I1, rv, q1⟩ => thn (ho.run pins s1 σ H1 _ I1 q1) fun u s2 ⟨x, H2, I2, rx, q2⟩ => thn (hi.run pins s2 σ H2 _ I2 q2) fun iv s3 ⟨y, H3, I3, ry, a, kvs, d, b, ex, ey, e, all, k, l, hz, q3⟩ => ?_) hs
  subst ex ey
  obtain rfl : u = Value.ref a := rx
  obtain rfl : iv = Value.ref b := ry
  exact nd_setItem hu hK I3 e all k l hz rv fun s4 I4 => ⟨σ, _, I4, q3⟩
theorem nd_empty {P : Program} {w : World} {H : Hp} (h : Heap) (hb : sysModules < h.objs.size) : ObjOk P w H (h.push { cls := .type "dict", data := .dict #[] }) h.objs.size (ndo P w h.objs.size []) :=
  ndo_ok ⟨Nat.zero_le _, beq_eq_false_iff_ne.mpr (Ne.symm (Nat.ne_of_lt hb)), [], .nil, _, #[], 0, Heap.get?_push_size _ rfl, ⟨rfl, rfl, rfl⟩, rfl, rfl, List.nodup_nil⟩
theorem pe_nnew : PE X (.Dict [] [] pos) (tNNew X) := ⟨fun pins s σ H Q I h =>
  wpAny_Dict_empty ⟨.ref s.heap.objs.size, _, I.laid (a := s.heap.objs.size) (o := ndo X.prog X.w s.heap.objs.size []) (t' := s.toks) (fun _ _ q => Heap.get?_push_of_some _ q) (Nat.le_refl _) (nd_empty s.heap I.big), rfl, h _ (I.hok.fresh (Nat.le_refl _))⟩⟩
end
end Mir
namespace Mir
open PySem PySem.Spec PyProof.Rows L2
variable [Tbl]
def GRel (S : Sc) (G : Addr → Prop) (σ : L2.St) (H : Hp) (env : Env) : Prop := Rel S [] [] ⟨G, Nil, H, fun _ => none⟩ σ H (fun _ => []) env
section
variable {S : Sc} {G G' : Addr → Prop} {σ σ' : L2.St} {H H' : Hp} {env env' : Env} {R : Rx} {fp : Fp}
theorem fs_none {R : Rx} {a : Addr} (h : Fs R (fun _ => []) a) : R.G a := h.elim id fun ⟨_, z⟩ => nomatch z
theorem fp_none (I : Rel S [] [] R σ H fp env) : fp = fun _ => [] := funext fun i => I.non i (.inl (List.not_mem_nil))
theorem GRel.of (I : Rel S [] [] R σ H fp env) (hg : R.G = G) : GRel S G σ H env := by
  subst hg
  have e := fp_none I
  subst e
  exact ⟨I.len, fun i d h1 h2 => let ⟨v, a, b⟩ := I.val i d h1 h2; ⟨v, a, b.less fun x z => .inl (.inl (fs_none z))⟩, fun i d _ h2 => (nomatch h2), fun _ _ => rfl, fun i j a h => (nomatch h), fun _ => List.nodup_nil, fun i a h => (nomatch h),
    Ext.refl _ _, I.gl, fun i a h => (nomatch h), fun _ h => h, fun a h => h.elim, I.tb, ⟨I.hbH, fun a h => h.elim⟩, .nil⟩
theorem GRel.mut (I : GRel S G σ H env) (e : Ext G H H') (hbe : Ext Nil S.Hb H') (g : ∀ a, G a → H' a ≠ none) (dom : ∀ a, H a ≠ none → H' a ≠ none) : GRel S G σ H' env := by
  have w : Fwd (Fs ⟨G, Nil, H, fun _ => none⟩ (fun _ => [])) H (Fs ⟨G, Nil, H', fun _ => none⟩ (fun _ => [])) H' := ⟨e.mono fun a z => .inl z, fun a z => .inl (.inl (fs_none z)), dom⟩
  exact ⟨I.len, fun i d h1 h2 => let ⟨v, a, b⟩ := I.val i d h1 h2; ⟨v, a, Rep.fwd w _ _ b⟩, fun i d _ h2 => (nomatch h2), fun _ _ => rfl, fun i j a h => (nomatch h), fun _ => List.nodup_nil, fun i a h => (nomatch h),
    Ext.refl _ _, g, fun i a h => (nomatch h), fun _ h => h, fun a h => h.elim, tb_ext e I.tb, ⟨hbe, fun a h => h.elim⟩, .nil⟩
theorem GRel.upd (I : GRel S G σ H env) {a : Addr} (ga : G a) (o : HO) {o0 : HO} (ha : H a = some o0) (nb : S.Hb a = none) (mu : Mut (some o0) := by trivial) (ny : NY a o0 := by first | exact NX.y (by trivial) | exact ndo_nc) : GRel S G σ (L2.upd H a o) env := by
  refine I.mut (ext_againY (Ext.refl _ _) ha (.inl ga) mu ny) (ext_againY I.hbH ha (.inr nb) mu ny) (fun b h => ?_) fun b h => ?_
  · by_cases e : b = a
    · rw [e, upd_same]; exact fun z => nomatch z
    · rw [upd_ne e]; exact I.gl b h
  · by_cases e : b = a
    · rw [e, upd_same]; exact fun z => nomatch z
    · rw [upd_ne e]; exact h
theorem GRel.new (I : GRel S G σ H env) {p : Addr} {o : HO} (hp : H p = none) : GRel S (fun x => G x ∨ x = p) σ (L2.upd H p o) env :=
  GRel.of (R := Rx.plus ⟨G, Nil, H, fun _ => none⟩ p) (I.plus (H' := L2.upd H p o) hp (Ext.new hp) (by rw [upd_same]; exact fun z => nomatch z)) rfl
theorem GRel.ghost (I : GRel S G σ H env) {i : Nat} {v : V} (hi : ∀ d, env[i]? ≠ some (some d)) : GRel S G (σ.set i (some v)) H env := by
  refine ⟨by rw [List.length_set]; exact I.len, fun j d h1 h2 => ?_, fun j d _ h2 => (nomatch h2), fun _ _ => rfl, fun i j a h => (nomatch h), fun _ => List.nodup_nil, fun i a h => (nomatch h), I.ext, I.gl, fun i a h => (nomatch h), I.dom, I.mh, I.tb, ⟨I.hb.e, I.hb.m⟩, .nil⟩
  have ne : i ≠ j := fun z => hi d (by rw [z]; exact h1)
  rw [List.getElem?_set_ne ne]
  exact I.val j d h1 h2
end
end Mir
namespace Mir
open PySem PySem.Spec PyProof.Rows L2
variable [Tbl]
section
variable {S : Sc}
mutual
theorem rep_pureX {M F F' : Addr → Prop} {H H' : Hp} (e : Ext M H H') : ∀ (d : D) (v : V), d.pure = true → Rep S F H d v → Rep S F' H' d v
  | .non, _, _, h => h
  | .bl _, _, _, h => h
  | .int _, _, _, h => h
  | .str _, _, _, h => h
  | .tup ds, v, p, h => by
    obtain ⟨a, vs, rfl, h1, h2⟩ := h
    exact ⟨a, vs, rfl, sqt_ext e h1, repL_pureX e ds vs p h2⟩
  | .lst _, _, p, _ => by cases p
  | .ins _ _, _, p, _ => by cases p
  | .dic _ _, _, p, _ => by cases p
  | .map _ _, _, p, _ => by cases p
theorem repL_pureX {M F F' : Addr → Prop} {H H' : Hp} (e : Ext M H H') : ∀ (ds : List D) (vs : List V), D.pureL ds = true → RepL S F H ds vs → RepL S F' H' ds vs
  | [], _, _, h => h
  | d :: ds, vs, p, h => by
    obtain ⟨v, r, rfl, h1, h2⟩ := h
    have p := (Bool.and_eq_true_iff.mp p)
    exact ⟨v, r, rfl, rep_pureX e d v p.1 h1, repL_pureX e ds r p.2 h2⟩
end
theorem KeyAt.ext {M : Addr → Prop} {H H' : Hp} {d : D} {a : Addr} (h : KeyAt S H d a) (e : Ext M H H') : KeyAt S H' d a := ⟨h.1, h.2.1, rep_pureX e d _ h.1 h.2.2⟩
theorem GRel.expr {E : XK} {G : Addr → Prop} {t : TE} {m : EM} {σ : L2.St} {H : Hp} {env : Env} {d : D} {Q : VK} (hr : RefE S [] [] E none false t m) (I : GRel S G σ H env) (hm : m env = .ok d env) (k : ∀ v H', GRel S G σ H' env → Ext Nil H H' → Rep S G H' d v → Q v H') : t σ H Q := by
  refine hr ⟨G, Nil, H, fun _ => none⟩ σ H (fun _ => []) env I Q ?_
  rw [hm]
  intro H' fp' I' s' v hv _
  have s : Fwd (Lv fun _ => []) H (Lv fp') H' := s'
  exact k v H' (GRel.of I' rfl) (s.1.mono fun a ⟨i, z⟩ => nomatch z) (hv.rep.less fun a z => .inl (.inl z))
theorem GRel.set {G : Addr → Prop} {σ : L2.St} {H : Hp} {env : Env} {i : Nat} {d : D} {v : V} (I : GRel S G σ H env) (r : Rep S G H d v) : GRel S G (σ.set i (some v)) H (env.set i (some d)) :=
  Rel.set I (by simp) (r.less fun a z => .inl (fs_none z))
theorem GRel.get {G : Addr → Prop} {σ : L2.St} {H : Hp} {env : Env} {i : Nat} {d : D} (I : GRel S G σ H env) (h : env[i]? = some (some d)) : ∃ v, σ[i]? = some (some v) ∧ Rep S G H d v := by
  obtain ⟨v, h1, h2⟩ := I.val i d h (by simp)
  exact ⟨v, h1, h2.less fun a z => .inl (.inl z)⟩
end
structure StR where
  scs : List D
  evs : List D
  start : Nat
  last : D
def storyGo (nx : D → Nat → Option (D × D)) (ky : D → Nat → Option (List D)) : Nat → D → List D → List D → List D → Option StR
  | 0, _, _, _, _ => none
  | n + 1, sc, ks, scs, evs => (nx sc ks.length).bind fun p => (ky p.1 ks.length).bind fun l =>
    if (D.tup l).pure = true ∧ (keyD (.tup l)).depth ≤ 8 ∧ ks.length < sizeLine then
      match ks.findIdx? (fun d => decide (keyD d = keyD (.tup l))) with
      | some i => some ⟨scs, evs, i, p.2⟩
      | none => storyGo nx ky n p.1 (ks ++ [.tup l]) (scs ++ [p.1]) (evs ++ [p.2])
    else none
theorem storyGo_mono {nx : D → Nat → Option (D × D)} {ky : D → Nat → Option (List D)} : ∀ {n m : Nat} {sc : D} {ks scs evs : List D} {r : StR}, n ≤ m → storyGo nx ky n sc ks scs evs = some r → storyGo nx ky m sc ks scs evs = some r
  | 0, _, _, _, _, _, _, _, h => by cases h
  | n + 1, 0, _, _, _, _, _, hm, _ => by omega
  | n + 1, m + 1, sc, ks, scs, evs, r, hm, h => by
    unfold storyGo at h ⊢
    cases h1 : nx sc ks.length with
    | none => rw [h1] at h; cases h
    | some p =>
      rw [h1] at h
      simp only [Option.bind_some] at h ⊢
      cases h2 : ky p.1 ks.length with
      | none => rw [h2] at h; cases h
      | some l =>
        rw [h2] at h
        simp only [Option.bind_some] at h ⊢
        split at h
        · rename_i c
          rw [if_pos c]
          split at h
          · rename_i i e
            exact h
          · rename_i e
            exact storyGo_mono (by omega) h
        · cases h
open Classical in
noncomputable def storyRun (nx : D → Nat → Option (D × D)) (ky : D → Nat → Option (List D)) (sc : D) : Option StR :=
  if x : ∃ n r, storyGo nx ky n sc [] [] [] = some r then some (Classical.choose (Classical.choose_spec x)) else none
theorem storyRun_go {nx : D → Nat → Option (D × D)} {ky : D → Nat → Option (List D)} {sc : D} {r : StR} (h : storyRun nx ky sc = some r) : ∃ n, storyGo nx ky n sc [] [] [] = some r := by
  unfold storyRun at h
  split at h
  · rename_i x
    have := Classical.choose_spec (Classical.choose_spec x)
    cases h
    exact ⟨_, this⟩
  · cases h
theorem storyRun_of {nx : D → Nat → Option (D × D)} {ky : D → Nat → Option (List D)} {sc : D} {n : Nat} {r : StR} (h : storyGo nx ky n sc [] [] [] = some r) : storyRun nx ky sc = some r := by
  have x : ∃ n r, storyGo nx ky n sc [] [] [] = some r := ⟨n, r, h⟩
  unfold storyRun
  rw [dif_pos x]
  have e := Classical.choose_spec (Classical.choose_spec x)
  have e1 := storyGo_mono (Nat.le_max_left n (Classical.choose x)) h
  have e2 := storyGo_mono (Nat.le_max_right n (Classical.choose x)) e
  rw [e1] at e2
  cases e2
  rfl
end Mir
namespace Mir
open PySem PySem.Spec PyProof.Rows L2
variable [Tbl]
def storyG (G0 : Addr → Prop) (a la lb sn : Addr) : Addr → Prop := fun x => G0 x ∨ x = a ∨ x = la ∨ x = lb ∨ x = sn
structure SH (S : Sc) (X : Cx) (c : Nat) (G0 : Addr → Prop) (H0 : Hp) (a la lb sn : Addr) (H : Hp) (ks scs evs : List D) (st : V) : Prop where
  ins : ∃ dx, H a = some (.ins (S.ca c) dx [("scenes", .ref la), ("events", .ref lb), ("start", st)])
  hla : ∃ vs, H la = some (.lst vs) ∧ RepL S (storyG G0 a la lb sn) H scs vs
  hlb : ∃ vs, H lb = some (.lst vs) ∧ RepL S (storyG G0 a la lb sn) H evs vs
  kv : ∃ kvs : List NE, H sn = some (ndo X.prog X.w sn kvs) ∧ (∀ e ∈ kvs, KeyAt S H e.1 e.2.1) ∧ kvs.map (·.1) = ks ∧ ∀ (i : Nat) (e : NE), kvs[i]? = some e → e.2.2 = .int i
  ext : Ext (Ls [a]) H0 H
  dom : ∀ b, H0 b ≠ none → H b ≠ none
  gl : ∀ b, G0 b → H b ≠ none
section
variable {S : Sc} {X : Cx} {c : Nat} {G0 : Addr → Prop} {H0 : Hp} {a la lb sn : Addr} {H H' : Hp} {ks scs evs : List D} {st : V}
theorem SH.grow (h : SH S X c G0 H0 a la lb sn H ks scs evs st) (e : Ext Nil H H') : SH S X c G0 H0 a la lb sn H' ks scs evs st := by
  obtain ⟨⟨dx, h1⟩, ⟨v1, h2, h3⟩, ⟨v2, h4, h5⟩, ⟨kvs, h6, h7, h8, h9⟩, hx, hd, hg⟩ := h
  exact ⟨⟨dx, e.nil _ _ h1⟩, ⟨v1, e.nil _ _ h2, h3.grow e⟩, ⟨v2, e.nil _ _ h4, h5.grow e⟩, ⟨kvs, e.nil _ _ h6, fun x hx => (h7 x hx).ext e, h8, h9⟩, hx.trans (e.mono fun _ z => z.elim), fun b hb => e.dom (hd b hb), fun b hb => e.dom (hg b hb)⟩
theorem upd_ext {M : Addr → Prop} {H : Hp} {p : Addr} {o o0 : HO} (m : M p) (h0 : H p = some o0) (mu : Mut (some o0) := by trivial) (ny : NY p o0 := by first | exact NX.y (by trivial) | exact ndo_nc) : Ext M H (L2.upd H p o) := ext_againY (Ext.refl _ _) h0 (.inl m) mu ny
theorem fwd_upd {M : Addr → Prop} {H : Hp} {p : Addr} {o o0 : HO} (m : M p) (h0 : H p = some o0) (mu : Mut (some o0) := by trivial) (ny : NY p o0 := by first | exact NX.y (by trivial) | exact ndo_nc) : Fwd M H M (L2.upd H p o) := ⟨upd_ext m h0 mu ny, fun _ z => .inl z, fun b z => Mir.upd_dom z⟩
theorem ndo_ins {P : Program} {w : World} {b C dx : Addr} {kvs : List NE} {fs : List (Str × V)} (h : some (HO.ins C dx fs) = some (ndo P w b kvs)) : False := nomatch (show some (HO.ins C dx fs) = some (HO.ext (NDp P w b kvs)) from h)
theorem ndo_lst {P : Program} {w : World} {b : Addr} {kvs : List NE} {fs : List V} (h : some (HO.lst fs) = some (ndo P w b kvs)) : False := nomatch (show some (HO.lst fs) = some (HO.ext (NDp P w b kvs)) from h)
theorem putF_start {l1 l2 x y : V} : putF "start" y [(("scenes" : Str), l1), (("events" : Str), l2), (("start" : Str), x)] = [(("scenes" : Str), l1), (("events" : Str), l2), (("start" : Str), y)] := by
  unfold putF
  rw [if_neg (by decide +kernel)]
  unfold putF
  rw [if_neg (by decide +kernel)]
  unfold putF
  rw [if_pos rfl]
theorem SH.start (h : SH S X c G0 H0 a la lb sn H ks scs evs st) (nl : la ≠ lb) (y : V) : ∃ dx, H a = some (.ins (S.ca c) dx [("scenes", .ref la), ("events", .ref lb), ("start", st)]) ∧ SH S X c G0 H0 a la lb sn (L2.upd H a (.ins (S.ca c) dx [("scenes", .ref la), ("events", .ref lb), ("start", y)])) ks scs evs y := by
  obtain ⟨⟨dx, h1⟩, ⟨v1, h2, h3⟩, ⟨v2, h4, h5⟩, ⟨kvs, h6, h7, h8, h9⟩, hx, hd, hg⟩ := h
  have mu := h1
  have n1 : la ≠ a := fun z => by rw [z, h1] at h2; cases h2
  have n2 : lb ≠ a := fun z => by rw [z, h1] at h4; cases h4
  have n3 : sn ≠ a := fun z => by rw [z, h1] at h6; exact ndo_ins h6
  have w := fwd_upd (M := storyG G0 a la lb sn) (o := .ins (S.ca c) dx [("scenes", .ref la), ("events", .ref lb), ("start", y)]) (.inr (.inl rfl)) mu
  refine ⟨dx, h1, ⟨dx, upd_same⟩, ⟨v1, by rw [upd_ne n1]; exact h2, RepL.fwd w _ _ h3⟩, ⟨v2, by rw [upd_ne n2]; exact h4, RepL.fwd w _ _ h5⟩, ⟨kvs, by rw [upd_ne n3]; exact h6, fun x hx => (h7 x hx).ext w.1, h8, h9⟩,
    hx.trans (upd_ext (M := Ls [a]) List.mem_cons_self mu), fun b hb => Mir.upd_dom (hd b hb), fun b hb => Mir.upd_dom (hg b hb)⟩
theorem out_ext (hx : Ext (Ls [a]) H0 H) {p : Addr} {o o0 : HO} (n : H0 p = none) (h0 : H p = some o0) (mu : Mut (some o0) := by trivial) (ny : NY p o0 := by first | exact NX.y (by trivial) | exact ndo_nc) : Ext (Ls [a]) H0 (L2.upd H p o) := ext_againY hx h0 (.inr n) mu ny
theorem SH.key (h : SH S X c G0 H0 a la lb sn H ks scs evs st) (n0 : H0 sn = none) {kvs : List NE} (h6 : H sn = some (ndo X.prog X.w sn kvs)) (h7 : ∀ e ∈ kvs, KeyAt S H e.1 e.2.1) (h8 : kvs.map (·.1) = ks) (h9 : ∀ (i : Nat) (e : NE), kvs[i]? = some e → e.2.2 = .int i) {d : D} {b : Addr} (ka : KeyAt S H d b) {j : Int} (hj : j = (ks.length : Int)) :
    SH S X c G0 H0 a la lb sn (L2.upd H sn (ndo X.prog X.w sn (kvs ++ [(d, b, .int j)]))) (ks ++ [d]) scs evs st := by
  subst hj
  obtain ⟨⟨dx, h1⟩, ⟨v1, h2, h3⟩, ⟨v2, h4, h5⟩, _, hx, hd, hg⟩ := h
  have mu := h6
  have n1 : la ≠ sn := fun z => by rw [z, h6] at h2; exact ndo_lst h2.symm
  have n2 : lb ≠ sn := fun z => by rw [z, h6] at h4; exact ndo_lst h4.symm
  have n3 : a ≠ sn := fun z => by rw [z, h6] at h1; exact ndo_ins h1.symm
  have w := fwd_upd (M := storyG G0 a la lb sn) (o := ndo X.prog X.w sn (kvs ++ [(d, b, .int ks.length)])) (.inr (.inr (.inr (.inr rfl)))) mu
  refine ⟨⟨dx, by rw [upd_ne n3]; exact h1⟩, ⟨v1, by rw [upd_ne n1]; exact h2, RepL.fwd w _ _ h3⟩, ⟨v2, by rw [upd_ne n2]; exact h4, RepL.fwd w _ _ h5⟩, ⟨_, upd_same, fun x hx => ?_, by rw [List.map_append, h8]; rfl, fun i e he => ?_⟩,
    out_ext hx n0 mu, fun b hb => Mir.upd_dom (hd b hb), fun b hb => Mir.upd_dom (hg b hb)⟩
  · rcases List.mem_append.mp hx with hx | hx
    · exact (h7 x hx).ext w.1
    · rw [List.mem_singleton.mp hx]
      exact ka.ext w.1
  · rcases Nat.lt_or_ge i kvs.length with q | q
    · rw [List.getElem?_append_left q] at he
      exact h9 i e he
    · rw [List.getElem?_append_right q] at he
      have hl : kvs.length = ks.length := by rw [← h8, List.length_map]
      cases hq : i - kvs.length with
      | zero =>
        rw [hq] at he
        cases he
        have : i = ks.length := by omega
        rw [this]
      | succ k => rw [hq] at he; cases he
theorem SH.app1 (h : SH S X c G0 H0 a la lb sn H ks scs evs st) (n0 : H0 la = none) (nl : la ≠ lb) {vs : List V} (h2 : H la = some (.lst vs)) (h3 : RepL S (storyG G0 a la lb sn) H scs vs) {d : D} {v : V} (r : Rep S (storyG G0 a la lb sn) H d v) :
    SH S X c G0 H0 a la lb sn (L2.upd H la (.lst (vs ++ [v]))) ks (scs ++ [d]) evs st := by
  obtain ⟨⟨dx, h1⟩, _, ⟨v2, h4, h5⟩, ⟨kvs, h6, h7, h8, h9⟩, hx, hd, hg⟩ := h
  have mu := h2
  have n1 : sn ≠ la := fun z => by rw [z, h2] at h6; exact ndo_lst h6
  have n3 : a ≠ la := fun z => by rw [z, h2] at h1; cases h1
  have w := fwd_upd (M := storyG G0 a la lb sn) (o := .lst (vs ++ [v])) (.inr (.inr (.inl rfl))) mu
  exact ⟨⟨dx, by rw [upd_ne n3]; exact h1⟩, ⟨_, upd_same, (RepL.fwd w _ _ h3).snoc (Rep.fwd w _ _ r)⟩, ⟨v2, by rw [upd_ne (Ne.symm nl)]; exact h4, RepL.fwd w _ _ h5⟩, ⟨kvs, by rw [upd_ne n1]; exact h6, fun x hx => (h7 x hx).ext w.1, h8, h9⟩,
    out_ext hx n0 mu, fun b hb => Mir.upd_dom (hd b hb), fun b hb => Mir.upd_dom (hg b hb)⟩
theorem SH.app2 (h : SH S X c G0 H0 a la lb sn H ks scs evs st) (n0 : H0 lb = none) (nl : la ≠ lb) {vs : List V} (h4 : H lb = some (.lst vs)) (h5 : RepL S (storyG G0 a la lb sn) H evs vs) {d : D} {v : V} (r : Rep S (storyG G0 a la lb sn) H d v) :
    SH S X c G0 H0 a la lb sn (L2.upd H lb (.lst (vs ++ [v]))) ks scs (evs ++ [d]) st := by
  obtain ⟨⟨dx, h1⟩, ⟨v1, h2, h3⟩, _, ⟨kvs, h6, h7, h8, h9⟩, hx, hd, hg⟩ := h
  have mu := h4
  have n1 : sn ≠ lb := fun z => by rw [z, h4] at h6; exact ndo_lst h6
  have n3 : a ≠ lb := fun z => by rw [z, h4] at h1; cases h1
  have w := fwd_upd (M := storyG G0 a la lb sn) (o := .lst (vs ++ [v])) (.inr (.inr (.inr (.inl rfl)))) mu
  exact ⟨⟨dx, by rw [upd_ne n3]; exact h1⟩, ⟨v1, by rw [upd_ne nl]; exact h2, RepL.fwd w _ _ h3⟩, ⟨_, upd_same, (RepL.fwd w _ _ h5).snoc (Rep.fwd w _ _ r)⟩, ⟨kvs, by rw [upd_ne n1]; exact h6, fun x hx => (h7 x hx).ext w.1, h8, h9⟩,
    out_ext hx n0 mu, fun b hb => Mir.upd_dom (hd b hb), fun b hb => Mir.upd_dom (hg b hb)⟩
theorem nval_ix {kvs : List NE} {ks : List D} (k : NestedKey) : ∀ (o : Nat), (kvs.map (·.1) = ks) → (∀ (i : Nat) (e : NE), kvs[i]? = some e → e.2.2 = .int ((o + i : Nat) : Int)) → nval kvs k = (ks.findIdx? (fun d => decide (keyD d = k))).map fun i : Nat => V.int ((o + i : Nat) : Int) := by
  intro o h8 h9
  subst h8
  induction kvs generalizing o with
  | nil => rfl
  | cons e r ih =>
    by_cases q : keyD e.1 = k
    · have h0 := h9 0 e rfl
      simp [nval, List.find?_cons, List.findIdx?_cons, q, h0]
    · have ih := ih (o + 1) fun i x hx => by
        have := h9 (i + 1) x hx
        rw [this, show o + 1 + i = o + (i + 1) by omega]
      have e1 : nval (e :: r) k = nval r k := by simp [nval, List.find?_cons, q]
      rw [e1, ih, List.map_cons, List.findIdx?_cons, if_neg (by simpa using q), Option.map_map]
      congr 1
      funext i
      show V.int ((o + 1 + i : Nat) : Int) = V.int ((o + (i + 1) : Nat) : Int)
      rw [show o + 1 + i = o + (i + 1) by omega]
theorem nval_at {kvs : List NE} {ks : List D} (k : NestedKey) (h8 : kvs.map (·.1) = ks) (h9 : ∀ (i : Nat) (e : NE), kvs[i]? = some e → e.2.2 = .int i) : nval kvs k = (ks.findIdx? (fun d => decide (keyD d = k))).map fun i : Nat => V.int (i : Int) := by
  have := nval_ix (kvs := kvs) (ks := ks) k 0 h8 (fun i e he => by rw [h9 i e he, Nat.zero_add])
  rw [this]
  congr 1
  funext i
  rw [Nat.zero_add]
end
end Mir
namespace Mir
open PySem PySem.Spec PyProof.Rows L2
variable [Tbl]
def storyB (S : Sc) (X : Cx) (ta tk : TE) : TS :=
  tSeq (tAsg ta (gTup S.K 2 (gCons (gName 2) (gCons (gName 6) gNil)))) <|
  tSeq (tAsg tk (gName 5)) <|
  tIfS (tB (tNIn S X (tVar 5) (tVar 4)))
    (sFld S.K (tVar 0) (tNGet S X (tVar 4) (tVar 5)) "start")
    (tSeq (sNPut S X (tVar 4) (tVar 5) (tVar 3)) <|
     tSeq (tDrop (tBM S.K "list" rAppend (tFld S.K (tVar 0) "scenes") (tCons (tVar 2) tNil))) <|
     tSeq (tDrop (tBM S.K "list" rAppend (tFld S.K (tVar 0) "events") (tCons (tVar 6) tNil))) <|
     tAug 3 (tC (.int 1)) (ipI fun i j => i + j))
def storyT (S : Sc) (X : Cx) (tf ta tk : TE) : TS :=
  tSeq (sFld S.K (tVar 0) (tLst tNil) "scenes") <|
  tSeq (sFld S.K (tVar 0) (tLst tNil) "events") <|
  tSeq (sFld S.K (tVar 0) (tC .non) "start") <|
  tSeq (tPar3 2 3 4 (tCons tf (tCons (tC (.int 0)) (tCons (tNNew X) tNil)))) <|
  tSeq (tWhile (tB (tIsN (tFld S.K (tVar 0) "start"))) (storyB S X ta tk))
  (sFld S.K (tVar 0) (tVar 6) "last")
def stE0 (h : D) : Env := [none, some h, none, none, none, none, none]
def stE1 (h sc : D) (t : Nat) (k ev : Option D) : Env := [none, some h, some sc, some (.int (t : Int)), none, k, ev]
noncomputable def dStory (c : Nat) (fs : D → Option D) (nx : D → D → Nat → Option (D × D)) (ky : D → D → Nat → Option (List D)) : DM0 := fun d ds => match d, ds with
  | .ins c' [], [h] => if c' = c then (match (fs h).bind (storyRun (nx h) (ky h)) with
    | some r => .ok .non (.ins c [.lst r.scs, .lst r.evs, .int (r.start : Int), r.last])
    | none => .bad) else .bad
  | _, _ => .bad
structure SW (S : Sc) (X : Cx) (c : Nat) (h : D) (G0 : Addr → Prop) (H0 : Hp) (a la lb sn : Addr) (r : StR) (m : Nat) (σ : L2.St) (H : Hp) (sc : D) (k ev : Option D) (ks scs evs : List D) (st : V) : Prop where
  rel : GRel S (storyG G0 a la lb sn) σ H (stE1 h sc ks.length k ev)
  s0 : σ[0]? = some (some (.ref a))
  s4 : σ[4]? = some (some (.ref sn))
  sh : SH S X c G0 H0 a la lb sn H ks scs evs st
  ls : scs.length = ks.length
  le : evs.length = ks.length
def SW1 (S : Sc) (X : Cx) (c : Nat) (h : D) (G0 : Addr → Prop) (H0 : Hp) (a la lb sn : Addr) (nx : D → Nat → Option (D × D)) (ky : D → Nat → Option (List D)) (r : StR) (m : Nat) (σ : L2.St) (H : Hp) : Prop :=
  (∃ n sc k ev ks scs evs, m = n + 1 ∧ storyGo nx ky n sc ks scs evs = some r ∧ SW S X c h G0 H0 a la lb sn r m σ H sc k ev ks scs evs .non) ∨
  (∃ sc k ks, m = 0 ∧ SW S X c h G0 H0 a la lb sn r m σ H sc k (some r.last) ks r.scs r.evs (.int (r.start : Int)))
section
variable {S : Sc} {X : Cx} {c : Nat} {h : D} {G0 : Addr → Prop} {H0 : Hp} {a la lb sn : Addr} {E : XK} {ta tk tf : TE} {ma mk mf : EM} {r : StR}
theorem story_turn (hbe : Ext Nil S.Hb H0) (hba : S.Hb a = none) (cl : Cls S.K (S.ca c)) (n1 : NoAttr S.K (S.ca c) "scenes") (n2 : NoAttr S.K (S.ca c) "events") (n3 : NoAttr S.K (S.ca c) "start")
    (nl : la ≠ lb) (z1 : H0 la = none) (z2 : H0 lb = none) (z3 : H0 sn = none)
    {nx : D → Nat → Option (D × D)} {ky : D → Nat → Option (List D)}
    (ra : RefE S [] [] E none false ta ma) (rk : RefE S [] [] E none false tk mk)
    (ha : ∀ sc t k ev p, nx sc t = some p → ma (stE1 h sc t k ev) = .ok (.tup [p.1, p.2]) (stE1 h sc t k ev))
    (hk : ∀ sc t k ev l, ky sc t = some l → mk (stE1 h sc t k ev) = .ok (.tup l) (stE1 h sc t k ev))
    {D : Ends} {m : Nat} {σ : L2.St} {H : Hp} (w : SW1 S X c h G0 H0 a la lb sn nx ky r m σ H)
    (fin : ∀ σ H sc k ks, SW S X c h G0 H0 a la lb sn r 0 σ H sc k (some r.last) ks r.scs r.evs (.int (r.start : Int)) → D.nx σ H) :
    tB (tIsN (tFld S.K (tVar 0) "start")) σ H fun b H1 => if b = true then ∃ N : L2.St → Hp → Prop, (∀ σ' H', N σ' H' → ∃ m', m' < m ∧ SW1 S X c h G0 H0 a la lb sn nx ky r m' σ' H') ∧ storyB S X ta tk { D with nx := N, ct := N, bk := D.nx } σ H1 else D.nx σ H1 := by
  rcases w with ⟨n, sc, k, ev, ks, scs, evs, rfl, hgo, w⟩ | ⟨sc, k, ks, rfl, w⟩
  · obtain ⟨dx, hin⟩ := w.sh.ins
    refine ⟨_, w.s0, a, S.ca c, dx, _, .non, rfl, hin, cl, n3, rfl, ?_⟩
    refine ⟨_, rfl, ?_⟩
    dsimp only
    rw [if_pos (by simp)]
    refine ⟨fun σ' H' => ∃ m', m' < n + 1 ∧ SW1 S X c h G0 H0 a la lb sn nx ky r m' σ' H', fun σ' H' x => x, ?_⟩
    cases n with
    | zero => cases hgo
    | succ n =>
    unfold storyGo at hgo
    cases q1 : nx sc ks.length with
    | none => rw [q1] at hgo; cases hgo
    | some p =>
    rw [q1] at hgo
    simp only [Option.bind_some] at hgo
    cases q2 : ky p.1 ks.length with
    | none => rw [q2] at hgo; cases hgo
    | some l =>
    rw [q2] at hgo
    simp only [Option.bind_some] at hgo
    split at hgo
    case isFalse => cases hgo
    rename_i hc
    obtain ⟨hp, hd, hz⟩ := hc
    refine GRel.expr ra w.rel (ha sc ks.length k ev p q1) fun v H1 I1 e1 rv => ?_
    obtain ⟨b1, vs1, rfl, t1, rv⟩ := rv
    obtain ⟨u1, w1, rfl, ru1, v2, w2, rfl, ru2, rfl⟩ := rv
    refine ⟨b1, _, rfl, t1, rfl, u1, _, rfl, v2, _, rfl, rfl, ?_⟩
    have I2 : GRel S (storyG G0 a la lb sn) ((σ.set 2 (some u1)).set 6 (some v2)) H1 (stE1 h p.1 ks.length k (some p.2)) := (I1.set (i := 2) ru1).set (i := 6) ru2
    refine GRel.expr rk I2 (hk p.1 ks.length k (some p.2) l q2) fun v H2 I3 e2 rv2 => ?_
    have rv3 := rv2
    obtain ⟨b2, vs2, rfl, _, _⟩ := rv3
    have KA : KeyAt S H2 (.tup l) b2 := ⟨hp, hd, rep_pureX (Ext.refl Nil _) _ _ hp rv2⟩
    have I4 : GRel S (storyG G0 a la lb sn) (((σ.set 2 (some u1)).set 6 (some v2)).set 5 (some (.ref b2))) H2 (stE1 h p.1 ks.length (some (.tup l)) (some p.2)) := I3.set (i := 5) rv2
    have hlen : σ.length = 7 := w.rel.len.symm
    have sh2 := (w.sh.grow e1).grow e2
    have s0 : (((σ.set 2 (some u1)).set 6 (some v2)).set 5 (some (.ref b2)))[0]? = some (some (.ref a)) := by
      rw [List.getElem?_set_ne (by decide), List.getElem?_set_ne (by decide), List.getElem?_set_ne (by decide)]; exact w.s0
    have s4 : (((σ.set 2 (some u1)).set 6 (some v2)).set 5 (some (.ref b2)))[4]? = some (some (.ref sn)) := by
      rw [List.getElem?_set_ne (by decide), List.getElem?_set_ne (by decide), List.getElem?_set_ne (by decide)]; exact w.s4
    have s5 : (((σ.set 2 (some u1)).set 6 (some v2)).set 5 (some (.ref b2)))[5]? = some (some (.ref b2)) := by
      rw [List.getElem?_set_self (by rw [List.length_set, List.length_set, hlen]; decide)]
    show tIfS (tB (tNIn S X (tVar 5) (tVar 4))) _ _ _ (((σ.set 2 (some u1)).set 6 (some v2)).set 5 (some (.ref b2))) H2
    generalize (((σ.set 2 (some u1)).set 6 (some v2)).set 5 (some (.ref b2))) = σ3 at I4 s0 s4 s5 ⊢
    obtain ⟨kvs, hkv, hall, h8, h9⟩ := sh2.kv
    have hnv := nval_at (keyD (.tup l)) h8 h9
    refine ⟨.ref b2, s5, .ref sn, s4, sn, kvs, .tup l, b2, rfl, rfl, hkv, hall, KA, ?_⟩
    refine ⟨_, rfl, ?_⟩
    cases qi : ks.findIdx? (fun d => decide (keyD d = keyD (.tup l))) with
    | some i =>
      rw [qi] at hgo hnv
      cases hgo
      rw [hnv, if_pos (by rfl)]
      obtain ⟨dx, hin2, sh3⟩ := sh2.start nl (.int (i : Int))
      refine ⟨.ref sn, s4, .ref b2, s5, sn, kvs, .tup l, b2, .int i, rfl, rfl, hkv, hall, KA, hnv, .ref a, s0, a, S.ca c, dx, _, rfl, hin2, cl, n3, by simp, ?_⟩
      rw [putF_start]
      exact ⟨0, by omega, .inr ⟨p.1, some (.tup l), ks, rfl, I4.upd (.inr (.inl rfl)) _ hin2 hba, s0, s4, sh3, w.ls, w.le⟩⟩
    | none =>
      rw [qi] at hgo hnv
      rw [hnv, if_neg (by simp)]
      obtain ⟨v3, s3, r3⟩ := I4.get (i := 3) rfl
      cases (show v3 = _ from r3)
      have hl : kvs.length = ks.length := by rw [← h8, List.length_map]
      refine ⟨_, s3, .ref sn, s4, .ref b2, s5, sn, kvs, .tup l, b2, rfl, rfl, hkv, hall, KA, hnv, by rw [hl]; exact hz, ?_⟩
      have sh3 := sh2.key z3 hkv hall h8 h9 KA (j := (ks.length : Int)) rfl
      have I5 := I4.upd (a := sn) (.inr (.inr (.inr (.inr rfl)))) (ndo X.prog X.w sn (kvs ++ [(.tup l, b2, .int (ks.length : Int))])) hkv (hb_new hbe z3)
      generalize L2.upd H2 sn (ndo X.prog X.w sn (kvs ++ [(.tup l, b2, .int (ks.length : Int))])) = H3 at sh3 I5 ⊢
      obtain ⟨dx, hin3⟩ := sh3.ins
      obtain ⟨xs, hxs, rxs⟩ := sh3.hla
      obtain ⟨y2, s2, r2⟩ := I5.get (i := 2) rfl
      refine ⟨.ref a, s0, a, S.ca c, dx, _, .ref la, rfl, hin3, cl, n1, rfl, .inl ⟨rfl, xs, .inl (.inl hxs)⟩, y2, s2, la, xs, y2, rfl, rfl, hxs, by rw [rxs.length, w.ls]; exact hz, ?_⟩
      have sh4 := sh3.app1 z1 nl hxs rxs r2
      have I6 := I5.upd (a := la) (.inr (.inr (.inl rfl))) (.lst (xs ++ [y2])) hxs (hb_new hbe z1)
      generalize L2.upd H3 la (.lst (xs ++ [y2])) = H4 at sh4 I6 ⊢
      obtain ⟨dx, hin4⟩ := sh4.ins
      obtain ⟨ys, hys, rys⟩ := sh4.hlb
      obtain ⟨y6, s6, r6⟩ := I6.get (i := 6) rfl
      refine ⟨.ref a, s0, a, S.ca c, dx, _, .ref lb, rfl, hin4, cl, n2, rfl, .inl ⟨rfl, ys, .inl (.inl hys)⟩, y6, s6, lb, ys, y6, rfl, rfl, hys, by rw [rys.length, w.le]; exact hz, ?_⟩
      have sh5 := sh4.app2 z2 nl hys rys r6
      have I7 := I6.upd (a := lb) (.inr (.inr (.inr (.inl rfl)))) (.lst (ys ++ [y6])) hys (hb_new hbe z2)
      refine ⟨_, s3, (ks.length : Int), 1, rfl, rfl, n + 1, by omega, .inl ⟨n, p.1, some (.tup l), some p.2, ks ++ [.tup l], scs ++ [p.1], evs ++ [p.2], rfl, hgo, ?_⟩⟩
      have ht : ((ks ++ [Mir.D.tup l]).length : Int) = (ks.length : Int) + 1 := by rw [List.length_append, List.length_singleton]; omega
      have I8 := I7.set (i := 3) (d := .int ((ks.length : Int) + 1)) (v := .int ((ks.length : Int) + 1)) rfl
      refine ⟨?_, by rw [List.getElem?_set_ne (by decide)]; exact s0, by rw [List.getElem?_set_ne (by decide)]; exact s4, sh5, by rw [List.length_append, List.length_append, w.ls, List.length_singleton, List.length_singleton], by rw [List.length_append, List.length_append, w.le, List.length_singleton, List.length_singleton]⟩
      unfold stE1
      rw [ht]
      exact I8
  · obtain ⟨dx, hin⟩ := w.sh.ins
    refine ⟨_, w.s0, a, S.ca c, dx, _, .int r.start, rfl, hin, cl, n3, rfl, ?_⟩
    refine ⟨_, rfl, ?_⟩
    dsimp only
    rw [if_neg (by simp)]
    exact fin σ H sc k ks w
theorem putF_last {l1 l2 x y : V} : putF "last" y [("scenes", l1), ("events", l2), ("start", x)] = [(("scenes" : Str), l1), (("events" : Str), l2), (("start" : Str), x), (("last" : Str), y)] := by
  unfold putF
  rw [if_neg (by decide +kernel)]
  unfold putF
  rw [if_neg (by decide +kernel)]
  unfold putF
  rw [if_neg (by decide +kernel)]
  unfold putF
  rfl
theorem putF_events {l1 y : V} : putF "events" y [("scenes", l1)] = [(("scenes" : Str), l1), (("events" : Str), y)] := by
  unfold putF
  rw [if_neg (by decide +kernel)]
  unfold putF
  rfl
theorem putF_start0 {l1 l2 y : V} : putF "start" y [("scenes", l1), ("events", l2)] = [(("scenes" : Str), l1), (("events" : Str), l2), (("start" : Str), y)] := by
  unfold putF
  rw [if_neg (by decide +kernel)]
  unfold putF
  rw [if_neg (by decide +kernel)]
  unfold putF
  rfl
theorem GRel.congr {G G' : Addr → Prop} {σ : L2.St} {H : Hp} {env : Env} (I : GRel S G σ H env) (e : ∀ x, G x ↔ G' x) : GRel S G' σ H env := by
  have : G = G' := funext fun x => propext (e x)
  rw [← this]
  exact I
theorem story_run (how : S.ow c = []) (hfn : S.fn c = (["scenes", "events", "start", "last"] : List Str)) (cl : Cls S.K (S.ca c)) (n1 : NoAttr S.K (S.ca c) "scenes") (n2 : NoAttr S.K (S.ca c) "events") (n3 : NoAttr S.K (S.ca c) "start") (n4 : NoAttr S.K (S.ca c) "last")
    {fs : Mir.D → Option Mir.D} {nx : Mir.D → Mir.D → Nat → Option (Mir.D × Mir.D)} {ky : Mir.D → Mir.D → Nat → Option (List Mir.D)}
    (rf : RefE S [] [] E none false tf mf) (ra : RefE S [] [] E none false ta ma) (rk : RefE S [] [] E none false tk mk)
    (hf : ∀ h s, fs h = some s → mf (stE0 h) = .ok s (stE0 h))
    (ha : ∀ h sc t k ev p, nx h sc t = some p → ma (stE1 h sc t k ev) = .ok (.tup [p.1, p.2]) (stE1 h sc t k ev))
    (hk : ∀ h sc t k ev l, ky h sc t = some l → mk (stE1 h sc t k ev) = .ok (.tup l) (stE1 h sc t k ev))
    {N : List Str} (hN : N.length = 7) {vs : List V} {H : Hp} {Q : VK} (sp : spM0 S 2 (dStory c fs nx ky) vs H Q E) :
    storyT S X tf ta tk { nx := fun _ H' => Q .non H', rt := Q } (L2.start N vs) H := by
  obtain ⟨G0, d0, ds, a, us, l, rfl, hl, hG, hL, hnd, hOw, hR, hw, htb⟩ := sp
  unfold dStory at hw
  split at hw
  case h_2 => exact hw.elim
  rename_i c' h
  split at hw
  case isFalse => exact hw.elim
  rename_i ec
  subst ec
  cases q0 : fs h with
  | none => rw [q0] at hw; exact hw.elim
  | some sc0 =>
  rw [q0] at hw
  simp only [Option.bind_some] at hw
  cases q1 : storyRun (nx h) (ky h) sc0 with
  | none => rw [q1] at hw; exact hw.elim
  | some r =>
  rw [q1] at hw
  obtain ⟨n, hgo⟩ := storyRun_go q1
  obtain ⟨fl0, rfl, dx, fs0, ha0, hfs, hof⟩ := hOw
  have hfs0 : fs0 = [] := by simpa using hfs
  subst hfs0
  rw [how] at hof
  cases hof.1
  obtain ⟨vh, w0, rfl, rh, hw0⟩ := hR
  cases (show w0 = [] from hw0)
  have eσ : L2.start N [V.ref a, vh] = [some (.ref a), some vh, none, none, none, none, none] := by
    unfold L2.start
    rw [hN]
    rfl
  rw [eσ]
  have e0 : ∀ {i : Nat} {d : Mir.D}, (stE0 h)[i]? = some (some d) → i = 1 ∧ d = h := fun {i d} z => by
    match i, z with
    | 0, z => cases z
    | 1, z => cases z; exact ⟨rfl, rfl⟩
    | 2, z => cases z
    | 3, z => cases z
    | 4, z => cases z
    | 5, z => cases z
    | 6, z => cases z
    | n + 7, z => simp [stE0] at z
  have hba : S.Hb a = none := htb.2.2 a List.mem_cons_self
  have I0 : GRel S (fun x => G0 x ∨ x = a) [some (.ref a), some vh, none, none, none, none, none] H (stE0 h) := by
    refine ⟨rfl, fun i d z _ => ?_, fun i d _ z => (nomatch z), fun _ _ => rfl, fun i j a h => (nomatch h), fun _ => List.nodup_nil, fun i a h => (nomatch h), Ext.refl _ _, fun x z => ?_, fun i a h => (nomatch h), fun _ z => z, fun x z => z.elim, htb.1, ⟨htb.2.1, fun x z => z.elim⟩, .nil⟩
    · obtain ⟨rfl, rfl⟩ := e0 z
      exact ⟨vh, rfl, rh.less fun x z => .inl ((fs_none z).imp id fun e => by rw [e]; exact List.mem_cons_self)⟩
    · rcases z with z | rfl
      · exact hG x z
      · rw [ha0]; exact fun z => nomatch z
  -- self.scenes
  refine ⟨Nat.zero_le _, fun la hla => ?_⟩
  have nla : a ≠ la := fun z => by rw [z, hla] at ha0; cases ha0
  have a1 : L2.upd H la (.lst []) a = some (.ins (S.ca c') dx []) := by rw [upd_ne nla]; exact ha0
  refine ⟨_, rfl, a, S.ca c', dx, [], rfl, a1, cl, n1, by decide, ?_⟩
  have I1 := (I0.new (o := .lst []) hla).upd (a := a) (.inl (.inr rfl)) (.ins (S.ca c') dx (putF "scenes" (.ref la) [])) a1 hba
  have x1 : Ext (Ls [a]) H (L2.upd (L2.upd H la (.lst [])) a (.ins (S.ca c') dx (putF "scenes" (.ref la) []))) := (Ext.new hla).trans (upd_ext List.mem_cons_self a1)
  have a2 : L2.upd (L2.upd H la (.lst [])) a (.ins (S.ca c') dx (putF "scenes" (.ref la) [])) a = some (.ins (S.ca c') dx [("scenes", .ref la)]) := upd_same
  have b2 : L2.upd (L2.upd H la (.lst [])) a (.ins (S.ca c') dx (putF "scenes" (.ref la) [])) la = some (.lst []) := by rw [upd_ne (Ne.symm nla), upd_same]
  have d2 : ∀ b, H b ≠ none → L2.upd (L2.upd H la (.lst [])) a (.ins (S.ca c') dx (putF "scenes" (.ref la) [])) b ≠ none := fun b z => Mir.upd_dom (Mir.upd_dom z)
  generalize L2.upd (L2.upd H la (.lst [])) a (.ins (S.ca c') dx (putF "scenes" (.ref la) [])) = H2 at I1 x1 a2 b2 d2 ⊢
  -- self.events
  refine ⟨Nat.zero_le _, fun lb hlb => ?_⟩
  have nlb : a ≠ lb := fun z => by rw [z, hlb] at a2; cases a2
  have nl : la ≠ lb := fun z => by rw [z, hlb] at b2; cases b2
  have zlb : H lb = none := by
    cases q : H lb with
    | none => rfl
    | some o => exact absurd hlb (d2 lb (by rw [q]; exact fun z => nomatch z))
  have a3 : L2.upd H2 lb (.lst []) a = some (.ins (S.ca c') dx [("scenes", .ref la)]) := by rw [upd_ne nlb]; exact a2
  refine ⟨_, rfl, a, S.ca c', dx, _, rfl, a3, cl, n2, by simp, ?_⟩
  rw [putF_events]
  have I3 := (I1.new (o := .lst []) hlb).upd (a := a) (.inl (.inl (.inr rfl))) (.ins (S.ca c') dx [("scenes", .ref la), ("events", .ref lb)]) a3 hba
  have x3 : Ext (Ls [a]) H (L2.upd (L2.upd H2 lb (.lst [])) a (.ins (S.ca c') dx [("scenes", .ref la), ("events", .ref lb)])) := x1.trans ((Ext.new hlb).trans (upd_ext List.mem_cons_self a3))
  have a4 : L2.upd (L2.upd H2 lb (.lst [])) a (.ins (S.ca c') dx [("scenes", .ref la), ("events", .ref lb)]) a = some (.ins (S.ca c') dx [("scenes", .ref la), ("events", .ref lb)]) := upd_same
  have b4 : L2.upd (L2.upd H2 lb (.lst [])) a (.ins (S.ca c') dx [("scenes", .ref la), ("events", .ref lb)]) la = some (.lst []) := by rw [upd_ne (Ne.symm nla), upd_ne nl]; exact b2
  have c4 : L2.upd (L2.upd H2 lb (.lst [])) a (.ins (S.ca c') dx [("scenes", .ref la), ("events", .ref lb)]) lb = some (.lst []) := by rw [upd_ne (Ne.symm nlb), upd_same]
  have d4 : ∀ b, H b ≠ none → L2.upd (L2.upd H2 lb (.lst [])) a (.ins (S.ca c') dx [("scenes", .ref la), ("events", .ref lb)]) b ≠ none := fun b z => Mir.upd_dom (Mir.upd_dom (d2 b z))
  generalize L2.upd (L2.upd H2 lb (.lst [])) a (.ins (S.ca c') dx [("scenes", .ref la), ("events", .ref lb)]) = H4 at I3 x3 a4 b4 c4 d4 ⊢
  -- self.start
  refine ⟨_, rfl, a, S.ca c', dx, _, rfl, a4, cl, n3, by simp, ?_⟩
  rw [putF_start0]
  have I5 := I3.upd (a := a) (.inl (.inl (.inr rfl))) (.ins (S.ca c') dx [("scenes", .ref la), ("events", .ref lb), ("start", .non)]) a4 hba
  have x5 : Ext (Ls [a]) H (L2.upd H4 a (.ins (S.ca c') dx [("scenes", .ref la), ("events", .ref lb), ("start", .non)])) := x3.trans (upd_ext List.mem_cons_self a4)
  have a6 : L2.upd H4 a (.ins (S.ca c') dx [("scenes", .ref la), ("events", .ref lb), ("start", .non)]) a = some (.ins (S.ca c') dx [("scenes", .ref la), ("events", .ref lb), ("start", .non)]) := upd_same
  have b6 : L2.upd H4 a (.ins (S.ca c') dx [("scenes", .ref la), ("events", .ref lb), ("start", .non)]) la = some (.lst []) := by rw [upd_ne (Ne.symm nla)]; exact b4
  have c6 : L2.upd H4 a (.ins (S.ca c') dx [("scenes", .ref la), ("events", .ref lb), ("start", .non)]) lb = some (.lst []) := by rw [upd_ne (Ne.symm nlb)]; exact c4
  have d6 : ∀ b, H b ≠ none → L2.upd H4 a (.ins (S.ca c') dx [("scenes", .ref la), ("events", .ref lb), ("start", .non)]) b ≠ none := fun b z => Mir.upd_dom (d4 b z)
  generalize L2.upd H4 a (.ins (S.ca c') dx [("scenes", .ref la), ("events", .ref lb), ("start", .non)]) = H6 at I5 x5 a6 b6 c6 d6 ⊢
  -- scene, tick, seen
  refine GRel.expr rf I5 (hf h sc0 q0) fun v H7 I7 e7 rv => ?_
  intro sn hsn
  refine ⟨v, _, _, rfl, ?_⟩
  have zsn : H sn = none := by
    cases q : H sn with
    | none => rfl
    | some o => exact absurd hsn (e7.dom (d6 sn (by rw [q]; exact fun z => nomatch z)))
  have rv8 := (rv.less (F' := fun x => (((G0 x ∨ x = a) ∨ x = la) ∨ x = lb) ∨ x = sn) fun x z => z.imp id fun e => by rw [e]; exact hsn).grow (Ext.new (o := ndo X.prog X.w sn []) hsn)
  have I8 := I7.new (o := ndo X.prog X.w sn []) hsn
  have I9 := (((I8.set (i := 2) rv8).set (i := 3) (d := .int 0) (v := .int 0) rfl).ghost (i := 4) (v := .ref sn) (fun d z => by cases z)).congr (G' := storyG G0 a la lb sn) fun x => by
    unfold storyG
    constructor
    · rintro ((((z | z) | z) | z) | z)
      · exact .inl z
      · exact .inr (.inl z)
      · exact .inr (.inr (.inl z))
      · exact .inr (.inr (.inr (.inl z)))
      · exact .inr (.inr (.inr (.inr z)))
    · rintro (z | z | z | z | z)
      · exact .inl (.inl (.inl (.inl z)))
      · exact .inl (.inl (.inl (.inr z)))
      · exact .inl (.inl (.inr z))
      · exact .inl (.inr z)
      · exact .inr z
  have nsa : a ≠ sn := fun z => by rw [← z, e7.nil _ _ a6] at hsn; cases hsn
  have nsl : la ≠ sn := fun z => by rw [← z, e7.nil _ _ b6] at hsn; cases hsn
  have nsb : lb ≠ sn := fun z => by rw [← z, e7.nil _ _ c6] at hsn; cases hsn
  have sh : SH S X c' G0 H a la lb sn (L2.upd H7 sn (ndo X.prog X.w sn [])) [] [] [] .non :=
    ⟨⟨dx, by rw [upd_ne nsa]; exact e7.nil _ _ a6⟩, ⟨[], by rw [upd_ne nsl]; exact e7.nil _ _ b6, RepL.nil⟩, ⟨[], by rw [upd_ne nsb]; exact e7.nil _ _ c6, RepL.nil⟩, ⟨([] : List NE), upd_same, fun _ z => (nomatch z), rfl, fun i e z => (by simp at z)⟩,
      x5.trans ((e7.mono fun _ z => z.elim).trans (Ext.new hsn)), fun b z => Mir.upd_dom (e7.dom (d6 b z)), fun b z => Mir.upd_dom (e7.dom (d6 b (hG b z)))⟩
  refine ⟨SW1 S X c' h G0 H a la lb sn (nx h) (ky h) r, ⟨n + 1, .inl ⟨n, sc0, none, none, [], [], [], rfl, hgo, I9, rfl, rfl, sh, rfl, rfl⟩⟩, fun m σ H9 w => ?_⟩
  refine story_turn htb.2.1 hba cl n1 n2 n3 nl hla zlb zsn ra rk (ha h) (hk h) w fun σ H9 sc k ks w => ?_
  obtain ⟨y6, s6, r6⟩ := w.rel.get (i := 6) rfl
  obtain ⟨dx2, hin⟩ := w.sh.ins
  refine ⟨y6, s6, _, w.s0, a, S.ca c', dx2, _, rfl, hin, cl, n4, by simp, ?_⟩
  rw [putF_last]
  have mu := hin
  have hw : WantF0 S E G0 H a [a] Q (.ok .non (.ins c' [.lst r.scs, .lst r.evs, .int (r.start : Int), r.last])) := hw
  have wf := fwd_upd (M := storyG G0 a la lb sn) (o := .ins (S.ca c') dx2 [("scenes", .ref la), ("events", .ref lb), ("start", .int (r.start : Int)), ("last", y6)]) (.inr (.inl rfl)) mu
  obtain ⟨v1, h2, h3⟩ := w.sh.hla
  obtain ⟨v2, h4, h5⟩ := w.sh.hlb
  have sub : ∀ x, ((G0 x ∨ x ∈ [a]) ∨ x ∈ [a]) → storyG G0 a la lb sn x := fun x z => z.elim (fun z => z.imp id fun z => .inl (List.mem_singleton.mp z)) fun z => .inr (.inl (List.mem_singleton.mp z))
  have nf1 : ¬ ((G0 la ∨ la ∈ [a]) ∨ la ∈ [a]) := fun z => z.elim (fun z => z.elim (fun z => hG la z hla) fun z => nla (List.mem_singleton.mp z).symm) fun z => nla (List.mem_singleton.mp z).symm
  have nf2 : ¬ ((G0 lb ∨ lb ∈ [a]) ∨ lb ∈ [a]) := fun z => z.elim (fun z => z.elim (fun z => hG lb z zlb) fun z => nlb (List.mem_singleton.mp z).symm) fun z => nlb (List.mem_singleton.mp z).symm
  refine hw .non _ [a] ⟨w.sh.ext.trans (upd_ext (M := Ls [a]) List.mem_cons_self mu), fun x z => .inl z, fun b z => Mir.upd_dom (w.sh.dom b z)⟩ ⟨[], rfl, dx2, _, upd_same, by rw [hfn]; rfl, ?_⟩ (by simp) (fun b z => by rw [List.mem_singleton.mp z, upd_same]; exact fun z => nomatch z) rfl
  rw [how]
  refine ⟨rfl, ?_⟩
  refine .cons ⟨la, v1, rfl, nf1, by rw [upd_ne (Ne.symm nla)]; exact h2, (RepL.fwd wf _ _ h3).less fun x z => .inl (sub x z)⟩ (.cons ⟨lb, v2, rfl, nf2, by rw [upd_ne (Ne.symm nlb)]; exact h4, (RepL.fwd wf _ _ h5).less fun x z => .inl (sub x z)⟩ (.cons rfl (.cons ((Rep.fwd wf _ _ r6).less fun x z => .inl (sub x z)) .nil)))
end
end Mir
namespace Mir
open PySem PySem.Spec PyProof.Rows L2
variable [Tbl]
section
variable {P : Program} {w : World} {K : PySem.W.Frag} {mg : Str → Option Value} {base : Heap} {S : Sc}
theorem fnD_okH {x qual : Str} {params : Arguments} {body : List Stmt} {scope : Scope} {dvs : List V} {kws : List (Str × V)} {f : Addr} {fd : FuncData} {N ps : List Str} {k : Nat} {m : DM0} (F : FunD K x qual params body scope dvs kws f fd) (sc : FnScope N ps scope)
    (hb : ∀ (cdv : Value) (A : Around) (outer : List PySem.Env) (s : Shared) (H : Hp) (E : XK), Room k (A.deeper (envOfC qual scope s.heap.objs.size f cdv)) →
      ∃ t, PSs (cxOf CX0 P w K mg base N qual scope f cdv A outer s H E).nox body t ∧ ∀ vs H Q, spM0 S ps.length m vs H Q E → t { nx := fun _ H' => Q .non H', rt := Q } (L2.start N vs) H) :
    FnOk P w K mg base CX0 (k + 1) f fd ps (spM0 S ps.length m) := by
  obtain ⟨oc, od, dV, kV, doc, pm, an, cdv, ct, osl, rfl, lk, hcd, _, _⟩ := F.ex
  refine fn_of lk hcd sc (fun vs H Q E h => ?_) fun A outer s H vs Q E hr hsp => ?_
  · obtain ⟨G, d0, ds, a, us, l, _, h, _⟩ := h
    exact h
  · obtain ⟨t, h1, h2⟩ := hb cdv A outer s H E hr
    exact ⟨t, h1.nox, h2 _ _ _ hsp⟩
end
theorem room_n {X : Cx} (h : X.A.units + 64 < cLine) : (nestedKind X.prog X.w).room X.A.in1 := by
  show X.A.units + 1 + 8 < cLine
  omega
def stF (f : DM) (h : D) : Option D := match f [h] with
  | .ok s => some s
  | _ => none
def stN (f : DM) (h sc : D) (t : Nat) : Option (D × D) := match f [h, sc, .int (t : Int)] with
  | .ok (.tup [s, e]) => some (s, e)
  | _ => none
def stK (c : Nat) (f : DM) (h sc : D) (t : Nat) : Option (List D) := match h with
  | .ins c' ds => if c' = c then (match f [.ins c' ds] with
    | .ok (.int p) => if p ≠ 0 then some [.int ((t : Int).fmod p), sc] else none
    | _ => none) else none
  | _ => none
theorem stF_ok {f : DM} {h s : D} (q : stF f h = some s) : (eCall f [] (aCons (eVar 1) aNil)) (stE0 h) = .ok s (stE0 h) := by
  show (f [h]).out (stE0 h) = _
  unfold stF at q
  split at q
  · rename_i s' e
    cases q
    rw [e]
    rfl
  · cases q
theorem stN_ok {f : DM} {h sc : D} {t : Nat} {k ev : Option D} {p : D × D} (q : stN f h sc t = some p) : (eCall f [] (aCons (eVar 1) (aCons (eVar 2) (aCons (eVar 3) aNil)))) (stE1 h sc t k ev) = .ok (.tup [p.1, p.2]) (stE1 h sc t k ev) := by
  show (f [h, sc, .int (t : Int)]).out (stE1 h sc t k ev) = _
  unfold stN at q
  split at q
  · rename_i s' e' e
    cases q
    rw [e]
    rfl
  · cases q
theorem stK_ok {c : Nat} {f : DM} {h sc : D} {t : Nat} {k ev : Option D} {l : List D} (q : stK c f h sc t = some l) : (eTup (aCons (e2 oMod (eVar 3) (eProp c f (eVar 1))) (aCons (eVar 2) aNil))) (stE1 h sc t k ev) = .ok (.tup l) (stE1 h sc t k ev) := by
  unfold stK at q
  split at q
  case h_2 => cases q
  rename_i c' ds
  split at q
  case isFalse => cases q
  rename_i ec
  split at q
  case h_2 => cases q
  rename_i p e
  split at q
  case isFalse => cases q
  rename_i hp
  cases q
  have h1 : (eProp c f (eVar 1)) (stE1 (.ins c' ds) sc t k ev) = .ok (.int p) (stE1 (.ins c' ds) sc t k ev) := by
    unfold eProp
    show (if c' = c then (match f [.ins c' ds] with
      | .ok d => Out.ok d _
      | _ => .bad) else .bad) = _
    rw [if_pos ec, e]
  have h2 : (e2 oMod (eVar 3) (eProp c f (eVar 1))) (stE1 (.ins c' ds) sc t k ev) = .ok (.int ((t : Int).fmod p)) (stE1 (.ins c' ds) sc t k ev) := by
    show Out.bind (eProp c f (eVar 1) (stE1 (.ins c' ds) sc t k ev)) (fun y e' => .opt (oMod (.int (t : Int)) y) e') = _
    rw [h1]
    show Out.opt (if p ≠ 0 then some (D.int ((t : Int).fmod p)) else none) _ = _
    rw [if_pos hp]
    rfl
  show Out.bind (Out.bind (e2 oMod (eVar 3) (eProp c f (eVar 1)) (stE1 (.ins c' ds) sc t k ev)) (fun x e => (aCons (eVar 2) aNil e).bind fun xs e' => .ok (x :: xs) e')) _ = _
  rw [h2]
  rfl
theorem ar_dStory {c : Nat} {fs : D → Option D} {nx : D → D → Nat → Option (D × D)} {ky : D → D → Nat → Option (List D)} {d : D} {ds : List D} (h : dStory c fs nx ky d ds ≠ .bad) : ds.length + 1 = 2 := by
  unfold dStory at h
  split at h
  · rfl
  · exact absurd rfl h
section
variable {S : Sc} {X : Cx} {c : Nat} {E : XK} {ta tk tf : TE} {ma mk mf : EM} {body : List Stmt}
theorem story_pair (h1 : PSs X body (storyT S X tf ta tk)) (rf : RefE S [] [] E none false tf mf) (ra : RefE S [] [] E none false ta ma) (rk : RefE S [] [] E none false tk mk)
    (hfn : S.fn c = (["scenes", "events", "start", "last"] : List Str)) (cl : Cls S.K (S.ca c)) (n1 : NoAttr S.K (S.ca c) "scenes") (n2 : NoAttr S.K (S.ca c) "events") (n3 : NoAttr S.K (S.ca c) "start") (n4 : NoAttr S.K (S.ca c) "last")
    {fs : Mir.D → Option Mir.D} {nx : Mir.D → Mir.D → Nat → Option (Mir.D × Mir.D)} {ky : Mir.D → Mir.D → Nat → Option (List Mir.D)}
    (hf : ∀ h s, fs h = some s → mf (stE0 h) = .ok s (stE0 h))
    (ha : ∀ h sc t k ev p, nx h sc t = some p → ma (stE1 h sc t k ev) = .ok (.tup [p.1, p.2]) (stE1 h sc t k ev))
    (hk : ∀ h sc t k ev l, ky h sc t = some l → mk (stE1 h sc t k ev) = .ok (.tup l) (stE1 h sc t k ev))
    {N : List Str} (hN : N.length = 7) (how : S.ow c = [] := by exact rfl) :
    ∃ t, PSs X body t ∧ ∀ vs H Q, spM0 S 2 (dStory c fs nx ky) vs H Q E → t { nx := fun _ H' => Q .non H', rt := Q } (L2.start N vs) H :=
  ⟨_, h1, fun vs H Q sp => story_run how hfn cl n1 n2 n3 n4 rf ra rk hf ha hk hN sp⟩
end
end Mir
namespace Mir
open PySem PySem.Spec PyProof.Rows L2
variable [Tbl]
section
variable {env : Env} {a b c : EM} {m n : SM} {t u : TM} {ar : AM} {x y z d : D} {i : Nat} {p q : Bool} {ds es : List D}
theorem k_var (h : env[i]? = some (some d)) : eVar i env = .ok d env := by rw [ap_eVar, h]
theorem k_c : eC d env = .ok d env := rfl
theorem k_e1 {f : D → Option D} (ha : a env = .ok x env) (hf : f x = some z) : e1 f a env = .ok z env := by rw [ap_e1, ha, Out.bind_ok, hf]; rfl
theorem k_e2 {f : D → D → Option D} (ha : a env = .ok x env) (hb : b env = .ok y env) (hf : f x y = some z) : e2 f a b env = .ok z env := by rw [ap_e2, ha, Out.bind_ok, hb, Out.bind_ok, hf]; rfl
theorem k_eA {f : List D → Option D} (ha : ar env = .ok ds env) (hf : f ds = some z) : eA f ar env = .ok z env := by rw [ap_eA, ha, Out.bind_ok, hf]; rfl
theorem k_nil : aNil env = .ok [] env := rfl
theorem k_cons (ha : a env = .ok x env) (hr : ar env = .ok ds env) : aCons a ar env = .ok (x :: ds) env := by rw [ap_aCons, ha, Out.bind_ok, hr]; rfl
theorem k_one (ha : a env = .ok x env) : aCons a aNil env = .ok [x] env := k_cons ha k_nil
theorem k_two (ha : a env = .ok x env) (hb : b env = .ok y env) : aCons a (aCons b aNil) env = .ok [x, y] env := k_cons ha (k_one hb)
theorem k_three (ha : a env = .ok x env) (hb : b env = .ok y env) (hc : c env = .ok z env) : aCons a (aCons b (aCons c aNil)) env = .ok [x, y, z] env := k_cons ha (k_two hb hc)
theorem k_A1 {f : D → Option D} (ha : a env = .ok x env) (hf : f x = some z) : eA (A1 f) (aCons a aNil) env = .ok z env := k_eA (k_one ha) hf
theorem k_tup (ha : ar env = .ok ds env) (hl : ds.length ≤ 100000 := by simp) : eTup ar env = .ok (.tup ds) env := by rw [ap_eTup, ha, Out.bind_ok, if_pos hl]; rfl
theorem k_lst (ha : ar env = .ok ds env) (hl : ds.length ≤ 100000 := by simp) : eLst ar env = .ok (.lst ds) env := by rw [ap_eLst, ha, Out.bind_ok, if_pos hl]; rfl
theorem k_up (ha : a env = .ok x env) (hp : x.pure = true) : eUp a env = .ok x env := by rw [ap_eUp, ha, Out.bind_ok, if_pos hp]
theorem k_test (ha : a env = .ok (.bl p) env) : mTest a env = .ok p env := by rw [ap_mTest, ha]; rfl
theorem k_and (ha : t env = .ok p env) (hb : p = true → u env = .ok q env) : mAnd t u env = .ok (p && q) env := by
  rw [ap_mAnd, ha, Out.bind_ok]
  cases p with
  | true => rw [if_pos rfl, hb rfl]; rfl
  | false => rfl
theorem k_or (ha : t env = .ok p env) (hb : p = false → u env = .ok q env) : mOr t u env = .ok (p || q) env := by
  rw [ap_mOr, ha, Out.bind_ok]
  cases p with
  | true => rfl
  | false => rw [if_neg (by decide), hb rfl]; rfl
theorem k_not (ha : t env = .ok p env) : mNot t env = .ok (!p) env := by rw [ap_mNot, ha]; rfl
theorem k_orV (ha : a env = .ok (.bl p) env) (hb : p = false → b env = .ok (.bl q) env) : eOrV a b env = .ok (.bl (p || q)) env := by
  rw [ap_eOrV, ha, Out.bind_ok, dd_boo, Out.opt_some, Out.bind_ok]
  cases p with
  | true => rfl
  | false => rw [if_neg (by decide), hb rfl]; rfl
theorem k_if (ht : t env = .ok p env) : eIf t a b env = if p then a env else b env := by rw [ap_eIf, ht]; rfl
theorem k_call {f : DM} {dds : List D} (ha : ar env = .ok ds env) (hf : f (ds ++ dds) = .ok d) : eCall f dds ar env = .ok d env := by rw [ap_eCall, ha, Out.bind_ok, hf]; rfl
theorem k_call0 {f : DM} (ha : ar env = .ok ds env) (hf : f ds = .ok d) : eCall f [] ar env = .ok d env := k_call ha (by rw [List.append_nil]; exact hf)
theorem k_meth {f : DM} {k : Nat} (ho : a env = .ok (.ins k es) env) (ha : ar env = .ok ds env) (hf : f (.ins k es :: ds) = .ok d) : eMeth k f [] a ar env = .ok d env := by
  rw [ap_eMeth, ho, Out.bind_ok]; dsimp only; rw [if_pos rfl, ha, Out.bind_ok, List.append_nil, hf]; rfl
theorem k_prop {f : DM} {k : Nat} (ho : a env = .ok (.ins k es) env) (hf : f [.ins k es] = .ok d) : eProp k f a env = .ok d env := by
  rw [ap_eProp, ho, Out.bind_ok]; dsimp only; rw [if_pos rfl, hf]
theorem k_fld {k j : Nat} (ho : a env = .ok (.ins k es) env) (h : es[j]? = some d) : eFld k j a env = .ok d env := by
  rw [ap_eFld, ho, Out.bind_ok]; unfold D.fld; dsimp only; rw [if_pos rfl, h]; rfl
theorem k_make {f : DM0} {k : Nat} (ha : ar env = .ok ds env) (hf : f (.ins k []) ds = .ok .non (.ins k es)) : eMake k f [] ar env = .ok (.ins k es) env := by
  rw [ap_eMake, ha, Out.bind_ok, List.append_nil, hf]; dsimp only; rw [if_pos rfl]
theorem k_rgL {k : Int} (ha : a env = .ok (.int k) env) (h : 0 ≤ k ∧ k ≤ 1000) : eRg false a env = .ok (.lst (rangeL 0 k.toNat)) env := by
  rw [ap_eRg, ha, Out.bind_ok, dd_toI, Out.opt_some, Out.bind_ok, if_pos (by omega)]; rfl
theorem k_itM (ha : a env = .ok x env) (h : x.items = some ds) : iSeqM a env = .ok ds env := by rw [ap_iSeqM, ha, Out.bind_ok, h]; rfl
theorem k_rng1 {k : Int} (ha : a env = .ok (.int k) env) (h : -(2 ^ 62) ≤ k ∧ k < 2 ^ 62) : iRng1M (aCons a aNil) env = .ok (rangeL 0 k.toNat) env := by
  rw [ap_iRng1M, k_one ha, Out.bind_ok]; unfold rng1; dsimp only; rw [if_pos h]; rfl
theorem w_asg (ha : a env = .ok d env) : sAsg a (gSet i) env = .next (env.set i (some d)) := by rw [ap_sAsg, ha]; rfl
theorem w_own (ha : a env = .ok d env) (hi : i < env.length) : sOwn a i env = .next (env.set i (some d)) := by rw [ap_sOwn, ha, Out.fl_ok, if_pos hi]
theorem w_ret (ha : a env = .ok d env) : sRet a env = .ret d env := by rw [ap_sRet, ha]; rfl
theorem w_drop (ha : a env = .ok d env) : sDrop a env = .next env := by rw [ap_sDrop, ha]; rfl
theorem w_app (h : env[i]? = some (some (.lst ds))) (ha : a env = .ok d env) (hl : ds.length < 100000) : sApp i a env = .next (env.set i (some (.lst (ds ++ [d])))) := by
  rw [ap_sApp, h]; dsimp only; rw [ha, Out.fl_ok, h]; dsimp only; rw [if_pos hl]
theorem w_ext (h : env[i]? = some (some (.lst ds))) (ha : a env = .ok (.lst es) env) (hl : ds.length + es.length ≤ 100000) : sExt i a env = .next (env.set i (some (.lst (ds ++ es)))) := by
  rw [ap_sExt, h]; dsimp only; rw [ha, Out.fl_ok, h]; dsimp only; rw [if_pos hl]
theorem w_aug {f : Int → Int → Int} {k l : Int} (h : env[i]? = some (some (.int k))) (ha : a env = .ok (.int l) env) : sAug i a f env = .next (env.set i (some (.int (f k l)))) := by
  rw [ap_sAug, h]; dsimp only; rw [ha, Out.fl_ok]
theorem w_seq {e : Env} (h : m env = .next e) : sSeq m n env = n e := by rw [ap_sSeq, h]; rfl
theorem w_seqR {e : Env} (h : m env = .ret d e) : sSeq m n env = .ret d e := by rw [ap_sSeq, h]; rfl
theorem w_ex {e : Env} (h : m env = .next e) (k : ∃ e', n e = .ret d e') : ∃ e', sSeq m n env = .ret d e' := let ⟨e', k⟩ := k; ⟨e', (w_seq h).trans k⟩
theorem w_if (ht : t env = .ok p env) : sIf t m n env = if p then m env else n env := by rw [ap_sIf, ht]; rfl
theorem lcGo_pure {α : Type} (inj : α → D) (p : α → Bool) (f : α → D) {w : Env} {c : TM} {e : EM} : ∀ (xs : List α) (acc : List D), acc.length + xs.length ≤ 100000 → w[i]? = some none →
    (∀ x ∈ xs, c (w.set i (some (inj x))) = .ok (p x) (w.set i (some (inj x)))) → (∀ x ∈ xs, p x = true → e (w.set i (some (inj x))) = .ok (f x) (w.set i (some (inj x)))) →
    lcGo [i] (gSet i) c e (xs.map inj) acc w = .ok (acc ++ (xs.filter p).map f) w
  | [], acc, _, _, _, _ => by rw [List.map_nil, List.filter_nil, List.map_nil, List.append_nil]; rfl
  | x :: xs, acc, hl, hw, hc, he => by
    rw [List.length_cons] at hl
    have hr : wipeE (w.set i (some (inj x))) [i] = w := by
      show (w.set i (some (inj x))).set i none = w
      rw [List.set_set]
      apply List.ext_getElem?
      intro j
      by_cases hj : i = j
      · subst hj
        rw [List.getElem?_set_self (List.getElem?_eq_some_iff.mp hw).1, hw]
      · rw [List.getElem?_set_ne hj]
    rw [List.map_cons]
    unfold lcGo
    rw [ap_gSet]
    dsimp only
    rw [hc x List.mem_cons_self, Out.noX_ok, Out.bind_ok]
    cases q : p x with
    | true =>
      rw [if_pos rfl, he x List.mem_cons_self q, Out.noX_ok, Out.bind_ok, if_pos (by omega), hr, List.filter_cons_of_pos q, List.map_cons,
        lcGo_pure inj p f xs (acc ++ [f x]) (by rw [List.length_append]; simp only [List.length_cons, List.length_nil]; omega) hw (fun y m => hc y (List.mem_cons_of_mem _ m)) (fun y m => he y (List.mem_cons_of_mem _ m))]
      simp
    | false =>
      rw [if_neg (by decide), hr, List.filter_cons_of_neg (by rw [q]; decide),
        lcGo_pure inj p f xs acc (by omega) hw (fun y m => hc y (List.mem_cons_of_mem _ m)) (fun y m => he y (List.mem_cons_of_mem _ m))]
theorem k_lc {α : Type} (inj : α → D) (p : α → Bool) (f : α → D) {it : IM} {c : TM} {e : EM} {xs : List α} (hi : i < env.length) (hit : it env = .ok (xs.map inj) env) (hl : xs.length ≤ 100000)
    (hc : ∀ x ∈ xs, c (env.set i (some (inj x))) = .ok (p x) (env.set i (some (inj x)))) (he : ∀ x ∈ xs, p x = true → e (env.set i (some (inj x))) = .ok (f x) (env.set i (some (inj x)))) :
    eLc [i] it (gSet i) c e env = .ok (.lst ((xs.filter p).map f)) env := by
  rw [ap_eLc, hit, Out.bind_ok]
  have h1 : ∀ v : Option D, (wipeE env [i]).set i v = env.set i v := fun v => by
    show (env.set i none).set i v = _
    rw [List.set_set]
  have h2 := lcGo_pure (i := i) inj p f (w := wipeE env [i]) (c := c) (e := e) xs [] (by simpa using hl) (by show (env.set i none)[i]? = _; rw [List.getElem?_set_self hi]) (fun x m => by rw [h1]; exact hc x m) (fun x m hp => by rw [h1]; exact he x m hp)
  rw [h2, Out.bind_ok, List.nil_append]
  congr 1
  show ((env.set i none)).set i (env.getD i none) = env
  rw [List.set_set]
  apply List.ext_getElem?
  intro j
  by_cases hj : i = j
  · subst hj
    rw [List.getElem?_set_self hi, List.getD_eq_getElem?_getD, List.getElem?_eq_getElem hi]
    rfl
  · rw [List.getElem?_set_ne hj]
theorem k_lcM {α : Type} (inj : α → D) (f : α → D) {it : IM} {e : EM} {xs : List α} (hi : i < env.length) (hit : it env = .ok (xs.map inj) env) (hl : xs.length ≤ 100000)
    (he : ∀ x ∈ xs, e (env.set i (some (inj x))) = .ok (f x) (env.set i (some (inj x)))) : eLc [i] it (gSet i) mYes e env = .ok (.lst (xs.map f)) env := by
  rw [k_lc (c := mYes) inj (fun _ => true) f hi hit hl (fun _ _ => rfl) (fun x m _ => he x m)]
  congr 3
  exact List.filter_eq_self.mpr fun _ _ => rfl
end
def rgI (n : Nat) : List Int := (List.range n).map Int.ofNat
theorem rangeL_rgI (n : Nat) : rangeL 0 n = (rgI n).map .int := by
  unfold rangeL rgI
  rw [List.map_map]
  apply List.map_congr_left
  intro j _
  show D.int (0 + (j : Int)) = D.int (Int.ofNat j)
  rw [Int.zero_add]
  rfl
theorem mem_rgI {n : Nat} {k : Int} : k ∈ rgI n ↔ 0 ≤ k ∧ k < n := by
  unfold rgI
  rw [List.mem_map]
  constructor
  · rintro ⟨j, hj, rfl⟩
    have := List.mem_range.mp hj
    exact ⟨Int.natCast_nonneg j, by show (j : Int) < n; omega⟩
  · rintro ⟨h1, h2⟩
    exact ⟨k.toNat, List.mem_range.mpr (by omega), by show ((k.toNat : Nat) : Int) = k; omega⟩
theorem len_rgI (n : Nat) : (rgI n).length = n := by unfold rgI; rw [List.length_map, List.length_range]
theorem any_ints (k : Int) (xs : List Int) : ((xs.map D.int).any fun z => z.eqb (.int k)) = decide (k ∈ xs) := by
  induction xs with
  | nil => simp
  | cons x xs ih =>
    rw [List.map_cons, List.any_cons, ih, eq_int]
    by_cases h : x = k
    · subst h; simp
    · have h1 : (x == k) = false := beq_eq_false_iff_ne.mpr h
      have h2 : ¬ k = x := fun z => h z.symm
      simp [h1, h2]
theorem oIn_intsT (k : Int) (xs : List Int) : oIn (.int k) (.tup (xs.map .int)) = some (.bl (decide (k ∈ xs))) := by
  unfold oIn oInB
  simp only [fit_int, fit_intsT, Bool.and_self, if_true, Option.map_some, any_ints]
theorem oNotIn_intsT (k : Int) (xs : List Int) : oNotIn (.int k) (.tup (xs.map .int)) = some (.bl (!decide (k ∈ xs))) := by
  unfold oNotIn oInB
  simp only [fit_int, fit_intsT, Bool.and_self, if_true, Option.map_some, any_ints]
theorem oNotIn_intsL (k : Int) (xs : List Int) : oNotIn (.int k) (.lst (xs.map .int)) = some (.bl (!decide (k ∈ xs))) := by
  unfold oNotIn oInB
  simp only [fit_int, fit_ints, Bool.and_self, if_true, Option.map_some, any_ints]
theorem eqb_pairs (a b : Int × Int) : (pairD a).eqb (pairD b) = decide (a = b) := by
  simp only [pairD, D.eqb, D.eqbL, Bool.and_true]
  by_cases h : a = b
  · subst h; simp
  · rw [decide_eq_false h]
    by_cases h1 : a.1 = b.1
    · have h2 : ¬ a.2 = b.2 := fun z => h (Prod.ext h1 z)
      simp [h2]
    · simp [h1]
theorem any_pairs (k : Int × Int) (xs : List (Int × Int)) : ((xs.map pairD).any fun z => z.eqb (pairD k)) = decide (k ∈ xs) := by
  induction xs with
  | nil => simp
  | cons x xs ih =>
    rw [List.map_cons, List.any_cons, ih, eqb_pairs]
    by_cases h : x = k
    · subst h; simp
    · have h2 : ¬ k = x := fun z => h z.symm
      simp [h, h2]
theorem fit_pairsT (xs : List (Int × Int)) : (D.tup (xs.map pairD)).fit = true := fit_of (by simp) (by rw [de_tup]; have := de_pairs xs; omega)
theorem fit_pair (p : Int × Int) : (pairD p).fit = true := fit_of rfl (by show 1 ≤ 64; omega)
theorem oIn_pairsT (k : Int × Int) (xs : List (Int × Int)) : oIn (pairD k) (.tup (xs.map pairD)) = some (.bl (decide (k ∈ xs))) := by
  have e : oInB (pairD k) (.tup (xs.map pairD)) = some (decide (k ∈ xs)) := by
    unfold oInB
    show (if (pairD k).fit && (D.tup (xs.map pairD)).fit then some ((xs.map pairD).any fun z => z.eqb (pairD k)) else none) = _
    simp only [fit_pair, fit_pairsT, Bool.and_self, if_true, any_pairs]
  unfold oIn
  rw [e]; rfl
theorem oNe_ints (xs ys : List Int) : oNe (.lst (xs.map .int)) (.lst (ys.map .int)) = some (.bl (!decide (xs = ys))) := by
  unfold oNe oEqB
  simp only [fit_ints, Bool.and_self, if_true, Option.map_some, D.eqb, eqbL_refl_int]
theorem oEq_ints (xs ys : List Int) : oEq (.lst (xs.map .int)) (.lst (ys.map .int)) = some (.bl (decide (xs = ys))) := by
  unfold oEq oEqB
  simp only [fit_ints, Bool.and_self, if_true, Option.map_some, D.eqb, eqbL_refl_int]
theorem blsOf_bls (bs : List Bool) : blsOf (bs.map D.bl) = some bs := by
  induction bs with
  | nil => rfl
  | cons b bs ih => unfold blsOf; rw [List.map_cons] ; simp [blsOf, ih]
theorem oAny_bls (bs : List Bool) : oAny (.lst (bs.map .bl)) = some (.bl (bs.any id)) := by unfold oAny; dsimp only; rw [blsOf_bls]; rfl
theorem intsOf_ints (xs : List Int) : intsOf (xs.map D.int) = some xs := by
  induction xs with
  | nil => rfl
  | cons b bs ih => rw [List.map_cons]; simp [intsOf, ih]
theorem oSort_ints (xs : List Int) : oSort (.lst (xs.map .int)) = some (.lst ((sortI xs).map .int)) := by unfold oSort; dsimp only; rw [intsOf_ints]
theorem oAdd_intsL {xs ys : List Int} (h : xs.length + ys.length ≤ 100000) : oAdd (.lst (xs.map .int)) (.lst (ys.map .int)) = some (.lst ((xs ++ ys).map .int)) := by
  rw [List.map_append]
  unfold oAdd
  dsimp only
  rw [List.length_map, List.length_map, if_pos h]
end Mir
namespace Mir
open PySem PySem.Spec PyProof.Rows L2
variable [Tbl]
section
variable {S : Sc} {O P : List Nat} {E : XK} {μ : Mo} {fr fa fb fc : Bool} {ta tb tc : TE} {ma mb mc : EM}
theorem index_py {y : D} {p : PyData} (hp : y.py = some p) : ∀ {ds : List D} {ps : List PyData} {j : Nat}, D.pyL ds = some ps → ds.findIdx? (fun z => z.eqb y) = some j → ∃ z, ps[j]? = some z ∧ PyData.eqv z p = true ∧ ∀ m z', m < j → ps[m]? = some z' → PyData.eqv z' p = false
  | [], _, _, _, h => by cases h
  | d :: ds, ps, j, h, hj => by
    have h : (d.py.bind fun p => (D.pyL ds).map (p :: ·)) = some ps := h
    obtain ⟨q, z1, z2⟩ := Option.bind_eq_some_iff.mp h
    cases z : D.pyL ds with
    | none => rw [z] at z2; cases z2
    | some rs =>
      rw [z] at z2
      cases z2
      have e := eqv_py _ _ _ _ z1 hp
      rw [List.findIdx?_cons] at hj
      cases c : d.eqb y with
      | true =>
        rw [c, if_pos rfl] at hj
        cases hj
        exact ⟨q, rfl, by rw [e, c], fun m z' hm => by omega⟩
      | false =>
        rw [c, if_neg (by decide)] at hj
        cases r : ds.findIdx? (fun z => z.eqb y) with
        | none => rw [r] at hj; cases hj
        | some i =>
          rw [r] at hj
          cases hj
          obtain ⟨w, w1, w2, w3⟩ := index_py hp z r
          refine ⟨w, w1, w2, fun m z' hm hz => ?_⟩
          cases m with
          | zero =>
            cases (show q = z' from by simpa using hz)
            rw [e, c]
          | succ m => exact w3 m z' (Nat.lt_of_succ_lt_succ hm) (by simpa using hz)
def oIndex : List D → D → Option D := fun ds y => if (D.lst ds).fit && y.fit then (ds.findIdx? fun z => z.eqb y).map fun j => .int (j : Int) else none
def eIndex (a b : EM) : EM := fun env => (a env).bind fun x e => match x with
  | .lst ds => (b e).bind fun y e' => .opt (oIndex ds y) e'
  | _ => .bad
theorem ref_index (ha : RefE S O P E μ fa ta ma) (hb : RefE S O P E μ fb tb mb) : RefE S O P E μ false (tBM S.K "list" (rIndexD S.K) ta (tCons tb tNil)) (eIndex ma mb) := by
  intro R σ H fp env I Q h
  refine ha R σ H fp env I _ ((Want.bind h).mono fun x e1 H1 f1 I1 s1 h1 v hv _ => ?_)
  cases x with
  | lst ds =>
    have hv := hv.rep
    have hv' := hv
    obtain ⟨a, vs, rfl, n, q1, q2⟩ := hv'
    refine ⟨.inl ⟨rfl, vs, .inl (.inl q1)⟩, ?_⟩
    refine hb R σ H1 f1 e1 I1 _ ((Want.bind h1).mono fun y e2 H2 f2 I2 s2 h2 u hu _ => ?_)
    have hx : Rep S (FM R f2 μ) H2 (.lst ds) (.ref a) := Rep.fwd s2.fwd _ _ hv
    obtain ⟨z, hz⟩ := want_some h2
    have hz' := hz
    unfold oIndex at hz
    split at hz
    · rename_i c
      have c := Bool.and_eq_true_iff.mp c
      obtain ⟨p, p1, p2⟩ := fit_py c.1
      obtain ⟨q, r1, r2⟩ := fit_py c.2
      have p3 := p1
      have p1 : (D.pyL ds).map PyData.list = some p := p1
      cases w : D.pyL ds with
      | none => rw [w] at p1; cases p1
      | some ps =>
        rw [w] at p1
        cases p1
        cases fi : ds.findIdx? (fun z => z.eqb y) with
        | none => rw [fi] at hz; cases hz
        | some j =>
          rw [fi] at hz
          cases hz
          obtain ⟨zz, y1, y2, y3⟩ := index_py r1 w fi
          exact ⟨a, u, q, ps, j, zz, rfl, rfl, rep_dp hx p3, rep_dp hu.rep r1, p2, r2, y1, y2, y3, want_opt h2 hz' I2 (fun a q => (s1.trans s2).dom q) (Ext.refl _ _) rfl⟩
    · cases hz
  | _ => exact h1.elim
end
section
variable {env : Env} {a b c : EM} {x y z : D} {i j l : Nat}
end
end Mir
namespace Mir
open PySem PySem.Spec PyProof.Rows L2 GenW
section
variable {prog : Program} {w : World} {A : Around} {R : GenEnd} {Y : Protocol} {n : Nat} {s₀ : Shared} {fs : List Frame} {s : Shared} {env : PySem.Env}
end
section
variable {X : Cx}
end
end Mir
namespace Mir
open PySem PySem.Spec PyProof.Rows L2 GenW
variable [Tbl]
abbrev GMr := Env → Option (List D × Env)
section
variable {S : Sc} {E : XK} {t u : TGn} {m n : GMr}
end
section
variable {P : Program} {w : World} {K : PySem.W.Frag} {mg : Str → Option Value} {base : Heap} {S : Sc}
end
section
variable {S : Sc} {O P : List Nat} {E : XK} {μ : Mo} {tA : TA} {mA : AM}
end
end Mir
namespace Mir
open PySem PySem.Spec PyProof.Rows L2
variable [Tbl]
section
variable {S : Sc} {O P : List Nat} {R : Rx} {σ : L2.St} {H H' : Hp} {fp : Fp} {env : Env}
theorem Rel.drop (I : Rel S O P R σ H fp env) (i : Nat) : Rel S O P R σ H (fpSet fp i []) (env.set i none) ∧ Fwd (Lv fp) H (Lv (fpSet fp i [])) H := by
  have sub : ∀ x, Lv (fpSet fp i []) x → Lv fp x := fun x ⟨j, z⟩ => by
    unfold fpSet at z
    split at z
    · cases z
    · exact ⟨j, z⟩
  have get : ∀ {j : Nat} {d : D}, (env.set i none)[j]? = some (some d) → j ≠ i ∧ env[j]? = some (some d) := fun {j d} h => by
    by_cases e : i = j
    · subst e
      by_cases hl : i < env.length
      · rw [List.getElem?_set_self hl] at h; cases h
      · rw [List.getElem?_eq_none (by rw [List.length_set]; omega)] at h; cases h
    · rw [List.getElem?_set_ne e] at h
      exact ⟨Ne.symm e, h⟩
  have fsub : ∀ x, Fs R (fpSet fp i []) x → Fs R fp x ∨ H x = none := fun x z => .inl (z.imp id (sub x))
  refine ⟨⟨by rw [List.length_set, I.len], fun j d h1 h2 => ?_, fun j d h1 h2 => ?_, fun j h => ?_, fun j k a h1 h2 => ?_, fun j => ?_, fun j a h => ?_, I.ext, I.gl, fun j a h => ?_, I.dom, I.mh, I.tb, ⟨I.hb.e, I.hb.m⟩, I.par.of rfl fun j hj hO d hd => ⟨hO, ⟨d, (get hd).2⟩, rfl⟩⟩, Ext.refl _ _, fun x z => .inl (sub x z), fun _ z => z⟩
  · obtain ⟨_, h1⟩ := get h1
    obtain ⟨v, q1, q2⟩ := I.val j d h1 h2
    exact ⟨v, q1, q2.less fsub⟩
  · obtain ⟨ne, h1⟩ := get h1
    obtain ⟨v, q1, q2⟩ := I.own j d h1 h2
    refine ⟨v, q1, ?_⟩
    unfold fpSet
    rw [if_neg ne]
    exact q2.fwd (Ext.refl _ _) fsub
  · unfold fpSet
    split
    · rfl
    · rename_i ne
      exact I.non j (h.imp id fun h d z => h d (by rw [List.getElem?_set_ne (Ne.symm ne)]; exact z))
  · unfold fpSet at h1 h2
    split at h1
    · cases h1
    · split at h2
      · cases h2
      · exact I.dist j k a h1 h2
  · unfold fpSet
    split
    · exact List.nodup_nil
    · exact I.nd j
  · unfold fpSet at h
    split at h
    · cases h
    · exact I.src j a h
  · unfold fpSet at h
    split at h
    · cases h
    · exact I.live j a h
theorem Rel.apart (I : Rel S O P R σ H fp env) {a : Addr} (ga : R.G a) (n0 : R.H0 a = none) : ¬ Lv fp a := fun ⟨j, z⟩ => by
  by_cases hj : j ∈ P
  · exact ((I.src j a z).1 hj).elim (fun y => I.mh a y n0) fun y => y.2 ga
  · exact ((I.src j a z).2 hj).2 ga
end
end Mir
namespace Mir
open PySem PySem.Spec PyProof.Rows L2
variable [Tbl]
section
variable {S : Sc} {O P : List Nat} {E : XK} {μ : Mo}
end
section
variable {S : Sc} {E : XK} {R : Rx} {σ : L2.St} {H H' : Hp} {fp f1 : Fp} {env e1 : Env}
end
end Mir
namespace Mir
open PySem PySem.Spec PyProof.Rows L2
variable [Tbl]
theorem len_ok {a b : Nat} (h : Nat.ble a b = true) : a ≤ b := Nat.le_of_ble_eq_true h
section
variable {env e1 e2 e3 : Env} {a b c : EM} {m n : SM} {t u : TM} {ar : AM} {x y z d : D} {i j : Nat} {p q : Bool} {ds es : List D}
theorem t_var (h : env[i]? = some (some d)) : eVar i env = .ok d env := k_var h
theorem t_e1 {f : D → Option D} (ha : a env = .ok x e1) (hf : f x = some z) : Mir.e1 f a env = .ok z e1 := by rw [ap_e1, ha, Out.bind_ok, hf]; rfl
theorem t_e2 {f : D → D → Option D} (ha : a env = .ok x e1) (hb : b e1 = .ok y e2) (hf : f x y = some z) : Mir.e2 f a b env = .ok z e2 := by rw [ap_e2, ha, Out.bind_ok, hb, Out.bind_ok, hf]; rfl
theorem t_nil : aNil env = .ok [] env := rfl
theorem t_cons (ha : a env = .ok x e1) (hr : ar e1 = .ok ds e2) : aCons a ar env = .ok (x :: ds) e2 := by rw [ap_aCons, ha, Out.bind_ok, hr]; rfl
theorem t_tup (ha : ar env = .ok ds e1) (hl : ds.length ≤ 100000) : eTup ar env = .ok (.tup ds) e1 := by rw [ap_eTup, ha, Out.bind_ok, if_pos hl]; rfl
theorem t_lst (ha : ar env = .ok ds e1) (hl : ds.length ≤ 100000) : eLst ar env = .ok (.lst ds) e1 := by rw [ap_eLst, ha, Out.bind_ok, if_pos hl]; rfl
theorem t_test (ha : a env = .ok (.bl p) e1) : mTest a env = .ok p e1 := by rw [ap_mTest, ha]; rfl
theorem t_not (ha : t env = .ok p e1) : mNot t env = .ok (!p) e1 := by rw [ap_mNot, ha]; rfl
theorem t_andV (ha : a env = .ok (.bl p) e1) (hb : p = true → b e1 = .ok (.bl q) e1) : eAndV a b env = .ok (.bl (p && q)) e1 := by
  rw [ap_eAndV, ha, Out.bind_ok, dd_boo, Out.opt_some, Out.bind_ok]
  cases p with
  | true => rw [if_pos rfl, hb rfl]; rfl
  | false => rfl
theorem t_call0 {f : DM} (ha : ar env = .ok ds e1) (hf : f ds = .ok d) : eCall f [] ar env = .ok d e1 := by rw [ap_eCall, ha, Out.bind_ok, List.append_nil, hf]; rfl
theorem t_prop {f : DM} {k : Nat} (ho : a env = .ok (.ins k es) e1) (hf : f [.ins k es] = .ok d) : eProp k f a env = .ok d e1 := by
  rw [ap_eProp, ho, Out.bind_ok]; dsimp only; rw [if_pos rfl, hf]
theorem t_callO {f : DM0} {o o' : D} (h0 : env[j]? = some (some z)) (ha : ar env = .ok ds e1) (h1 : e1[j]? = some (some o)) (hf : f o ds = .ok d o') (hs : e1.set j (some o') = e2) : eCallO f j ar env = .ok d e2 := by
  rw [ap_eCallO, h0]; dsimp only; rw [ha, Out.bind_ok, h1]; dsimp only; rw [hf]; dsimp only; rw [hs]
theorem s_asg (ha : a env = .ok d e1) (hs : e1.set i (some d) = e2) : sAsg a (gSet i) env = .next e2 := by rw [ap_sAsg, ha]; exact congrArg Fl.next hs
theorem s_drop (ha : a env = .ok d e1) : sDrop a env = .next e1 := by rw [ap_sDrop, ha]; rfl
def Run (m : SM) (env : Env) (Q : Fl → Prop) : Prop := Q (m env)
variable {Q : Fl → Prop} {r : SM}
theorem r_seq (h : m env = .next e1) (k : Run r e1 Q) : Run (sSeq m r) env Q := by unfold Run at *; rw [ap_sSeq, h]; exact k
theorem r_ret (h : a env = .ok d e1) (k : Q (.ret d e1)) : Run (sRet a) env Q := by unfold Run; rw [ap_sRet, h]; exact k
theorem r_chk (ht : t env = .ok p e1) (hp : p = false) (k : Run r e1 Q) : Run (sSeq (sIf t m sNext) r) env Q := by
  subst hp; unfold Run at *; rw [ap_sSeq, ap_sIf, ht]; exact k
theorem r_tru (ht : t env = .ok p e1) (hp : p = true) (k : Run (sSeq m r) e1 Q) : Run (sSeq (sIf t m n) r) env Q := by
  subst hp; unfold Run at *; rw [ap_sSeq, ap_sIf, ht]; exact k
theorem r_tru1 (ht : t env = .ok p e1) (hp : p = true) (k : Run m e1 Q) : Run (sIf t m n) env Q := by
  subst hp; unfold Run at *; rw [ap_sIf, ht]; exact k
theorem r_retS (h : a env = .ok d e1) (k : Q (.ret d e1)) : Run (sSeq (sRet a) r) env Q := by unfold Run; rw [ap_sSeq, ap_sRet, h]; exact k
theorem runF_run {fr : Bool} {k N : Nat} {ds : List D} {x : D} (hr : Run m (ds.map some ++ List.replicate (N - ds.length) none) (fun o => ∃ e, o = .ret x e)) (hl : ds.length = k) : runF fr k N m ds = .ok x := by
  obtain ⟨e, h⟩ := hr
  exact runF_ret (e := e) h hl
end
end Mir
namespace Mir
open PySem PySem.Spec PyProof.Rows L2
variable [Tbl]
def wide (h : Heap) (H : Hp) (st : List PySem.Env) : Heap := PySem.W.hideAll h (trk h H ++ frs st)
section
variable {h : Heap} {H : Hp} {st : List PySem.Env} {b : Addr} {o : Obj}
theorem wide_get (e : h.get? b = some o) (n : H b = none) (nf : b ∉ frs st) : (wide h H st).get? b = some o :=
  PySem.W.hideAll_get _ e fun hm => (List.mem_append.mp hm).elim (fun z => by
    have q := (List.mem_filter.mp z).2
    rw [n] at q
    cases q) nf
theorem of_wide (e : (wide h H st).get? b = some o) : h.get? b = some o ∧ H b = none ∧ b ∉ frs st := by
  have e' : h.get? b = some o := PySem.W.of_hideAll _ e
  have key : b ∉ trk h H ++ frs st := fun hm => by
    have z : (wide h H st).get? b = none := PySem.W.hideAll_none _ hm
    rw [z] at e
    cases e
  refine ⟨e', ?_, fun z => key (List.mem_append_right _ z)⟩
  cases q : H b with
  | none => rfl
  | some x => exact absurd (List.mem_append_left _ (List.mem_filter.mpr ⟨List.mem_range.mpr (Heap.lt_size e'), by simp [q]⟩)) key
end
theorem mod_keeps {K : PySem.W.Frag} {mg : Str → Option Value} {b b' : Heap} (m : L2.Mod K mg b) (k : ∀ a o, b.get? a = some o → b'.get? a = some o) : L2.Mod K mg b' := by
  have ns : ∀ {a : Addr} {f : Str → Option Value}, b.Ns a f → b'.Ns a f := fun ⟨o, es, ep, e, r⟩ => ⟨o, es, ep, k _ _ e, r⟩
  obtain ⟨mb, h1, h2⟩ := m.blt
  obtain ⟨mc, h3, h4⟩ := m.nolimit
  exact ⟨fun a o e => k a o (m.kin a o e), ns m.glob, ⟨mb, ns h1, h2⟩, ⟨mc, ns h3, h4⟩⟩
theorem funs_base {h b b' : Heap} (k : ∀ a, b.get? a = none → b'.get? a = none) : ∀ {l : List PySem.Env}, h.FunFrames b l → h.FunFrames b' l
  | [], _ => True.intro
  | _ :: _, ⟨h1, ⟨L, o, e1, e2, e3⟩, h3⟩ => ⟨h1, ⟨L, o, e1, k L e2, e3⟩, funs_base k h3⟩
theorem funs_hide {h b b' : Heap} : ∀ {l : List PySem.Env}, (∀ a ∈ frs l, b'.get? a = none) → h.FunFrames b l → h.FunFrames b' l
  | [], _, _ => True.intro
  | e :: l, k, ⟨h1, ⟨L, o, e1, e2, e3⟩, h3⟩ => by
    have hf : frs (e :: l) = L :: frs l := by
      unfold frs
      rw [List.filterMap_cons, e1]
    exact ⟨h1, ⟨L, o, e1, k L (by rw [hf]; exact List.mem_cons_self), e3⟩, funs_hide (fun a ha => k a (by rw [hf]; exact List.mem_cons_of_mem _ ha)) h3⟩
section
variable {X : Cx} {pins : List (Addr × Obj)} {σ : L2.St} {H : Hp} {s : Shared}
theorem base_wide (I : Inv X pins σ H s) {b : Addr} {o : Obj} (e : X.base.get? b = some o) : (wide s.heap H X.stack).get? b = some o := by
  obtain ⟨h1, h2⟩ := I.bs b o e
  refine wide_get h1 h2 fun z => ?_
  rcases List.mem_cons.mp (I.stkSub b z) with q | q
  · have := Heap.lt_size e
    have l1 := I.ok.above
    have l2 := I.ok.bsz
    rw [q] at this
    exact Nat.lt_irrefl _ (Nat.lt_of_lt_of_le this (Nat.le_trans l2 l1))
  · exact I.ok.nofr e q
theorem env0_wide (I : Inv X pins σ H s) : Env0 X.prog X.w X.K X.mg (wide s.heap H X.stack) X.A X.stack s H := by
  have e := I.env0
  refine ⟨e.frames, mod_keeps e.mod fun a o q => base_wide I q, fun b o q => ⟨(of_wide q).1, (of_wide q).2.1⟩, ?_, funs_hide (fun a ha => ?_) e.funs, e.frf, e.hok, e.bare⟩
  · exact Nat.le_of_eq (PySem.W.hideAll_size _ _)
  · cases q : (wide s.heap H X.stack).get? a with
    | none => rfl
    | some o => exact absurd ha (of_wide q).2.2
theorem env0_less {P : Program} {w : World} {K : PySem.W.Frag} {mg : Str → Option Value} {b b' : Heap} {A : Around} {outer : List PySem.Env} (e : Env0 P w K mg b' A outer s H) (m : L2.Mod K mg b) (k : ∀ a o, b.get? a = some o → b'.get? a = some o) (sz : b.objs.size ≤ b'.objs.size) : Env0 P w K mg b A outer s H :=
  ⟨e.frames, m, fun a o q => e.bs a o (k a o q), Nat.le_trans sz e.bsz, funs_base (fun a n => by
    cases q : b.get? a with
    | none => rfl
    | some o => rw [k a o q] at n; cases n) e.funs, e.frf, e.hok, e.bare⟩
theorem cell_nofr (I : Inv X pins σ H s) (hfn : ∀ x, X.fn x = true) {y : Str} {c : Addr} (e : X.env.cells.lookup y = some c) : c ∉ frs X.stack := fun z => by
  rcases List.mem_cons.mp (I.stkSub c z) with q | q
  · obtain ⟨v, o, h1, h2⟩ := I.cell y c e
    obtain ⟨m, ⟨o', es, ep, h3, h4, _⟩, _⟩ := I.loc
    rw [← q, h1] at h3
    cases h3
    rw [h2] at h4
    cases h4
  · have l := I.ok.cab y c (hfn y) e
    obtain ⟨_, o, h1, _⟩ := I.ok.funs.mem q
    exact Nat.lt_irrefl _ (Nat.lt_of_lt_of_le (Heap.lt_size h1) l)
end
structure LamP (sc scope : Scope) (N ps : List Str) : Prop where
  kind : scope.kind = .function
  co : scope.isCoroutine = false
  gen : scope.isGenerator = false
  own : ∀ y ∈ scope.names, y.2 ≠ .cell ∧ (y.2 = .local → y.1 ∈ ps)
  free : ∀ y ∈ scope.names, y.2 = .free → sc.names.lookup y.1 = some .cell ∨ sc.names.lookup y.1 = some .free
  par : ∀ y ∈ ps, scope.names.lookup y = some .local ∧ y ∉ N
  nd : ps.Nodup
def lamPB (sc scope : Scope) (N ps : List Str) : Bool :=
  decide (scope.kind = .function) && (!scope.isCoroutine && (!scope.isGenerator && ((scope.names.all fun y => !decide (y.2 = .cell) && (!decide (y.2 = .local) || decide (y.1 ∈ ps))) && ((scope.names.all fun y => !decide (y.2 = .free) || (decide (sc.names.lookup y.1 = some .cell) || decide (sc.names.lookup y.1 = some .free))) &&
    ((ps.all fun y => decide (scope.names.lookup y = some .local) && !decide (y ∈ N)) && decide ps.Nodup)))))
theorem lamP_by {sc scope : Scope} {N ps : List Str} (h : lamPB sc scope N ps = true) : LamP sc scope N ps := by
  unfold lamPB at h
  simp only [Bool.and_eq_true, Bool.or_eq_true, Bool.not_eq_true', decide_eq_true_eq, decide_eq_false_iff_not, List.all_eq_true] at h
  obtain ⟨h1, h2, h3, h4, h5, h6, h7⟩ := h
  exact ⟨h1, h2, h3, fun y hy => ⟨(h4 y hy).1, fun e => (h4 y hy).2.elim (fun z => absurd e z) id⟩, fun y hy e => (h5 y hy).elim (fun z => absurd e z) id, fun y hy => h6 y hy, h7⟩
abbrev lamE (X : Cx) (scope : Scope) (L f c' : Addr) : PySem.Env := PySem.W.envX (X.env.qual ++ "<lambda>") scope L f (.ref c') (cloFrom X.env.cells scope.names [])
def lamX (X : Cx) (ps : List Str) (A : Around) (outer : List PySem.Env) (s : Shared) (H : Hp) (E : XK) (scope : Scope) (f c' : Addr) : Cx :=
  { prog := X.prog, w := X.w, K := X.K, mg := X.mg, base := X.base, A := A.deeper (lamE X scope s.heap.objs.size f c'), N := X.N ++ ps, s_0 := s, H_0 := H, env := lamE X scope s.heap.objs.size f c', outer := outer
    stack := lamE X scope s.heap.objs.size f c' :: outer, ex := [], fn := fun _ => false, calm := true, pn := []
    xe := fun e s' => wpAny (model X.prog X.w) (A.deeper (lamE X scope s.heap.objs.size f c')) (leaving (lamE X scope s.heap.objs.size f c') e) (fun _ s'' => L2.CX X.prog X.w outer H s E e s'') (fun e' s'' => L2.CX X.prog X.w outer H s E e' s'') s' }
section
variable {X : Cx} {pins : List (Addr × Obj)} {σ : L2.St} {H HZ : Hp} {s sZ : Shared}
theorem clo_in {scope : Scope} {y : Str} {c : Addr} (hfree : ∀ y ∈ scope.names, y.2 = .free → ∃ c, X.env.cells.lookup y.1 = some c) (e : (cloFrom X.env.cells scope.names []).lookup y = some c) : X.env.cells.lookup y = some c := by
  rcases cloFrom_mem (PySem.mem_of_lookup e) with z | ⟨h1, h2⟩
  · cases z
  · obtain ⟨c1, hc⟩ := hfree _ h1 rfl
    have hc : X.env.cells.lookup y = some c1 := hc
    have : c = c1 := by
      rw [h2, hc] <;> rfl
    rw [this]
    exact hc
theorem LamP.has {scope : Scope} {ps : List Str} (L : LamP X.env.scope scope X.N ps) (ok : X.Ok) : ∀ y ∈ scope.names, y.2 = .free → ∃ c, X.env.cells.lookup y.1 = some c := fun y hy e =>
  (L.free y hy e).elim (fun k => ok.has _ (.inl k)) fun k => ok.has _ (.inr k)
theorem lam_enter {A : Around} {outer : List PySem.Env} {E : XK} {scope : Scope} {ps : List Str} {f c' : Addr} {h₁ : Heap} {tk : Nat} {us : List Value} {vs : List V} (I : Inv X pins σ H s) (hfn : ∀ x, X.fn x = true) (L : LamP X.env.scope scope X.N ps)
    (e0 : Env0 X.prog X.w X.K X.mg (wide s.heap H X.stack) A outer sZ HZ) (hd : A.handled = none) (hv : Vals vs us) (hl : vs.length = ps.length)
    (hns : h₁.Ns sZ.heap.objs.size fun y => (ps.zip us).reverse.lookup y) (kp : ∀ b o, sZ.heap.get? b = some o → h₁.get? b = some o) :
    Inv (lamX X ps A outer sZ HZ E scope f c') [] (σ ++ vs.map some) HZ { sZ with heap := h₁, toks := tk } := by
  have hfree := L.has I.ok
  have eb : Env0 X.prog X.w X.K X.mg X.base A outer sZ HZ := env0_less e0 I.ok.mod (fun a o q => base_wide I q) (Nat.le_trans (Nat.le_trans I.ok.bsz I.sz) (Nat.le_of_eq (PySem.W.hideAll_size _ _).symm))
  have look : ∀ {y}, scope.names.lookup y = some .free → ∃ c, (cloFrom X.env.cells scope.names []).lookup y = some c := fun {y} q => mem_lookup (cloFrom_has (cells := X.env.cells) (acc := []) (show (y, NameKind.free) ∈ scope.names from PySem.mem_of_lookup q))
  have cellK : ∀ {y : Str} {c : Addr} {v : Option Value}, X.env.cells.lookup y = some c → s.heap.IsCell c v → h₁.IsCell c v ∧ HZ c = none := fun {y c v} q ⟨o, ho, hdat⟩ => by
    obtain ⟨z1, z2⟩ := e0.bs c o (wide_get ho (I.freeC y c q) (cell_nofr I hfn q))
    exact ⟨⟨o, kp c o z1, hdat⟩, z2⟩
  have none_ex : ∀ b : Addr, b ∉ (lamX X ps A outer sZ HZ E scope f c').ex := fun b z => absurd (show b ∈ ([] : List Addr) from z) (by simp)
  have lenU : us.length = ps.length := by rw [← hv.length]; exact hl
  refine ⟨⟨eb.mod, L.kind, rfl, rfl, Nat.le_refl _, fun x y c q1 q2 => I.ok.inj x y c (clo_in hfree q1) (clo_in hfree q2), fun y hy => ?_, fun y c z _ => absurd (show false = true from z) (by decide), fun _ => hd, Around.frames_deeper eb.frames, .inr ⟨rfl, rfl⟩, fun b z => absurd z (none_ex b), eb.bs, eb.bsz, fun b _ _ => none_ex b,
    fun b z => absurd z (none_ex b), eb.funs, eb.frf⟩, rfl, eb.bare, Un.kept kp, ⟨_, hns, fun i y v q1 q2 q3 => ?_⟩, fun y c q => ?_, eb.hok.fresh (Nat.le_refl _), fun y c q => ?_, fun p hp => absurd (show p ∈ ([] : List (Addr × Obj)) ++ [] from hp) (by simp), eb.hok.kept kp, ?_⟩
  · have hy : scope.names.lookup y = some .cell ∨ scope.names.lookup y = some .free := hy
    rcases hy with hy | hy
    · exact absurd rfl (L.own _ (PySem.mem_of_lookup hy)).1
    · exact look hy
  · have q1 : (X.N ++ ps)[i]? = some y := q1
    have q3 : Vis scope y := q3
    rcases Nat.lt_or_ge i X.N.length with lt | ge
    · rw [List.getElem?_append_left lt] at q1
      rw [List.getElem?_append_left (by rw [I.len]; exact lt)] at q2
      rcases q3 with k | k | k
      · exact absurd (List.mem_of_getElem? q1) (L.par y ((L.own _ (PySem.mem_of_lookup k)).2 rfl)).2
      · exact absurd rfl (L.own _ (PySem.mem_of_lookup k)).1
      · obtain ⟨m, hn, hloc⟩ := I.loc
        have kf := L.free _ (PySem.mem_of_lookup k) rfl
        obtain ⟨u, r, q⟩ := hloc i y v q1 q2 (kf.elim (fun z => .inr (.inl z)) fun z => .inr (.inr z))
        obtain ⟨c2, h2⟩ := look k
        have c1 := clo_in hfree h2
        refine ⟨u, r, .inr ⟨.inr k, c2, h2, ?_⟩⟩
        rcases q with ⟨k1, _⟩ | ⟨_, c3, q5, z⟩
        · have k1 : X.env.scope.names.lookup y = some .local := k1
          rcases kf with k2 | k2 <;> rw [show X.env.scope.names.lookup y = _ from k2] at k1 <;> cases k1
        · rw [c1] at q5
          cases q5
          exact (cellK c1 z).1
    · rw [List.getElem?_append_right ge] at q1
      rw [List.getElem?_append_right (by rw [I.len]; exact ge), I.len] at q2
      generalize i - X.N.length = j at q1 q2
      have qv : vs[j]? = some v := by
        rw [List.getElem?_map] at q2
        cases q : vs[j]? with
        | none => rw [q] at q2; cases q2
        | some x => rw [q] at q2; cases q2; rfl
      obtain ⟨u, e1, e2⟩ := hv.get qv
      refine ⟨u, e2, .inl ⟨(L.par y (List.mem_of_getElem? q1)).1, ?_⟩⟩
      show (ps.zip us).reverse.lookup y = some u
      have nd : ((ps.zip us).map (·.1)).Nodup := by
        rw [List.map_fst_zip (by omega)]
        exact L.nd
      have mem : (y, u) ∈ (ps.zip us).reverse := List.mem_reverse.mpr (List.mem_of_getElem? (by rw [List.getElem?_zip_eq_some]; exact ⟨q1, e1⟩))
      have key : ∀ (l : List (Str × Value)), (l.map (·.1)).Nodup → (y, u) ∈ l → l.lookup y = some u := by
        intro l
        induction l with
        | nil => intro _ m; cases m
        | cons p r ih =>
          obtain ⟨a, b⟩ := p
          intro n m
          rcases List.mem_cons.mp m with e | m
          · cases e
            rw [List.lookup_cons, beq_self_eq_true]
          · have n : (a :: r.map (·.1)).Nodup := n
            have ne : (y == a) = false := beq_eq_false_iff_ne.mpr fun z => (List.nodup_cons.mp n).1 (by rw [← z]; exact List.mem_map.mpr ⟨_, m, rfl⟩)
            rw [List.lookup_cons, ne]
            exact ih (List.nodup_cons.mp n).2 m
      exact key _ (by rw [List.map_reverse]; exact (List.reverse_perm _).nodup_iff.mpr nd) mem
  · obtain ⟨v, z⟩ := I.cell y c (clo_in hfree q)
    exact ⟨v, (cellK (clo_in hfree q) z).1⟩
  · obtain ⟨v, z⟩ := I.cell y c (clo_in hfree q)
    exact (cellK (clo_in hfree q) z).2
  · rw [List.length_append, List.length_map, I.len, hl]
    exact List.length_append.symm
end
end Mir
namespace Mir
open PySem PySem.Spec PyProof.Rows L2
variable [Tbl]
section
variable {X : Cx} {pins : List (Addr × Obj)} {σ : L2.St} {H : Hp} {s : Shared}
abbrev lamO (X : Cx) (params : Arguments) (body : Expr) (scope : Scope) (pm : Value) (c' : Addr) (ctv : Value) : Obj :=
  PySem.W.kla_obj "<lambda>" (X.env.qual ++ "<lambda>") params body scope (cloFrom X.env.cells scope.names []) pm c' ctv
abbrev lamF (X : Cx) (params : Arguments) (body : Expr) (scope : Scope) (pm : Value) (c' : Addr) (ctv : Value) : FuncData :=
  PySem.W.kla_fn "<lambda>" (X.env.qual ++ "<lambda>") params body scope (cloFrom X.env.cells scope.names []) pm (.ref c') ctv
theorem lam_fnok {params : Arguments} {body : Expr} {scope : Scope} {pm ctv : Value} {ps : List Str} {f c' : Addr} {k : Nat} {tb : XK → TE} (I : Inv X pins σ H s) (hfn : ∀ x, X.fn x = true) (L : LamP X.env.scope scope X.N ps)
    (hf : s.heap.get? f = some (lamO X params body scope pm c' ctv)) (n0 : H f = none) (nf : f ∉ frs X.stack)
    (hbody : ∀ (A : Around) (outer : List PySem.Env) (s' : Shared) (H' : Hp) (E : XK), Room k (A.deeper (lamE X scope s'.heap.objs.size f c')) → PE (lamX X ps A outer s' H' E scope f c') body (tb E)) :
    FnOk X.prog X.w X.K X.mg (wide s.heap H X.stack) (L2.CX X.prog X.w) (k + 1) f (lamF X params body scope pm c' ctv) ps (fun vs HZ Q E => vs.length = ps.length ∧ HZ c' = some (LamX.CodeO c' (X.env.qual ++ "<lambda>")) ∧ tb E (σ ++ vs.map some) HZ Q) := by
  refine ⟨fun _ _ _ _ h => h.1, fun A outer sZ HZ args us vs Q E hr e0 hb hv h => ?_⟩
  obtain ⟨hl, hc, ht⟩ := h
  have of1 := (e0.bs f _ (wide_get hf n0 nf)).1
  obtain ⟨⟨oc, ws, t, hoc, hdc, hvc⟩, _, _⟩ := e0.hok c' _ hc
  refine PySem.W.kla_callFunE hr.depth of1 rfl L.co L.gen rfl ⟨c', oc, ws, t, rfl, hoc, hdc, hvc⟩ (hb _ _ _ _ ?_)
  have lim : sZ.heap.NoLimit := e0.mod.nolimit.keeps fun b o e => (e0.bs b o e).1
  refine wpAny_newFunctionEnv (fun y hy => (L.own y hy).1) (fun y hy => (L.par y.1 (List.of_mem_zip hy).1).1) (fun h₁ hns hsb => ⟨lim.fresh _ hsb, ?_⟩) L.kind
  have kp : ∀ b o, sZ.heap.get? b = some o → h₁.get? b = some o := fun b o e => hsb.extBut b o (Nat.ne_of_lt (Heap.lt_size e)) (Heap.get?_push_of_some _ e)
  have J := lam_enter (E := E) (f := f) (c' := c') (tk := sZ.toks + (ps.zip us).length) I hfn L e0 hr.hd hv hl hns kp
  refine PySem.W.kla_codeExpr (wpAny_mono ((hbody A outer sZ HZ E (hr.deeper _)).run [] _ _ HZ Q J ht) (fun v s' hq => ?_) fun e s' hq => hq)
  obtain ⟨w', H', J', rv, q⟩ := hq
  exact ⟨w', H', J'.os, J'.bare, J'.base, J'.hok, rv, q⟩
theorem lam_new {P c : Addr} {params : Arguments} {body : Expr} {scope : Scope} {pos : Pos} {E : Value → Shared → Prop} {Q : Value → Shared → Prop} (I : Inv X pins σ H s) (TB : LamX.TabB X.base X.mg c P) (hcode : X.env.code = .ref c) (hm : (P, X.env.qual ++ "<lambda>") ∈ Tbl.T)
    (hu : ∀ p ∈ Tbl.T, p.1 = P → p.2 = X.env.qual ++ "<lambda>") (hT : LamX.Tabs Tbl.T H) (hdef : defaultsOf params X.env = ([], [])) (hfree : ∀ y ∈ scope.names, y.2 = .free → ∃ c, X.env.cells.lookup y.1 = some c)
    (h : ∀ (f c' : Addr) (pm ctv : Value) (H1 : Hp) (s' : Shared), Inv X pins σ H1 s' → Ext Nil H H1 → s'.heap.get? f = some (lamO X params body scope pm c' ctv) → H1 f = none → f ∉ frs X.stack → H1 c' = some (LamX.CodeO c' (X.env.qual ++ "<lambda>")) → Q (.ref f) s') :
    wpAny (model X.prog X.w) X.A (eval (.Lambda params body scope pos) X.env) Q E s := by
  obtain ⟨ps, hP, ht, ha⟩ := hT _ hm
  have hPs : s.heap.get? P = some { cls := .none, data := .fields ps } := I.hok P _ hP
  have apart : ∀ g, s.heap.objs.size ≤ g → g ∉ frs X.stack := fun g hg z => by
    rcases List.mem_cons.mp (I.stkSub _ z) with e | e
    · exact Nat.lt_irrefl _ (Nat.lt_of_lt_of_le I.lt (by rw [← e]; exact hg))
    · exact I.nofs hg e
  refine PySem.W.kla_eval hdef ?_
  cases found : codeAmong pos ps.toList with
  | some cv =>
    obtain ⟨c', rfl, hco⟩ := ha pos cv found
    refine PySem.W.kla_makeFunctionHit (mg := X.mg) (c := c) (P := P) (ps := ps) (closure_ok hfree) I.ok.glob (I.mod.glob.keeps I.bk) hcode (TB.code.keeps I.bk) hPs ht found (TB.bm.keeps I.bk) fun ctv h' tk keep big => ?_
    exact h h'.objs.size c' ((X.mg "__name__").getD .none) ctv H _ (I.kept fun b o e => Heap.get?_push_of_some _ (keep b o e)) (Ext.refl _ _) (Heap.get?_push_size _ rfl) (I.hok.fresh big) (apart _ big) hco
  | none =>
    refine PySem.W.kla_makeFunction (mg := X.mg) (c := c) (P := P) (ps := ps) (closure_ok hfree) I.ok.glob (I.mod.glob.keeps I.bk) hcode (TB.code.keeps I.bk) hPs ht found TB.gP (TB.bm.keeps I.bk) fun c' ctv h' tk but lo hi hrec htb => ?_
    obtain ⟨c2, oc, ws, t, e2, hoc, hd, hv⟩ := hrec
    cases e2
    have nC : H c' = none := I.hok.fresh lo
    have nPc : P ≠ c' := ne_of_none hP nC
    have big : s.heap.objs.size ≤ h'.objs.size := Nat.le_trans lo (Nat.le_of_lt hi)
    have I1 := LamX.inv_table (t' := tk) (more := #[rawInt pos.line, rawInt pos.col, .ref c']) (h' := h'.push (lamO X params body scope ((X.mg "__name__").getD .none) c' ctv)) I hP
      (fun b o nb e => Heap.get?_push_of_some _ (but b o nb e)) (Heap.get?_push_of_some _ htb) lo ⟨oc, ws, t, Heap.get?_push_of_some _ hoc, hd, hv⟩
    generalize eH : upd (upd H P (.tbl (ps ++ #[rawInt pos.line, rawInt pos.col, .ref c']))) c' (LamX.CodeO c' (X.env.qual ++ "<lambda>")) = H1 at I1
    have at_ : ∀ b, b ≠ P → b ≠ c' → H1 b = H b := fun b q1 q2 => by rw [← eH, upd_ne q2, upd_ne q1]
    have atP : H1 P = some (.tbl (ps ++ #[rawInt pos.line, rawInt pos.col, .ref c'])) := by rw [← eH, upd_ne nPc, upd_same]
    have atC : H1 c' = some (LamX.CodeO c' (X.env.qual ++ "<lambda>")) := by rw [← eH, upd_same]
    have keepO : ∀ b o, H b = some o → b ≠ P → H1 b = some o := fun b o e q => by rw [at_ b q (ne_of_none e nC)]; exact e
    have codeK : ∀ (d : Addr) (q : Str), H d = some (LamX.CodeO d q) → H1 d = some (LamX.CodeO d q) := fun d q e => keepO d _ e fun z => by
      rw [z, hP] at e
      exact LamX.codeO_ne ps (Option.some.inj e).symm
    refine h h'.objs.size c' ((X.mg "__name__").getD .none) ctv H1 _ I1 ⟨fun b o e _ n => keepO b o e fun z => ?_, fun p hp tp => ?_, fun b bs e => ?_⟩ (Heap.get?_push_size _ rfl) ?_ (apart _ big) atC
    · rw [z, hP] at e
      cases e
      exact n
    · by_cases q : p.1 = P
      · rw [hu p hp q, q]
        refine ⟨_, atP, ?_, fun p' cv hcv => ?_⟩
        · rw [Array.toList_append]
          exact PySem.TriplesOk_snoc _ _ _ _ ht
        · rw [Array.toList_append] at hcv
          rcases LamX.among_app _ ht hcv with z | z
          · obtain ⟨d, z1, z2⟩ := ha p' cv z
            exact ⟨d, z1, codeK d _ z2⟩
          · exact ⟨c', z, atC⟩
      · obtain ⟨bs, a1, a2, a3⟩ := tp
        exact ⟨bs, keepO _ _ a1 q, a2, fun p' cv hcv => let ⟨d, z1, z2⟩ := a3 p' cv hcv; ⟨d, z1, codeK d _ z2⟩⟩
    · by_cases q : b = P
      · exact ⟨_, by rw [q]; exact atP⟩
      · exact ⟨bs, keepO b _ e q⟩
    · have n1 : h'.objs.size ≠ c' := Nat.ne_of_gt hi
      have n2 : h'.objs.size ≠ P := Nat.ne_of_gt (Nat.lt_of_lt_of_le (Heap.lt_size hPs) big)
      rw [at_ _ n2 n1]
      exact I.hok.fresh big
end
end Mir
namespace Mir
open PySem PySem.Spec PyProof.Rows L2
variable [Tbl]
mutual
def D.nof : D → Bool
  | .tup ds => D.nofL ds
  | .lst ds => D.nofL ds
  | .ins _ ds => D.nofL ds
  | .dic ks _ => (match ks with
    | [.int _] => true
    | _ => false)
  | .map _ _ => false
  | _ => true
def D.nofL : List D → Bool
  | [] => true
  | d :: ds => d.nof && D.nofL ds
end
mutual
theorem pure_nof : ∀ d : D, d.pure = true → d.nof = true
  | .non, _ => rfl
  | .bl _, _ => rfl
  | .int _, _ => rfl
  | .str _, _ => rfl
  | .tup ds, h => pure_nofL ds h
  | .lst _, h => by cases h
  | .ins _ _, h => by cases h
  | .dic _ _, h => by cases h
  | .map _ _, h => by cases h
theorem pure_nofL : ∀ ds : List D, D.pureL ds = true → D.nofL ds = true
  | [], _ => rfl
  | d :: ds, h => by
    have h := Bool.and_eq_true_iff.mp h
    show (d.nof && D.nofL ds) = true
    rw [pure_nof d h.1, pure_nofL ds h.2]
    rfl
end
section
variable {S S' : Sc} (hK : S'.K = S.K) (ha : S'.ca = S.ca) (hf : S'.fn = S.fn)
include hK ha hf
mutual
theorem rep_conv {F : Addr → Prop} {H : Hp} : ∀ (d : D) (v : V), d.nof = true → Rep S F H d v → Rep S' F H d v
  | .non, _, _, h => h
  | .bl _, _, _, h => h
  | .int _, _, _, h => h
  | .str _, _, _, h => h
  | .tup ds, v, p, h => by
    obtain ⟨a, vs, rfl, h1, h2⟩ := h
    exact ⟨a, vs, rfl, by rw [hK]; exact h1, repL_conv ds vs p h2⟩
  | .lst ds, v, p, h => by
    obtain ⟨a, vs, rfl, n, h1, h2⟩ := h
    exact ⟨a, vs, rfl, n, h1, repL_conv ds vs p h2⟩
  | .ins c ds, v, p, h => by
    obtain ⟨a, dx, fs, rfl, n, h1, h2, h3⟩ := h
    exact ⟨a, dx, fs, rfl, n, by rw [ha]; exact h1, by rw [hf]; exact h2, repL_conv ds _ p h3⟩
  | .dic ks _, v, p, h => by
    rcases h with ⟨c, rfl, rfl⟩ | ⟨k, rfl, _⟩ | ⟨_, _, _, _, _, n, _⟩ | ⟨_, _, _, _, _, e, _⟩
    · exact .inl ⟨c, rfl, by rw [ha]⟩
    · cases p
    · unfold D.nof at p
      split at p
      · exact absurd rfl (n _)
      · cases p
    · subst e
      unfold D.nof at p
      split at p
      · rename_i e
        cases e
      · cases p
  | .map _ _, v, p, h => by cases p
theorem repL_conv {F : Addr → Prop} {H : Hp} : ∀ (ds : List D) (vs : List V), D.nofL ds = true → RepL S F H ds vs → RepL S' F H ds vs
  | [], _, _, h => h
  | d :: ds, vs, p, h => by
    obtain ⟨v, r, rfl, h1, h2⟩ := h
    have p := Bool.and_eq_true_iff.mp p
    exact ⟨v, r, rfl, rep_conv d v p.1 h1, repL_conv ds r p.2 h2⟩
end
end
structure FnV (P : Program) (w : World) (K : PySem.W.Frag) (mg : Str → Option Value) (base : Heap) (k : Nat) (f : Addr) (ps : List Str) (sp : Sp) : Prop where
  ex : ∃ (oc : Value) (od : Option Addr) (fd : FuncData) (sl : Array (Option Value)), base.get? f = some ⟨oc, od, .func fd, sl⟩ ∧ FnOk P w K mg base (L2.CX P w) k f fd ps sp ∧ ∀ (s : Shared) (us : List Value), us.length = ps.length → BindsTo s fd ⟨us, []⟩ (ps.zip us)
def tCallV0 (i : Nat) (f : Addr) (sp : Sp) (E : L2.St → XK) : TE := fun σ H Q => σ[i]? = some (some (.ref f)) ∧ sp [] H Q (E σ)
section
variable {X : Cx} {k i : Nat} {f : Addr} {ps : List Str} {sp : Sp} {E : XK} {x : Str} {p pos : Pos} {e : Expr} {es : List Expr} {t : TA}
theorem run_fnV {CX : CXT} {fd : FuncData} {pins : List (Addr × Obj)} {σ : L2.St} {H : Hp} {s : Shared} {Q : VK} {us : List Value} {vs : List V} {st : Heap} (F : FnOk X.prog X.w X.K X.mg st CX k f fd ps sp) (e0 : Env0 X.prog X.w X.K X.mg st X.A X.stack s H) (hr : Room k X.A)
    (hb : us.length = ps.length → BindsTo s fd ⟨us, []⟩ (ps.zip us)) (hx : L2.PassesAt CX X σ E) (I : Inv X pins σ H s) (r : Vals vs us) (h : sp vs H Q E) : wpAny (model X.prog X.w) X.A (call (.ref f) us) (EP X pins σ Q) X.xe s := by
  have hl : us.length = ps.length := by rw [← r.length]; exact F.len _ _ _ _ h
  refine wpAny_call (codeAny_mono (F.run X.A X.stack s H ⟨us, []⟩ us vs Q E hr e0 (hb hl) r h) fun r s' hq => ?_)
  match r, hq with
  | .error e, hq => exact hx pins H s e s' I hq
  | .ok (.ret u), hq => exact I.after hq
  | .ok .next, hq => exact hq.elim
  | .ok .brk, hq => exact hq.elim
  | .ok .cont, hq => exact hq.elim
end
abbrev Sx (S : Sc) (H1 : Hp) (f : Addr) : Sc := { S with Hb := H1, lf := fun _ => f }
section
variable {X : Cx} {dr : Bool} {S : Sc} {kl kg : Nat} {ps gs : List Str} {x : Str} {g c P : Addr} {fdg : FuncData} {dg : DM → DM} {params : Arguments} {body : Expr} {scope : Scope} {tb : XK → TE} {E : XK} {p lpos pos : Pos} {e : Expr} {ta : TE}
end
end Mir
namespace Mir
open PySem PySem.Spec PyProof.Rows L2
variable [Tbl]
def fnTag (k : Nat) : D := .dic [.int 0, .int (k : Int)] []
section
variable {S : Sc} {O P : List Nat} {E : XK} {μ : Mo} {fa : Bool} {ta : TE} {ma mb : EM} {tA : TA} {mA : AM}
theorem Rel.args {R : Rx} {σ : L2.St} {H : Hp} {fp : Fp} {env : Env} {ds : List D} {us : List V} (I : Rel S O P R σ H fp env) (hO : ∀ i ∈ O, i < env.length) (r : RepL S (Fs R fp) H ds us) : Rel S O P R (σ ++ us.map some) H fp (env ++ ds.map some) := by
  have hlen : env.length = σ.length := I.len
  refine ⟨by rw [List.length_append, List.length_append, List.length_map, List.length_map, r.length, hlen], fun i d h1 h2 => ?_, fun i d h1 h2 => ?_, fun i h => ?_, I.dist, I.nd, I.src, I.ext, I.gl, I.live, I.dom, I.mh, I.tb, I.hb, I.par.of rfl fun i hi h d hd => ⟨h, ⟨d, by rw [List.getElem?_append_left (hO i h)] at hd; exact hd⟩, List.getElem?_append_left (by rw [← hlen]; exact hO i h)⟩⟩
  · rcases Nat.lt_or_ge i env.length with lt | ge
    · rw [List.getElem?_append_left lt] at h1
      rw [List.getElem?_append_left (by rw [← hlen]; exact lt)]
      exact I.val i d h1 h2
    · rw [List.getElem?_append_right ge] at h1
      rw [List.getElem?_append_right (by rw [← hlen]; exact ge), ← hlen]
      generalize i - env.length = j at h1
      rw [List.getElem?_map] at h1
      cases q : ds[j]? with
      | none => rw [q] at h1; cases h1
      | some d' =>
        rw [q] at h1
        cases h1
        obtain ⟨v, e1, e2⟩ := r.get q
        exact ⟨v, by rw [List.getElem?_map, e1]; rfl, e2⟩
  · have lt := hO i h2
    rw [List.getElem?_append_left lt] at h1
    rw [List.getElem?_append_left (by rw [← hlen]; exact lt)]
    exact I.own i d h1 h2
  · refine I.non i (h.elim .inl fun z => ?_)
    by_cases hi : i ∈ O
    · exact .inr fun d q => z d (by rw [List.getElem?_append_left (hO i hi)]; exact q)
    · exact .inl hi
end
end Mir
namespace Mir
open PySem PySem.Spec PyProof.Rows L2
section
variable {S : Sc} [Tbl]
theorem RepL.rep {F : Addr → Prop} {H : Hp} {ds : List D} {vs : List V} (h : RepL S F H ds vs) : ∀ n, RepL S F H (List.replicate n ds).flatten (List.replicate n vs).flatten
  | 0 => .nil
  | n + 1 => by
    rw [List.replicate_succ, List.replicate_succ, List.flatten_cons, List.flatten_cons]
    exact h.append (RepL.rep h n)
end
section
variable {S : Sc} {O O' P : List Nat} [Tbl]
end
end Mir
namespace MirSrt
open PySem PyProof.Rows SrtO Srt
section
variable {prog : Program} {w : World} {A : Around} {E : Value → Shared → Prop} {s : Shared}
end
end MirSrt
namespace Mir
open PySem PySem.Spec PyProof.Rows L2
section
variable {S : Sc} [Tbl]
end
end Mir
namespace Mir
open PySem PySem.Spec PyProof.Rows L2
variable [Tbl]
section
variable {P : Program} {w : World} {K : PySem.W.Frag} {mg : Str → Option Value} {base : Heap} {S : Sc}
end
end Mir
namespace Mir
open PySem PySem.Spec PyProof.Rows L2
section
variable {S : Sc} [Tbl]
end
end Mir
namespace Mir
open PySem PySem.Spec PyProof.Rows L2 PySem.W
section
variable {S : Sc} [Tbl]
end
end Mir
namespace Mir
open PySem PySem.Spec PyProof.Rows L2 PySem.W
abbrev T3 := Int × Int × Int
def lessT (x y : T3) : Prop := x.1 < y.1 ∨ (x.1 = y.1 ∧ (x.2.1 < y.2.1 ∨ (x.2.1 = y.2.1 ∧ x.2.2 < y.2.2)))
instance (x y : T3) : Decidable (lessT x y) := by unfold lessT; infer_instance
section
variable {S : Sc} [Tbl]
end
end Mir
namespace Mir
open PySem PySem.Spec PyProof.Rows L2
variable [Tbl]
structure ExB (K : PySem.W.Frag) (B : Addr) : Prop where
  rd : PySem.W.readsIn K B (.type "type") = true
  fi : PySem.W.findCls K (.ref B) (.type "type") "__init__" = some (.val (.builtin "ValueError.__init__"))
  ga : PySem.W.specialIn K (.ref B) "__getattribute__" = some (some (.builtin "type.__getattribute__"))
section
variable {X : Cx} {e : Expr} {es : List Expr} {ta : TA} {p1 p2 pos : Pos} {x : Str} {B : Addr}
end
section
variable {P : Program} {w : World} {K : PySem.W.Frag} {mg : Str → Option Value} {base : Heap} {S : Sc}
theorem fnD_okS {x qual : Str} {params : Arguments} {body : List Stmt} {scope : Scope} {dvs : List V} {kws : List (Str × V)} {f : Addr} {fd : FuncData} {N ps : List Str} {k : Nat} {sp : Sp} (F : FunD K x qual params body scope dvs kws f fd) (sc : FnScope N ps scope) (len : ∀ vs H Q E, sp vs H Q E → vs.length = ps.length)
    (hb : ∀ (cdv : Value) (A : Around) (outer : List PySem.Env) (s : Shared) (H : Hp) (E : XK), Room k (A.deeper (envOfC qual scope s.heap.objs.size f cdv)) →
      ∃ t, PSs (cxOf CX0 P w K mg base N qual scope f cdv A outer s H E).nox body t ∧ ∀ vs H Q, sp vs H Q E → t { nx := fun _ H' => Q .non H', rt := Q } (L2.start N vs) H) :
    FnOk P w K mg base CX0 (k + 1) f fd ps sp := by
  obtain ⟨oc, od, dV, kV, doc, pm, an, cdv, ct, osl, rfl, lk, hcd, _, _⟩ := F.ex
  refine fn_of lk hcd sc len fun A outer s H vs Q E hr hsp => ?_
  obtain ⟨t, h1, h2⟩ := hb cdv A outer s H E hr
  exact ⟨t, h1.nox, h2 _ _ _ hsp⟩
end
def sRaise (c n : Nat) (a : AM) : SM := fun env => (a env).fl fun ds e => if ds.length = n then .exc ⟨c, ds.reverse⟩ e else .bad
@[simp] theorem ap_sRaise {c n : Nat} {a : AM} {env : Env} : sRaise c n a env = (a env).fl fun ds e => if ds.length = n then .exc ⟨c, ds.reverse⟩ e else .bad := rfl
section
variable {S : Sc} {O P : List Nat} {E : XK} {fr : Bool} {tA : TA} {mA : AM}
end
end Mir
namespace Mir
open PySem PySem.Spec PyProof.Rows L2
variable [Tbl]
def rCntB (K : PySem.W.Frag) : V → List V → Hp → VK → Prop := fun x xs H Q => ∃ (p : Addr) (bs : List Bool) (k : Bool), x = .ref p ∧ xs = [.bl k] ∧ SqL K H p (bs.map V.bl) ∧ Q (.int (countIn (.bool k) (bs.map .bool))) H
theorem dp_bools {K : PySem.W.Frag} {H : Hp} : ∀ bs : List Bool, DpAll K H (bs.map V.bl) (bs.map .bool)
  | [] => .nil
  | b :: bs => .cons (.bl b) (dp_bools bs)
theorem mt_cntB {X : Cx} : MtR X "list.count" (rCntB X.K) := by
  intro pins s σ H x xs v us Q I rx rxs h
  obtain ⟨p, bs, k, rfl, rfl, hs, q⟩ := h
  cases rx
  obtain ⟨u, rfl, ru⟩ := rxs.one
  cases (show u = Value.bool k from ru)
  obtain ⟨its, rv, hl, hz⟩ := I.list hs
  obtain ⟨as, ra⟩ := Dp.readsAll I (bs.map .bool) (bs.map V.bl) its (dp_bools bs) rv
  refine count_list_bools hl.isList ra ?_ ⟨.int (countIn (.bool k) (bs.map .bool)), H, I.tok _, ⟨s.toks, rfl⟩, q⟩
  rw [List.all_map, List.all_eq_true]
  exact fun _ _ => rfl
def oCnt : D → D → Option D
  | .lst ds, .bl k => (blsOf ds).map fun bs => .int (countIn (.bool k) (bs.map .bool))
  | _, _ => none
def eCnt (a b : EM) : EM := fun env => (a env).bind fun x e => match x with
  | .lst ds => (b e).bind fun y e' => .opt (oCnt (.lst ds) y) e'
  | _ => .bad
section
variable {S : Sc} {O P : List Nat} {E : XK} {μ : Mo} {fr fa fb : Bool} {ta tb te : TE} {ma mb : EM} {t u : TT} {tA : TA} {mA : AM}
theorem ref_cnt (ha : RefE S O P E μ fa ta ma) (hb : RefE S O P E μ fb tb mb) : RefE S O P E μ false (tBM S.K "list" (rCntB S.K) ta (tCons tb tNil)) (eCnt ma mb) := by
  intro R σ H fp env I Q h
  refine ha R σ H fp env I _ ((Want.bind h).mono fun x e1 H1 f1 I1 s1 h1 v hv _ => ?_)
  cases x with
  | lst ds =>
    have hv := hv.rep
    have hv' := hv
    obtain ⟨a, vs, rfl, n, q1, q2⟩ := hv'
    refine ⟨.inl ⟨rfl, vs, .inl (.inl q1)⟩, ?_⟩
    refine hb R σ H1 f1 e1 I1 _ ((Want.bind h1).mono fun y e2 H2 f2 I2 s2 h2 u hu _ => ?_)
    have hx : Rep S (FM R f2 μ) H2 (.lst ds) (.ref a) := Rep.fwd s2.fwd _ _ hv
    obtain ⟨z, hz⟩ := want_some h2
    have hz' := hz
    cases y with
    | bl k =>
      cases (show u = V.bl k from hu.rep)
      have hz : (blsOf ds).map (fun bs => D.int (countIn (.bool k) (bs.map .bool))) = some z := hz
      cases e : blsOf ds with
      | none => rw [e] at hz; cases hz
      | some bs =>
        rw [e] at hz
        cases hz
        obtain ⟨a', vs', ea, _, w1, w2⟩ := hx
        cases ea
        have e' := blsOf_some e
        rw [e'] at w2
        rw [w2.bls] at w1
        exact ⟨a, bs, k, rfl, rfl, .inl (.inl w1), want_opt h2 hz' I2 (fun a q => (s1.trans s2).dom q) (Ext.refl _ _) rfl⟩
    | _ => cases hz
  | _ => exact h1.elim
structure XcC (K : PySem.W.Frag) (C : Addr) : Prop where
  cl : (PySem.W.clsIn K C).isSome = true
  ga : PySem.W.findIn K (.ref C) "__getattribute__" = some (some (.builtin "BaseException.__getattribute__"))
  gt : PySem.W.findIn K (.ref C) "__getattr__" = some none
  sb : PySem.W.subIn K (.ref C) (.type "BaseException") = some true
  ca : PySem.W.findIn K (.ref C) "__class__" = some (some (.builtin "object.__class__"))
  gn : PySem.W.specialIn K (.builtin "object.__class__") "__get__" = some (some (.builtin "getset_descriptor.__get__"))
  tk : PySem.W.takesIn K (.builtin "object.__class__") = some true
  mo : PySem.W.mroIn K C (.type "object") = some true
def DdAt (H : Hp) (d : Option Addr) : Prop := d = none ∨ ∃ dd fs, d = some dd ∧ H dd = some (.xd fs)
def rIsX (K : PySem.W.Frag) (a : Addr) (cls : Value) (d : Option Addr) : List V → Hp → VK → Prop := fun xs H Q => ∃ (C : Addr) (c : V) (cv : Value) (b : Bool), xs = [.ref a, c] ∧ cls = .ref C ∧ XcC K C ∧ DdAt H d ∧ (∀ u, RelV c u → u = cv) ∧ PySem.W.kitOne K cls cv = some b ∧ Q (.bl b) H
theorem call_isX {X : Cx} {a : Addr} {cls : Value} {d : Option Addr} {oe : Obj} {pn : List (Addr × Obj)} (hz : Zc cls d oe) (hf : ∃ vs, oe.data = .fields vs) : CallR (X.suite a ((a, oe) :: pn)) (.builtin "isinstance") (rIsX X.K a cls d) := by
  intro pins s σ H xs us Q I r h
  obtain ⟨C, c, cv, b, rfl, rfl, T, hd, hcv, e, q⟩ := h
  cases r with
  | cons rx rr =>
    cases rr with
    | cons rt rr =>
      cases rr
      cases rx
      cases hcv _ rt
      have hp := (I.pin (a, oe) (List.mem_append_left _ List.mem_cons_self)).1
      obtain ⟨vs, hv⟩ := hf
      have key : ∀ od, PySem.W.InstAt s.heap a oe C od → wpAny (model X.prog X.w) (X.suite a ((a, oe) :: pn)).A (call (.builtin "isinstance") [.ref a, cv]) (EP (X.suite a ((a, oe) :: pn)) pins σ Q) (X.suite a ((a, oe) :: pn)).xe s := fun od J =>
        PySem.W.kia_one (PySem.W.kitx_exc T.cl T.ga T.gt T.sb T.ca T.gn T.tk T.mo) I.kIn J e (fun z => nomatch z) fun tk => ⟨.bl b, H, I.kept (t' := tk) fun _ _ z => z, rfl, q⟩
      rcases hd with hd | ⟨dd, fs, hd, hx⟩
      · refine key none ?_
        obtain ⟨oc, oq, oda, osl⟩ := oe
        obtain ⟨h1, h2⟩ := hz
        dsimp only at h1 h2 hv
        subst h1 h2 hv hd
        exact ⟨hp, rfl, rfl, trivial⟩
      · obtain ⟨mA, hns, _⟩ : ObjOk X.prog X.w H s.heap dd (.xd fs) := I.hok dd _ hx
        obtain ⟨od, ho, _⟩ := lookIn_ns hns
        refine key (some od) ⟨hp, hz.1, by unfold PySem.W.notCls; rw [hv], ?_⟩
        rw [hz.2, hd]
        exact ho
def tXg (K : PySem.W.Frag) (a : Addr) (cls : Value) (d : Option Addr) (f : Str) (te : TE) : TE := fun σ H Q => te σ H fun x H1 => x = .ref a ∧ ∃ C, cls = .ref C ∧ XfC K C ∧ PySem.W.findIn K (.ref C) f = some none ∧ ∃ (dd : Addr) (fs : List (Str × V)) (v : V), d = some dd ∧ H1 dd = some (.xd fs) ∧ fs.lookup f = some v ∧ Q v H1
theorem pe_xg {X : Cx} {a : Addr} {oe : Obj} {cls : Value} {d : Option Addr} {pn : List (Addr × Obj)} {e : Expr} {te : TE} {pos : Pos} {n : Str} (hz : Zc cls d oe) (hf : ∃ vs, oe.data = .fields vs) (he : PE (X.suite a ((a, oe) :: pn)) e te)
    (hb : attributeBase e n X.env (eval e X.env) = eval e X.env := by rfl) : PE (X.suite a ((a, oe) :: pn)) (.Attribute e n pos) (tXg X.K a cls d n te) := by
  refine ⟨fun pins s σ H Q I h => attr_of hb (thn (he.run pins s σ H _ I h) fun w s1 z => ?_)⟩
  obtain ⟨x, H1, I1, rx, ex, C, ec, T, hno, dd, fs, v, ed, ea, l, q⟩ := z
  cases ex
  cases (show w = Value.ref a from rx)
  obtain ⟨zc, zd⟩ := hz
  rw [ec] at zc
  rw [ed] at zd
  have hp := (I1.pin (a, oe) (List.mem_append_left _ List.mem_cons_self)).1
  obtain ⟨ws, hw⟩ := hf
  obtain ⟨mA, hns, rel⟩ : ObjOk X.prog X.w H1 s1.heap dd (.xd fs) := I1.hok dd _ ea
  obtain ⟨od, ho, lk⟩ := lookIn_ns hns
  have rn := rel n
  rw [l] at rn
  obtain ⟨u, hu, ru⟩ := RelO.some_of rn
  have J : PySem.W.InstAt s1.heap a oe C (some od) := by
    refine ⟨hp, zc, ?_, ?_⟩
    · unfold PySem.W.notCls; rw [hw]
    · rw [zd]; exact ho
  have fo : PySem.W.findObj X.K C (some od) n = _ := PySem.W.findObj_own T.hdC hno rfl (by rw [lk, hu])
  exact HandSPX.exc_get I1.kIn J T.ga T.gg T.exC fo (handed_of ru) ⟨v, H1, I1.tok _, ru, q⟩
end
end Mir
namespace Mir
open PySem PySem.Spec PyProof.Rows L2
variable [Tbl]
def eBad : EM := fun _ => .bad
theorem ref_bad {S : Sc} {O P : List Nat} {E : XK} {μ : Mo} {fr : Bool} {t : TE} : RefE S O P E μ fr t eBad := fun _ _ _ _ _ _ _ h => h.elim
def eIsE (i : Nat) (b : Bool) : EM := fun env => match env[i]? with
  | some (some (.dic [.int 0, .int _] [])) => .ok (.bl b) env
  | _ => .bad
section
variable {S : Sc} {O P : List Nat} {E : XK} {μ : Mo} {fr : Bool} {i : Nat} {a : Addr} {Hc : Hp} {cls : Value} {d : Option Addr}
theorem held_at {R : Rx} {σ : L2.St} {H : Hp} {fp : Fp} {env : Env} {k : Int} (I : Rel (Sx S Hc a) O P R σ H fp env) (hO : i ∉ O) (h : env[i]? = some (some (.dic [.int 0, .int k] []))) : σ[i]? = some (some (.ref a)) := by
  obtain ⟨v, h1, h2⟩ := I.val i _ h hO
  rcases h2 with ⟨c, z, _⟩ | ⟨k, _, rfl⟩ | ⟨_, _, _, _, _, _, n, _⟩ | ⟨_, _, _, _, _, z, _⟩
  · cases z
  · exact h1
  · exact absurd rfl (n.1 _)
  · cases z
theorem ref_isX {C : Addr} {c : V} {cv : Value} {b : Bool} (hO : i ∉ O) (hcls : cls = .ref C) (T : XcC S.K C) (hd : DdAt Hc d) (hcv : ∀ u, RelV c u → u = cv) (hk : PySem.W.kitOne S.K (.ref C) cv = some b) :
    RefE (Sx S Hc a) O P E μ false (tCB (rIsX S.K a cls d) (tCons (tVar i) (tCons (tC c) tNil))) (eIsE i b) := by
  intro R σ H fp env I Q h
  unfold eIsE at h
  split at h
  · rename_i k e
    refine ⟨.ref a, held_at I hO e, C, c, cv, b, rfl, hcls, T, ?_, hcv, by rw [hcls]; exact hk, ?_⟩
    · refine hd.imp id fun ⟨dd, fs, e1, e2⟩ => ⟨dd, fs, e1, ?_⟩
      exact I.hbH.nil _ _ e2
    · exact h H fp I Stp.refl (.bl b) rfl (fun z => by cases z)
  · exact h.elim
end
section
variable {S : Sc} {E : XK} {f : Addr} {i j : Nat} {m : DM} {h : Exn → SM} {c : Value} {Wout : WX} {ts : Addr → Value → Option Addr → TS}
end
theorem passX {X : Cx} {E : XK} {E₁ : Value → Shared → Prop} (hs : X.stack = X.env :: X.outer) (hf : X.env.frame = some X.env.locals) (hex : X.ex = []) (hx : X.xe = fun e s' => wpAny (model X.prog X.w) X.A (leaving X.env e) (fun _ s'' => L2.CX X.prog X.w X.outer X.H_0 X.s_0 E e s'') E₁ s') : Passes (L2.CX X.prog X.w) X E :=
  passes_call (takes_of hs hf hex hx) fun _ _ _ _ h => h
section
variable {P : Program} {w : World} {K : PySem.W.Frag} {mg : Str → Option Value} {base : Heap} {S : Sc}
end
end Mir
namespace Mir
open PySem PySem.Spec PyProof.Rows L2
variable [Tbl]
def hOf (L : List (Nat × (List D → SM))) : Exn → SM := fun x => match L.find? (fun p => decide (p.1 = x.c)) with
  | some p => p.2 x.ds
  | none => sBad
theorem DdAt.of {S : Sc} {H : Hp} {x : Exn} {cls : Value} {dd : Option Addr} (h : ExcR S H x cls dd) : DdAt H dd := by
  rcases h.2 with ⟨_, h⟩ | ⟨b, fs, h1, h2, _⟩
  · exact .inl h
  · exact .inr ⟨b, fs, h1, h2⟩
section
variable {S : Sc} {O P : List Nat} {E : XK} {μ : Mo} {fr : Bool} {i j : Nat} {a : Addr} {Hc : Hp} {cls : Value} {d : Option Addr}
end
section
variable {S : Sc} {E : XK} {f : Addr} {i j : Nat} {m : DM} {c : Value} {Wout : WX} {ts : Addr → Value → Option Addr → TS} {L : List (Nat × (List D → SM))}
end
def eNX (m : EM) : EM := fun env => (m env).noX
theorem ref_nx {S : Sc} {O P : List Nat} {E : XK} {μ : Mo} {fr : Bool} {t : TE} {m : EM} (h : RefE S O P E0 μ fr t m) : RefE S O P E μ fr t (eNX m) := by
  intro R σ H fp env I Q hw
  refine h R σ H fp env I Q ?_
  unfold eNX at hw
  cases q : m env with
  | bad => rw [q] at hw; exact hw
  | exc x e => rw [q] at hw; exact hw.elim
  | ok d e => rw [q] at hw; exact hw
theorem t_nx {m : EM} {env e1 : Env} {d : D} (h : m env = .ok d e1) : eNX m env = .ok d e1 := by
  unfold eNX
  rw [h]
  rfl
section
variable {X : Cx} {a : Addr} {pn : List (Addr × Obj)}
theorem op_eqXS (hu : X.A.units + 64 < cLine) : OpR (X.suite a pn) (compareOp .Eq) (rEqX X.K) := op_eqX (X := X.suite a pn) hu
theorem op_neXS (hu : X.A.units + 64 < cLine) : OpR (X.suite a pn) (compareOp .NotEq) (rNeX X.K) := op_neX (X := X.suite a pn) hu
theorem op_inXS (hu : X.A.units + 65 < cLine) : OpR (X.suite a pn) (compareOp .In) (rInX X.K) := op_inX (X := X.suite a pn) hu
theorem op_addXS : OpR (X.suite a pn) (binaryOp .Add) (rAddX X.K) := op_addX (X := X.suite a pn)
theorem mt_cntBS : MtR (X.suite a pn) "list.count" (rCntB X.K) := mt_cntB (X := X.suite a pn)
theorem mt_indexDS (hu : X.A.units + 65 < cLine) : MtR (X.suite a pn) "list.index" (rIndexD X.K) := mt_indexD (X := X.suite a pn) hu
theorem ix_seqS : IxR (X.suite a pn) (rIx X.K) := ix_seq (X := X.suite a pn)
variable {o e : Expr} {es : List Expr} {to : TE} {t : TA} {name : Str} {apos cpos : Pos} {T id : String} {r : V → List V → Hp → VK → Prop}
theorem pe_bmS (pa : PlainAttrs T) (slot : Slot T name id) (hty : typeOf (.builtin id) = pure (.type "method_descriptor")) (hm : MtR (X.suite a pn) id r) (ho : PE (X.suite a pn) o to) (ha : PA (X.suite a pn) (e :: es) t)
    (hbase : attributeBase o name X.env (eval o X.env) = eval o X.env := by rfl)
    (hfew : (((backTo cpos (starEach (e :: es) X.env)).all fun x => !x.1) && ((backToKw cpos (keywordEach [] X.env)).all fun x => x.1.isSome) && decide ((e :: es).length + ([] : List Keyword).length + (if ([] : List Keyword).isEmpty then 0 else 1) < 30)) = true := by rfl)
    (hline : (apos.endLine == cpos.line) = true := by rfl) (hs : starEach (e :: es) X.env = (false, eval e X.env) :: starEach es X.env := by rfl) (hpl : (backTo cpos (starEach es X.env)).any (·.1) = false := by rfl) :
    PE (X.suite a pn) (.Call (.Attribute o name apos) (e :: es) [] cpos) (tBM X.K T r to t) := pe_bm (X := X.suite a pn) pa slot hty hm ho ha hbase hfew hline hs hpl
end
theorem cl_of {K : PySem.W.Frag} {C : Addr} (h : PySem.W.hasDictIn K C = true) : (PySem.W.clsIn K C).isSome = true := by
  obtain ⟨cd, hc, _⟩ := PySem.W.any_some h
  rw [hc]
  rfl
theorem kit_ref {K : PySem.W.Frag} {C T : Addr} {b : Bool} (hs : PySem.W.subIn K (.ref C) (.ref C) = some true) (hd : PySem.W.hasDictIn K T = true) (ty : PySem.W.typeIn K (.ref T) = some (.type "type")) (h : PySem.W.subIn K (.ref C) (.ref T) = some b) : PySem.W.kitOne K (.ref C) (.ref T) = some b := by
  unfold PySem.W.kitOne
  by_cases e : ((Value.ref C) == (Value.ref T)) = true
  · rw [if_pos e]
    have := Value.ref.inj (beq_iff_eq.mp e)
    subst this
    rw [← h, hs]
  · rw [if_neg e]
    show (if ((PySem.W.clsIn K T).isSome && PySem.W.typeIn K (.ref T) == some (.type "type")) = true then PySem.W.subIn K (.ref C) (.ref T) else none) = _
    rw [cl_of hd, ty]
    exact h
theorem kit_blt {K : PySem.W.Frag} {C : Addr} {T : String} {b : Bool} (hm : PySem.W.kitMeta T = true) (h : PySem.W.subIn K (.ref C) (.type T) = some b) : PySem.W.kitOne K (.ref C) (.type T) = some b := by
  unfold PySem.W.kitOne
  have e : ((Value.ref C) == (Value.type T)) = false := rfl
  rw [e]
  show (if PySem.W.kitMeta T = true then PySem.W.subIn K (.ref C) (.type T) else none) = _
  rw [if_pos hm]
  exact h
theorem mem_nil {α : Type} {p : α → Prop} : ∀ x ∈ ([] : List α), p x := fun _ m => nomatch m
end Mir
namespace Mir
open PySem PySem.Spec PyProof.Rows L2
variable [Tbl]
section
variable {S : Sc} {O P : List Nat} {E : XK} {fb : Bool} {tb : TE} {mb : EM} {i : Nat}
theorem Rel.slot {R : Rx} {σ : L2.St} {H : Hp} {fp : Fp} {env : Env} (I : Rel S O P R σ H fp env) (h : i < env.length) (n : ∃ x, σ[i]? = some (some x)) : ∃ x, σ[i]? = some (some x) := n
end
section
variable {S : Sc} {O P : List Nat} {E : XK} {fb : Bool} {tb : TE} {mb : EM} {i : Nat}
end
section
variable {env e1 : Env} {mb : EM} {i : Nat} {ds0 ds es : List D} {d : D} {k : Int}
end
end Mir
namespace Mir
open PySem PySem.Spec PyProof.Rows L2
variable [Tbl]
section
variable {S : Sc} {F : Addr → Prop} {H : Hp}
end
section
variable {S : Sc} {O P : List Nat}
end
end Mir
namespace Mir
open PySem PySem.Spec PyProof.Rows L2
variable [Tbl]
section
variable {S : Sc} {O P : List Nat}
end
end Mir
namespace Mir
open PySem PySem.Spec PyProof.Rows L2
variable [Tbl]
section
variable {S : Sc} {O P : List Nat} {E : XK} {fr : Bool}
def sRaise0 (c : Nat) : SM := fun env => .exc ⟨c, []⟩ env
@[simp] theorem ap_sRaise0 {c : Nat} {env : Env} : sRaise0 c env = .exc ⟨c, []⟩ env := rfl
theorem rs_raise0 {c : Nat} : RefS S O P E fr (fun _ _ H => E (.ref (S.ca c)) none H) (sRaise0 c) := by
  intro R σ H fp env I D h
  exact h (.ref (S.ca c)) none σ H fp I (Fwd.refl _ _) ⟨rfl, .inl ⟨rfl, rfl⟩⟩
end
end Mir
namespace Mir
open PySem PySem.Spec PyProof.Rows L2
variable [Tbl]
section
variable {S : Sc} {O P : List Nat} {E : XK} {tl th : TO} {pl ph : PM} {i : Nat}
end
section
variable {env e1 e2 : Env} {lo hi : PM} {i : Nat} {ds0 ds : List D} {l u : Option Int}
end
section
variable {S : Sc} {O P : List Nat} {E : XK} {μ : Mo} {fa : Bool} {ta : TE} {ma : EM}
end
section
variable {env e1 : Env} {a : EM} {c i : Nat} {f : DM0} {x : D} {ds es : List D}
end
end Mir
namespace Mir
open PySem PySem.Spec PyProof.Rows L2
variable [Tbl]
section
variable {S : Sc} {F : Addr → Prop} {H : Hp}
end
section
variable {S : Sc} {X : Cx} {pins : List (Addr × Obj)} {σ : L2.St} {H : Hp} {s : Shared} {a b : Addr} {kvs : List NE} {d : D} {A : Around} {E : Value → Shared → Prop}
end
section
variable {S : Sc} {X : Cx} {o i value : Expr} {pos pos' : Pos} {td ty tv : TE}
end
section
variable {S : Sc} {X : Cx} {O P : List Nat} {E : XK} {μ : Mo} {fr fa fb fc : Bool} {ta tb tc : TE} {ma mb mc : EM}
end
end Mir
namespace Mir
open PySem PySem.Spec PyProof.Rows L2
variable [Tbl]
section
variable {S : Sc} {X : Cx} {O P : List Nat} {E : XK} {μ : Mo} {fr fa fb fc : Bool} {ta tb tc : TE} {ma mb mc : EM} {i j : Nat}
end
end Mir
namespace Mir
open PySem PySem.Spec PyProof.Rows L2
variable [Tbl]
section
variable {S : Sc} {F : Addr → Prop} {H : Hp}
theorem OwnF.own : ∀ {bs : List Bool} {ds : List D} {vs : List V} {fl : List Addr} {k : Nat} {d : D}, OwnF S F H bs ds vs fl → bs[k]? = some true → ds[k]? = some d → d.frozen = false → ∃ b, vs[k]? = some (.ref b) ∧ b ∈ fl ∧ Own1 S F H d b
  | [], ds, vs, fl, k, d, h, n, e, _ => by simp at n
  | _ :: _, [], _, _, k, d, h, _, e, _ => by simp at e
  | false :: bs, d' :: ds, vs, fl, 0, d, h, n, e, _ => by simp at n
  | true :: bs, d' :: ds, vs, fl, 0, d, h, n, e, hz => by
    cases (show d' = d by simpa using e)
    rcases h with ⟨b, r, q, e0, e2, h1, h2⟩ | ⟨z, _⟩
    · exact ⟨b, by rw [e0]; rfl, by rw [e2]; exact List.mem_cons_self, h1⟩
    · rw [hz] at z; cases z
  | false :: bs, d' :: ds, vs, fl, k + 1, d, h, n, e, hz => by
    obtain ⟨v, r, e0, h1, h2⟩ := h
    obtain ⟨u, x1, x2, x3⟩ := OwnF.own h2 (show bs[k]? = some true by simpa using n) (show ds[k]? = some d by simpa using e) hz
    exact ⟨u, by rw [e0]; simpa using x1, x2, x3⟩
  | true :: bs, d' :: ds, vs, fl, k + 1, d, h, n, e, hz => by
    rcases h with ⟨b, r, q, e0, e2, h1, h2⟩ | ⟨z, v, r, e0, h1, h2⟩
    · obtain ⟨u, x1, x2, x3⟩ := OwnF.own h2 (show bs[k]? = some true by simpa using n) (show ds[k]? = some d by simpa using e) hz
      exact ⟨u, by rw [e0]; simpa using x1, by rw [e2]; exact List.mem_cons_of_mem _ x2, x3⟩
    · obtain ⟨u, x1, x2, x3⟩ := OwnF.own h2 (show bs[k]? = some true by simpa using n) (show ds[k]? = some d by simpa using e) hz
      exact ⟨u, by rw [e0]; simpa using x1, x2, x3⟩
end
section
variable {S : Sc} {X : Cx} {O P : List Nat} {E : XK} {μ : Mo} {fr fa fb fc : Bool} {ta tb tc : TE} {ma mb mc : EM} {i j : Nat}
end
end Mir
namespace Mir
open PySem PySem.Spec PyProof.Rows L2
variable [Tbl]
section
variable {X : Cx} {pins : List (Addr × Obj)} {σ : L2.St} {H : Hp} {s : Shared} {d : Addr} {o : Obj} {kvs : List NE}
end
section
variable {P : Program} {w : World} {K : PySem.W.Frag} {tg : Expr} {d : Addr} {o : Obj} {es : Array DictEntry} {ep : Nat} {kvs : List NE}
end
section
variable {X : Cx} {tg e : Expr} {td : TE} {apos cpos : Pos}
end
section
variable {S : Sc} {X : Cx} {O P : List Nat} {E : XK} {μ : Mo} {fr fa fb fc : Bool} {ta tb tc : TE} {ma mb mc : EM} {i j : Nat}
end
section
variable {S : Sc} {X : Cx} {pins : List (Addr × Obj)} {σ : L2.St} {H : Hp} {s : Shared} {a b : Addr} {kvs : List NE} {d : D} {A : Around} {E : Value → Shared → Prop}
end
section
variable {S : Sc} {X : Cx} {o i : Expr} {pos : Pos} {td ty : TE}
end
def D.kvs : D → Option (List D × List D)
  | .map ks vs => some (ks, vs)
  | .dic ks vs => (match ks with
    | [.int _] => none
    | [.int 0, .int _] => none
    | .bl true :: _ => none
    | _ => some (ks, vs))
  | _ => none
section
variable {S : Sc} {X : Cx} {O P : List Nat} {E : XK} {μ : Mo} {fr fa fb fc : Bool} {ta tb tc : TE} {ma mb mc : EM} {i j : Nat}
end
end Mir
namespace Mir
open PySem PySem.Spec PyProof.Rows L2 PySem.W
end Mir
namespace MirSrt
open PySem PyProof.Rows SrtO Srt PySem.W
section
variable {prog : Program} {w : World} {A : Around} {E : Value → Shared → Prop} {s : Shared} {β : Type} {enc : β → PyData} {Rl : Value → β → Prop}
end
end MirSrt
namespace Mir
open PySem PySem.Spec PyProof.Rows L2 PySem.W
variable [Tbl]
section
variable {S : Sc} {P : Program} {w : World}
end
end Mir
namespace MirSrt
open PySem PyProof.Rows SrtO Srt PySem.W SeqAt
section
variable {prog : Program} {w : World} {A : Around} {E : Value → Shared → Prop} {s : Shared}
end
end MirSrt
namespace MirSrt
open PySem PyProof.Rows SrtO Srt PySem.W SeqAt
section
variable {prog : Program} {w : World} {A : Around} {E : Value → Shared → Prop} {s : Shared} {β : Type} {enc : β → PyData} {Rl : Value → β → Prop}
end
end MirSrt
namespace Mir
open PySem PySem.Spec PyProof.Rows L2 PySem.W
variable [Tbl]
end Mir
namespace Mir
open PySem PySem.Spec PyProof.Rows L2 PySem.W
def tP (ns : List Int) : PyData := .tuple (ns.map .int)
variable [Tbl]
section
variable {S : Sc} {X : Cx} {O P : List Nat} {E : XK} {μ : Mo} {fr fa fb fc : Bool} {ta tb tc : TE} {ma mb mc : EM} {i j : Nat}
end
end Mir
namespace Mir
open PySem PySem.Spec PyProof.Rows L2
variable [Tbl]
section
variable {S : Sc} {X : Cx}
end
end Mir
namespace Mir
open PySem PySem.Spec PyProof.Rows L2
variable [Tbl]
section
variable {S : Sc} {X : Cx} {O P : List Nat} {E : XK} {μ : Mo} {fr fa fb fc : Bool} {ta tb tc : TE} {ma mb mc : EM} {i j : Nat}
end
end Mir
namespace Mir
open PySem PySem.Spec PyProof.Rows L2
variable [Tbl]
section
variable {S : Sc} {F : Addr → Prop} {H : Hp}
end
section
variable {S : Sc} {X : Cx} {O P : List Nat} {E : XK} {μ : Mo} {fr fa fb fc : Bool} {ta tb tc : TE} {ma mb mc : EM} {i j : Nat} {t : TS} {m : SM}
end
end Mir
namespace Mir
open PySem PySem.Spec PyProof.Rows L2
variable [Tbl]
section
variable {S : Sc} {X : Cx} {O P : List Nat} {E : XK} {μ : Mo} {fr fa fb fc : Bool} {ta tb tc : TE} {ma mb mc : EM} {i j : Nat}
end
end Mir
namespace Mir
open PySem PySem.Spec PyProof.Rows L2
variable [Tbl]
section
variable {S : Sc} {X : Cx} {O P : List Nat} {E : XK} {μ : Mo} {fr fa fb fc : Bool} {ta tb tc : TE} {ma mb mc : EM} {i j : Nat}
end
end Mir
namespace Mir
open PySem PySem.Spec PyProof.Rows L2
variable [Tbl]
section
variable {S : Sc} {O P : List Nat} {E : XK} {μ : Mo} {fr fa fb : Bool} {ta tb : TE} {ma mb : EM} {tA : TA} {mA : AM}
end
end Mir
namespace Mir
open PySem PySem.Spec PyProof.Rows L2
variable [Tbl]
section
variable {S : Sc}
end
end Mir
namespace Mir
open PySem PySem.Spec PyProof.Rows L2
variable [Tbl]
section
variable {S : Sc} {X : Cx} {O P : List Nat} {E : XK} {fr fa : Bool} {ta : TE} {ma : EM} {i j : Nat}
end
end Mir
namespace Mir
open PySem PySem.Spec PyProof.Rows L2
variable [Tbl]
section
variable {S : Sc} {X : Cx} {o i : Expr} {pos : Pos} {td ty : TE}
end
section
variable {S : Sc} {O P : List Nat} {E : XK} {μ : Mo} {fa fb : Bool} {ta tb : TE} {ma mb : EM}
end
end Mir
namespace Mir
open PySem PySem.Spec PyProof.Rows L2
variable [Tbl]
section
variable {P : Program} {w : World} {K : PySem.W.Frag} {mg : Str → Option Value} {base : Heap} {S : Sc}
end
section
variable {S : Sc} {O P : List Nat} {E : XK} {μ : Mo} {tA : TA} {mA : AM}
end
end Mir
namespace Mir
open PySem PySem.Spec PyProof.Rows L2
variable [Tbl]
section
variable {S : Sc} {O P : List Nat} {R : Rx} {σ : L2.St} {H H' : Hp} {fp : Fp} {env : Env} {X : Addr → Prop}
end
structure MO where
  d : D
  a : Addr
  l : List Addr
structure MadeOk (S : Sc) (F : Addr → Prop) (H1 H : Hp) (os : List MO) : Prop where
  own : ∀ o ∈ os, Own S F H o.d o.a o.l
  nd : ∀ o ∈ os, o.l.Nodup
  new : ∀ o ∈ os, ∀ x ∈ o.l, H1 x = none
  live : ∀ o ∈ os, ∀ x ∈ o.l, H x ≠ none
  dis : os.Pairwise fun o q => ∀ x ∈ o.l, x ∉ q.l
section
variable {S : Sc} {O P : List Nat} {R : Rx} {X : Addr → Prop}
end
section
variable {S : Sc} {O P : List Nat} {E : XK} {fr : Bool} {tA : TA} {mA : AM} {tt : TT}
end
end Mir
namespace Mir
open PySem PySem.Spec PyProof.Rows L2
variable [Tbl]
section
variable {S : Sc} {X : Cx} {pins : List (Addr × Obj)} {σ : L2.St} {H : Hp} {s : Shared}
end
section
variable {S : Sc} {P : Program} {w : World}
end
end Mir
namespace Mir
open PySem PySem.Spec PyProof.Rows L2
variable [Tbl]
section
variable {S : Sc} {O P : List Nat} {E : XK} {μ : Mo} {fr fa fb : Bool} {ta tb : TE} {ma mb : EM} {tA : TA} {mA : AM}
end
end Mir
namespace Mir
open PySem PySem.Spec PyProof.Rows L2
variable [Tbl]
section
variable {S : Sc} {X : Cx} {o i : Expr} {pos : Pos} {td ty : TE}
end
section
variable {S : Sc} {X : Cx} {O P : List Nat} {E : XK} {μ : Mo} {fr fa fb : Bool} {ta tb : TE} {ma mb : EM} {tA : TA} {mA : AM}
end
end Mir
namespace Mir
open PySem PySem.Spec PyProof.Rows L2
variable [Tbl]
section
variable {S : Sc} {F : Addr → Prop} {H : Hp}
end
section
variable {S : Sc} {X : Cx} {O P : List Nat} {E : XK} {μ : Mo} {fr fa fb : Bool} {ta tb : TE} {ma mb : EM} {i j : Nat}
end
end Mir
namespace Mir
open PySem PySem.Spec PyProof.Rows L2
variable [Tbl]
section
variable {X : Cx} {o : Expr} {f : Str} {pos : Pos} {to : TE}
end
section
variable {S : Sc} {X : Cx} {O P : List Nat} {E : XK} {μ : Mo} {fr fa fb fc : Bool} {ta tb tc : TE} {ma mb mc : EM} {i j : Nat}
end
end Mir
namespace Mir
open PySem PySem.Spec PyProof.Rows L2
variable [Tbl]
structure PCs (X : Cx) (cs : List MatchCase) (t : V → TS) : Prop where
  run : ∀ (pins : List (Addr × Obj)) (s : Shared) (σ : L2.St) (H : Hp) (v : V) (u : Value) (first : Bool) (D : Ends), L2.Inv X pins σ H s → RelV v u → t v D σ H → wpAny (model X.prog X.w) X.A (matchCases cs X.env u first) (SP X pins D) X.xe s
section
variable {X : Cx} {pins : List (Addr × Obj)} {σ : L2.St} {H : Hp} {s : Shared}
end
section
variable {S : Sc} {O P : List Nat} {E : XK} {fr fa : Bool} {ta tb : TS} {te : TE} {ma mb : SM} {me : EM}
end
end Mir
namespace Mir
open PySem PySem.Spec PyProof.Rows L2
variable [Tbl]
section
variable {X : Cx} {o e f : Expr} {apos cpos : Pos} {td ty tz : TE} {a : Addr}
end
section
variable {S : Sc} {O P : List Nat} {E : XK} {μ : Mo} {fa fb : Bool} {ta tb : TE} {ma mb : EM} {w : World} {a : Addr}
end
end Mir
namespace Mir
open PySem PySem.Spec PyProof.Rows L2
variable [Tbl]
end Mir
namespace L2
open PySem PySem.Spec PyProof.Rows
section
variable {X : Cx}
end
end L2
namespace Mir
open PySem PySem.Spec PyProof.Rows L2
variable [Tbl]
end Mir
namespace Mir
open PySem PySem.Spec PyProof.Rows L2
variable [Tbl]
def errW (S : Sc) (hx : Exn → Option D) (Q : VK) : XK := fun cls dd H1 => ∃ x d, ExcR S H1 x cls dd ∧ LamX.Tabs Tbl.T H1 ∧ hx x = some d ∧ d.pure = true ∧ ∀ v H2, Ext Nil H1 H2 → Rep S Nil H2 d v → Q v H2
def spErr (S : Sc) (hx : Exn → Option D) (f : Addr) (sp : Sp) : Sp := fun vs H Q E => vs = [.ref f] ∧ ∀ Qf Ef, (∀ v H1, Q .non H1 → Qf v H1) → (∀ cls dd H1, errW S hx Q cls dd H1 → Ef cls dd H1) → sp [] H Qf Ef
def CloX (P : Program) (w : World) (K : PySem.W.Frag) (mg : Str → Option Value) (S : Sc) (kl kg : Nat) (gs : List Str) (g : Addr) (fdg : FuncData) (hx : Exn → Option D) : Prop :=
  ∀ (base' : Heap) (f : Addr) (sp : Sp), FnV P w K mg base' (kl + 1) f [] sp → FnOk P w K mg base' CX0 kg g fdg gs (spErr S hx f sp)
def hxOf (N i : Nat) (h : Exn → SM) : Exn → Option D := fun x => if i < N then (match h x ((List.replicate N none).set i (some (fnTag 0))) with
  | .ret d _ => if d.pure = true then some d else none
  | _ => none) else none
section
variable {P : Program} {w : World} {K : PySem.W.Frag} {mg : Str → Option Value} {base : Heap} {S : Sc}
def tbV (f : Addr) (sp : Sp) : WX → TS := fun W => tDrop (tCallV0 0 f sp (WE W))
theorem errX_ok {x qual a0 : Str} {params : Arguments} {body : List Stmt} {scope : Scope} {dvs : List V} {kws : List (Str × V)} {g f : Addr} {fd : FuncData} {N : List Str} {k : Nat} (i : Nat) {sp : Sp} {L : List (Nat × (List D → SM))}
    (F : FunD K x qual params body scope dvs kws g fd) (sc : FnScope N [a0] scope) (hN : 1 ≤ N.length) (hK : S.K = K)
    (hb : ∀ (cdv : Value) (A : Around) (outer : List PySem.Env) (s : Shared) (H : Hp) (E : XK), Room k (A.deeper (envOfC qual scope s.heap.objs.size g cdv)) → ∃ Wout c ts,
      PSs (cxOf CX0 P w K mg base N qual scope g cdv A outer s H E).nox body (tSeq (fun D σ H => tbV f sp (wAs K c i ts Wout D) D σ H) (tRet (tC .non))) ∧
      (∀ p ∈ L, ∀ (x : Exn) (a : Addr) (cls : Value) (dd : Option Addr) (Hc : Hp) (E : XK), x.c = p.1 → ExcR S Hc x cls dd → RefS (Sx S Hc a) [] [] E false (ts a cls dd) (p.2 x.ds)) ∧
      (∀ p ∈ L, PySem.W.exmOne K (.ref (S.ca p.1)) c = some true)) :
    FnOk P w K mg base CX0 (k + 1) g fd [a0] (spErr S (hxOf N.length i (hOf L)) f sp) := by
  obtain ⟨oc, od, dV, kV, doc, pm, an, cdv, ct, osl, rfl, lk, hcd, _, _⟩ := F.ex
  refine fn_of lk hcd sc (fun vs H Q E h => by rw [h.1]; rfl) fun A outer s H vs Q E hr hsp => ?_
  obtain ⟨Wout, c, ts, h1, hs, hx⟩ := hb cdv A outer s H (fun _ _ _ => False) hr
  obtain ⟨rfl, hsp⟩ := hsp
  refine ⟨_, h1.nox, ?_⟩
  refine ⟨start_get (v := .ref f) rfl, hsp _ _ (fun v H1 q => q) ?_⟩
  rintro cls dd H1 ⟨e, d, xr, tb, hh, hp, q⟩
  unfold hxOf at hh
  split at hh
  case isFalse => cases hh
  rename_i hi
  split at hh
  case h_2 => cases hh
  rename_i d' e' hm
  split at hh
  case isFalse => cases hh
  cases hh
  have hm0 := hm
  unfold hOf at hm
  cases qf : L.find? (fun p => decide (p.1 = e.c)) with
  | none => rw [qf] at hm; cases hm
  | some p =>
    rw [qf] at hm
    have pm := List.mem_of_find?_eq_some qf
    have pc0 := List.find?_some qf
    have pc : p.1 = e.c := of_decide_eq_true pc0
    have ex1 := hx p pm
    rw [pc] at ex1
    refine ⟨true, by rw [xr.1]; exact ex1, fun _ a ha => ?_, fun z => nomatch z⟩
    have hlen : (L2.start N [V.ref f]).length = N.length := by
      unfold L2.start
      simp
      omega
    refine hs p pm e a cls dd H1 (fun _ _ _ => False) pc.symm xr ⟨Nil, Nil, H1, fun _ => none⟩ ((L2.start N [V.ref f]).set i (some (.ref a))) H1 (fun _ => []) ((List.replicate N.length none).set i (some (fnTag 0))) ?_ _ ?_
    · refine ⟨by simp [hlen], fun k d' h3 h4 => ?_, fun k d' h3 h4 => (by cases h4), fun k _ => rfl, fun k l b z => (by cases z), fun k => List.nodup_nil, fun k b z => (by cases z), Ext.refl _ _, fun b z => z.elim, fun k b z => (by cases z), fun b z => z, fun b z => z.elim, tb, ⟨Ext.refl _ _, fun b z => z.elim⟩, .nil⟩
      by_cases ek : i = k
      · subst ek
        rw [List.getElem?_set_self (by simpa using hi)] at h3
        cases h3
        exact ⟨.ref a, by rw [List.getElem?_set_self (by rw [hlen]; exact hi)], .inr (.inl ⟨0, rfl, rfl⟩)⟩
      · rw [List.getElem?_set_ne ek, List.getElem?_replicate] at h3
        split at h3
        · cases h3
        · cases h3
    · have hm2 : p.2 e.ds ((List.replicate N.length none).set i (some (fnTag 0))) = .ret d e' := hm
      rw [hm2]
      intro σ2 v2 H2 f2 I2 w2 r2
      have ex2 : Ext Nil H1 H2 := I2.ext
      exact q v2 H2 ex2 (rep_pure _ _ hp (rep_conv (S := Sx S H1 a) (S' := S) rfl rfl rfl _ _ (pure_nof _ hp) r2))
end
def tCloX (S : Sc) (hx : Exn → Option D) (t : XK → TE) : TE := fun σ H Q => LamX.Tabs Tbl.T H ∧ ∀ (H1 : Hp), Ext Nil H H1 → ∀ Qf Ef, (∀ v H2, Q .non H2 → Qf v H2) → (∀ cls dd H2, errW S hx Q cls dd H2 → Ef cls dd H2) → t Ef σ H1 Qf
def eCloX (hx : Exn → Option D) (mb : EM) : EM := fun env => match mb env with
  | .ok _ e => .ok .non e
  | .exc x e => (match hx x with
    | some d => if d.pure = true then .ok d e else .bad
    | none => .bad)
  | .bad => .bad
section
variable {S : Sc} {O P : List Nat} {E : XK} {mb : EM}
theorem ref_cloX {hx : Exn → Option D} {t : XK → TE} (hb : ∀ EZ, RefE S O P EZ none false (t EZ) mb) : RefE S O P E none false (tCloX S hx t) (eCloX hx mb) := by
  intro R σ H fp env I Q h
  refine ⟨I.tb, fun H1 ex Qf Ef hq he => ?_⟩
  refine hb Ef R σ H1 fp env (I.grow ex) Qf ?_
  unfold eCloX at h
  cases q : mb env with
  | bad => rw [q] at h; exact h
  | ok y e' =>
    rw [q] at h
    exact fun H' fp' I' s' v hv sp => hq v H' (h H' fp' I' ((Stp.grow ex).trans s') .non rfl sep0)
  | exc x e' =>
    rw [q] at h
    dsimp only at h
    cases q2 : hx x with
    | none => rw [q2] at h; exact h.elim
    | some d =>
      rw [q2] at h
      dsimp only at h
      split at h
      case isFalse => exact h.elim
      rename_i hp
      intro cls dd H' fp' I' s' xr
      refine he cls dd H' ⟨x, d, xr, I'.tb, q2, hp, fun v H2 ex2 r => ?_⟩
      exact h H2 fp' (I'.grow ex2) (((Stp.grow ex).trans s').trans (Stp.grow ex2)) v (rep_pure _ _ hp r) sep0
end
section
variable {X : Cx} {S : Sc} {kl kg : Nat} {gs : List Str} {x : Str} {g c P : Addr} {fdg : FuncData} {hx : Exn → Option D} {params : Arguments} {body : Expr} {scope : Scope} {tb : XK → TE} {E : XK} {p lpos pos : Pos}
theorem pe_cloX (hG : CloX X.prog X.w X.K X.mg S kl kg gs g fdg hx) (hg1 : gs.length = 1) (hg : Gl X x) (hm : X.mg x = some (.ref g)) (hk : PySem.W.keepIn X.K (.ref g) = true) (hb : Binds X.K fdg gs []) (hfn : ∀ x, X.fn x = true) (L : LamP X.env.scope scope X.N []) (hr : Room kg X.A)
    (TB : LamX.TabB X.base X.mg c P) (hcode : X.env.code = .ref c) (hmT : (P, X.env.qual ++ "<lambda>") ∈ Tbl.T) (hu : ∀ p ∈ Tbl.T, p.1 = P → p.2 = X.env.qual ++ "<lambda>") (hdef : defaultsOf params X.env = ([], []))
    (hbind : ∀ (q : Str) (cl : List (Str × Addr)) (pm cv ctv : Value) (us : List Value), us.length = 0 → bindArgs (PySem.W.kla_fn "<lambda>" q params body scope cl pm cv ctv) ⟨us, []⟩ = pure (([] : List Str).zip us))
    (hbody : ∀ (A : Around) (outer : List PySem.Env) (s' : Shared) (H' : Hp) (E : XK) (f c' : Addr), Room kl (A.deeper (lamE X scope s'.heap.objs.size f c')) → PE (lamX X [] A outer s' H' E scope f c') body (tb E))
    (hdb : (x == ("__debug__" : Str)) = false := by decide) :
    PE X (.Call (.Name x p) [.Lambda params body scope lpos] [] pos) (tCloX S hx tb) := by
  refine ⟨fun pins s σ H Q I h => ?_⟩
  refine wpAny_Call_Name_kw (ld_glob I hg hm ?_ hdb)
  refine PySem.W.callWith_K (h₀ := X.base) I.ok.mod.kin hk ?_ (by rfl) (by rfl)
  show wpAny _ _ (spliced ((false, eval (.Lambda params body scope lpos) X.env) :: backTo pos (starEach [] X.env))) _ _ s
  obtain ⟨h0, h⟩ := h
  refine Calls.spliced_cons (lam_new I TB hcode hmT hu h0 hdef (L.has I.ok) fun f c' pm ctv H1 s2 I1 ex hf n0 nf hc => ?_)
  refine Calls.spliced_nil ⟨I1.kIn, ?_⟩
  have F1 := lam_fnok (ctv := ctv) I1 hfn L hf n0 nf (fun A outer s' H' E hr => hbody A outer s' H' E f c' hr)
  have F2 : FnV X.prog X.w X.K X.mg (wide s2.heap H1 X.stack) (kl + 1) f [] (fun vs HZ QZ EZ => vs.length = ([] : List Str).length ∧ HZ c' = some (LamX.CodeO c' (X.env.qual ++ "<lambda>")) ∧ tb EZ (σ ++ vs.map some) HZ QZ) := ⟨_, _, _, _, wide_get hf n0 nf, F1, fun s us' hl => BindsTo.of_eq (hbind _ _ _ _ _ us' hl)⟩
  refine run_fnV (E := fun _ _ _ => False) (hG _ f _ F2) (env0_wide I1) hr (fun hl => by
    have q := hb s2 [.ref f] I1.kIn (by rw [List.append_nil]; exact hl)
    rw [List.append_nil] at q
    exact q) (fun pins H s e s' I' c => (show False from c).elim) I1 (show Vals [V.ref f] [Value.ref f] from .cons rfl .nil) ⟨rfl, fun Qf Ef a b => ⟨rfl, hc, ?_⟩⟩
  have := h H1 ex Qf Ef a b
  simpa using this
end
end Mir
namespace L2
open PySem PySem.Spec PyProof.Rows
section
variable {X : Cx} {pins ps0 : List (Addr × Obj)} {σ τ : St} {H H0 H1 : Hp} {s s0 s1 : Shared} {scope : Scope} {ce : PySem.Env} {fp : List Addr}
end
section
variable {X : Cx}
end
end L2
namespace Mir
open PySem PySem.Spec PyProof.Rows L2
variable [Tbl]
section
variable {S : Sc} {O P : List Nat} {E : XK} {tt : TT} {mt : TM}
end
end Mir
namespace L2
open PySem PySem.Spec PyProof.Rows
section
variable {X : Cx} {pins : List (Addr × Obj)} {σ : St} {H : Hp} {s : Shared}
end
section
variable {X : Cx} {x : Str} {c : Value} {body : List Stmt} {st : Stmt} {np pos pos' rpos : Pos} {tb : WX → TS} {t1 : TS} {Wout : WX}
end
end L2
namespace Mir
open PySem PySem.Spec PyProof.Rows L2
variable [Tbl]
section
variable {P : Program} {w : World} {K : PySem.W.Frag} {mg : Str → Option Value} {base : Heap} {S : Sc}
end
end Mir
namespace L2N
open PySem PySem.Spec PyProof.Rows L2
theorem passX {X : Cx} {E : XK} {E₁ : Value → Shared → Prop} (hs : X.stack = X.env :: X.outer) (hf : X.env.frame = some X.env.locals) (hex : X.ex = []) (hx : X.xe = fun e s' => wpAny (model X.prog X.w) X.A (leaving X.env e) (fun _ s'' => L2N.CX X.prog X.w X.outer X.H_0 X.s_0 E e s'') E₁ s') : Passes (L2N.CX X.prog X.w) X E :=
  L2N.passes_call (L2N.takes_of hs hf hex hx) fun _ _ _ _ h => h
theorem CX.to {P : Program} {w : World} {outer : List PySem.Env} {H : Hp} {s s' : Shared} {E : XK} {u : Value} (c : L2N.CX P w outer H s E u s') : L2.CX P w outer H s E u s' := by
  obtain ⟨a, B, H', cls, d, e, fl, r⟩ := c
  exact ⟨a, B, H', cls, d, e, L2H.flyingZ_imp (fun _ z => z.zc) fl, r⟩
theorem passL {X : Cx} {E : XK} (h : Passes (L2.CX X.prog X.w) X E) : Passes (L2N.CX X.prog X.w) X E := fun pins σ H s e s' I c => h pins σ H s e s' I c.to
section
variable {X : Cx} {pins ps0 : List (Addr × Obj)} {σ τ : L2.St} {H H0 H1 : Hp} {s s0 s1 : Shared} {scope : Scope} {ce : PySem.Env} {fp : List Addr}
end
section
variable {X : Cx}
end
section
variable {X : Cx} {x : Str} {c : Value} {body : List Stmt} {st : Stmt} {np pos pos' rpos : Pos} {tb : WX → TS} {t1 : TS} {Wout : WX}
end
end L2N
namespace HotX
open PySem PySem.Spec PyProof.Rows
section
variable {prog : Program} {w : World} {A : Around} {E : Value → Shared → Prop} {s : Shared}
end
end HotX
namespace L2
open PySem PySem.Spec PyProof.Rows
section
variable {X : Cx} {pos : Pos}
end
end L2
namespace L2N
open PySem PySem.Spec PyProof.Rows L2
section
variable {X : Cx} {e : Expr} {es : List Expr} {ta : TA} {p pos : Pos}
end
end L2N
namespace Mir
open PySem PySem.Spec PyProof.Rows L2
variable [Tbl]
section
variable {P : Program} {w : World} {K : PySem.W.Frag} {mg : Str → Option Value} {base : Heap} {S : Sc}
theorem fnDN_ok {x qual : Str} {params : Arguments} {body : List Stmt} {scope : Scope} {dvs : List V} {kws : List (Str × V)} {f : Addr} {fd : FuncData} {N ps : List Str} {k : Nat} {fr : Bool} {O : List Nat} {m : SM} (F : FunD K x qual params body scope dvs kws f fd) (sc : FnScope N ps scope) (hN : ps.length ≤ N.length) (hO : ∀ i ∈ O, ps.length ≤ i)
    (hb : ∀ (cdv : Value) (A : Around) (outer : List PySem.Env) (s : Shared) (H : Hp) (E : XK), Room k (A.deeper (envOfC qual scope s.heap.objs.size f cdv)) →
      ∃ t, PSs (cxOf (L2N.CX P w) P w K mg base N qual scope f cdv A outer s H E) body t ∧ RefS S O [] E fr t m) :
    FnOk P w K mg base (L2N.CX P w) (k + 1) f fd ps (spM S fr ps.length (runF fr ps.length N.length m)) := by
  obtain ⟨oc, od, dV, kV, doc, pm, an, cdv, ct, osl, rfl, lk, hcd, _, _⟩ := F.ex
  refine fn_of lk hcd sc (fun vs H Q E h => h.choose_spec.choose_spec.1) fun A outer s H vs Q E hr hsp => ?_
  obtain ⟨t, h1, h2⟩ := hb cdv A outer s H E hr
  exact ⟨t, h1, body_ok h2 hN hO hsp⟩
end
section
variable {P : Program} {w : World} {K : PySem.W.Frag} {mg : Str → Option Value} {base : Heap} {S : Sc}
end
end Mir
namespace Mir
open PySem PySem.Spec PyProof.Rows L2
variable [Tbl]
section
variable {S : Sc} {O P : List Nat} {E : XK}
theorem Rel.blind {R : Rx} {σ : L2.St} {H : Hp} {fp : Fp} {env : Env} {j : Nat} {v : Option V} (I : Rel S O P R σ H fp env) (hO : j ∉ O) : Rel S O P R (σ.set j v) H fp (env.set j none) := by
  have key : ∀ {i : Nat} {d : D}, (env.set j none)[i]? = some (some d) → j ≠ i ∧ env[i]? = some (some d) := fun {i d} h => by
    by_cases e : j = i
    · subst e
      have hl := (List.getElem?_eq_some_iff.mp h).1
      rw [List.length_set] at hl
      rw [List.getElem?_set_self hl] at h
      cases h
    · rw [List.getElem?_set_ne e] at h
      exact ⟨e, h⟩
  refine ⟨by rw [List.length_set, List.length_set, I.len], fun i d h1 h2 => ?_, fun i d h1 h2 => ?_, fun i h => ?_, I.dist, I.nd, I.src, I.ext, I.gl, I.live, I.dom, I.mh, I.tb, ⟨I.hb.e, I.hb.m⟩, I.par.of rfl fun i hi hO' d hd => ?_⟩
  · obtain ⟨e, h⟩ := key h1
    rw [List.getElem?_set_ne e]
    exact I.val i d h h2
  · obtain ⟨e, h⟩ := key h1
    rw [List.getElem?_set_ne e]
    exact I.own i d h h2
  · by_cases e : j = i
    · exact I.non i (.inl (by rw [← e]; exact hO))
    · exact I.non i (h.imp id fun h d z => h d (by rw [List.getElem?_set_ne e]; exact z))
  · obtain ⟨e, h⟩ := key hd
    exact ⟨hO', ⟨d, h⟩, by rw [List.getElem?_set_ne e]⟩
end
end Mir
namespace Mir
open PySem PySem.Spec PyProof.Rows L2
variable [Tbl]
section
variable {S : Sc} {O P : List Nat} {E : XK}
end
end Mir
namespace Mir
open PySem PySem.Spec PyProof.Rows L2
variable [Tbl]
section
variable {S : Sc} {O P : List Nat} {E : XK}
end
end Mir
namespace L2N
open PySem PySem.Spec PyProof.Rows L2 Mir
variable [Tbl]
section
variable {X : Cx}
end
end L2N
namespace Mir
open PySem PySem.Spec PyProof.Rows L2
variable [Tbl]
section
variable {S : Sc} {O P : List Nat} {E : XK} {fr fa : Bool} {ta : TE} {ma : EM}
end
end Mir
namespace Mir
open PySem PySem.Spec PyProof.Rows L2
variable [Tbl]
structure FnV0 (P : Program) (w : World) (K : PySem.W.Frag) (mg : Str → Option Value) (base : Heap) (k : Nat) (f : Addr) (sp : Sp) : Prop where
  ex : ∃ (oc : Value) (od : Option Addr) (fd : FuncData) (sl : Array (Option Value)), base.get? f = some ⟨oc, od, .func fd, sl⟩
  run : ∀ (A : Around) (outer : List PySem.Env) (s : Shared) (H : Hp) (Q : VK) (E : XK), Room k A → Env0 P w K mg base A outer s H → sp [] H Q E → codeAny (model P w) A (.call (.ref f) ⟨[], []⟩) (CR (L2.CX P w) outer P w H s Q E) s
theorem FnV.to0 {P : Program} {w : World} {K : PySem.W.Frag} {mg : Str → Option Value} {base : Heap} {k : Nat} {f : Addr} {sp : Sp} (F : FnV P w K mg base k f [] sp) : FnV0 P w K mg base k f sp := by
  obtain ⟨oc, od, fd, sl, ho, Ff, hb⟩ := F.ex
  exact ⟨⟨_, _, _, _, ho⟩, fun A outer s H Q E hr e0 h => Ff.run A outer s H ⟨[], []⟩ [] [] Q E hr e0 (hb s [] rfl) .nil h⟩
section
variable {X : Cx} {k i : Nat} {f : Addr} {sp : Sp} {x : Str} {p pos : Pos}
theorem pe_callV00 {E : L2.St → XK} (F : FnV0 X.prog X.w X.K X.mg X.base k f sp) (hr : Room k X.A) (hN : X.N[i]? = some x) (hv : Vis X.env.scope x) (hx : ∀ σ, L2.PassesAt (L2.CX X.prog X.w) X σ (E σ))
    (hdb : (x == ("__debug__" : Str)) = false := by decide) (hcd : (x == ("__classdict__" : Str)) = false := by decide) : PE X (.Call (.Name x p) [] [] pos) (tCallV0 i f sp E) := by
  refine ⟨fun pins s σ H Q I h => ?_⟩
  obtain ⟨hs, hq⟩ := h
  obtain ⟨oc, od, fd, sl, ho⟩ := F.ex
  refine wpAny_Call_Name_kw (thn ((pe_var (pos := p) hN hv hdb hcd).run pins s σ H (fun v H1 => v = .ref f ∧ H1 = H) I ⟨.ref f, hs, rfl, rfl⟩) fun u s1 ⟨v, H1, I1, r1, q1⟩ => ?_)
  obtain ⟨rfl, rfl⟩ := q1
  cases r1
  refine PySem.W.callWith_F0 ⟨_, _, _, _, (I1.bs f _ ho).1⟩ ?_
  refine wpAny_call (codeAny_mono (F.run X.A X.stack s1 H1 Q (E σ) hr I1.env0 hq) fun r s' hq => ?_)
  match r, hq with
  | .error e, hq => exact hx σ pins H1 s1 e s' I1 hq
  | .ok (.ret u), hq => exact I1.after hq
  | .ok .next, hq => exact hq.elim
  | .ok .brk, hq => exact hq.elim
  | .ok .cont, hq => exact hq.elim
end
def CloX0 (P : Program) (w : World) (K : PySem.W.Frag) (mg : Str → Option Value) (S : Sc) (kl kg : Nat) (gs : List Str) (g : Addr) (fdg : FuncData) (hx : Exn → Option D) : Prop :=
  ∀ (base' : Heap) (f : Addr) (sp : Sp), FnV0 P w K mg base' (kl + 1) f sp → FnOk P w K mg base' CX0 kg g fdg gs (spErr S hx f sp)
theorem CloX0.to {P : Program} {w : World} {K : PySem.W.Frag} {mg : Str → Option Value} {S : Sc} {kl kg : Nat} {gs : List Str} {g : Addr} {fdg : FuncData} {hx : Exn → Option D} (h : CloX0 P w K mg S kl kg gs g fdg hx) : CloX P w K mg S kl kg gs g fdg hx := fun b f sp F => h b f sp F.to0
abbrev lamQ (X : Cx) : Str := X.env.qual ++ "<lambda>"
def spB (c' : Addr) (q : Str) (t : XK → TE) (σ : L2.St) : Sp := fun _ H Q E => H c' = some (LamX.CodeO c' q) ∧ t E σ H Q
def LamAt (X : Cx) (kl : Nat) (t : XK → TE) (f c' : Addr) (pl : List (Addr × Obj)) : Prop :=
  ∀ (pn : List (Addr × Obj)) (xe : Value → Shared → Prop) (pins : List (Addr × Obj)) (σ : L2.St) (H : Hp) (s : Shared), Inv (X.tr pn xe) pins σ H s → (∀ p ∈ pl, p ∈ pn ++ pins) → FnV0 X.prog X.w X.K X.mg (wide s.heap H X.stack) (kl + 1) f (spB c' (lamQ X) t σ)
def MkLam (X : Cx) (kl : Nat) (e : Expr) (t : XK → TE) : Prop :=
  ∀ (pn : List (Addr × Obj)) (xe : Value → Shared → Prop) (pins : List (Addr × Obj)) (σ : L2.St) (H : Hp) (s : Shared) (Q : Value → Shared → Prop) (E : Value → Shared → Prop), Inv (X.tr pn xe) pins σ H s → LamX.Tabs Tbl.T H →
    (∀ (f c' : Addr) (pl : List (Addr × Obj)) (H1 : Hp) (s' : Shared), Inv (X.tr pn xe) (pl ++ pins) σ H1 s' → LamX.Tabs Tbl.T H1 → Ext Nil H H1 → H1 c' = some (LamX.CodeO c' (lamQ X)) → LamAt X kl t f c' pl → Q (.ref f) s') → wpAny (model X.prog X.w) X.A (eval e X.env) Q E s
section
variable {X : Cx} {pins : List (Addr × Obj)} {σ : L2.St} {H : Hp} {s : Shared}
theorem pin_off (I : Inv X pins σ H s) {a : Addr} {o : Obj} (h : (a, o) ∈ X.pn ++ pins) : s.heap.get? a = some o ∧ H a = none ∧ a ∉ frs X.stack := by
  obtain ⟨h1, h2, h3, h4, _⟩ := I.pin _ h
  exact ⟨h1, h2, fun z => (List.mem_cons.mp (I.stkSub _ z)).elim h3 h4⟩
theorem lamAt_plain {kl : Nat} {params : Arguments} {body : Expr} {scope : Scope} {t : XK → TE} {f c' : Addr} {pm ctv : Value} (hfn : ∀ x, X.fn x = true) (L : LamP X.env.scope scope X.N [])
    (hbind : ∀ (q : Str) (cl : List (Str × Addr)) (pm cv ctv : Value) (us : List Value), us.length = 0 → bindArgs (PySem.W.kla_fn "<lambda>" q params body scope cl pm cv ctv) ⟨us, []⟩ = pure (([] : List Str).zip us))
    (hbody : ∀ (A : Around) (outer : List PySem.Env) (s' : Shared) (H' : Hp) (E : XK) (f c' : Addr), Room kl (A.deeper (lamE X scope s'.heap.objs.size f c')) → PE (lamX X [] A outer s' H' E scope f c') body (t E)) :
    LamAt X kl t f c' [(f, lamO X params body scope pm c' ctv)] := by
  intro pn xe pins σ H s I hp
  obtain ⟨h1, h2, h3⟩ := pin_off I (hp _ List.mem_cons_self)
  have F1 := lam_fnok (X := X.tr pn xe) (ctv := ctv) I hfn L h1 h2 h3 (fun A outer s' H' E hr => hbody A outer s' H' E f c' hr)
  refine ⟨⟨_, _, _, _, wide_get h1 h2 h3⟩, fun A outer s1 H1 Q E hr e0 h => ?_⟩
  refine F1.run A outer s1 H1 ⟨[], []⟩ [] [] Q E hr e0 (BindsTo.of_eq (hbind _ _ _ _ _ [] rfl)) .nil ⟨rfl, h.1, ?_⟩
  have := h.2
  simpa using this
theorem lam_forget {A : Around} {outer : List PySem.Env} {sZ s1 : Shared} {HZ : Hp} {E : XK} {scope : Scope} {f c' : Addr} {x0 : Str} {v : V} (J : Inv (lamX X [x0] A outer sZ HZ E scope f c') [] (σ ++ [some v]) HZ s1) (hl : σ.length = X.N.length) : Inv (lamX X [] A outer sZ HZ E scope f c') [] σ HZ s1 := by
  have ok := J.ok
  obtain ⟨m, n1, n2⟩ := J.loc
  refine ⟨⟨ok.mod, ok.kind, ok.glob, ok.blt, ok.above, ok.inj, ok.has, ok.cab, ok.hd, ok.frames, ok.stk, ok.exf, ok.bs, ok.bsz, ok.noex, ok.exfs, ok.funs, ok.frf⟩, J.os, J.bare, J.base, ⟨m, n1, fun i x u h1 h2 h3 => ?_⟩, J.cell, J.free, J.freeC, J.pin, J.hok, ?_⟩
  · have h1 : (X.N ++ [])[i]? = some x := h1
    rw [List.append_nil] at h1
    have hi : i < X.N.length := (List.getElem?_eq_some_iff.mp h1).1
    refine n2 i x u ?_ ?_ h3
    · show (X.N ++ [x0])[i]? = _
      rw [List.getElem?_append_left hi]
      exact h1
    · rw [List.getElem?_append_left (by rw [hl]; exact hi)]
      exact h2
  · show σ.length = (X.N ++ []).length
    rw [List.append_nil]
    exact hl
theorem lamAt_dflt {kl : Nat} {params : Arguments} {body : Expr} {scope : Scope} {t : XK → TE} {f c' T : Addr} {doc pm ctv : Value} {x0 : Str} {tk0 : Tok} (hfn : ∀ x, X.fn x = true) (L : LamP X.env.scope scope X.N [x0])
    (hbind : ∀ (q : Str) (cl : List (Str × Addr)) (T : Addr) (doc pm cv ctv u : Value), ∃ k, bindArgs (PySem.W.kdv_fn "<lambda>" q params (.expr body) scope cl (.ref T) doc pm cv ctv) ⟨[], []⟩ = seqItems? (.ref T) >>= k ∧ k (some #[u]) = pure [(x0, u)])
    (hbody : ∀ (A : Around) (outer : List PySem.Env) (s' : Shared) (H' : Hp) (E : XK) (f c' : Addr), Room kl (A.deeper (lamE X scope s'.heap.objs.size f c')) → PE (lamX X [] A outer s' H' E scope f c') body (t E)) :
    LamAt X kl t f c' [(f, PySem.W.kdv_obj "<lambda>" (X.env.qual ++ "<lambda>") params (.expr body) scope (cloFrom X.env.cells scope.names []) (.ref T) doc pm c' ctv), (T, PySem.W.kdv_tup [.int 0 tk0])] := by
  intro pn xe pins σ H s I hp
  obtain ⟨h1, h2, h3⟩ := pin_off I (hp _ List.mem_cons_self)
  obtain ⟨t1, t2, t3⟩ := pin_off I (hp _ (List.mem_cons_of_mem _ List.mem_cons_self))
  refine ⟨⟨_, _, _, _, wide_get h1 h2 h3⟩, fun A outer sZ HZ Q E hr e0 h => ?_⟩
  obtain ⟨hc, ht⟩ := h
  have of1 := (e0.bs f _ (wide_get h1 h2 h3)).1
  have oT := (e0.bs T _ (wide_get t1 t2 t3)).1
  obtain ⟨⟨oc, ws, tq, hoc, hdc, hvc⟩, _, _⟩ := e0.hok c' _ hc
  obtain ⟨k, k1, k2⟩ := hbind (X.env.qual ++ "<lambda>") (cloFrom X.env.cells scope.names []) T doc pm (.ref c') ctv (.int 0 tk0)
  have hb : BindsTo sZ (PySem.W.kdv_fn "<lambda>" (X.env.qual ++ "<lambda>") params (.expr body) scope (cloFrom X.env.cells scope.names []) (.ref T) doc pm (.ref c') ctv) ⟨[], []⟩ (([x0] : List Str).zip [.int 0 tk0]) := BindsTo.of_defaults rfl oT rfl k1 k2
  refine PySem.W.kla_callFunE hr.depth of1 rfl L.co L.gen rfl ⟨c', oc, ws, tq, rfl, hoc, hdc, hvc⟩ (hb _ _ _ _ ?_)
  have lim : sZ.heap.NoLimit := e0.mod.nolimit.keeps fun b o e => (e0.bs b o e).1
  refine wpAny_newFunctionEnv (fun y hy => (L.own y hy).1) (fun y hy => (L.par y.1 (List.of_mem_zip hy).1).1) (fun h₁ hns hsb => ⟨lim.fresh _ hsb, ?_⟩) L.kind
  have kp : ∀ b o, sZ.heap.get? b = some o → h₁.get? b = some o := fun b o e => hsb.extBut b o (Nat.ne_of_lt (Heap.lt_size e)) (Heap.get?_push_of_some _ e)
  have J := lam_enter (X := X.tr pn xe) (E := E) (f := f) (c' := c') (us := [.int 0 tk0]) (vs := [.int 0]) (tk := sZ.toks + (([x0] : List Str).zip [Value.int 0 tk0]).length) I hfn L e0 hr.hd (.cons ⟨_, rfl⟩ .nil) rfl hns kp
  have J' : Inv (lamX X [] A outer sZ HZ E scope f c') [] σ HZ _ := lam_forget (X := X) J I.len
  refine PySem.W.kla_codeExpr (wpAny_mono ((hbody A outer sZ HZ E f c' (hr.deeper _)).run [] _ _ HZ Q J' ht) (fun v s' hq => ?_) fun e s' hq => hq)
  obtain ⟨w', H', J2, rv, q⟩ := hq
  exact ⟨w', H', J2.os, J2.bare, J2.base, J2.hok, rv, q⟩
theorem ne_loc (I : Inv X pins σ H s) {a : Addr} {o : Obj} (h : s.heap.get? a = some o) (hd : (∃ fd, o.data = .func fd) ∨ ∃ vs n, o.data = .seq vs n) (nf : a ∉ frs X.stack) : a ≠ X.env.locals ∧ a ∉ X.fs ∧ ∀ v, o.data ≠ .cell v := by
  refine ⟨fun z => ?_, fun z => nf ?_, fun v z => ?_⟩
  · obtain ⟨m, ⟨o', es, ep, e, hd', _⟩, _⟩ := I.loc
    rw [z, e] at h
    cases h
    rw [hd'] at hd
    rcases hd with ⟨_, q⟩ | ⟨_, _, q⟩ <;> cases q
  · rcases I.ok.stk with q | ⟨q, q2⟩
    · rw [q]; exact z
    · rw [q]
      show a ∈ (X.env :: X.outer).filterMap (·.frame)
      rw [List.filterMap_cons, q2]
      exact List.mem_cons_of_mem _ z
  · rcases hd with ⟨_, q⟩ | ⟨_, _, q⟩ <;> rw [q] at z <;> cases z
theorem Inv.pin1 (I : Inv X pins σ H s) {a : Addr} {o : Obj} (h : s.heap.get? a = some o) (hd : (∃ fd, o.data = .func fd) ∨ ∃ vs n, o.data = .seq vs n) (n0 : H a = none) (nf : a ∉ frs X.stack) : Inv X ((a, o) :: pins) σ H s := by
  obtain ⟨a1, a2, a3⟩ := ne_loc I h hd nf
  refine I.pins_of fun p hp => ?_
  rcases List.mem_cons.mp hp with rfl | hp
  · exact ⟨h, n0, a1, a2, a3⟩
  · exact I.pin p (List.mem_append_right _ hp)
theorem mk_plain {kl : Nat} {params : Arguments} {body : Expr} {scope : Scope} {pos : Pos} {t : XK → TE} {P c : Addr} (hfn : ∀ x, X.fn x = true) (L : LamP X.env.scope scope X.N []) (TB : LamX.TabB X.base X.mg c P) (hcode : X.env.code = .ref c) (hm : (P, X.env.qual ++ "<lambda>") ∈ Tbl.T)
    (hu : ∀ p ∈ Tbl.T, p.1 = P → p.2 = X.env.qual ++ "<lambda>") (hdef : defaultsOf params X.env = ([], []))
    (hbind : ∀ (q : Str) (cl : List (Str × Addr)) (pm cv ctv : Value) (us : List Value), us.length = 0 → bindArgs (PySem.W.kla_fn "<lambda>" q params body scope cl pm cv ctv) ⟨us, []⟩ = pure (([] : List Str).zip us))
    (hbody : ∀ (A : Around) (outer : List PySem.Env) (s' : Shared) (H' : Hp) (E : XK) (f c' : Addr), Room kl (A.deeper (lamE X scope s'.heap.objs.size f c')) → PE (lamX X [] A outer s' H' E scope f c') body (t E)) :
    MkLam X kl (.Lambda params body scope pos) t := by
  intro pn xe pins σ H s Q E I hT h
  refine lam_new (X := X.tr pn xe) I TB hcode hm hu hT hdef (LamP.has (X := X.tr pn xe) L I.ok) fun f c' pm ctv H1 s' I1 ex hf n0 nf hc => ?_
  exact h f c' [(f, lamO X params body scope pm c' ctv)] H1 s' (Inv.pin1 I1 hf (.inl ⟨_, rfl⟩) n0 nf) (tb_ext ex hT) ex hc (lamAt_plain hfn L hbind hbody)
end
end Mir
namespace Mir
open PySem PySem.Spec PyProof.Rows L2
variable [Tbl]
section
variable {X : Cx} {pins : List (Addr × Obj)} {σ : L2.St} {H : Hp} {s : Shared}
abbrev lamOD (X : Cx) (params : Arguments) (body : Expr) (scope : Scope) (T : Addr) (doc pm : Value) (c' : Addr) (ctv : Value) : Obj :=
  PySem.W.kdv_obj "<lambda>" (X.env.qual ++ "<lambda>") params (.expr body) scope (cloFrom X.env.cells scope.names []) (.ref T) doc pm c' ctv
theorem lam_newT {P c T : Addr} {params : Arguments} {body : Expr} {scope : Scope} {pos : Pos} {E : Value → Shared → Prop} {Q : Value → Shared → Prop} {oT : Obj} (I : Inv X pins σ H s) (TB : LamX.TabB X.base X.mg c P) (hcode : X.env.code = .ref c) (hm : (P, X.env.qual ++ "<lambda>") ∈ Tbl.T)
    (hu : ∀ p ∈ Tbl.T, p.1 = P → p.2 = X.env.qual ++ "<lambda>") (hT : LamX.Tabs Tbl.T H) (hfree : ∀ y ∈ scope.names, y.2 = .free → ∃ c, X.env.cells.lookup y.1 = some c) (eT : s.heap.get? T = some oT) (nT : H T = none) (tP : T ≠ P)
    (h : ∀ (f c' : Addr) (doc pm ctv : Value) (H1 : Hp) (s' : Shared), Inv X pins σ H1 s' → Ext Nil H H1 → s'.heap.get? f = some (lamOD X params body scope T doc pm c' ctv) → H1 f = none → f ∉ frs X.stack → H1 c' = some (LamX.CodeO c' (X.env.qual ++ "<lambda>")) → s'.heap.get? T = some oT → H1 T = none → Q (.ref f) s') :
    wpAny (model X.prog X.w) X.A (makeTail "<lambda>" (X.env.qual ++ "<lambda>") params (.expr body) scope X.env (.ref T) .none none pos pos.line) Q E s := by
  obtain ⟨ps, hP, ht, ha⟩ := hT _ hm
  have hPs : s.heap.get? P = some { cls := .none, data := .fields ps } := I.hok P _ hP
  have apart : ∀ g, s.heap.objs.size ≤ g → g ∉ frs X.stack := fun g hg z => by
    rcases List.mem_cons.mp (I.stkSub _ z) with e | e
    · exact Nat.lt_irrefl _ (Nat.lt_of_lt_of_le I.lt (by rw [← e]; exact hg))
    · exact I.nofs hg e
  cases found : codeAmong pos ps.toList with
  | some cv =>
    obtain ⟨c', rfl, hco⟩ := ha pos cv found
    refine PySem.W.kdv_makeTailHit (mg := X.mg) (c := c) (P := P) (ps := ps) (closure_ok hfree) I.ok.glob (I.mod.glob.keeps I.bk) hcode (TB.code.keeps I.bk) hPs ht found (TB.bm.keeps I.bk) fun ctv doc h' tk keep big => ?_
    exact h h'.objs.size c' doc ((X.mg "__name__").getD .none) ctv H _ (I.kept fun b o e => Heap.get?_push_of_some _ (keep b o e)) (Ext.refl _ _) (Heap.get?_push_size _ rfl) (I.hok.fresh big) (apart _ big) hco (Heap.get?_push_of_some _ (keep _ _ eT)) nT
  | none =>
    refine PySem.W.kdv_makeTail (mg := X.mg) (c := c) (P := P) (ps := ps) (closure_ok hfree) I.ok.glob (I.mod.glob.keeps I.bk) hcode (TB.code.keeps I.bk) hPs ht found TB.gP (TB.bm.keeps I.bk) fun c' ctv doc h' tk but lo hi hrec htb => ?_
    obtain ⟨c2, oc, ws, t, e2, hoc, hd, hv⟩ := hrec
    cases e2
    have nC : H c' = none := I.hok.fresh lo
    have nPc : P ≠ c' := ne_of_none hP nC
    have big : s.heap.objs.size ≤ h'.objs.size := Nat.le_trans lo (Nat.le_of_lt hi)
    have I1 := LamX.inv_table (t' := tk) (more := #[rawInt pos.line, rawInt pos.col, .ref c']) (h' := h'.push (lamOD X params body scope T doc ((X.mg "__name__").getD .none) c' ctv)) I hP
      (fun b o nb e => Heap.get?_push_of_some _ (but b o nb e)) (Heap.get?_push_of_some _ htb) lo ⟨oc, ws, t, Heap.get?_push_of_some _ hoc, hd, hv⟩
    generalize eH : upd (upd H P (.tbl (ps ++ #[rawInt pos.line, rawInt pos.col, .ref c']))) c' (LamX.CodeO c' (X.env.qual ++ "<lambda>")) = H1 at I1
    have at_ : ∀ b, b ≠ P → b ≠ c' → H1 b = H b := fun b q1 q2 => by rw [← eH, upd_ne q2, upd_ne q1]
    have atP : H1 P = some (.tbl (ps ++ #[rawInt pos.line, rawInt pos.col, .ref c'])) := by rw [← eH, upd_ne nPc, upd_same]
    have atC : H1 c' = some (LamX.CodeO c' (X.env.qual ++ "<lambda>")) := by rw [← eH, upd_same]
    have keepO : ∀ b o, H b = some o → b ≠ P → H1 b = some o := fun b o e q => by rw [at_ b q (ne_of_none e nC)]; exact e
    have codeK : ∀ (d : Addr) (q : Str), H d = some (LamX.CodeO d q) → H1 d = some (LamX.CodeO d q) := fun d q e => keepO d _ e fun z => by
      rw [z, hP] at e
      exact LamX.codeO_ne ps (Option.some.inj e).symm
    have cT : T ≠ c' := fun z => Nat.lt_irrefl _ (Nat.lt_of_lt_of_le (Heap.lt_size eT) (by rw [z]; exact lo))
    refine h h'.objs.size c' doc ((X.mg "__name__").getD .none) ctv H1 _ I1 ⟨fun b o e _ n => keepO b o e fun z => ?_, fun p hp tp => ?_, fun b bs e => ?_⟩ (Heap.get?_push_size _ rfl) ?_ (apart _ big) atC (Heap.get?_push_of_some _ (but _ _ tP eT)) (by rw [at_ T tP cT]; exact nT)
    · rw [z, hP] at e
      cases e
      exact n
    · by_cases q : p.1 = P
      · rw [hu p hp q, q]
        refine ⟨_, atP, ?_, fun p' cv hcv => ?_⟩
        · rw [Array.toList_append]
          exact PySem.TriplesOk_snoc _ _ _ _ ht
        · rw [Array.toList_append] at hcv
          rcases LamX.among_app _ ht hcv with z | z
          · obtain ⟨d, z1, z2⟩ := ha p' cv z
            exact ⟨d, z1, codeK d _ z2⟩
          · exact ⟨c', z, atC⟩
      · obtain ⟨bs, a1, a2, a3⟩ := tp
        exact ⟨bs, keepO _ _ a1 q, a2, fun p' cv hcv => let ⟨d, z1, z2⟩ := a3 p' cv hcv; ⟨d, z1, codeK d _ z2⟩⟩
    · by_cases q : b = P
      · exact ⟨_, by rw [q]; exact atP⟩
      · exact ⟨bs, keepO b _ e q⟩
    · have n1 : h'.objs.size ≠ c' := Nat.ne_of_gt hi
      have n2 : h'.objs.size ≠ P := Nat.ne_of_gt (Nat.lt_of_lt_of_le (Heap.lt_size hPs) big)
      rw [at_ _ n2 n1]
      exact I.hok.fresh big
theorem mk_dflt {kl : Nat} {params : Arguments} {body : Expr} {scope : Scope} {pos : Pos} {t : XK → TE} {P c : Addr} {x0 : Str} {j : Nat} {dp : Pos} (hfn : ∀ x, X.fn x = true) (L : LamP X.env.scope scope X.N [x0]) (TB : LamX.TabB X.base X.mg c P) (hcode : X.env.code = .ref c) (hm : (P, X.env.qual ++ "<lambda>") ∈ Tbl.T)
    (hu : ∀ p ∈ Tbl.T, p.1 = P → p.2 = X.env.qual ++ "<lambda>") (hdf : params.defaults = [.Constant (.int 0) j dp]) (hkd : params.kw_defaults = [])
    (hbind : ∀ (q : Str) (cl : List (Str × Addr)) (T : Addr) (doc pm cv ctv u : Value), ∃ k, bindArgs (PySem.W.kdv_fn "<lambda>" q params (.expr body) scope cl (.ref T) doc pm cv ctv) ⟨[], []⟩ = seqItems? (.ref T) >>= k ∧ k (some #[u]) = pure [(x0, u)])
    (hbody : ∀ (A : Around) (outer : List PySem.Env) (s' : Shared) (H' : Hp) (E : XK) (f c' : Addr), Room kl (A.deeper (lamE X scope s'.heap.objs.size f c')) → PE (lamX X [] A outer s' H' E scope f c') body (t E)) :
    MkLam X kl (.Lambda params body scope pos) t := by
  intro pn xe pins σ H s Q E I hT h
  obtain ⟨ps, hP, ht, ha⟩ := hT _ hm
  have hPs : s.heap.get? P = some { cls := .none, data := .fields ps } := I.hok P _ hP
  refine PySem.W.kdv_lam (by rw [hdf]; rfl) hkd ?_
  rw [hdf]
  refine PySem.W.kdv_all1 (wpAny_Constant_int ?_)
  refine PySem.W.kdv_all0 ?_
  rw [makeFunction_eq]
  simp only [List.zip_nil_right, List.filterMap_nil, List.isEmpty_nil, if_true, pure_bind, List.isEmpty_cons, Bool.false_eq_true, if_false]
  refine wpAny_bind (wpAny_newTextTuple ?_)
  have I0 : Inv (X.tr pn xe) pins σ H { s with toks := s.toks + 1 } := I.tok _
  have I1 : Inv (X.tr pn xe) pins σ H { s with heap := s.heap.push (PySem.W.kdv_tup [.int 0 s.toks]), toks := s.toks + 1 } := I.kept fun b o e => Heap.get?_push_of_some _ e
  have eT : (s.heap.push (PySem.W.kdv_tup [.int 0 s.toks])).get? s.heap.objs.size = some (PySem.W.kdv_tup [.int 0 s.toks]) := Heap.get?_push_size _ rfl
  have nT : H s.heap.objs.size = none := I.hok.fresh (Nat.le_refl _)
  refine lam_newT (X := X.tr pn xe) (oT := PySem.W.kdv_tup [.int 0 s.toks]) I1 TB hcode hm hu hT (LamP.has (X := X.tr pn xe) L I.ok) eT nT (Nat.ne_of_gt (Heap.lt_size hPs)) fun f c' doc pm ctv H1 s' I2 ex hf n0 nf hc oT n1 => ?_
  have nfT : s.heap.objs.size ∉ frs X.stack := fun z => by
    rcases List.mem_cons.mp (I.stkSub _ z) with e | e
    · exact Nat.lt_irrefl _ (Nat.lt_of_lt_of_le I.lt (by rw [← e]; exact Nat.le_refl _))
    · exact I.nofs (Nat.le_refl _) e
  exact h f c' [(f, lamOD X params body scope s.heap.objs.size doc pm c' ctv), (s.heap.objs.size, PySem.W.kdv_tup [.int 0 s.toks])] H1 s' (Inv.pin1 (Inv.pin1 I2 oT (.inr ⟨_, _, rfl⟩) n1 nfT) hf (.inl ⟨_, rfl⟩) n0 nf) (tb_ext ex hT) ex hc (lamAt_dflt hfn L hbind hbody)
end
end Mir
namespace Mir
open PySem PySem.Spec PyProof.Rows L2
variable [Tbl]
def chW (S : Sc) (hx : Exn → Option D) (d' : D) (Q : VK) : List (Addr × Sp) → (Addr → Prop) → Hp → Prop
  | [], _, H => Q (.bl true) H
  | p :: r, M, H => ∀ (Qf : VK) (Ef : XK), (∀ cls dd H2, (∃ M' x d, Fwd M H M' H2 ∧ ExcR S H2 x cls dd ∧ LamX.Tabs Tbl.T H2 ∧ hx x = some d ∧ d.pure = true ∧ oNe d d' = some (.bl false) ∧ ∀ H3, Ext Nil H2 H3 → chW S hx d' Q r M' H3) → Ef cls dd H2) → p.2 [] H Qf Ef
def spAll (S : Sc) (hx : Exn → Option D) (fs : List (Addr × Sp)) : Sp := fun vs H Q _ => ∃ L ve M d', vs = [.ref L, ve] ∧ fs.length < sizeLine ∧ H L = some (.lst (fs.map fun p => .ref p.1)) ∧ ¬ M L ∧ (∀ a, M a → H a ≠ none) ∧ d'.pure = true ∧ Rep S Nil H d' ve ∧ ∀ H1, Ext Nil H H1 → chW S hx d' Q fs M H1
def CloA (P : Program) (w : World) (K : PySem.W.Frag) (mg : Str → Option Value) (S : Sc) (kl kg : Nat) (gs : List Str) (g : Addr) (fdg : FuncData) (hx : Exn → Option D) : Prop :=
  ∀ (base' : Heap) (fs : List (Addr × Sp)), (∀ p ∈ fs, FnV0 P w K mg base' (kl + 1) p.1 p.2) → FnOk P w K mg base' CX0 kg g fdg gs (spAll S hx fs)
section
variable {P : Program} {w : World} {K : PySem.W.Frag} {mg : Str → Option Value} {S : Sc} {kl kg : Nat} {gs : List Str} {g : Addr} {fdg : FuncData} {hx : Exn → Option D}
theorem clo_union (hG : CloX0 P w K mg S kl kg gs g fdg hx) {base' : Heap} {fs : List (Addr × Sp)} (F : ∀ p ∈ fs, FnV0 P w K mg base' (kl + 1) p.1 p.2) : FnOk P w K mg base' CX0 kg g fdg gs (fun vs H Q E => ∃ p ∈ fs, spErr S hx p.1 p.2 vs H Q E) :=
  ⟨fun vs H Q E ⟨p, m, h⟩ => (hG _ _ _ (F p m)).len _ _ _ _ h, fun A outer s H args us vs Q E hr e0 hb hv ⟨p, m, h⟩ => (hG _ _ _ (F p m)).run A outer s H args us vs Q E hr e0 hb hv h⟩
def tAllB (K : PySem.W.Frag) (sp : Sp) : TS := tRet (tOp (rEqX K) (tLc (iList K (tVar 0)) (gName 2) (tTest (tOp (rNeX K) (tCall sp [] (fun _ _ _ => False) (tCons (tVar 2) tNil)) (tVar 1))) (tVar 2) [2]) (tLst tNil))
theorem all_run {N : List Str} (hN : N.length = 3) {fs : List (Addr × Sp)} {vs : List V} {H : Hp} {Q : VK} {E : XK} (hK : S.K = K) (h : spAll S hx fs vs H Q E) : tAllB K (fun vs H Q E => ∃ p ∈ fs, spErr S hx p.1 p.2 vs H Q E) { nx := fun _ H' => Q .non H', rt := Q } (L2.start N vs) H := by
  obtain ⟨L, ve, M, d', rfl, hlen, hL, nL, hM, hp', hv, hc⟩ := h
  generalize hall : (fs.map fun p => V.ref p.1) = all at hL
  subst hK
  rw [show L2.start N [V.ref L, ve] = [some (.ref L), some ve, none] by unfold L2.start; rw [hN]; rfl]
  refine ⟨.ref L, rfl, L, rfl, ⟨all, .inl (.inl hL)⟩, fun Dl hD => ?_⟩
  have g0 : Ext Nil H (L2.upd H Dl (.lst [])) := Ext.new hD
  refine ⟨fun i m H2 => i + m = fs.length ∧ H2 Dl = some (.lst []) ∧ H2 L = some (.lst all) ∧ Rep S Nil H2 d' ve ∧ ∃ M', ¬ M' Dl ∧ ¬ M' L ∧ ∀ H3, Ext Nil H2 H3 → chW S hx d' Q (fs.drop i) M' H3, ⟨fs.length, by omega, upd_same, by rw [upd_ne (ne_of_none hL hD)]; exact hL, rep_pureX g0 _ _ hp' hv, M, fun z => hM _ z hD, nL, fun H3 e => hc H3 (g0.trans e)⟩, fun i m H2 hW => ?_⟩
  obtain ⟨hi, hDl, hL2, hv2, M', nD, nL', hch⟩ := hW
  have lall : all.length = fs.length := by rw [← hall, List.length_map]
  cases hd : fs.drop i with
  | nil =>
    have hge : fs.length ≤ i := List.drop_eq_nil_iff.mp hd
    refine .inl ⟨⟨all, .inl (.inl hL2), by omega⟩, ?_⟩
    refine ⟨Nat.zero_le _, fun p hp => ?_⟩
    have e1 : Ext Nil H2 (L2.upd H2 p (.lst [])) := Ext.new hp
    have n1 : Dl ≠ p := ne_of_none hDl hp
    refine o2_eq (S := S) (fun _ => False) (L2.upd H2 p (.lst [])) (.lst []) (.lst []) (.ref Dl) (.ref p) (.bl true) Q (fun a z => z.elim) ⟨Dl, [], rfl, fun z => z, by rw [upd_ne n1]; exact hDl, .nil⟩ ⟨p, [], rfl, fun z => z, upd_same, .nil⟩ rfl fun w H' ex hk => ?_
    have hw : w = .bl true := hk.rep
    subst hw
    have := hch H' (e1.trans ex)
    rw [hd] at this
    exact this
  | cons q r =>
    have hlt : i < fs.length := by
      rcases Nat.lt_or_ge i fs.length with z | z
      · exact z
      · rw [List.drop_eq_nil_of_le z] at hd
        cases hd
    have hq : fs[i]? = some q := by
      have := List.getElem?_drop (xs := fs) (i := i) (j := 0)
      rw [hd] at this
      simpa using this.symm
    have hr : fs.drop (i + 1) = r := by
      rw [List.drop_eq_getElem_cons hlt] at hd
      exact (List.cons.inj hd).2
    have ha : all[i]? = some (.ref q.1) := by rw [← hall, List.getElem?_map, hq]; rfl
    refine .inr ⟨⟨all, .ref q.1, .inl (.inl hL2), ha⟩, fun H3 => H3 Dl = some (.lst []) ∧ H3 L = some (.lst all) ∧ Rep S Nil H3 d' ve ∧ ∃ M', ¬ M' Dl ∧ ¬ M' L ∧ ∀ H4, Ext Nil H3 H4 → chW S hx d' Q r M' H4, fun H3 ⟨z1, z2, z3, z4⟩ => ⟨m - 1, by omega, by omega, z1, z2, z3, by rw [hr]; exact z4⟩, fun x H3 hy => ?_⟩
    obtain ⟨rfl, hy⟩ := hy
    have hx1 := hy all (.inl (.inl hL2))
    rw [ha] at hx1
    cases hx1
    show wipe [some (V.ref L), some ve, some (V.ref q.1)] [2] = wipe [some (V.ref L), some ve, none] [2] ∧ _
    refine ⟨rfl, .ref q.1, rfl, q, List.mem_of_getElem? hq, rfl, fun Qf Ef h1 h2 => ?_⟩
    have hch1 := hch _ (Ext.refl _ _)
    rw [hd] at hch1
    refine hch1 Qf Ef fun cls dd H4 hn => h2 cls dd H4 ?_
    obtain ⟨M2, x, d, w, xr, tb, hxx, p1, ne, nxt⟩ := hn
    refine ⟨x, d, xr, tb, hxx, p1, fun v H5 e5 rv => ⟨ve, rfl, ?_⟩⟩
    have k1 : ∀ {a : Addr} {xs : List V}, ¬ M' a → H3 a = some (.lst xs) → H4 a = some (.lst xs) := fun {a xs} n e => w.1.k a _ e (.inl n) trivial
    have k2 : ∀ {a : Addr} {xs : List V} {H H' : Hp}, Ext Nil H H' → H a = some (.lst xs) → H' a = some (.lst xs) := fun {a xs H H'} e q => e.nil a _ q trivial
    have rd4 : Rep S Nil H4 d' ve := rep_pureX w.1 _ _ hp' hv2
    refine o2_ne (S := S) Nil H5 d d' v ve (.bl false) _ (fun a z => z.elim) rv (rep_pureX e5 _ _ hp' rd4) ne fun u H6 e6 hk => ⟨false, hk.rep, ?_⟩
    dsimp only
    rw [if_neg Bool.false_ne_true]
    have nM : ∀ {a : Addr} {xs : List V}, ¬ M' a → H3 a = some (.lst xs) → ¬ M2 a := fun {a xs} n e z => (w.2.1 a z).elim n fun q => by rw [e] at q; cases q
    exact ⟨k2 e6 (k2 e5 (k1 nD hDl)), k2 e6 (k2 e5 (k1 nL' hL2)), rep_pureX (e5.trans e6) _ _ hp' rd4, M2, nM nD hDl, nM nL' hL2, fun H7 e7 => nxt H7 ((e5.trans e6).trans e7)⟩
end
end Mir
namespace Mir
open PySem PySem.Spec PyProof.Rows L2
variable [Tbl]
abbrev FnI : Type := Addr × Addr × (XK → TE)
inductive MkLs (X : Cx) (kl : Nat) : List Expr → List (XK → TE) → Prop
  | nil : MkLs X kl [] []
  | cons {e : Expr} {es : List Expr} {t : XK → TE} {ts : List (XK → TE)} (h : MkLam X kl e t) (r : MkLs X kl es ts) (hst : ∀ es', starEach (e :: es') X.env = (false, eval e X.env) :: starEach es' X.env := by intro _; rfl) : MkLs X kl (e :: es) (t :: ts)
def Good (X : Cx) (kl : Nat) (fs : List FnI) (pl : List (Addr × Obj)) : Prop := ∀ p ∈ fs, ∃ pl', (∀ q ∈ pl', q ∈ pl) ∧ LamAt X kl p.2.2 p.1 p.2.1 pl'
theorem Good.mono {X : Cx} {kl : Nat} {fs : List FnI} {pl pl2 : List (Addr × Obj)} (h : Good X kl fs pl) (k : ∀ q ∈ pl, q ∈ pl2) : Good X kl fs pl2 := fun p m => let ⟨pl', a, b⟩ := h p m; ⟨pl', fun q z => k q (a q z), b⟩
abbrev adrs (fs : List FnI) : List V := fs.map fun p => .ref p.1
def Codes (q : Str) (fs : List FnI) (H : Hp) : Prop := ∀ p ∈ fs, H p.2.1 = some (LamX.CodeO p.2.1 q)
section
variable {X : Cx} {kl : Nat}
theorem ev_lams {es : List Expr} {ts : List (XK → TE)} (hm : MkLs X kl es ts) {pos : Pos} {pn : List (Addr × Obj)} {xe : Value → Shared → Prop} {E : Value → Shared → Prop} {σ : L2.St} : ∀ {pins : List (Addr × Obj)} {H : Hp} {s : Shared} {Q : List Value → Shared → Prop}, Inv (X.tr pn xe) pins σ H s → LamX.Tabs Tbl.T H →
    (∀ (fs : List FnI) (pl : List (Addr × Obj)) (H1 : Hp) (us : List Value) (s1 : Shared), fs.map (·.2.2) = ts → Inv (X.tr pn xe) (pl ++ pins) σ H1 s1 → LamX.Tabs Tbl.T H1 → Ext Nil H H1 → Codes (lamQ X) fs H1 → Good X kl fs pl → Vals (adrs fs) us → Q us s1) → wpAny (model X.prog X.w) X.A (spliced (backTo pos (starEach es X.env))) Q E s := by
  induction hm with
  | nil =>
    intro pins H s Q I hT h
    exact Calls.spliced_nil (h [] [] H [] s rfl I hT (Ext.refl _ _) (fun p m => nomatch m) (fun p m => nomatch m) .nil)
  | @cons e es t ts h0 r hst ih =>
    intro pins H s Q I hT h
    rw [hst]
    show wpAny _ _ (spliced ((false, eval e X.env) :: backTo pos (starEach es X.env))) _ _ s
    refine Calls.spliced_cons (h0 pn xe pins σ H s _ _ I hT fun f c' pl H1 s1 I1 hT1 ex hc la => ?_)
    refine ih I1 hT1 fun fs pl2 H2 us s2 e2 I2 hT2 ex2 cs gd rv => ?_
    refine h ((f, c', t) :: fs) (pl2 ++ pl) H2 (.ref f :: us) s2 (by rw [List.map_cons, e2]) (by rw [List.append_assoc]; exact I2) hT2 (ex.trans ex2) (fun p m => ?_) (fun p m => ?_) (.cons rfl rv)
    · rcases List.mem_cons.mp m with rfl | m
      · exact ex2.nil _ _ hc
      · exact cs p m
    · rcases List.mem_cons.mp m with rfl | m
      · exact ⟨pl, fun q z => List.mem_append_right _ z, la⟩
      · obtain ⟨pl', a, b⟩ := gd p m
        exact ⟨pl', fun q z => List.mem_append_left _ (a q z), b⟩
def tMkL (q : Str) (j : Nat) (ts : List (XK → TE)) (t : List FnI → List (Addr × Obj) → TS) : TS := fun D σ H => LamX.Tabs Tbl.T H ∧ ts.length ≤ sizeLine ∧ ∀ (fs : List FnI) (pn : List (Addr × Obj)) (H1 : Hp) (L : Addr), fs.map (·.2.2) = ts → Ext Nil H H1 → LamX.Tabs Tbl.T H1 → Codes q fs H1 → H1 L = none → t fs pn D (σ.set j (some (.ref L))) (upd H1 L (.lst (adrs fs)))
theorem sp_off {pn' pins : List (Addr × Obj)} {pl : List (Addr × Obj)} {D : Ends} {f : Flow} {s : Shared} (ok : X.Ok) (h : SP (X.tr (X.pn ++ (pl ++ pins)) X.xe) pn' D f s) : SP X pins D f s := by
  have key : ∀ {σ : L2.St} {H : Hp}, Inv (X.tr (X.pn ++ (pl ++ pins)) X.xe) pn' σ H s → Inv X pins σ H s := fun I => (I.ofTry ok).pins_of fun p hp => (I.ofTry ok).pin p (List.mem_append_right _ (List.mem_append_right _ hp))
  cases f with
  | next => obtain ⟨σ', H', I, q⟩ := h; exact ⟨σ', H', key I, q⟩
  | brk => obtain ⟨σ', H', I, q⟩ := h; exact ⟨σ', H', key I, q⟩
  | cont => obtain ⟨σ', H', I, q⟩ := h; exact ⟨σ', H', key I, q⟩
  | ret u => obtain ⟨v, σ', H', I, r, q⟩ := h; exact ⟨v, σ', H', key I, r, q⟩
theorem pss_mkL {j : Nat} {x : Str} {es : List Expr} {ts : List (XK → TE)} {rest : List Stmt} {t : List FnI → List (Addr × Obj) → TS} {px lp pos : Pos} (hN : X.N.Nodup) (hj : X.N[j]? = some x) (hx : Loc X.env.scope x) (hm : MkLs X kl es ts)
    (hrest : ∀ (fs : List FnI) (pn pl : List (Addr × Obj)), Good X kl fs pl → (∀ p ∈ pl, p ∈ pn) → PSs (X.tr pn X.xe) rest (t fs pn))
    (hs : swapsWith (.List es lp) (some (.Name x px)) pos.line X.env = pure false := by rfl) (hf : X.fn x = true ∨ X.env.scope.names.lookup x = some .local := by first | exact .inl rfl | exact .inr rfl) :
    PSs X (.Assign [.Name x px] (.List es lp) pos :: rest) (tMkL (lamQ X) j ts t) := by
  refine ⟨fun pins s σ H D I h => ?_⟩
  obtain ⟨hT, hlen, h⟩ := h
  refine wpAny_execs_cons (wpAny_Assign_Name (wpAny_List_spliced (ev_lams (pn := X.pn) (xe := X.xe) hm I hT fun fs pl H1 us s1 e1 I1 hT1 ex cs gd rv => ?_)) hs)
  have hl : us.length ≤ sizeLine := by
    rw [← rv.length, List.length_map, ← List.length_map (f := fun p : FnI => p.2.2), e1]
    exact hlen
  refine ⟨hl, ?_⟩
  have I1 : Inv X (pl ++ pins) σ H1 s1 := I1
  have hL : H1 s1.heap.objs.size = none := I1.hok.fresh (Nat.le_refl _)
  have I2 : Inv X (pl ++ pins) σ (upd H1 s1.heap.objs.size (.lst (adrs fs))) { s1 with heap := s1.heap.push { cls := .type "list", data := .seq us.toArray } } := I1.laid (t' := s1.toks) (fun b u e => Heap.get?_push_of_some _ e) (Nat.le_refl _) ⟨by rw [rv.length]; exact hl, us, 0, rv, Heap.get?_push_size _ rfl⟩
  refine store_ok (v := .ref s1.heap.objs.size) I2 hN hj hx rfl (fun s3 I3 => ?_) hf
  have R := (hrest fs (X.pn ++ (pl ++ pins)) pl gd fun p m => List.mem_append_right _ (List.mem_append_left _ m)).run [] s3 _ _ D (I3.toTry X.xe) (h fs _ H1 _ e1 ex hT1 cs hL)
  exact thn R fun f s4 q => sp_off I.ok q
def tAll (S : Sc) (hx : Exn → Option D) (q : Str) (fs : List FnI) (ta : TA) : TE := fun σ H Q => ta σ H fun vs H1 => spAll S hx (fs.map fun p => (p.1, spB p.2.1 q p.2.2 σ)) vs H1 Q (fun _ _ _ => False)
theorem pe_all {S : Sc} {hx : Exn → Option D} {kg : Nat} {gs : List Str} {g : Addr} {fdg : FuncData} {x : Str} {fs : List FnI} {pn pl : List (Addr × Obj)} {es : List Expr} {ta : TA} {p pos : Pos} (hG : CloA X.prog X.w X.K X.mg S kl kg gs g fdg hx) (hg : Gl X x) (hm : X.mg x = some (.ref g)) (hk : PySem.W.keepIn X.K (.ref g) = true) (hb : Binds X.K fdg gs []) (hr : Room kg X.A)
    (gd : Good X kl fs pl) (hpn : ∀ p ∈ pl, p ∈ pn) (ha : PA (X.tr pn X.xe) es ta) (hdb : (x == ("__debug__" : Str)) = false := by decide) (he : ∃ e es', es = e :: es' ∧ starEach (e :: es') X.env = (false, eval e X.env) :: starEach es' X.env ∧ (backTo pos (starEach es' X.env)).any (·.1) = false := by exact ⟨_, _, rfl, rfl, rfl⟩) :
    PE (X.tr pn X.xe) (.Call (.Name x p) es [] pos) (tAll S hx (lamQ X) fs ta) := by
  refine ⟨fun pins s σ H Q I h => ?_⟩
  obtain ⟨e, es', rfl, he, hpl⟩ := he
  refine wpAny_Call_Name_kw (ld_glob I hg hm ?_ hdb)
  refine PySem.W.callWith_K (h₀ := X.base) I.ok.mod.kin hk ?_ he hpl
  refine thn (ha.run pos pins s σ H _ I h) fun us s2 ⟨vs, H2, I2, r, q⟩ => ⟨I2.kIn, ?_⟩
  have F : ∀ z ∈ fs.map (fun p : FnI => (p.1, spB p.2.1 (lamQ X) p.2.2 σ)), FnV0 X.prog X.w X.K X.mg (wide s2.heap H2 X.stack) (kl + 1) z.1 z.2 := fun z m => by
    obtain ⟨p, mp, rfl⟩ := List.mem_map.mp m
    obtain ⟨pl', a, b⟩ := gd p mp
    exact b pn X.xe pins σ H2 s2 I2 fun q mq => List.mem_append_left _ (hpn q (a q mq))
  exact run_fnV (E := fun _ _ _ => False) (hG _ _ F) (env0_wide I2) hr (fun hl => by
    have q := hb s2 us I2.kIn (by rw [List.append_nil]; exact hl)
    rw [List.append_nil] at q
    exact q) (fun pins H s e s' I' c => (show False from c).elim) I2 r q
end
end Mir
namespace Mir
open PySem PySem.Spec PyProof.Rows L2
variable [Tbl]
abbrev Jt : Type := L2.St → Hp → Fp → Prop
def RefEJ (J : Jt) (S : Sc) (O P : List Nat) (E : XK) (μ : Mo) (fr : Bool) (t : TE) (m : EM) : Prop :=
  ∀ (R : Rx) (σ : L2.St) (H : Hp) (fp : Fp) (env : Env), Rel S O P R σ H fp env → J σ H fp → ∀ Q : VK, Want S O P E μ R σ H fp env (m env) (PostE S O P R σ μ fr H Q) → t σ H Q
def RefTJ (J : Jt) (S : Sc) (O P : List Nat) (E : XK) (μ : Mo) (t : TT) (m : TM) : Prop :=
  ∀ (R : Rx) (σ : L2.St) (H : Hp) (fp : Fp) (env : Env), Rel S O P R σ H fp env → J σ H fp → ∀ Q : Bool → Hp → Prop, Want S O P E μ R σ H fp env (m env) (fun b _ H' _ => Q b H') → t σ H Q
def RefSJ (J : Jt) (S : Sc) (O P : List Nat) (E : XK) (fr : Bool) (t : TS) (m : SM) : Prop :=
  ∀ (R : Rx) (σ : L2.St) (H : Hp) (fp : Fp) (env : Env), Rel S O P R σ H fp env → J σ H fp → ∀ D : Ends, WantS S O P E fr R H fp (m env) D σ → t D σ H
section
variable {J : Jt} {S : Sc} {O P : List Nat} {E : XK} {μ : Mo} {fr fa fb : Bool} {ta tb : TE} {ma mb : EM} {t u : TS} {m n : SM} {tt tu : TT} {mt mu : TM}
theorem rj_seq (h1 : RefSJ J S O P E fr t m) (h2 : RefS S O P E fr u n) : RefSJ J S O P E fr (tSeq t u) (sSeq m n) := fun R σ H fp env I j D h => h1 R σ H fp env I j _ (WantS.bind h h2)
theorem rj_if (ht : RefTJ J S O P E μ tt mt) (h1 : RefS S O P E fr t m) (h2 : RefS S O P E fr u n) : RefSJ J S O P E fr (tIfS tt t u) (sIf mt m n) := by
  intro R σ H fp env I j D h
  refine ht R σ H fp env I j _ ((want_fl h).mono fun c e1 H1 f1 I1 s1 hp => ?_)
  cases c with
  | true => exact h1 R σ H1 f1 e1 I1 D hp
  | false => exact h2 R σ H1 f1 e1 I1 D hp
theorem tj_not (h1 : RefTJ J S O P E μ tt mt) : RefTJ J S O P E μ (tNot tt) (mNot mt) := by
  intro R σ H fp env I j Q h
  exact h1 R σ H fp env I j _ ((Want.bind h).mono fun c e1 H1 f1 I1 s1 hp => hp H1 f1 I1 Stp.refl)
theorem tj_test (ha : RefEJ J S O P E μ fa ta ma) : RefTJ J S O P E μ (tTest ta) (mTest ma) := by
  intro R σ H fp env I j Q h
  refine ha R σ H fp env I j _ ((Want.bind h).mono fun x e1 H1 f1 I1 s1 h1 v hv _ => ?_)
  obtain ⟨b, hb⟩ := want_some h1
  rw [hb] at h1
  have hv := hv.rep
  cases x with
  | bl c =>
    cases hb
    exact ⟨_, hv, h1 H1 f1 I1 Stp.refl⟩
  | _ => cases hb
theorem tj_testB (ha : RefEJ J S O P E μ fa ta ma) : RefTJ J S O P E μ (tB ta) (mTest ma) := tj_test ha
end
def JL (q : Str) (j : Nat) (fs : List FnI) : Jt := fun σ H fp => ∃ L, σ[j]? = some (some (.ref L)) ∧ H L = some (.lst (adrs fs)) ∧ ¬ Lv fp L ∧ Codes q fs H
def neOk (d d' : D) : Bool := match oNe d d' with
  | some (.bl false) => true
  | _ => false
theorem neOk_iff {d d' : D} (h : neOk d d' = true) : oNe d d' = some (.bl false) := by
  unfold neOk at h
  split at h
  · assumption
  · cases h
def goAll (hx : Exn → Option D) (d' : D) : List EM → Env → Out D
  | [], e => .ok (.bl true) e
  | m :: ms, e => match m e with
    | .exc x e1 => (match hx x with
      | some d => if (d.pure && neOk d d') = true then goAll hx d' ms e1 else .bad
      | none => .bad)
    | _ => .bad
def eAll (hx : Exn → Option D) (ms : List EM) (me : EM) : EM := fun env => (me env).bind fun d' e => if d'.pure = true then goAll hx d' ms e else .bad
inductive RefLs (S : Sc) (O P : List Nat) : List (XK → TE) → List EM → Prop
  | nil : RefLs S O P [] []
  | cons {t : XK → TE} {m : EM} {ts : List (XK → TE)} {ms : List EM} (h : ∀ EZ, RefE S O P EZ none false (t EZ) m) (r : RefLs S O P ts ms) : RefLs S O P (t :: ts) (m :: ms)
section
variable {S : Sc} {O P : List Nat} {E : XK} {hx : Exn → Option D} {q : Str}
theorem WantS.rebase {fr : Bool} {R : Rx} {H H1 : Hp} {fp f1 : Fp} {o : Fl} {D : Ends} {σ σ1 : L2.St} (h : WantS S O P E fr R H fp o D σ) (w : Fwd (Lv fp) H (Lv f1) H1) : WantS S O P E fr R H1 f1 o D σ1 := by
  cases o with
  | next e => exact fun σ' H' fp' I s => h σ' H' fp' I (w.trans s)
  | brk e => exact fun σ' H' fp' I s => h σ' H' fp' I (w.trans s)
  | cont e => exact fun σ' H' fp' I s => h σ' H' fp' I (w.trans s)
  | ret d e => exact fun σ' v H' fp' I s r => h σ' v H' fp' I (w.trans s) r
  | exc x e => exact fun cls dd σ' H' fp' I s r => h cls dd σ' H' fp' I (w.trans s) r
  | bad => exact h
theorem Want.rebase {α : Type} {μ : Mo} {R : Rx} {σ : L2.St} {H H1 : Hp} {fp f1 : Fp} {env e1 : Env} {o : Out α} {Po : α → Env → Hp → Fp → Prop} (h : Want S O P E μ R σ H fp env o Po) (w : Stp μ R H fp env H1 f1 e1) : Want S O P E μ R σ H1 f1 e1 o Po := by
  cases o with
  | ok a e => exact fun H' fp' I s => h H' fp' I (w.trans s)
  | exc x e => exact fun cls dd H' fp' I s r => h cls dd H' fp' I (w.trans s) r
  | bad => exact h
theorem own1_code {F : Addr → Prop} {H : Hp} {d : D} {b : Addr} (h : Own1 S F H d b) : ∀ q, H b ≠ some (LamX.CodeO b q) := by
  intro q z
  cases d with
  | lst ds => obtain ⟨vs, e, _⟩ := h; rw [e] at z; cases z
  | map ks vs => obtain ⟨kvs, e, _⟩ := h; rw [e] at z; exact S.ndn.c b kvs q (Option.some.inj z)
  | dic ks us => obtain ⟨kvs, e, _⟩ := h; rw [e] at z; cases z
  | _ => exact h
theorem ownF_code {F : Addr → Prop} {H : Hp} : ∀ (bs : List Bool) (ds : List D) (vs : List V) (fl : List Addr), OwnF S F H bs ds vs fl → ∀ b ∈ fl, ∀ q, H b ≠ some (LamX.CodeO b q)
  | [], ds, vs, fl, h, b, m => by rw [h.1] at m; cases m
  | _ :: _, [], vs, fl, h, b, m => by
    have h : vs = [] ∧ fl = [] := by cases ‹Bool› <;> exact h
    rw [h.2] at m; cases m
  | false :: bs, d :: ds, vs, fl, h, b, m => by
    obtain ⟨v, r, _, _, h3⟩ := h
    exact ownF_code bs ds r fl h3 b m
  | true :: bs, d :: ds, vs, fl, h, b, m => by
    rcases h with ⟨b', r, q', _, rfl, h3, h4⟩ | ⟨_, v, r, _, _, h3⟩
    · rcases List.mem_cons.mp m with rfl | m
      · exact own1_code h3
      · exact ownF_code bs ds r q' h4 b m
    · exact ownF_code bs ds r fl h3 b m
theorem Rel.noCode {R : Rx} {σ : L2.St} {H : Hp} {fp : Fp} {env : Env} (I : Rel S O P R σ H fp env) {a : Addr} {q : Str} (h : H a = some (LamX.CodeO a q)) : ¬ Lv fp a := by
  rintro ⟨i, m⟩
  by_cases c : i ∉ O ∨ ∀ d, env[i]? ≠ some (some d)
  · rw [I.non i c] at m
    cases m
  · have hO : i ∈ O := Classical.byContradiction fun z => c (.inl z)
    obtain ⟨d, hd⟩ : ∃ d, env[i]? = some (some d) := Classical.byContradiction fun z => c (.inr fun d y => z ⟨d, y⟩)
    obtain ⟨b, _, ow⟩ := I.own i d hd hO
    cases d with
    | lst ds => obtain ⟨e, vs, e1, _⟩ := ow; rw [e] at m; cases List.mem_singleton.mp m; rw [e1] at h; cases h
    | ins c ds =>
      obtain ⟨fl, e, dx, fs, e1, _, e2⟩ := ow
      rw [e] at m
      rcases List.mem_cons.mp m with rfl | m
      · rw [e1] at h; cases h
      · exact ownF_code _ _ _ _ e2 a m q h
    | map ks vs => obtain ⟨e, kvs, e1, _⟩ := ow; rw [e] at m; cases List.mem_singleton.mp m; rw [e1] at h; exact S.ndn.c _ kvs q (Option.some.inj h)
    | dic ks us => obtain ⟨e, kvs, e1, _⟩ := ow; rw [e] at m; cases List.mem_singleton.mp m; rw [e1] at h; cases h
    | _ => exact ow
theorem Codes.fwd {R : Rx} {σ : L2.St} {env : Env} {fs : List FnI} {H H' : Hp} {fp : Fp} (h : Codes q fs H) (I : Rel S O P R σ H fp env) (w : Ext (Lv fp) H H') : Codes q fs H' := fun p m => w.k _ _ (h p m) (.inl (I.noCode (h p m))) trivial
theorem Codes.grow {fs : List FnI} {H H' : Hp} (h : Codes q fs H) (w : Ext Nil H H') : Codes q fs H' := fun p m => w.nil _ _ (h p m) trivial
theorem go_ok {R : Rx} {σ : L2.St} {Q : VK} {d' : D} : ∀ (fs : List FnI) (ms : List EM), RefLs S O P (fs.map (·.2.2)) ms → ∀ (H : Hp) (fp : Fp) (env : Env), Rel S O P R σ H fp env → Codes q fs H → Want S O P E none R σ H fp env (goAll hx d' ms env) (PostE S O P R σ none false H Q) →
    chW S hx d' Q (fs.map fun p => (p.1, spB p.2.1 q p.2.2 σ)) (Lv fp) H
  | [], _, .nil, H, fp, env, I, _, h => h H fp I Stp.refl (.bl true) rfl sep0
  | p :: fs, m :: ms, .cons hb r, H, fp, env, I, cs, h => by
    intro Qf Ef hE
    refine ⟨cs p List.mem_cons_self, hb Ef R σ H fp env I Qf ?_⟩
    unfold goAll at h
    cases qm : m env with
    | bad => rw [qm] at h; exact h
    | ok d e1 => rw [qm] at h; exact h.elim
    | exc x e1 =>
      rw [qm] at h
      dsimp only at h
      cases qx : hx x with
      | none => rw [qx] at h; exact h.elim
      | some d =>
        rw [qx] at h
        dsimp only at h
        split at h
        case isFalse => exact h.elim
        rename_i c
        intro cls dd H' fp' I' s' xr
        have s' : Fwd (Lv fp) H (Lv fp') H' := s'
        rw [Bool.and_eq_true] at c
        refine hE cls dd H' ⟨Lv fp', x, d, s', xr, I'.tb, qx, c.1, neOk_iff c.2, fun H3 e3 => ?_⟩
        refine go_ok fs ms r H3 fp' e1 (I'.grow e3) (Codes.grow (Codes.fwd (fun p m => cs p (List.mem_cons_of_mem _ m)) I s'.1) e3) (h.rebase (show Stp none R H fp env H3 fp' e1 from s'.trans (Fwd.grow e3)))
theorem ref_all {j : Nat} {fs : List FnI} {ts : List (XK → TE)} {ms : List EM} {te : TE} {me : EM} {fe : Bool} (hfs : fs.map (·.2.2) = ts) (hlen : ts.length < sizeLine) (hts : RefLs S O P ts ms) (he : RefE S O P E none fe te me) : RefEJ (JL q j fs) S O P E none false (tAll S hx q fs (tCons (tVar j) (tCons te tNil))) (eAll hx ms me) := by
  intro R σ H fp env I hJ Q h
  obtain ⟨L, js, jl, jn, jc⟩ := hJ
  refine ⟨.ref L, js, ?_⟩
  refine he R σ H fp env I _ ((Want.bind h).mono fun d' e1 H1 f1 I1 s1 h1 ve hv _ => ?_)
  have s1 : Fwd (Lv fp) H (Lv f1) H1 := s1
  split at h1
  case isFalse => exact h1.elim
  rename_i hp
  subst hfs
  have jn1 : ¬ Lv f1 L := fun z => (s1.2.1 L z).elim jn fun y => by rw [jl] at y; cases y
  refine ⟨L, ve, Lv f1, d', rfl, by rw [List.length_map]; rw [List.length_map] at hlen; exact hlen, ?_, jn1, fun a ⟨k, y⟩ => I1.live k a y, hp, rep_pure _ _ hp hv.rep, fun H2 e2 => ?_⟩
  · rw [s1.1.k L _ jl (.inl jn) trivial, List.map_map]
    rfl
  · exact go_ok fs ms hts H2 f1 e1 (I1.grow e2) (Codes.grow (Codes.fwd jc I s1.1) e2) (Want.rebase h1 (show Stp none R H1 f1 e1 H2 f1 e1 from Fwd.grow e2))
def sMkL (j : Nat) (m : SM) : SM := fun env => if j < env.length then m (env.set j none) else .bad
end
end Mir
namespace Mir
open PySem PySem.Spec PyProof.Rows L2
variable [Tbl]
abbrev TJ : Type := Addr → Ends → L2.St → Hp → Prop
def tMkJ (q : Str) (j : Nat) (ts : List (XK → TE)) (t : List FnI → List (Addr × Obj) → TJ) : TS := tMkL q j ts (fun fs pn D σ H => ∃ L H1, σ[j]? = some (some (.ref L)) ∧ H = upd H1 L (.lst (adrs fs)) ∧ H1 L = none ∧ LamX.Tabs Tbl.T H1 ∧ t fs pn L D σ H1)
def tJApp (q : Str) (t0 : XK → TE) (fs : List FnI) (t : FnI → List (Addr × Obj) → TJ) : TJ := fun L D σ H => fs.length < sizeLine ∧ ∀ (p : FnI) (pn : List (Addr × Obj)) (H1 : Hp), p.2.2 = t0 → Ext Nil H H1 → LamX.Tabs Tbl.T H1 → Codes q [p] H1 → H1 L = none → t p pn L D σ H1
def tJFin (fs : List FnI) (t : TS) : TJ := fun L D σ H => t D σ (upd H L (.lst (adrs fs)))
def offL (H : Hp) (L : Addr) : Hp := fun b => if b = L then none else H b
theorem offL_upd {H : Hp} {L : Addr} {o : HO} : upd (offL H L) L o = upd H L o := by
  funext b
  unfold upd offL
  split <;> rfl
theorem offL_same {H : Hp} {L : Addr} : offL H L L = none := by unfold offL; rw [if_pos rfl]
theorem offL_ne {H : Hp} {L b : Addr} (h : b ≠ L) : offL H L b = H b := by unfold offL; rw [if_neg h]
theorem tabS_off {H : Hp} {L : Addr} {xs : List V} (hL : H L = some (.lst xs)) {P : Addr} {q : Str} (t : LamX.TabS H P q) : LamX.TabS (offL H L) P q := by
  obtain ⟨ps, h1, h2, h3⟩ := t
  have k : ∀ {b : Addr} {o : HO}, H b = some o → (∀ ys, o ≠ .lst ys) → offL H L b = some o := fun {b o} e n => by
    rw [offL_ne fun z => ?_]
    · exact e
    · subst z
      rw [hL] at e
      cases e
      exact n _ rfl
  refine ⟨ps, k h1 fun _ z => (by cases z), h2, fun pos cv hc => ?_⟩
  obtain ⟨c, e1, e2⟩ := h3 pos cv hc
  exact ⟨c, e1, k e2 fun _ z => (by cases z)⟩
theorem ext_off {H H1 : Hp} {L : Addr} {xs ys : List V} (hL : H L = none) (e : Ext Nil (upd H L (.lst xs)) H1) (h1 : H1 L = some (.lst ys)) : Ext Nil H (offL H1 L) := by
  have up : ∀ {a : Addr} {o : HO}, H a = some o → a ≠ L ∧ upd H L (.lst xs) a = some o := fun {a o} q => ⟨ne_of_none q hL, by rw [upd_ne (ne_of_none q hL)]; exact q⟩
  refine ⟨fun a o q _ n => ?_, fun p hp t => ?_, fun a ps q => ?_⟩
  · obtain ⟨n1, q1⟩ := up q
    rw [offL_ne n1]
    exact e.nil _ _ q1 n
  · exact tabS_off h1 (e.t p hp (t.ext fun b o q => (up q).2))
  · obtain ⟨n1, q1⟩ := up q
    obtain ⟨ps', e'⟩ := e.d a ps q1
    exact ⟨ps', by rw [offL_ne n1]; exact e'⟩
section
variable {X : Cx} {kl : Nat}
structure PSJ (X : Cx) (j : Nat) (pn : List (Addr × Obj)) (fs : List FnI) (sts : List Stmt) (t : TJ) : Prop where
  run : ∀ (pins : List (Addr × Obj)) (s : Shared) (σ : L2.St) (H : Hp) (D : Ends) (L : Addr), Inv (X.tr pn X.xe) pins σ (upd H L (.lst (adrs fs))) s → H L = none → σ[j]? = some (some (.ref L)) → LamX.Tabs Tbl.T H → t L D σ H → wpAny (model X.prog X.w) X.A (execs sts X.env) (SP (X.tr pn X.xe) pins D) X.xe s
theorem psj_fin {j : Nat} {pn : List (Addr × Obj)} {fs : List FnI} {sts : List Stmt} {t : TS} (h : PSs (X.tr pn X.xe) sts t) : PSJ X j pn fs sts (tJFin fs t) :=
  ⟨fun pins s σ H D L I _ _ _ ht => h.run pins s σ _ D I ht⟩
theorem mk_tr {pn0 : List (Addr × Obj)} {es : List Expr} {ts : List (XK → TE)} (h : MkLs X kl es ts) : MkLs (X.tr pn0 X.xe) kl es ts := by
  induction h with
  | nil => exact .nil
  | cons h _ hst ih => exact .cons h ih hst
theorem pss_mkJ {j : Nat} {x : Str} {es : List Expr} {ts : List (XK → TE)} {rest : List Stmt} {t : List FnI → List (Addr × Obj) → TJ} {px lp pos : Pos} (hN : X.N.Nodup) (hj : X.N[j]? = some x) (hx : Loc X.env.scope x) (hm : MkLs X kl es ts)
    (hrest : ∀ (fs : List FnI) (pn pl : List (Addr × Obj)), Good X kl fs pl → (∀ p ∈ pl, p ∈ pn) → PSJ X j pn fs rest (t fs pn))
    (hs : swapsWith (.List es lp) (some (.Name x px)) pos.line X.env = pure false := by rfl) (hf : X.fn x = true ∨ X.env.scope.names.lookup x = some .local := by first | exact .inl rfl | exact .inr rfl) :
    PSs X (.Assign [.Name x px] (.List es lp) pos :: rest) (tMkJ (lamQ X) j ts t) :=
  pss_mkL hN hj hx hm (fun fs pn pl gd hp => ⟨fun pins s σ H D I h => by
    obtain ⟨L, H1, js, rfl, hL, hT, ht⟩ := h
    exact (hrest fs pn pl gd hp).run pins s σ H1 D L I hL js hT ht⟩) hs hf
theorem pss_mkJ2 {j : Nat} {x : Str} {es : List Expr} {ts : List (XK → TE)} {rest : List Stmt} {t : List FnI → List (Addr × Obj) → TJ} {px lp pos : Pos} {pn0 : List (Addr × Obj)} (hN : X.N.Nodup) (hj : X.N[j]? = some x) (hx : Loc X.env.scope x) (hm : MkLs X kl es ts)
    (hrest : ∀ (fs : List FnI) (pn pl : List (Addr × Obj)), Good X kl fs pl → (∀ p ∈ pl, p ∈ pn) → PSJ X j pn fs rest (t fs pn))
    (hs : swapsWith (.List es lp) (some (.Name x px)) pos.line X.env = pure false := by rfl) (hf : X.fn x = true ∨ X.env.scope.names.lookup x = some .local := by first | exact .inl rfl | exact .inr rfl) :
    PSs (X.tr pn0 X.xe) (.Assign [.Name x px] (.List es lp) pos :: rest) (tMkJ (lamQ X) j ts t) :=
  pss_mkL (X := X.tr pn0 X.xe) (kl := kl) hN hj hx (mk_tr hm) (fun fs pn pl gd hp => ⟨fun pins s σ H D I h => by
    obtain ⟨L, H1, js, rfl, hL, hT, ht⟩ := h
    exact (hrest fs pn pl gd hp).run pins s σ H1 D L I hL js hT ht⟩) hs hf
theorem tabs_upd {H : Hp} {L : Addr} {o : HO} (hL : H L = none) (h : LamX.Tabs Tbl.T H) : LamX.Tabs Tbl.T (upd H L o) := tb_ext (Ext.new (M := Nil) hL) h
theorem psj_app {j : Nat} {x : Str} {e : Expr} {t0 : XK → TE} {rest : List Stmt} {t : FnI → List (Addr × Obj) → TJ} {pn pl : List (Addr × Obj)} {fs : List FnI} {xp apos cpos spos : Pos} (hj : X.N[j]? = some x) (hv : Vis X.env.scope x) (hm : MkLam X kl e t0) (gd : Good X kl fs pl) (hp : ∀ p ∈ pl, p ∈ pn)
    (hrest : ∀ (p : FnI) (pn pl : List (Addr × Obj)), Good X kl (fs ++ [p]) pl → (∀ p ∈ pl, p ∈ pn) → PSJ X j pn (fs ++ [p]) rest (t p pn))
    (hdb : (x == ("__debug__" : Str)) = false := by decide) (hcd : (x == ("__classdict__" : Str)) = false := by decide)
    (hbase : attributeBase (.Name x xp) "append" X.env (eval (.Name x xp) X.env) = eval (.Name x xp) X.env := by rfl)
    (hfew : ((backTo cpos (starEach [e] X.env)).all (fun x => !x.1) && (backToKw cpos (keywordEach [] X.env)).all (fun x => x.1.isSome)
      && decide ([e].length + ([] : List Keyword).length + (if ([] : List Keyword).isEmpty then 0 else 1) < 30)) = true := by rfl)
    (hline : (apos.endLine == cpos.line) = true := by rfl) (hst : starEach [e] X.env = (false, eval e X.env) :: starEach [] X.env := by rfl)
    (hs : swapsWith (.Call (.Attribute (.Name x xp) "append" apos) [e] [] cpos) none spos.line X.env = pure false := by rfl) :
    PSJ X j pn fs (.Expr (.Call (.Attribute (.Name x xp) "append" apos) [e] [] cpos) spos :: rest) (tJApp (lamQ X) t0 fs t) := by
  refine ⟨fun pins s σ H D L I hL js hT ht => ?_⟩
  obtain ⟨hlen, ht⟩ := ht
  refine wpAny_execs_cons (wpAny_Expr_any ?_ I.quiet hs)
  refine wpAny_Call_method_late hbase hfew hline rfl (thn ((pe_var (X := X.tr pn X.xe) (pos := xp) hj hv hdb hcd).run pins s σ _ (fun v H1 => v = .ref L ∧ H1 = upd H L (.lst (adrs fs))) I ⟨.ref L, js, rfl, rfl⟩) fun v s1 ⟨y, H1, I1, r1, q1⟩ => ?_)
  obtain ⟨rfl, rfl⟩ := q1
  obtain ⟨h1, h2⟩ := tyV_is I1 r1 (show tyV X.K "list" (.ref L) (upd H L (.lst (adrs fs))) from .inl ⟨rfl, adrs fs, .inl (.inl upd_same)⟩)
  refine ⟨"list", "list.append", PySem.F.plainAttrs_list, PySem.F.slot_list_append, PySem.F.type_list_append, h1, h2, ?_⟩
  rw [hst]
  refine Calls.callWith_builtin (by rfl) (Calls.evalArgs_plain ?_)
  show wpAny _ _ (spliced ((false, eval e X.env) :: backTo cpos (starEach [] X.env))) _ _ s1
  refine Calls.spliced_cons (hm pn X.xe pins σ _ s1 _ _ I1 (tabs_upd hL hT) fun f c' pl2 H2 s2 I2 hT2 ex hc la => ?_)
  refine Calls.spliced_nil ?_
  have hL2 : H2 L = some (.lst (adrs fs)) := ex.nil _ _ upd_same
  have AP := mt_append (X := X.tr pn X.xe) (pl2 ++ pins) s2 σ H2 (.ref L) [.ref f] v [.ref f] (fun v H3 => v = .non ∧ H3 = upd H2 L (.lst (adrs fs ++ [.ref f]))) I2 r1 (.cons rfl .nil) ⟨L, adrs fs, .ref f, rfl, rfl, hL2, by rw [List.length_map]; exact hlen, rfl, rfl⟩
  refine thn AP fun u s3 hq => ?_
  obtain ⟨w', H3, I3, _, rfl, rfl⟩ := hq
  have hH : upd (offL H2 L) L (.lst (adrs (fs ++ [(f, c', t0)]))) = upd H2 L (.lst (adrs fs ++ [.ref f])) := by
    have ea : adrs (fs ++ [(f, c', t0)]) = adrs fs ++ [.ref f] := by
      show List.map _ _ = _
      rw [List.map_append]
      rfl
    rw [offL_upd, ea]
  have ex2 := ext_off hL ex hL2
  have gd2 : Good X kl (fs ++ [(f, c', t0)]) (pl ++ pl2) := fun p m => by
    rcases List.mem_append.mp m with m | m
    · obtain ⟨pl', a, b⟩ := gd p m
      exact ⟨pl', fun q z => List.mem_append_left _ (a q z), b⟩
    · rw [List.mem_singleton.mp m]
      exact ⟨pl2, fun q z => List.mem_append_right _ z, la⟩
  have hp2 : ∀ q ∈ pl ++ pl2, q ∈ pn ++ (pl2 ++ pins) := fun q m => (List.mem_append.mp m).elim (fun z => List.mem_append_left _ (hp q z)) fun z => List.mem_append_right _ (List.mem_append_left _ z)
  have I4 : Inv (X.tr (pn ++ (pl2 ++ pins)) X.xe) [] σ (upd (offL H2 L) L (.lst (adrs (fs ++ [(f, c', t0)])))) s3 := by
    rw [hH]
    exact Inv.toTry (X := X.tr pn X.xe) I3 X.xe
  have ncL : c' ≠ L := fun z => by rw [z, hL2] at hc; cases hc
  have R := (hrest (f, c', t0) (pn ++ (pl2 ++ pins)) (pl ++ pl2) gd2 hp2).run [] s3 σ (offL H2 L) D L I4 offL_same js (fun p m => tabS_off hL2 (hT2 p m)) (ht (f, c', t0) (pn ++ (pl2 ++ pins)) (offL H2 L) rfl ex2 (fun p m => tabS_off hL2 (hT2 p m)) (fun p m => by rw [List.mem_singleton.mp m, offL_ne ncL]; exact hc) offL_same)
  exact thn R fun fl s4 q => sp_off (X := X.tr pn X.xe) I.ok q
end
section
variable {S : Sc} {O P : List Nat} {E : XK} {q : Str}
def RefJ (q : Str) (j : Nat) (S : Sc) (O P : List Nat) (E : XK) (fr : Bool) (fs : List FnI) (t : TJ) (m : SM) : Prop :=
  ∀ (R : Rx) (σ : L2.St) (H : Hp) (fp : Fp) (env : Env) (L : Addr), Rel S O P R σ H fp env → σ[j]? = some (some (.ref L)) → H L = none → Codes q fs H → ∀ D : Ends, WantS S O P E fr R H fp (m env) D σ → t L D σ H
theorem rj_fin {fr : Bool} {j : Nat} {fs : List FnI} {t : TS} {m : SM} (h : RefSJ (JL q j fs) S O P E fr t m) : RefJ q j S O P E fr fs (tJFin fs t) m := by
  intro R σ H fp env L I js hL hc D hw
  have g : Ext Nil H (L2.upd H L (.lst (adrs fs))) := Ext.new hL
  exact h R σ _ fp env (I.grow g) ⟨L, js, upd_same, fun ⟨k, y⟩ => I.live k L y hL, hc.grow g⟩ D (hw.rebase (Fwd.grow g))
theorem rj_app {fr : Bool} {j : Nat} {fs : List FnI} {t0 : XK → TE} {t : FnI → List (Addr × Obj) → TJ} {m : SM} (hl : fs.length < sizeLine) (h : ∀ (p : FnI) pn, p.2.2 = t0 → RefJ q j S O P E fr (fs ++ [p]) (t p pn) m) : RefJ q j S O P E fr fs (tJApp q t0 fs t) m := by
  intro R σ H fp env L I js hL hc D hw
  refine ⟨hl, fun p pn H1 e1 ex hT cs h1 => ?_⟩
  exact h p pn e1 R σ H1 fp env L (I.grow ex) js h1 (fun p' m => (List.mem_append.mp m).elim (fun z => hc.grow ex p' z) fun z => cs p' z) D (hw.rebase (Fwd.grow ex))
theorem rs_mkJ {fr : Bool} {j : Nat} {ts : List (XK → TE)} {t : List FnI → List (Addr × Obj) → TJ} {m : SM} (hj : j ∉ O) (hlen : ts.length ≤ sizeLine) (h : ∀ fs pn, fs.map (·.2.2) = ts → RefJ q j S O P E fr fs (t fs pn) m) : RefS S O P E fr (tMkJ q j ts t) (sMkL j m) := by
  intro R σ H fp env I D hw
  refine ⟨I.tb, hlen, fun fs pn H1 L e1 ex tb hc hL => ?_⟩
  unfold sMkL at hw
  split at hw
  case isFalse => exact hw.elim
  rename_i hl
  have js : (σ.set j (some (V.ref L)))[j]? = some (some (.ref L)) := List.getElem?_set_self (by rw [← I.len]; exact hl)
  exact ⟨L, H1, js, rfl, hL, tb, h fs pn e1 R _ H1 fp _ L ((I.grow ex).blind (j := j) (v := some (.ref L)) hj) js hL hc D (hw.rebase (Fwd.grow ex))⟩
end
end Mir
namespace Mir
open PySem PySem.Spec PyProof.Rows L2
theorem len_of {fs : List FnI} {ts : List (L2.XK → L2.TE)} (e : fs.map (·.2.2) = ts) (h : ts.length < sizeLine) : fs.length < sizeLine := by
  rw [← List.length_map (f := fun p : FnI => p.2.2), e]
  exact h
theorem map_snoc {fs : List FnI} {ts : List (L2.XK → L2.TE)} {p : FnI} {t : L2.XK → L2.TE} (e : fs.map (·.2.2) = ts) (h : p.2.2 = t) : (fs ++ [p]).map (·.2.2) = ts ++ [t] := by
  rw [List.map_append, e, ← h]
  rfl
end Mir
namespace Mir
open PySem PySem.Spec PyProof.Rows L2
variable [Tbl]
theorem ln_lt {α : Type} {ts : List α} (n : Nat) (h : ts.length = n) (k : n < 100) : ts.length < sizeLine := by
  rw [h]
  exact Nat.lt_trans k (by decide)
theorem ln_le {α : Type} {ts : List α} (n : Nat) (h : ts.length = n) (k : n < 100) : ts.length ≤ sizeLine := Nat.le_of_lt (ln_lt n h k)
end Mir
namespace Mir
open PySem PySem.Spec PyProof.Rows L2
variable [Tbl]
def tJCat (q : Str) (j : Nat) (ts : List (XK → TE)) (fs : List FnI) (t : List FnI → List (Addr × Obj) → TJ) : TJ := fun L D σ H => fs.length + ts.length ≤ sizeLine ∧ ∀ (gs : List FnI) (pn : List (Addr × Obj)) (H1 : Hp) (L' : Addr), gs.map (·.2.2) = ts → Ext Nil H H1 → LamX.Tabs Tbl.T H1 → Codes q gs H1 → H1 L' = none → t gs pn L' D (σ.set j (some (.ref L'))) H1
section
variable {X : Cx} {kl : Nat}
theorem psj_cat {j : Nat} {x : Str} {es : List Expr} {ts : List (XK → TE)} {rest : List Stmt} {t : List FnI → List (Addr × Obj) → TJ} {pn pl : List (Addr × Obj)} {fs : List FnI} {px xp lp bp pos : Pos} (hN : X.N.Nodup) (hj : X.N[j]? = some x) (hx : Loc X.env.scope x) (hv : Vis X.env.scope x) (hm : MkLs X kl es ts) (gd : Good X kl fs pl) (hp : ∀ p ∈ pl, p ∈ pn)
    (hrest : ∀ (gs : List FnI) (pn pl : List (Addr × Obj)), Good X kl (fs ++ gs) pl → (∀ p ∈ pl, p ∈ pn) → PSJ X j pn (fs ++ gs) rest (t gs pn))
    (hdb : (x == ("__debug__" : Str)) = false := by decide) (hcd : (x == ("__classdict__" : Str)) = false := by decide)
    (hs : swapsWith (.BinOp (.Name x xp) .Add (.List es lp) bp) (some (.Name x px)) pos.line X.env = pure false := by rfl) (hf : X.fn x = true ∨ X.env.scope.names.lookup x = some .local := by first | exact .inl rfl | exact .inr rfl) :
    PSJ X j pn fs (.Assign [.Name x px] (.BinOp (.Name x xp) .Add (.List es lp) bp) pos :: rest) (tJCat (lamQ X) j ts fs t) := by
  refine ⟨fun pins s σ H D L I hL js hT ht => ?_⟩
  obtain ⟨hlen, ht⟩ := ht
  refine wpAny_execs_cons (wpAny_Assign_Name (wpAny_BinOp ?_) hs)
  refine thn ((pe_var (X := X.tr pn X.xe) (pos := xp) hj hv hdb hcd).run pins s σ _ (fun v H1 => v = .ref L ∧ H1 = upd H L (.lst (adrs fs))) I ⟨.ref L, js, rfl, rfl⟩) fun v s1 ⟨y, H1, I1, r1, q1⟩ => ?_
  obtain ⟨rfl, rfl⟩ := q1
  refine wpAny_List_spliced (ev_lams (mk_tr (pn0 := pn) hm) (pn := pn) (xe := X.xe) (X := X.tr pn X.xe) I1 (tabs_upd hL hT) fun gs pl2 H2 us s2 e1 I2 hT2 ex cs gd2 rv => ?_)
  have hgl : gs.length = ts.length := by rw [← e1, List.length_map]
  have hl : us.length ≤ sizeLine := by
    rw [← rv.length, List.length_map]
    omega
  refine ⟨hl, ?_⟩
  have I2 : Inv (X.tr pn X.xe) (pl2 ++ pins) σ H2 s2 := I2
  have hP : H2 s2.heap.objs.size = none := I2.hok.fresh (Nat.le_refl _)
  have hL2 : H2 L = some (.lst (adrs fs)) := ex.nil _ _ upd_same
  have nLP : L ≠ s2.heap.objs.size := fun z => by rw [z, hP] at hL2; cases hL2
  have I3 : Inv (X.tr pn X.xe) (pl2 ++ pins) σ (upd H2 s2.heap.objs.size (.lst (adrs gs))) { s2 with heap := s2.heap.push { cls := .type "list", data := .seq us.toArray } } := I2.laid (t' := s2.toks) (fun b u e => Heap.get?_push_of_some _ e) (Nat.le_refl _) ⟨by rw [rv.length]; exact hl, us, 0, rv, Heap.get?_push_size _ rfl⟩
  have hL3 : upd H2 s2.heap.objs.size (.lst (adrs gs)) L = some (.lst (adrs fs)) := by rw [upd_ne nLP]; exact hL2
  have OP := op_cat (X := X.tr pn X.xe) (pl2 ++ pins) _ σ _ (.ref L) (.ref s2.heap.objs.size) v (.ref s2.heap.objs.size) (fun v H3 => ∃ p, v = .ref p ∧ upd H2 s2.heap.objs.size (.lst (adrs gs)) p = none ∧ H3 = upd (upd H2 s2.heap.objs.size (.lst (adrs gs))) p (.lst (adrs fs ++ adrs gs))) I3 r1 rfl
    ⟨L, _, adrs fs, adrs gs, rfl, rfl, hL3, upd_same, by rw [List.length_map, List.length_map]; omega, fun p hp => ⟨p, rfl, hp, rfl⟩⟩
  refine thn OP fun u s4 hq => ?_
  obtain ⟨w, H4, I4, rw4, p, rfl, hpn, rfl⟩ := hq
  have exH : Ext Nil H (upd H2 s2.heap.objs.size (.lst (adrs gs))) := (Ext.new hL).trans (ex.trans (Ext.new hP))
  have hTH : LamX.Tabs Tbl.T (upd H2 s2.heap.objs.size (.lst (adrs gs))) := tabs_upd hP hT2
  have csH : Codes (lamQ X) gs (upd H2 s2.heap.objs.size (.lst (adrs gs))) := Codes.grow cs (Ext.new hP)
  have ea : adrs fs ++ adrs gs = adrs (fs ++ gs) := (List.map_append ..).symm
  rw [ea] at I4
  refine store_ok (X := X.tr pn X.xe) (v := .ref p) I4 hN hj hx rw4 (fun s5 I5 => ?_) hf
  have gd3 : Good X kl (fs ++ gs) (pl ++ pl2) := fun p m => by
    rcases List.mem_append.mp m with m | m
    · obtain ⟨pl', a, b⟩ := gd p m
      exact ⟨pl', fun q z => List.mem_append_left _ (a q z), b⟩
    · obtain ⟨pl', a, b⟩ := gd2 p m
      exact ⟨pl', fun q z => List.mem_append_right _ (a q z), b⟩
  have hp3 : ∀ q ∈ pl ++ pl2, q ∈ pn ++ (pl2 ++ pins) := fun q m => (List.mem_append.mp m).elim (fun z => List.mem_append_left _ (hp q z)) fun z => List.mem_append_right _ (List.mem_append_left _ z)
  have jl : j < σ.length := (List.getElem?_eq_some_iff.mp js).1
  have js2 : (σ.set j (some (V.ref p)))[j]? = some (some (.ref p)) := List.getElem?_set_self jl
  have I6 : Inv (X.tr (pn ++ (pl2 ++ pins)) X.xe) [] (σ.set j (some (.ref p))) (upd (upd H2 s2.heap.objs.size (.lst (adrs gs))) p (.lst (adrs (fs ++ gs)))) s5 := Inv.toTry (X := X.tr pn X.xe) I5 X.xe
  have R := (hrest gs (pn ++ (pl2 ++ pins)) (pl ++ pl2) gd3 hp3).run [] s5 _ _ D p I6 hpn js2 hTH (ht gs _ _ p e1 exH hTH csH hpn)
  exact thn R fun fl s6 q => sp_off (X := X.tr pn X.xe) I.ok q
end
section
variable {S : Sc} {O P : List Nat} {E : XK} {q : Str}
theorem rj_cat {fr : Bool} {j : Nat} {fs : List FnI} {ts : List (XK → TE)} {t : List FnI → List (Addr × Obj) → TJ} {m : SM} (hj : j ∉ O) (hl : fs.length + ts.length ≤ sizeLine) (h : ∀ gs pn, gs.map (·.2.2) = ts → RefJ q j S O P E fr (fs ++ gs) (t gs pn) m) : RefJ q j S O P E fr fs (tJCat q j ts fs t) (sMkL j m) := by
  intro R σ H fp env L I js hL hc D hw
  refine ⟨hl, fun gs pn H1 L' e1 ex hT cs h1 => ?_⟩
  unfold sMkL at hw
  split at hw
  case isFalse => exact hw.elim
  rename_i hlt
  have js2 : (σ.set j (some (V.ref L')))[j]? = some (some (.ref L')) := List.getElem?_set_self (by rw [← I.len]; exact hlt)
  exact h gs pn e1 R _ H1 fp _ L' ((I.grow ex).blind (j := j) (v := some (.ref L')) hj) js2 h1 (fun p' m => (List.mem_append.mp m).elim (fun z => hc.grow ex p' z) fun z => cs p' z) D (hw.rebase (Fwd.grow ex))
end
end Mir
namespace Mir
open PySem PySem.Spec PyProof.Rows L2
theorem map_app {fs gs : List FnI} {ts us : List (L2.XK → L2.TE)} (e : fs.map (·.2.2) = ts) (h : gs.map (·.2.2) = us) : (fs ++ gs).map (·.2.2) = ts ++ us := by
  rw [List.map_append, e, h]
theorem len_cat {fs : List FnI} {ts us : List (L2.XK → L2.TE)} (e : fs.map (·.2.2) = ts) (h : ts.length + us.length ≤ sizeLine) : fs.length + us.length ≤ sizeLine := by
  rw [← List.length_map (f := fun p : FnI => p.2.2), e]
  exact h
end Mir
namespace Mir
open PySem PySem.Spec PyProof.Rows L2 GenW
variable [Tbl]
abbrev GMx := Env → Option Exn
def RefGX (S : Sc) (E : XK) (t : TGn) (m : GMx) : Prop := ∀ (G : Addr → Prop) (σ : L2.St) (H : Hp) (env : Env), GRel S G σ H env → ∀ (D : GEnds) (ys : List V) (x : Exn), m env = some x →
  (∀ cls dd H', Ext Nil H H' → ExcR S H' x cls dd → E cls dd H') → t D ys σ H
def gxHere (m : SM) : GMx := fun env => match m env with
  | .exc x _ => some x
  | _ => none
def gxNext (m : SM) (n : GMx) : GMx := fun env => match m env with
  | .exc x _ => some x
  | .next e => n e
  | _ => none
theorem gss_never {X : Cx} {rest : List Stmt} : GSs X rest (fun _ _ _ _ => False) := ⟨fun _ _ _ _ _ _ _ _ _ _ _ _ _ _ _ _ _ _ => by
  intros
  exact False.elim (by assumption)⟩
section
variable {S : Sc} {E : XK} {ts : TS} {ms : SM} {u : TGn} {n : GMx}
theorem rgx_here (hr : RefS S [] [] E false ts ms) : RefGX S E (tGThen (tPlain ts) u) (gxHere ms) := by
  intro G σ H env I D ys x hm k
  unfold gxHere at hm
  split at hm
  · rename_i y e he
    cases hm
    refine hr ⟨G, Nil, H, fun _ => none⟩ σ H (fun _ => []) env I (GEnds.at _ ys) ?_
    rw [he]
    intro cls dd σ' H' fp' I' w xr
    exact k cls dd H' (w.1.mono fun a ⟨i, z⟩ => nomatch z) xr
  · cases hm
theorem rgx_next (hr : RefS S [] [] E false ts ms) (hn : RefGX S E u n) : RefGX S E (tGThen (tPlain ts) u) (gxNext ms n) := by
  intro G σ H env I D ys x hm k
  unfold gxNext at hm
  split at hm
  · rename_i y e he
    cases hm
    refine hr ⟨G, Nil, H, fun _ => none⟩ σ H (fun _ => []) env I (GEnds.at _ ys) ?_
    rw [he]
    intro cls dd σ' H' fp' I' w xr
    exact k cls dd H' (w.1.mono fun a ⟨i, z⟩ => nomatch z) xr
  · rename_i e he
    refine hr ⟨G, Nil, H, fun _ => none⟩ σ H (fun _ => []) env I (GEnds.at _ ys) ?_
    rw [he]
    intro σ' H' fp' I' w
    have w1 : Ext Nil H H' := w.1.mono fun a ⟨i, z⟩ => nomatch z
    exact hn G σ' H' e (GRel.of I' rfl) D ys x hm fun cls dd H2 x2 xr => k cls dd H2 (w1.trans x2) xr
  · cases hm
end
def spGe (S : Sc) (n : Nat) (m : List D → Option Exn) : SpG := fun vs H _ E => ∃ (G : Addr → Prop) (ds : List D) (x : Exn), vs.length = n ∧ (∀ a, G a → H a ≠ none) ∧ RepL S G H ds vs ∧ m ds = some x ∧ (∀ cls dd H', Ext Nil H H' → ExcR S H' x cls dd → E cls dd H') ∧ LamX.Tabs Tbl.T H ∧ Ext Nil S.Hb H
def runGe (k n : Nat) (m : GMx) : List D → Option Exn := fun ds => if ds.length = k then m (ds.map some ++ List.replicate (n - ds.length) none) else none
theorem runGe_ar {k n : Nat} {m : GMx} {ds : List D} {x : Exn} (h : runGe k n m ds = some x) : ds.length = k := by
  unfold runGe at h
  split at h
  · assumption
  · cases h
section
variable {P : Program} {w : World} {K : PySem.W.Frag} {mg : Str → Option Value} {base : Heap} {S : Sc}
theorem gfnX_ok {x qual : Str} {params : Arguments} {body : List Stmt} {scope : Scope} {dvs : List V} {kws : List (Str × V)} {f : Addr} {fd : FuncData} {N ps : List Str} {k : Nat} {m : GMx} (F : FunD K x qual params body scope dvs kws f fd) (sc : GScope N ps scope) (hN : ps.length ≤ N.length)
    (hb : ∀ (cdv : Value) (A : Around) (outer : List PySem.Env) (s : Shared) (H : Hp) (E : XK) (pn : List (Addr × Obj)), Room k (A.deeper (envOfC qual scope s.heap.objs.size f cdv)) →
      ∃ t, GSs (gcxOf P w K mg base N qual scope f cdv A outer s H E pn) body t ∧ RefGX S E t m) :
    GFn P w K mg base (k + 1) f fd ps (spGe S ps.length (runGe ps.length N.length m)) := by
  obtain ⟨oc, od, dV, kV, doc, pm, an, cdv, ct, osl, rfl, lk, hcd, _, _⟩ := F.ex
  refine gfn_of lk hcd sc (fun vs H Q E h => h.choose_spec.choose_spec.choose_spec.1) fun A outer s H vs Q E pn hr hsp => ?_
  obtain ⟨t, h1, h2⟩ := hb cdv A outer s H E pn hr
  refine ⟨t, h1, ?_⟩
  obtain ⟨G, ds, x, hl, hG, hR, hm, k, htb⟩ := hsp
  have hl2 := hR.length
  unfold runGe at hm
  rw [if_pos (by omega)] at hm
  have I0 : GRel S G (L2.start N vs) H (ds.map some ++ List.replicate (N.length - ds.length) none) := by
    refine ⟨?_, fun i d h1 h2 => ?_, fun i d h1 h2 => (nomatch h2), fun _ _ => rfl, fun i j a h => (nomatch h), fun i => List.nodup_nil, fun i a h => (nomatch h), Ext.refl _ _, hG, fun i a h => (nomatch h), fun _ h => h, fun a h => h.elim, htb.1, ⟨htb.2, fun a h => h.elim⟩, .nil⟩
    · unfold L2.start
      rw [List.length_append, List.length_append, List.length_map, List.length_map, List.length_replicate, List.length_replicate]
      omega
    · obtain ⟨v, e1, e2⟩ := hR.get (env_get h1)
      exact ⟨v, start_get e1, e2.less fun a z => .inl (fs_none z)⟩
  exact h2 G _ H _ I0 _ [] x hm k
end
def XStop (K : PySem.W.Frag) (E : XK) : XK := fun cls d H => E cls d H ∧ PySem.W.subIn K cls (.type "StopIteration") = some false
theorem nostopS {K : PySem.W.Frag} {E : XK} : NoStop K (XStop K E) := fun _ _ _ h => h.2
theorem passStop {X : Cx} {E : XK} (h : Passes (CX X.prog X.w) X E) : Passes (CX X.prog X.w) X (XStop X.K E) := fun pins σ H s e s' I c =>
  h pins σ H s e s' I (by
    obtain ⟨a, B, H', cls, d, e1, fl, hok, ub, na, os, ag, hE⟩ := c
    exact ⟨a, B, H', cls, d, e1, fl, hok, ub, na, os, ag, hE.1⟩)
theorem pass_gcx {P : Program} {w : World} {K : PySem.W.Frag} {mg : Str → Option Value} {base : Heap} {N : List Str} {qual : Str} {scope : Scope} {f : Addr} {cd : Value} {A : Around} {outer : List PySem.Env} {s : Shared} {H : Hp} {E : XK} {pn : List (Addr × Obj)} :
    Passes (CX P w) (gcxOf P w K mg base N qual scope f cd A outer s H E pn) E := passes_call takes_gcx fun _ _ _ _ h => h
def eListGX (c : Nat) (m : List D → Option Exn) (a : AM) : EM := fun env => (a env).bind fun ds e => match m ds with
  | some x => if x.c = c then .exc x e else .bad
  | none => .bad
section
variable {S : Sc} {O P : List Nat} {E : XK} {μ : Mo} {fr : Bool} {tA : TA} {mA : AM}
theorem ref_listGX {n c : Nat} {m : List D → Option Exn} (hc : PySem.W.subIn S.K (.ref (S.ca c)) (.type "StopIteration") = some false) (har : ∀ ds x, m ds = some x → ds.length = n) (ha : RefA S O P E μ tA mA) : RefE S O P E μ fr (tListG (tCallG (spGe S n m) [] (XStop S.K E) tA)) (eListGX c m mA) := by
  intro R σ H fp env I Q h
  refine ha R σ H fp env I _ ((Want.bind h).mono fun ds e1 H1 f1 I1 s1 h1 vs hv => ?_)
  split at h1
  case h_2 => exact h1.elim
  rename_i x ho
  split at h1
  case isFalse => exact h1.elim
  rename_i ec
  refine ⟨FM R f1 μ, ds, x, by rw [List.append_nil, hv.length]; exact har _ _ ho, fun a q => I1.fm q, by rw [List.append_nil]; exact hv, ho, fun cls dd H' ex xr => ?_, I1.tb, I1.hbH⟩
  exact ⟨h1 cls dd H' f1 (I1.grow ex) (Stp.grow ex) xr, by rw [xr.1, ec]; exact hc⟩
end
end Mir
namespace Mir
theorem ln_cat {α β : Type} {ts : List α} {us : List β} (n : Nat) (h : ts.length + us.length = n) (k : n < 100) : ts.length + us.length ≤ PySem.sizeLine := by
  have : 100 ≤ PySem.sizeLine := by decide
  omega
end Mir
namespace K09
open PySem PySem.Spec PyProof.Rows L2 Mir
noncomputable section
def c_MAX_PERSONS : D := (.int 6)
def c_LENGTHS : D := (.tup [(.int 1), (.int 2), (.int 3), (.int 4), (.int 6), (.int 8), (.int 12), (.int 24)])
def c_MAX_KEYS : D := (.int 9)
def c_MAX_REMINDERS : D := (.int 10)
def c_MAX_TICK : D := (.int 1000000000000000000)
def c_HOME : D := (.str "h")
def c_OUT : D := (.str "o")
def c_ENTER : D := (.str "enter")
def c_WAIT : D := (.str "wait")
def c_LEAVE : D := (.str "leave")
def c_TAKE : D := (.str "take")
def c_OPEN : D := (.str "open")
def c_MAX_ADDED : D := (.int 2)
def b_is_int_in : SM := (sRet (eAndV (e1 (oIsi "int") (eVar 0)) (eAndV (eNotV (e1 (oIsi "bool") (eVar 0))) (eChain oLeI oLeI (eVar 1) (eVar 0) (eVar 2)))))
def d_is_int_in : DM := runF false 3 3 b_is_int_in
def b_is_table : SM := (sSeq (sIf (mOr (mNot (mTest (e1 (oIsi "str") (eVar 0)))) (mTest (e2 oNotIn (eA (A1 oLen) (aCons (eVar 0) aNil)) (eC c_LENGTHS)))) (sRet (eC (.bl false))) sNext)
  (sRet (eA (A1 oAll) (aCons (eLc [1] (iSeqM (eVar 0)) (gSet 1) mYes (e2 oIn (eVar 1) (eTup (aCons (eC c_HOME) (aCons (eC c_OUT) aNil))))) aNil))))
def d_is_table : DM := runF false 1 2 b_is_table
def b_common_multiple : SM := (sSeq (sAsg (eVar 0) (gSet 2))
  (sSeq (sWhile (mTest (e2 oNe (e2 oMul (e2 oFdiv (eVar 2) (eVar 1)) (eVar 1)) (eVar 2))) (sAug 2 (eVar 0) (· + ·)))
  (sRet (eVar 2))))
def d_common_multiple : DM := runF false 2 3 b_common_multiple
def b_check_persons : SM := (sSeq (sIf (mNot (mTest (e1 (oIsi "tuple") (eVar 1)))) sBad sNext)
  (sFor (iEnumT (eVar 1)) (gTupleM [(gSet 3), (gSet 4)]) (sIf (mOr (mNot (mTest (eCall d_is_int_in [] (aCons (eVar 4) (aCons (eC (.int 0)) (aCons (e2 oSub (eVar 2) (eC (.int 1))) aNil)))))) (mAnd (mTest (e2 oGtI (eVar 3) (eC (.int 0)))) (mTest (e2 oLe (eVar 4) (e2 oIx (eVar 1) (e2 oSub (eVar 3) (eC (.int 1)))))))) sBad sNext)))
def d_check_persons : DM := runF false 3 5 b_check_persons
def b_is_reminder : SM := (sSeq (sIf (mOr (mNot (mTest (e1 (oIsi "tuple") (eVar 0)))) (mTest (e2 oNe (eA (A1 oLen) (aCons (eVar 0) aNil)) (eC (.int 2))))) (sRet (eC (.bl false))) sNext)
  (sRet (eAndV (eCall d_is_int_in [] (aCons (e2 oIx (eVar 0) (eC (.int 0))) (aCons (eC (.int 0)) (aCons (e2 oSub (eVar 1) (eC (.int 1))) aNil)))) (eCall d_is_int_in [] (aCons (e2 oIx (eVar 0) (eC (.int 1))) (aCons (eC (.int 0)) (aCons (e2 oSub (eVar 2) (eC (.int 1))) aNil)))))))
def d_is_reminder : DM := runF false 3 3 b_is_reminder
def b_House__init_ : SM := (sSeq (sIf (mOr (mNot (mTest (e1 (oIsi "tuple") (eVar 1)))) (mTest (e2 oEq (eVar 1) (eTup aNil)))) sBad sNext)
  (sSeq (sAsg (eC (.int 1)) (gSet 5))
  (sSeq (sFor (iEnumT (eVar 1)) (gTupleM [(gSet 6), (gSet 7)]) (sSeq (sIf (mOr (mTest (e2 oEq (eVar 6) (eC c_MAX_PERSONS))) (mNot (mTest (eCall d_is_table [] (aCons (eVar 7) aNil))))) sBad sNext)
  (sAsg (eCall d_common_multiple [] (aCons (eVar 5) (aCons (eA (A1 oLen) (aCons (eVar 7) aNil)) aNil))) (gSet 5))))
  (sSeq (sIf (mNot (mTest (eCall d_is_int_in [] (aCons (eVar 2) (aCons (eC (.int 0)) (aCons (eC c_MAX_KEYS) aNil)))))) sBad sNext)
  (sSeq (sDrop (eCall d_check_persons [] (aCons (eC (.str "careful")) (aCons (eVar 3) (aCons (eA (A1 oLen) (aCons (eVar 1) aNil)) aNil)))))
  (sSeq (sIf (mNot (mTest (e1 (oIsi "tuple") (eVar 4)))) sBad sNext)
  (sSeq (sFor (iEnumT (eVar 4)) (gTupleM [(gSet 6), (gSet 8)]) (sSeq (sIf (mOr (mTest (e2 oEq (eVar 6) (eC c_MAX_REMINDERS))) (mNot (mTest (eCall d_is_reminder [] (aCons (eVar 8) (aCons (eVar 5) (aCons (eA (A1 oLen) (aCons (eVar 1) aNil)) aNil))))))) sBad sNext)
  (sIf (mAnd (mTest (e2 oGtI (eVar 6) (eC (.int 0)))) (mTest (e2 oLe (eVar 8) (e2 oIx (eVar 4) (e2 oSub (eVar 6) (eC (.int 1))))))) sBad sNext)))
  (sSeq (sSetFld 0 0 0 (eVar 1))
  (sSeq (sSetFld 0 0 1 (eVar 2))
  (sSeq (sSetFld 0 0 2 (eVar 3))
  (sSeq (sSetFld 0 0 3 (eVar 4))
  (sSetFld 0 0 4 (eVar 5)))))))))))))
def d_House__init_ : DM0 := runF0 5 9 b_House__init_
def b_House_persons : SM := (sRet (eA (A1 oLen) (aCons (eFld 0 0 (eVar 0)) aNil)))
def d_House_persons : DM := runF false 1 1 b_House_persons
def b_House_period : SM := (sRet (eFld 0 4 (eVar 0)))
def d_House_period : DM := runF false 1 1 b_House_period
def b_House_wants_home : SM := (sSeq (sAsg (e2 oIx (eFld 0 0 (eVar 0)) (eVar 1)) (gSet 3))
  (sRet (e2 oEq (e2 oIx (eVar 3) (e2 oMod (eVar 2) (eA (A1 oLen) (aCons (eVar 3) aNil)))) (eC c_HOME))))
def d_House_wants_home : DM := runF false 3 4 b_House_wants_home
def b_House_takes_key : SM := (sRet (eOrV (e2 oIn (eVar 1) (eFld 0 2 (eVar 0))) (e2 oIn (eTup (aCons (e2 oMod (eVar 2) (eFld 0 4 (eVar 0))) (aCons (eVar 1) aNil))) (eFld 0 3 (eVar 0)))))
def d_House_takes_key : DM := runF false 3 3 b_House_takes_key
def b_check_tick : SM := (sIf (mNot (mTest (eCall d_is_int_in [] (aCons (eVar 0) (aCons (eC (.int 0)) (aCons (eC c_MAX_TICK) aNil)))))) (sRaise0 2) sNext)
def d_check_tick : DM := runF false 1 1 b_check_tick
def b_check_person : SM := (sIf (mNot (mTest (eCall d_is_int_in [] (aCons (eVar 1) (aCons (eC (.int 0)) (aCons (e2 oSub (eProp 0 d_House_persons (eVar 0)) (eC (.int 1))) aNil)))))) (sRaise0 3) sNext)
def d_check_person : DM := runF false 2 2 b_check_person
def b_first_scene : SM := (sRet (eTup (aCons (eTup aNil) (aCons (eTup aNil) (aCons (eFld 0 1 (eVar 0)) (aCons (eC (.bl false)) aNil))))))
def d_first_scene : DM := runF false 1 1 b_first_scene
def b_people_at_home : SM := (sSeq (sAsg (eRg false (eProp 0 d_House_persons (eVar 0))) (gSet 3))
  (sSeq (sIf (mTest (e2 oLtI (eVar 2) (eC (.int 0)))) (sRet (eVar 3)) sNext)
  (sRet (eLc [4] (iSeqM (eVar 3)) (gSet 4) (mAnd (mTest (eMeth 0 d_House_wants_home [] (eVar 0) (aCons (eVar 4) (aCons (eVar 2) aNil)))) (mTest (e2 oNotIn (eVar 4) (e2 oIx (eVar 1) (eC (.int 0)))))) (eVar 4)))))
def d_people_at_home : DM := runF false 3 5 b_people_at_home
def b_after_tick : SM := (sSeq (sAsg (eVar 1) (gTupleM [(gSet 10), (gSet 11), (gSet 12), (gSet 13)]))
  (sSeq (sAsg (eCall d_people_at_home [] (aCons (eVar 0) (aCons (eVar 1) (aCons (e2 oSub (eVar 2) (eC (.int 1))) aNil)))) (gSet 3))
  (sSeq (sAsg (eLc [8] (iRng1M (aCons (eProp 0 d_House_persons (eVar 0)) aNil)) (gSet 8) (mAnd (mTest (e2 oNotIn (eVar 8) (eVar 3))) (mTest (eMeth 0 d_House_wants_home [] (eVar 0) (aCons (eVar 8) (aCons (eVar 2) aNil))))) (eVar 8)) (gSet 4))
  (sSeq (sOwn (eLst aNil) 5)
  (sSeq (sIf (mOr (mTest (e2 oNe (eVar 3) (eLst aNil))) (mOr (mTest (eVar 13)) (mTest (eA (A1 oAny) (aCons (eLc [8] (iSeqM (eVar 4)) (gSet 8) mYes (e2 oIn (eVar 8) (eVar 11))) aNil))))) (sSeq (sExt 5 (eLc [8] (iSeqM (eVar 4)) (gSet 8) mYes (eTup (aCons (eVar 2) (aCons (eC c_ENTER) (aCons (eVar 8) aNil))))))
  (sSeq (sAug 12 (eA (A1 oLen) (aCons (eLc [8] (iSeqM (eVar 4)) (gSet 8) (mTest (e2 oIn (eVar 8) (eVar 11))) (eVar 8)) aNil)) (· + ·))
  (sSeq (sAsg (eA (A1 oTuple) (aCons (eLc [8] (iSeqM (eVar 11)) (gSet 8) (mTest (e2 oNotIn (eVar 8) (eVar 4))) (eVar 8)) aNil)) (gSet 11))
  (sSeq (sAsg (eTup aNil) (gSet 10))
  (sAsg (eA (A1 oSort) (aCons (e2 oAdd (eVar 3) (eVar 4)) aNil)) (gSet 14)))))) (sSeq (sAsg (eA (A1 oTuple) (aCons (eVar 4) aNil)) (gSet 10))
  (sSeq (sExt 5 (eLc [8] (iSeqM (eVar 4)) (gSet 8) mYes (eTup (aCons (eVar 2) (aCons (eC c_WAIT) (aCons (eVar 8) aNil))))))
  (sAsg (eLst aNil) (gSet 14)))))
  (sSeq (sAsg (eLc [8] (iSeqM (eVar 14)) (gSet 8) (mNot (mTest (eMeth 0 d_House_wants_home [] (eVar 0) (aCons (eVar 8) (aCons (eVar 2) aNil))))) (eVar 8)) (gSet 6))
  (sSeq (sOwn (eLst aNil) 7)
  (sSeq (sFor (iSeqM (eVar 6)) (gSet 8) (sSeq (sApp 5 (eTup (aCons (eVar 2) (aCons (eC c_LEAVE) (aCons (eVar 8) aNil)))))
  (sIf (mAnd (mTest (e2 oGtI (eVar 12) (eA (A1 oLen) (aCons (eVar 7) aNil)))) (mTest (eMeth 0 d_House_takes_key [] (eVar 0) (aCons (eVar 8) (aCons (eVar 2) aNil))))) (sSeq (sApp 7 (eVar 8))
  (sApp 5 (eTup (aCons (eVar 2) (aCons (eC c_TAKE) (aCons (eVar 8) aNil)))))) sNext)))
  (sSeq (sAsg (e2 oEq (eA (A1 oLen) (aCons (eVar 6) aNil)) (eA (A1 oLen) (aCons (eVar 14) aNil))) (gSet 9))
  (sSeq (sIf (mAnd (mTest (e2 oNe (eVar 6) (eLst aNil))) (mAnd (mTest (eVar 9)) (mAnd (mTest (e2 oEq (eVar 7) (eLst aNil))) (mTest (e2 oGtI (eVar 12) (eC (.int 0))))))) (sSeq (sApp 7 (e2 oIx (eVar 6) (e1 oNeg (eC (.int 1)))))
  (sApp 5 (eTup (aCons (eVar 2) (aCons (eC c_TAKE) (aCons (e2 oIx (eVar 6) (e1 oNeg (eC (.int 1)))) aNil)))))) sNext)
  (sSeq (sIf (mAnd (mTest (e2 oNe (eVar 6) (eLst aNil))) (mTest (eVar 9))) (sSeq (sAsg (eUp (e2 oEq (eVar 7) (eLst aNil))) (gSet 13))
  (sIf (mTest (eVar 13)) (sApp 5 (eTup (aCons (eVar 2) (aCons (eC c_OPEN) (aCons (eC .non) aNil))))) sNext)) (sIf (mTest (e2 oNe (eVar 14) (eLst aNil))) (sAsg (eC (.bl false)) (gSet 13)) sNext))
  (sRet (eTup (aCons (eTup (aCons (eVar 10) (aCons (eA (A1 oTuple) (aCons (eA (A1 oSort) (aCons (e2 oAdd (eA (A1 oList) (aCons (eVar 11) aNil)) (eVar 7)) aNil)) aNil)) (aCons (e2 oSub (eVar 12) (eA (A1 oLen) (aCons (eVar 7) aNil))) (aCons (eVar 13) aNil))))) (aCons (eVar 5) aNil)))))))))))))))
def d_after_tick : DM := runF false 3 15 b_after_tick
abbrev st_fs : D → Option D := stF d_first_scene
abbrev st_nx : D → D → Nat → Option (D × D) := stN d_after_tick
abbrev st_ky : D → D → Nat → Option (List D) := stK 0 d_House_period
def d_Story__init_ : DM0 := dStory 1 st_fs st_nx st_ky
theorem ar_Story__init_ {d : D} {ds : List D} (h : d_Story__init_ d ds ≠ .bad) : ds.length + 1 = 2 := ar_dStory h
def b_Story_size : SM := (sRet (e2 oSub (eA (A1 oLen) (aCons (eFld 1 0 (eVar 0)) aNil)) (eFld 1 2 (eVar 0))))
def d_Story_size : DM := runF false 1 1 b_Story_size
def b_Story_place_of : SM := (sRet (eIf (mTest (e2 oLtI (eVar 1) (eA (A1 oLen) (aCons (eFld 1 0 (eVar 0)) aNil)))) (eVar 1) (e2 oAdd (eFld 1 2 (eVar 0)) (e2 oMod (e2 oSub (eVar 1) (eFld 1 2 (eVar 0))) (eProp 1 d_Story_size (eVar 0))))))
def d_Story_place_of : DM := runF false 2 2 b_Story_place_of
def b_scene_after : SM := (sSeq (sDrop (eCall d_check_tick [] (aCons (eVar 1) aNil)))
  (sSeq (sAsg (eMake 1 d_Story__init_ [] (aCons (eVar 0) aNil)) (gSet 2))
  (sRet (e2 oIx (eFld 1 0 (eVar 2)) (eMeth 1 d_Story_place_of [] (eVar 2) (aCons (eVar 1) aNil))))))
def d_scene_after : DM := runF false 2 3 b_scene_after
def b_at_home : SM := (sRet (eCall d_people_at_home [] (aCons (eVar 0) (aCons (eCall d_scene_after [] (aCons (eVar 0) (aCons (eVar 1) aNil))) (aCons (eVar 1) aNil)))))
def d_at_home : DM := runF false 2 2 b_at_home
def b_events_between : GMx := (gxNext (sDrop (eCall d_check_tick [] (aCons (eVar 1) aNil)))
  (gxHere (sDrop (eCall d_check_tick [] (aCons (eVar 2) aNil)))))
def d_events_between : List D → Option Exn := runGe 3 7 b_events_between
def b_waiting : SM := (sRet (e2 oIx (eCall d_scene_after [] (aCons (eVar 0) (aCons (eVar 1) aNil))) (eC (.int 0))))
def d_waiting : DM := runF false 2 2 b_waiting
def b_is_open : SM := (sRet (e2 oIx (eCall d_scene_after [] (aCons (eVar 0) (aCons (eVar 1) aNil))) (eC (.int 3))))
def d_is_open : DM := runF false 2 2 b_is_open
def b_hook : SM := (sRet (e2 oIx (eCall d_scene_after [] (aCons (eVar 0) (aCons (eVar 1) aNil))) (eC (.int 2))))
def d_hook : DM := runF false 2 2 b_hook
def b_holders : SM := (sRet (e2 oIx (eCall d_scene_after [] (aCons (eVar 0) (aCons (eVar 1) aNil))) (eC (.int 1))))
def d_holders : DM := runF false 2 2 b_holders
def b_wait_ticks : SM := (sSeq (sDrop (eCall d_check_person [] (aCons (eVar 0) (aCons (eVar 1) aNil))))
  sBad)
def d_wait_ticks : DM := runF false 2 2 b_wait_ticks
def b_count_waits : SM := (sSeq (sDrop (eCall d_check_person [] (aCons (eVar 0) (aCons (eVar 1) aNil))))
  (sSeq (sDrop (eCall d_check_tick [] (aCons (eVar 2) aNil)))
  (sSeq (sDrop (eCall d_check_tick [] (aCons (eVar 3) aNil)))
  (sSeq (sIf (mTest (e2 oLtI (eVar 3) (eVar 2))) (sRet (eC (.int 0))) sNext)
  (sSeq sBad
  (sSeq sBad
  sBad))))))
def d_count_waits : DM := runF false 4 6 b_count_waits
def b_next_entry : SM := (sSeq (sDrop (eCall d_check_person [] (aCons (eVar 0) (aCons (eVar 1) aNil))))
  (sSeq (sDrop (eCall d_check_tick [] (aCons (eVar 2) aNil)))
  (sSeq sBad
  (sSeq sBad
  sBad))))
def d_next_entry : DM := runF false 3 5 b_next_entry
def b_plan_reminders : SM := (sSeq (sIf (mNot (mTest (eCall d_is_int_in [] (aCons (eVar 1) (aCons (eC (.int 0)) (aCons (eC c_MAX_ADDED) aNil)))))) (sRaise0 4) sNext)
  (sSeq sBad
  (sSeq sBad
  (sSeq sBad
  sBad))))
def d_plan_reminders : DM := runF false 2 10 b_plan_reminders
def b_law_below : SM := (sSeq (sIf (mAnd (mTest (e2 oEq (e2 oIx (eVar 0) (eC (.int 1))) (eC (.int 0)))) (mTest (e2 oGtI (eA (A1 oLen) (aCons (eVar 0) aNil)) (eC (.int 2))))) (sSetIx 0 1 (ePopAt 0 2)) sNext)
  (sSeq (sIf (mTest (e2 oGtI (e2 oIx (eVar 0) (eC (.int 1))) (eC (.int 0)))) (sSeq (sAsg (eUp (e2 oMod (e2 oIx (eVar 0) (eC (.int 1))) (eVar 1))) (gSet 2))
  (sSeq (sSetIx 0 1 (eUp (e2 oFdiv (e2 oIx (eVar 0) (eC (.int 1))) (eVar 1))))
  (sRet (eVar 2)))) sNext)
  (sSeq (sSetIx 0 0 (eUp (e2 oMod (e2 oAdd (e2 oMul (e2 oIx (eVar 0) (eC (.int 0))) (eC (.int 48271))) (eC (.int 11))) (eC (.int 2147483647)))))
  (sRet (eUp (e2 oMod (e2 oFdiv (e2 oIx (eVar 0) (eC (.int 0))) (eC (.int 64))) (eVar 1)))))))
def d_law_below : DM0 := runF0 2 3 b_law_below
def b_law_table : SM := (sSeq (sAsg (e2 oIx (eLst (aCons (eC (.int 1)) (aCons (eC (.int 2)) (aCons (eC (.int 3)) (aCons (eC (.int 4)) (aCons (eC (.int 4)) (aCons (eC (.int 6)) (aCons (eC (.int 8)) (aCons (eC (.int 12)) (aCons (eC (.int 24)) aNil)))))))))) (eCallO d_law_below 0 (aCons (e2 oIx (eLst (aCons (eC (.int 5)) (aCons (eC (.int 7)) (aCons (eC (.int 9)) aNil)))) (eCallO d_law_below 0 (aCons (eC (.int 3)) aNil))) aNil))) (gSet 1))
  (sRet (eM1 oJoin (eC (.str "")) (eLc [2] (iRng1M (aCons (eVar 1) aNil)) (gSet 2) mYes (e2 oIx (eC (.str "ho")) (eCallO d_law_below 0 (aCons (eC (.int 2)) aNil)))))))
def d_law_table : DM0 := runF0 1 3 b_law_table
def b_law_length : SM := (sSeq (sAsg (eC (.int 1)) (gSet 1))
  (sSeq (sWhile (mTest (e2 oNe (eLc [2] (iSeqM (eVar 0)) (gSet 2) (mTest (e2 oGtI (e2 oMod (eVar 1) (eA (A1 oLen) (aCons (eVar 2) aNil))) (eC (.int 0)))) (eVar 2)) (eLst aNil))) (sAsg (e2 oAdd (eVar 1) (eC (.int 1))) (gSet 1)))
  (sRet (eVar 1))))
def d_law_length : DM := runF false 1 3 b_law_length
def b_law_parts : SM := (sSeq (sAsg (eA (A1 oTuple) (aCons (eLc [4] (iRng1M (aCons (e2 oAdd (eC (.int 1)) (eCallO d_law_below 0 (aCons (eVar 1) aNil))) aNil)) (gSet 4) mYes (eCallO d_law_table 0 aNil)) aNil)) (gSet 2))
  (sSeq (sAsg (eA (A1 oTuple) (aCons (eLc [4] (iRng1M (aCons (eA (A1 oLen) (aCons (eVar 2) aNil)) aNil)) (gSet 4) (mTest (e2 oEq (eCallO d_law_below 0 (aCons (eC (.int 3)) aNil)) (eC (.int 0)))) (eVar 4)) aNil)) (gSet 3))
  (sSeq (sParO 5 (eCall d_law_length [] (aCons (eVar 2) aNil)) 6 (eLst aNil))
  (sSeq (sFor (iRng1M (aCons (eCallO d_law_below 0 (aCons (e2 oIx (eLst (aCons (eC (.int 1)) (aCons (eC (.int 4)) (aCons (eC (.int 11)) aNil)))) (eCallO d_law_below 0 (aCons (eC (.int 3)) aNil))) aNil)) aNil)) (gSet 4) (sSeq (sAsg (eTup (aCons (eCallO d_law_below 0 (aCons (eVar 5) aNil)) (aCons (eCallO d_law_below 0 (aCons (eA (A1 oLen) (aCons (eVar 2) aNil)) aNil)) aNil))) (gSet 7))
  (sIf (mTest (e2 oNotIn (eVar 7) (eVar 6))) (sApp 6 (eVar 7)) sNext)))
  (sRet (eTup (aCons (eVar 2) (aCons (eCallO d_law_below 0 (aCons (e2 oIx (eLst (aCons (eC (.int 3)) (aCons (eC (.int 10)) aNil))) (eCallO d_law_below 0 (aCons (eC (.int 2)) aNil))) aNil)) (aCons (eVar 3) (aCons (eUp (eA (A1 oTuple) (aCons (eA (A1 oSort) (aCons (eVar 6) aNil)) aNil))) aNil))))))))))
def d_law_parts : DM0 := runF0 2 8 b_law_parts
def b_law_house : SM := (sRet (eMake 0 d_House__init_ [] (aCons (e2 oIx (eVar 0) (eC (.int 0))) (aCons (e2 oIx (eVar 0) (eC (.int 1))) (aCons (e2 oIx (eVar 0) (eC (.int 2))) (aCons (e2 oIx (eVar 0) (eC (.int 3))) aNil))))))
def d_law_house : DM := runF false 1 1 b_law_house
def hx_law_error_of : Exn → Option D := hxOf 5 1 (hOf [(2, fun ds => (sSeq (sAsg (eLst (aCons (eIsE 1 true) (aCons (eIsE 1 false) (aCons (eIsE 1 false) aNil)))) (gSet 2))
  (sSeq (sAsg (e2 oAdd (eVar 2) (eLst (aCons (eIsE 1 false) (aCons (eIsE 1 false) (aCons (eIsE 1 false) aNil))))) (gSet 2))
  (sSeq (sAsg (e2 oAdd (eVar 2) (eLst (aCons (eIsE 1 false) (aCons (eIsE 1 false) (aCons (eIsE 1 false) aNil))))) (gSet 2))
  (sSeq (sAsg (e2 oAdd (eVar 2) (eLst (aCons (eIsE 1 false) (aCons (eIsE 1 false) (aCons (eIsE 1 false) aNil))))) (gSet 2))
  (sSeq (sIf (mOr (mTest (e2 oNe (eCnt (eVar 2) (eC (.bl true))) (eC (.int 1)))) (mNot (mTest (eIsE 1 true)))) (sRet (eTup (aCons (eC (.str "other")) (aCons (eC (.int 0)) aNil)))) sNext)
  (sSeq (sAsg (eLst (aCons (eC (.str "tick")) (aCons (eC (.str "person")) (aCons (eC (.str "limit")) (aCons (eC (.str "different")) (aCons (eC (.str "waiting")) (aCons (eC (.str "contradiction")) (aCons (eC (.str "name")) (aCons (eC (.str "unknown")) (aCons (eC (.str "house")) (aCons (eC (.str "text")) aNil))))))))))) (gSet 3))
  (sSeq (sAsg (e2 oIx (e2 oAdd (eVar 3) (eLst (aCons (eC (.str "code")) (aCons (eC (.str "operation")) aNil)))) (eIndex (eVar 2) (eC (.bl true)))) (gSet 4))
  (sSeq (sIf (mTest (e2 oEq (eVar 4) (eC (.str "house")))) (sRet (eTup (aCons (eVar 4) (aCons (eTup (aCons eBad (aCons eBad aNil))) aNil)))) sNext)
  (sSeq (sIf (mTest (e2 oEq (eVar 4) (eC (.str "text")))) (sRet (eTup (aCons (eVar 4) (aCons eBad aNil)))) sNext)
  (sRet (eTup (aCons (eVar 4) (aCons (eIf (mTest (e2 oIn (eVar 4) (eLst (aCons (eC (.str "code")) (aCons (eC (.str "operation")) aNil))))) eBad (eC (.int 0))) aNil)))))))))))))), (3, fun ds => (sSeq (sAsg (eLst (aCons (eIsE 1 false) (aCons (eIsE 1 true) (aCons (eIsE 1 false) aNil)))) (gSet 2))
  (sSeq (sAsg (e2 oAdd (eVar 2) (eLst (aCons (eIsE 1 false) (aCons (eIsE 1 false) (aCons (eIsE 1 false) aNil))))) (gSet 2))
  (sSeq (sAsg (e2 oAdd (eVar 2) (eLst (aCons (eIsE 1 false) (aCons (eIsE 1 false) (aCons (eIsE 1 false) aNil))))) (gSet 2))
  (sSeq (sAsg (e2 oAdd (eVar 2) (eLst (aCons (eIsE 1 false) (aCons (eIsE 1 false) (aCons (eIsE 1 false) aNil))))) (gSet 2))
  (sSeq (sIf (mOr (mTest (e2 oNe (eCnt (eVar 2) (eC (.bl true))) (eC (.int 1)))) (mNot (mTest (eIsE 1 true)))) (sRet (eTup (aCons (eC (.str "other")) (aCons (eC (.int 0)) aNil)))) sNext)
  (sSeq (sAsg (eLst (aCons (eC (.str "tick")) (aCons (eC (.str "person")) (aCons (eC (.str "limit")) (aCons (eC (.str "different")) (aCons (eC (.str "waiting")) (aCons (eC (.str "contradiction")) (aCons (eC (.str "name")) (aCons (eC (.str "unknown")) (aCons (eC (.str "house")) (aCons (eC (.str "text")) aNil))))))))))) (gSet 3))
  (sSeq (sAsg (e2 oIx (e2 oAdd (eVar 3) (eLst (aCons (eC (.str "code")) (aCons (eC (.str "operation")) aNil)))) (eIndex (eVar 2) (eC (.bl true)))) (gSet 4))
  (sSeq (sIf (mTest (e2 oEq (eVar 4) (eC (.str "house")))) (sRet (eTup (aCons (eVar 4) (aCons (eTup (aCons eBad (aCons eBad aNil))) aNil)))) sNext)
  (sSeq (sIf (mTest (e2 oEq (eVar 4) (eC (.str "text")))) (sRet (eTup (aCons (eVar 4) (aCons eBad aNil)))) sNext)
  (sRet (eTup (aCons (eVar 4) (aCons (eIf (mTest (e2 oIn (eVar 4) (eLst (aCons (eC (.str "code")) (aCons (eC (.str "operation")) aNil))))) eBad (eC (.int 0))) aNil)))))))))))))), (4, fun ds => (sSeq (sAsg (eLst (aCons (eIsE 1 false) (aCons (eIsE 1 false) (aCons (eIsE 1 true) aNil)))) (gSet 2))
  (sSeq (sAsg (e2 oAdd (eVar 2) (eLst (aCons (eIsE 1 false) (aCons (eIsE 1 false) (aCons (eIsE 1 false) aNil))))) (gSet 2))
  (sSeq (sAsg (e2 oAdd (eVar 2) (eLst (aCons (eIsE 1 false) (aCons (eIsE 1 false) (aCons (eIsE 1 false) aNil))))) (gSet 2))
  (sSeq (sAsg (e2 oAdd (eVar 2) (eLst (aCons (eIsE 1 false) (aCons (eIsE 1 false) (aCons (eIsE 1 false) aNil))))) (gSet 2))
  (sSeq (sIf (mOr (mTest (e2 oNe (eCnt (eVar 2) (eC (.bl true))) (eC (.int 1)))) (mNot (mTest (eIsE 1 true)))) (sRet (eTup (aCons (eC (.str "other")) (aCons (eC (.int 0)) aNil)))) sNext)
  (sSeq (sAsg (eLst (aCons (eC (.str "tick")) (aCons (eC (.str "person")) (aCons (eC (.str "limit")) (aCons (eC (.str "different")) (aCons (eC (.str "waiting")) (aCons (eC (.str "contradiction")) (aCons (eC (.str "name")) (aCons (eC (.str "unknown")) (aCons (eC (.str "house")) (aCons (eC (.str "text")) aNil))))))))))) (gSet 3))
  (sSeq (sAsg (e2 oIx (e2 oAdd (eVar 3) (eLst (aCons (eC (.str "code")) (aCons (eC (.str "operation")) aNil)))) (eIndex (eVar 2) (eC (.bl true)))) (gSet 4))
  (sSeq (sIf (mTest (e2 oEq (eVar 4) (eC (.str "house")))) (sRet (eTup (aCons (eVar 4) (aCons (eTup (aCons eBad (aCons eBad aNil))) aNil)))) sNext)
  (sSeq (sIf (mTest (e2 oEq (eVar 4) (eC (.str "text")))) (sRet (eTup (aCons (eVar 4) (aCons eBad aNil)))) sNext)
  (sRet (eTup (aCons (eVar 4) (aCons (eIf (mTest (e2 oIn (eVar 4) (eLst (aCons (eC (.str "code")) (aCons (eC (.str "operation")) aNil))))) eBad (eC (.int 0))) aNil))))))))))))))])
end
end K09
namespace K09
open PySem PySem.Spec PyProof.Rows L2 Mir
noncomputable section
def b_law : SM := (sSeq (sAsg (eCall d_law_house [] (aCons (eCallO d_law_parts 1 (aCons (eC (.int 4)) aNil)) aNil)) (gSet 2))
  (sSeq (sAsg (e2 oMul (eCallO d_law_below 1 (aCons (eC (.int 2)) aNil)) (eCallO d_law_below 1 (aCons (eC (.int 999)) aNil))) (gSet 3))
  (sSeq (sAsg (e2 oIx (eLst (aCons (e2 oSub (e2 oSub (eC (.int 0)) (eC (.int 1))) (eVar 3)) (aCons (e2 oAdd (e2 oAdd (e2 oPow (eC (.int 10)) (eC (.int 18))) (eC (.int 1))) (eVar 3)) (aCons (eC .non) (aCons (eC (.bl true)) (aCons (eC (.str "1")) (aCons (eTup (aCons (eC (.int 1)) aNil)) aNil))))))) (eCallO d_law_below 1 (aCons (eC (.int 6)) aNil))) (gSet 4))
  (sMkL 5 (sMkL 5 (sMkL 5 (sMkL 5 (sSeq (sIf (mNot (mTest (eAll hx_law_error_of [(eCall d_at_home [] (aCons (eVar 2) (aCons (eVar 4) aNil))), (eCall d_waiting [] (aCons (eVar 2) (aCons (eVar 4) aNil))), (eCall d_holders [] (aCons (eVar 2) (aCons (eVar 4) aNil))), (eCall d_hook [] (aCons (eVar 2) (aCons (eVar 4) aNil))), (eCall d_is_open [] (aCons (eVar 2) (aCons (eVar 4) aNil))), (eListGX 2 d_events_between (aCons (eVar 2) (aCons (eVar 4) (aCons (eC .non) aNil)))), (eCall d_next_entry [] (aCons (eVar 2) (aCons (eC (.int 0)) (aCons (eVar 4) aNil)))), (eListGX 2 d_events_between (aCons (eVar 2) (aCons (eVar 3) (aCons (eVar 4) aNil)))), (eCall d_count_waits [] (aCons (eVar 2) (aCons (eC (.int 0)) (aCons (eVar 4) (aCons (eC .non) aNil))))), (eCall d_count_waits [] (aCons (eVar 2) (aCons (eC (.int 0)) (aCons (eVar 3) (aCons (eVar 4) aNil)))))] (eTup (aCons (eC (.str "tick")) (aCons (eC (.int 0)) aNil)))))) (sRet (eC (.bl false))) sNext)
  (sSeq (sAsg (e2 oIx (eLst (aCons (e2 oSub (e2 oSub (eC (.int 0)) (eC (.int 1))) (eVar 3)) (aCons (e2 oAdd (eProp 0 d_House_persons (eVar 2)) (eVar 3)) (aCons (eC .non) (aCons (eC (.bl true)) (aCons (eC (.str "0")) (aCons (eTup (aCons (eC (.int 0)) aNil)) aNil))))))) (eCallO d_law_below 1 (aCons (eC (.int 6)) aNil))) (gSet 6))
  (sMkL 5 (sSeq (sIf (mNot (mTest (eAll hx_law_error_of [(eCall d_wait_ticks [] (aCons (eVar 2) (aCons (eVar 6) aNil))), (eCall d_count_waits [] (aCons (eVar 2) (aCons (eVar 6) (aCons (eVar 4) (aCons (eVar 4) aNil))))), (eCall d_next_entry [] (aCons (eVar 2) (aCons (eVar 6) (aCons (eVar 4) aNil))))] (eTup (aCons (eC (.str "person")) (aCons (eC (.int 0)) aNil)))))) (sRet (eC (.bl false))) sNext)
  (sSeq (sAsg (e2 oIx (eLst (aCons (e2 oSub (e2 oSub (eC (.int 0)) (eC (.int 1))) (eVar 3)) (aCons (e2 oAdd (eC (.int 3)) (eVar 3)) (aCons (eC .non) (aCons (eC (.bl true)) (aCons (eC (.str "1")) aNil)))))) (eCallO d_law_below 1 (aCons (eC (.int 5)) aNil))) (gSet 7))
  (sSeq (sIf (mTest (e2 oNe (eCloX hx_law_error_of (eCall d_plan_reminders [] (aCons (eVar 2) (aCons (eVar 7) aNil)))) (eTup (aCons (eC (.str "limit")) (aCons (eC (.int 0)) aNil))))) (sRet (eC (.bl false))) sNext)
  (sRet (eAndV (e1 (oIsi "tuple") (eNX (eCall d_waiting [] (aCons (eVar 2) (aCons (e2 oPow (eC (.int 10)) (eC (.int 18))) aNil))))) (e2 oEq (eNX (eCall d_count_waits [] (aCons (eVar 2) (aCons (eC (.int 0)) (aCons (eC (.int 5)) (aCons (eC (.int 4)) aNil)))))) (eC (.int 0))))))))))))))))))
end
end K09
namespace K09
open PySem PySem.Spec PyProof.Rows L2 Mir
def top (i : Nat) : Stmt := PySem.Challenge.pw_doorkeys_k09_invalid_ticks_and_persons.main.body.getD i (.Pass ⟨0, 0, 0, 0⟩)
abbrev st_is_int_in : Stmt := top 23
abbrev st_is_table : Stmt := top 24
abbrev st_common_multiple : Stmt := top 25
abbrev st_check_persons : Stmt := top 26
abbrev st_is_reminder : Stmt := top 27
abbrev st_House__init_ : Stmt := inClass (top 28) 0
abbrev st_House_persons : Stmt := inClass (top 28) 2
abbrev st_House_period : Stmt := inClass (top 28) 3
abbrev st_House_wants_home : Stmt := inClass (top 28) 5
abbrev st_House_takes_key : Stmt := inClass (top 28) 6
abbrev st_check_tick : Stmt := top 29
abbrev st_check_person : Stmt := top 30
abbrev st_first_scene : Stmt := top 37
abbrev st_people_at_home : Stmt := top 38
abbrev st_after_tick : Stmt := top 39
abbrev st_Story__init_ : Stmt := inClass (top 40) 0
abbrev st_Story_size : Stmt := inClass (top 40) 1
abbrev st_Story_place_of : Stmt := inClass (top 40) 2
abbrev st_scene_after : Stmt := top 41
abbrev st_at_home : Stmt := top 42
abbrev st_events_between : Stmt := top 43
abbrev st_waiting : Stmt := top 45
abbrev st_is_open : Stmt := top 46
abbrev st_hook : Stmt := top 47
abbrev st_holders : Stmt := top 48
abbrev st_wait_ticks : Stmt := top 50
abbrev st_count_waits : Stmt := top 52
abbrev st_next_entry : Stmt := top 53
abbrev st_plan_reminders : Stmt := top 58
abbrev st_law_below : Stmt := top 62
abbrev st_law_table : Stmt := top 63
abbrev st_law_length : Stmt := top 64
abbrev st_law_parts : Stmt := top 65
abbrev st_law_house : Stmt := top 61
abbrev st_law_error_of : Stmt := top 66
abbrev st_law_all_raise : Stmt := top 67
abbrev st_law_random : Stmt := top 60
abbrev st_law : Stmt := top 68
structure Ad where
  f_is_int_in : Addr
  fd_is_int_in : FuncData
  f_is_table : Addr
  fd_is_table : FuncData
  f_common_multiple : Addr
  fd_common_multiple : FuncData
  f_check_persons : Addr
  fd_check_persons : FuncData
  f_is_reminder : Addr
  fd_is_reminder : FuncData
  f_House__init_ : Addr
  fd_House__init_ : FuncData
  f_House_persons : Addr
  fd_House_persons : FuncData
  f_House_period : Addr
  fd_House_period : FuncData
  f_House_wants_home : Addr
  fd_House_wants_home : FuncData
  f_House_takes_key : Addr
  fd_House_takes_key : FuncData
  f_check_tick : Addr
  fd_check_tick : FuncData
  f_check_person : Addr
  fd_check_person : FuncData
  f_first_scene : Addr
  fd_first_scene : FuncData
  f_people_at_home : Addr
  fd_people_at_home : FuncData
  f_after_tick : Addr
  fd_after_tick : FuncData
  f_Story__init_ : Addr
  fd_Story__init_ : FuncData
  f_Story_size : Addr
  fd_Story_size : FuncData
  f_Story_place_of : Addr
  fd_Story_place_of : FuncData
  f_scene_after : Addr
  fd_scene_after : FuncData
  f_at_home : Addr
  fd_at_home : FuncData
  f_events_between : Addr
  fd_events_between : FuncData
  f_waiting : Addr
  fd_waiting : FuncData
  f_is_open : Addr
  fd_is_open : FuncData
  f_hook : Addr
  fd_hook : FuncData
  f_holders : Addr
  fd_holders : FuncData
  f_wait_ticks : Addr
  fd_wait_ticks : FuncData
  f_count_waits : Addr
  fd_count_waits : FuncData
  f_next_entry : Addr
  fd_next_entry : FuncData
  f_plan_reminders : Addr
  fd_plan_reminders : FuncData
  f_law_below : Addr
  fd_law_below : FuncData
  f_law_table : Addr
  fd_law_table : FuncData
  f_law_length : Addr
  fd_law_length : FuncData
  f_law_parts : Addr
  fd_law_parts : FuncData
  f_law_house : Addr
  fd_law_house : FuncData
  f_law_error_of : Addr
  fd_law_error_of : FuncData
  f_law_all_raise : Addr
  fd_law_all_raise : FuncData
  f_law_random : Addr
  fd_law_random : FuncData
  f_law : Addr
  fd_law : FuncData
  C_House : Addr
  C_Story : Addr
  C_InvalidTick : Addr
  C_UnknownPerson : Addr
  C_InvalidLimit : Addr
  C_HouseError : Addr
  C_InvalidHouse : Addr
  C_DifferentHouses : Addr
  C_InvalidWaiting : Addr
  C_Contradiction : Addr
  C_InvalidName : Addr
  C_UnknownName : Addr
  C_TextFault : Addr
  C_InvalidCode : Addr
  C_InvalidOperation : Addr
  dv_House__init_ : List V
  p_House_persons : Addr
  p_House_period : Addr
  p_Story_size : Addr
  cc_law : Addr
  P_law : Addr
abbrev S (K : PySem.W.Frag) (A : Ad) (Hb : Hp := fun _ => none) (lf : Nat → Addr := fun _ => 0) : Sc := { K := K, ca := fun c => match c with | 0 => A.C_House | 1 => A.C_Story | 2 => A.C_InvalidTick | 3 => A.C_UnknownPerson | _ => A.C_InvalidLimit, fn := fun c => match c with | 0 => ["tables", "key_count", "careful", "reminders", "length"] | 1 => ["scenes", "events", "start", "last"] | 2 => [] | 3 => [] | _ => [], Hb := Hb, lf := lf }
structure Txt (K : PySem.W.Frag) (mg : Str → Option Value) (A : Ad) : Prop where
  F_is_int_in : FunD K "is_int_in" "is_int_in" (defArgs st_is_int_in) (defBody st_is_int_in) (defScope st_is_int_in) [] [] A.f_is_int_in A.fd_is_int_in
  b_is_int_in : Binds K A.fd_is_int_in ["value", "low", "high"] []
  g_is_int_in : mg "is_int_in" = some (.ref A.f_is_int_in)
  F_is_table : FunD K "is_table" "is_table" (defArgs st_is_table) (defBody st_is_table) (defScope st_is_table) [] [] A.f_is_table A.fd_is_table
  b_is_table : Binds K A.fd_is_table ["value"] []
  g_is_table : mg "is_table" = some (.ref A.f_is_table)
  F_common_multiple : FunD K "common_multiple" "common_multiple" (defArgs st_common_multiple) (defBody st_common_multiple) (defScope st_common_multiple) [] [] A.f_common_multiple A.fd_common_multiple
  b_common_multiple : Binds K A.fd_common_multiple ["one", "other"] []
  g_common_multiple : mg "common_multiple" = some (.ref A.f_common_multiple)
  F_check_persons : FunD K "check_persons" "check_persons" (defArgs st_check_persons) (defBody st_check_persons) (defScope st_check_persons) [] [] A.f_check_persons A.fd_check_persons
  b_check_persons : Binds K A.fd_check_persons ["part", "values", "count"] []
  g_check_persons : mg "check_persons" = some (.ref A.f_check_persons)
  F_is_reminder : FunD K "is_reminder" "is_reminder" (defArgs st_is_reminder) (defBody st_is_reminder) (defScope st_is_reminder) [] [] A.f_is_reminder A.fd_is_reminder
  b_is_reminder : Binds K A.fd_is_reminder ["value", "period", "count"] []
  g_is_reminder : mg "is_reminder" = some (.ref A.f_is_reminder)
  F_House__init_ : FunD K "__init__" "House.__init__" (defArgs st_House__init_) (defBody st_House__init_) (defScope st_House__init_) A.dv_House__init_ [] A.f_House__init_ A.fd_House__init_
  b_House__init_ : Binds K A.fd_House__init_ ["self", "tables", "keys", "careful", "reminders"] []
  F_House_persons : FunD K "persons" "House.persons" (defArgs st_House_persons) (defBody st_House_persons) (defScope st_House_persons) [] [] A.f_House_persons A.fd_House_persons
  b_House_persons : Binds K A.fd_House_persons ["self"] []
  pr_House_persons : PropOf K A.C_House "persons" A.p_House_persons A.f_House_persons
  F_House_period : FunD K "period" "House.period" (defArgs st_House_period) (defBody st_House_period) (defScope st_House_period) [] [] A.f_House_period A.fd_House_period
  b_House_period : Binds K A.fd_House_period ["self"] []
  pr_House_period : PropOf K A.C_House "period" A.p_House_period A.f_House_period
  F_House_wants_home : FunD K "wants_home" "House.wants_home" (defArgs st_House_wants_home) (defBody st_House_wants_home) (defScope st_House_wants_home) [] [] A.f_House_wants_home A.fd_House_wants_home
  b_House_wants_home : Binds K A.fd_House_wants_home ["self", "person", "tick"] []
  me_House_wants_home : Meth K A.C_House "wants_home" A.f_House_wants_home
  F_House_takes_key : FunD K "takes_key" "House.takes_key" (defArgs st_House_takes_key) (defBody st_House_takes_key) (defScope st_House_takes_key) [] [] A.f_House_takes_key A.fd_House_takes_key
  b_House_takes_key : Binds K A.fd_House_takes_key ["self", "person", "tick"] []
  me_House_takes_key : Meth K A.C_House "takes_key" A.f_House_takes_key
  F_check_tick : FunD K "check_tick" "check_tick" (defArgs st_check_tick) (defBody st_check_tick) (defScope st_check_tick) [] [] A.f_check_tick A.fd_check_tick
  b_check_tick : Binds K A.fd_check_tick ["tick"] []
  g_check_tick : mg "check_tick" = some (.ref A.f_check_tick)
  F_check_person : FunD K "check_person" "check_person" (defArgs st_check_person) (defBody st_check_person) (defScope st_check_person) [] [] A.f_check_person A.fd_check_person
  b_check_person : Binds K A.fd_check_person ["house", "person"] []
  g_check_person : mg "check_person" = some (.ref A.f_check_person)
  F_first_scene : FunD K "first_scene" "first_scene" (defArgs st_first_scene) (defBody st_first_scene) (defScope st_first_scene) [] [] A.f_first_scene A.fd_first_scene
  b_first_scene : Binds K A.fd_first_scene ["house"] []
  g_first_scene : mg "first_scene" = some (.ref A.f_first_scene)
  F_people_at_home : FunD K "people_at_home" "people_at_home" (defArgs st_people_at_home) (defBody st_people_at_home) (defScope st_people_at_home) [] [] A.f_people_at_home A.fd_people_at_home
  b_people_at_home : Binds K A.fd_people_at_home ["house", "scene", "tick"] []
  g_people_at_home : mg "people_at_home" = some (.ref A.f_people_at_home)
  F_after_tick : FunD K "after_tick" "after_tick" (defArgs st_after_tick) (defBody st_after_tick) (defScope st_after_tick) [] [] A.f_after_tick A.fd_after_tick
  b_after_tick : Binds K A.fd_after_tick ["house", "scene", "tick"] []
  g_after_tick : mg "after_tick" = some (.ref A.f_after_tick)
  F_Story__init_ : FunD K "__init__" "Story.__init__" (defArgs st_Story__init_) (defBody st_Story__init_) (defScope st_Story__init_) [] [] A.f_Story__init_ A.fd_Story__init_
  b_Story__init_ : Binds K A.fd_Story__init_ ["self", "house"] []
  F_Story_size : FunD K "size" "Story.size" (defArgs st_Story_size) (defBody st_Story_size) (defScope st_Story_size) [] [] A.f_Story_size A.fd_Story_size
  b_Story_size : Binds K A.fd_Story_size ["self"] []
  pr_Story_size : PropOf K A.C_Story "size" A.p_Story_size A.f_Story_size
  F_Story_place_of : FunD K "place_of" "Story.place_of" (defArgs st_Story_place_of) (defBody st_Story_place_of) (defScope st_Story_place_of) [] [] A.f_Story_place_of A.fd_Story_place_of
  b_Story_place_of : Binds K A.fd_Story_place_of ["self", "tick"] []
  me_Story_place_of : Meth K A.C_Story "place_of" A.f_Story_place_of
  F_scene_after : FunD K "scene_after" "scene_after" (defArgs st_scene_after) (defBody st_scene_after) (defScope st_scene_after) [] [] A.f_scene_after A.fd_scene_after
  b_scene_after : Binds K A.fd_scene_after ["house", "tick"] []
  g_scene_after : mg "scene_after" = some (.ref A.f_scene_after)
  F_at_home : FunD K "at_home" "at_home" (defArgs st_at_home) (defBody st_at_home) (defScope st_at_home) [] [] A.f_at_home A.fd_at_home
  b_at_home : Binds K A.fd_at_home ["house", "tick"] []
  g_at_home : mg "at_home" = some (.ref A.f_at_home)
  F_events_between : FunD K "events_between" "events_between" (defArgs st_events_between) (defBody st_events_between) (defScope st_events_between) [] [] A.f_events_between A.fd_events_between
  b_events_between : Binds K A.fd_events_between ["house", "first", "last"] []
  g_events_between : mg "events_between" = some (.ref A.f_events_between)
  F_waiting : FunD K "waiting" "waiting" (defArgs st_waiting) (defBody st_waiting) (defScope st_waiting) [] [] A.f_waiting A.fd_waiting
  b_waiting : Binds K A.fd_waiting ["house", "tick"] []
  g_waiting : mg "waiting" = some (.ref A.f_waiting)
  F_is_open : FunD K "is_open" "is_open" (defArgs st_is_open) (defBody st_is_open) (defScope st_is_open) [] [] A.f_is_open A.fd_is_open
  b_is_open : Binds K A.fd_is_open ["house", "tick"] []
  g_is_open : mg "is_open" = some (.ref A.f_is_open)
  F_hook : FunD K "hook" "hook" (defArgs st_hook) (defBody st_hook) (defScope st_hook) [] [] A.f_hook A.fd_hook
  b_hook : Binds K A.fd_hook ["house", "tick"] []
  g_hook : mg "hook" = some (.ref A.f_hook)
  F_holders : FunD K "holders" "holders" (defArgs st_holders) (defBody st_holders) (defScope st_holders) [] [] A.f_holders A.fd_holders
  b_holders : Binds K A.fd_holders ["house", "tick"] []
  g_holders : mg "holders" = some (.ref A.f_holders)
  F_wait_ticks : FunD K "wait_ticks" "wait_ticks" (defArgs st_wait_ticks) (defBody st_wait_ticks) (defScope st_wait_ticks) [] [] A.f_wait_ticks A.fd_wait_ticks
  b_wait_ticks : Binds K A.fd_wait_ticks ["house", "person"] []
  g_wait_ticks : mg "wait_ticks" = some (.ref A.f_wait_ticks)
  F_count_waits : FunD K "count_waits" "count_waits" (defArgs st_count_waits) (defBody st_count_waits) (defScope st_count_waits) [] [] A.f_count_waits A.fd_count_waits
  b_count_waits : Binds K A.fd_count_waits ["house", "person", "first", "last"] []
  g_count_waits : mg "count_waits" = some (.ref A.f_count_waits)
  F_next_entry : FunD K "next_entry" "next_entry" (defArgs st_next_entry) (defBody st_next_entry) (defScope st_next_entry) [] [] A.f_next_entry A.fd_next_entry
  b_next_entry : Binds K A.fd_next_entry ["house", "person", "tick"] []
  g_next_entry : mg "next_entry" = some (.ref A.f_next_entry)
  F_plan_reminders : FunD K "plan_reminders" "plan_reminders" (defArgs st_plan_reminders) (defBody st_plan_reminders) (defScope st_plan_reminders) [] [] A.f_plan_reminders A.fd_plan_reminders
  b_plan_reminders : Binds K A.fd_plan_reminders ["house", "limit"] []
  g_plan_reminders : mg "plan_reminders" = some (.ref A.f_plan_reminders)
  F_law_below : FunD K "_law_below" "_law_below" (defArgs st_law_below) (defBody st_law_below) (defScope st_law_below) [] [] A.f_law_below A.fd_law_below
  b_law_below : Binds K A.fd_law_below ["_law_d", "_law_limit"] []
  g_law_below : mg "_law_below" = some (.ref A.f_law_below)
  F_law_table : FunD K "_law_table" "_law_table" (defArgs st_law_table) (defBody st_law_table) (defScope st_law_table) [] [] A.f_law_table A.fd_law_table
  b_law_table : Binds K A.fd_law_table ["_law_d"] []
  g_law_table : mg "_law_table" = some (.ref A.f_law_table)
  F_law_length : FunD K "_law_length" "_law_length" (defArgs st_law_length) (defBody st_law_length) (defScope st_law_length) [] [] A.f_law_length A.fd_law_length
  b_law_length : Binds K A.fd_law_length ["_law_tables"] []
  g_law_length : mg "_law_length" = some (.ref A.f_law_length)
  F_law_parts : FunD K "_law_parts" "_law_parts" (defArgs st_law_parts) (defBody st_law_parts) (defScope st_law_parts) [] [] A.f_law_parts A.fd_law_parts
  b_law_parts : Binds K A.fd_law_parts ["_law_d", "_law_most"] []
  g_law_parts : mg "_law_parts" = some (.ref A.f_law_parts)
  F_law_house : FunD K "_law_house" "_law_house" (defArgs st_law_house) (defBody st_law_house) (defScope st_law_house) [] [] A.f_law_house A.fd_law_house
  b_law_house : Binds K A.fd_law_house ["_law_parts_here"] []
  g_law_house : mg "_law_house" = some (.ref A.f_law_house)
  F_law_error_of : FunD K "_law_error_of" "_law_error_of" (defArgs st_law_error_of) (defBody st_law_error_of) (defScope st_law_error_of) [] [] A.f_law_error_of A.fd_law_error_of
  b_law_error_of : Binds K A.fd_law_error_of ["_law_call"] []
  g_law_error_of : mg "_law_error_of" = some (.ref A.f_law_error_of)
  F_law_all_raise : FunD K "_law_all_raise" "_law_all_raise" (defArgs st_law_all_raise) (defBody st_law_all_raise) (defScope st_law_all_raise) [] [] A.f_law_all_raise A.fd_law_all_raise
  b_law_all_raise : Binds K A.fd_law_all_raise ["_law_calls", "_law_expected"] []
  g_law_all_raise : mg "_law_all_raise" = some (.ref A.f_law_all_raise)
  F_law_random : FunD K "_law_random" "_law_random" (defArgs st_law_random) (defBody st_law_random) (defScope st_law_random) [] [] A.f_law_random A.fd_law_random
  b_law_random : Binds K A.fd_law_random ["_law_script", "_law_salt"] []
  g_law_random : mg "_law_random" = some (.ref A.f_law_random)
  F_law : FunD K "law" "law" (defArgs st_law) (defBody st_law) (defScope st_law) [] [] A.f_law A.fd_law
  b_law : Binds K A.fd_law ["_law_script"] []
  code_law : A.fd_law.code = .ref A.cc_law
  g_law : mg "law" = some (.ref A.f_law)
  cl_House : Cls K A.C_House
  g_House : mg "House" = some (.ref A.C_House)
  mk_House : Mk K A.C_House A.f_House__init_
  na_House_tables : NoAttr K A.C_House "tables"
  na_House_key_count : NoAttr K A.C_House "key_count"
  na_House_careful : NoAttr K A.C_House "careful"
  na_House_reminders : NoAttr K A.C_House "reminders"
  na_House_length : NoAttr K A.C_House "length"
  cl_Story : Cls K A.C_Story
  g_Story : mg "Story" = some (.ref A.C_Story)
  mk_Story : Mk K A.C_Story A.f_Story__init_
  na_Story_scenes : NoAttr K A.C_Story "scenes"
  na_Story_events : NoAttr K A.C_Story "events"
  na_Story_start : NoAttr K A.C_Story "start"
  na_Story_last : NoAttr K A.C_Story "last"
  g_InvalidTick : mg "InvalidTick" = some (.ref A.C_InvalidTick)
  g_UnknownPerson : mg "UnknownPerson" = some (.ref A.C_UnknownPerson)
  g_InvalidLimit : mg "InvalidLimit" = some (.ref A.C_InvalidLimit)
  g_HouseError : mg "HouseError" = some (.ref A.C_HouseError)
  g_InvalidHouse : mg "InvalidHouse" = some (.ref A.C_InvalidHouse)
  g_DifferentHouses : mg "DifferentHouses" = some (.ref A.C_DifferentHouses)
  g_InvalidWaiting : mg "InvalidWaiting" = some (.ref A.C_InvalidWaiting)
  g_Contradiction : mg "Contradiction" = some (.ref A.C_Contradiction)
  g_InvalidName : mg "InvalidName" = some (.ref A.C_InvalidName)
  g_UnknownName : mg "UnknownName" = some (.ref A.C_UnknownName)
  g_TextFault : mg "TextFault" = some (.ref A.C_TextFault)
  g_InvalidCode : mg "InvalidCode" = some (.ref A.C_InvalidCode)
  g_InvalidOperation : mg "InvalidOperation" = some (.ref A.C_InvalidOperation)
  xb_HouseError : ExB K A.C_HouseError
  xp_InvalidTick : PySem.W.excIn K A.C_InvalidTick [.type "ValueError", .type "Exception", .type "BaseException", .type "object"] "ValueError.__new__" = true
  xk_InvalidTick : PySem.W.keepIn K (.ref A.C_InvalidTick) = true
  xe_InvalidTick : PySem.W.subIn K (.ref A.C_InvalidTick) (.type "BaseException") = some true
  xy_InvalidTick : PySem.W.typeIn K (.ref A.C_InvalidTick) = some (.type "type")
  xc_InvalidTick : XcC K A.C_InvalidTick
  ex_InvalidTick : PySem.W.exmOne K (.ref A.C_InvalidTick) (.ref A.C_HouseError) = some true
  xp_UnknownPerson : PySem.W.excIn K A.C_UnknownPerson [.type "ValueError", .type "Exception", .type "BaseException", .type "object"] "ValueError.__new__" = true
  xk_UnknownPerson : PySem.W.keepIn K (.ref A.C_UnknownPerson) = true
  xe_UnknownPerson : PySem.W.subIn K (.ref A.C_UnknownPerson) (.type "BaseException") = some true
  xy_UnknownPerson : PySem.W.typeIn K (.ref A.C_UnknownPerson) = some (.type "type")
  xc_UnknownPerson : XcC K A.C_UnknownPerson
  ex_UnknownPerson : PySem.W.exmOne K (.ref A.C_UnknownPerson) (.ref A.C_HouseError) = some true
  xp_InvalidLimit : PySem.W.excIn K A.C_InvalidLimit [.type "ValueError", .type "Exception", .type "BaseException", .type "object"] "ValueError.__new__" = true
  xk_InvalidLimit : PySem.W.keepIn K (.ref A.C_InvalidLimit) = true
  xe_InvalidLimit : PySem.W.subIn K (.ref A.C_InvalidLimit) (.type "BaseException") = some true
  xy_InvalidLimit : PySem.W.typeIn K (.ref A.C_InvalidLimit) = some (.type "type")
  xc_InvalidLimit : XcC K A.C_InvalidLimit
  ex_InvalidLimit : PySem.W.exmOne K (.ref A.C_InvalidLimit) (.ref A.C_HouseError) = some true
  sx_InvalidTick : PySem.W.subIn K (.ref A.C_InvalidTick) (.type "StopIteration") = some false
  kt_InvalidLimit_Contradiction : PySem.W.kitOne K (.ref A.C_InvalidLimit) (.ref A.C_Contradiction) = some false
  kt_InvalidLimit_DifferentHouses : PySem.W.kitOne K (.ref A.C_InvalidLimit) (.ref A.C_DifferentHouses) = some false
  kt_InvalidLimit_InvalidCode : PySem.W.kitOne K (.ref A.C_InvalidLimit) (.ref A.C_InvalidCode) = some false
  kt_InvalidLimit_InvalidHouse : PySem.W.kitOne K (.ref A.C_InvalidLimit) (.ref A.C_InvalidHouse) = some false
  kt_InvalidLimit_InvalidLimit : PySem.W.kitOne K (.ref A.C_InvalidLimit) (.ref A.C_InvalidLimit) = some true
  kt_InvalidLimit_InvalidName : PySem.W.kitOne K (.ref A.C_InvalidLimit) (.ref A.C_InvalidName) = some false
  kt_InvalidLimit_InvalidOperation : PySem.W.kitOne K (.ref A.C_InvalidLimit) (.ref A.C_InvalidOperation) = some false
  kt_InvalidLimit_InvalidTick : PySem.W.kitOne K (.ref A.C_InvalidLimit) (.ref A.C_InvalidTick) = some false
  kt_InvalidLimit_InvalidWaiting : PySem.W.kitOne K (.ref A.C_InvalidLimit) (.ref A.C_InvalidWaiting) = some false
  kt_InvalidLimit_TextFault : PySem.W.kitOne K (.ref A.C_InvalidLimit) (.ref A.C_TextFault) = some false
  kt_InvalidLimit_UnknownName : PySem.W.kitOne K (.ref A.C_InvalidLimit) (.ref A.C_UnknownName) = some false
  kt_InvalidLimit_UnknownPerson : PySem.W.kitOne K (.ref A.C_InvalidLimit) (.ref A.C_UnknownPerson) = some false
  kt_InvalidLimit_ValueError : PySem.W.kitOne K (.ref A.C_InvalidLimit) (.type "ValueError") = some true
  kt_InvalidTick_Contradiction : PySem.W.kitOne K (.ref A.C_InvalidTick) (.ref A.C_Contradiction) = some false
  kt_InvalidTick_DifferentHouses : PySem.W.kitOne K (.ref A.C_InvalidTick) (.ref A.C_DifferentHouses) = some false
  kt_InvalidTick_InvalidCode : PySem.W.kitOne K (.ref A.C_InvalidTick) (.ref A.C_InvalidCode) = some false
  kt_InvalidTick_InvalidHouse : PySem.W.kitOne K (.ref A.C_InvalidTick) (.ref A.C_InvalidHouse) = some false
  kt_InvalidTick_InvalidLimit : PySem.W.kitOne K (.ref A.C_InvalidTick) (.ref A.C_InvalidLimit) = some false
  kt_InvalidTick_InvalidName : PySem.W.kitOne K (.ref A.C_InvalidTick) (.ref A.C_InvalidName) = some false
  kt_InvalidTick_InvalidOperation : PySem.W.kitOne K (.ref A.C_InvalidTick) (.ref A.C_InvalidOperation) = some false
  kt_InvalidTick_InvalidTick : PySem.W.kitOne K (.ref A.C_InvalidTick) (.ref A.C_InvalidTick) = some true
  kt_InvalidTick_InvalidWaiting : PySem.W.kitOne K (.ref A.C_InvalidTick) (.ref A.C_InvalidWaiting) = some false
  kt_InvalidTick_TextFault : PySem.W.kitOne K (.ref A.C_InvalidTick) (.ref A.C_TextFault) = some false
  kt_InvalidTick_UnknownName : PySem.W.kitOne K (.ref A.C_InvalidTick) (.ref A.C_UnknownName) = some false
  kt_InvalidTick_UnknownPerson : PySem.W.kitOne K (.ref A.C_InvalidTick) (.ref A.C_UnknownPerson) = some false
  kt_InvalidTick_ValueError : PySem.W.kitOne K (.ref A.C_InvalidTick) (.type "ValueError") = some true
  kt_UnknownPerson_Contradiction : PySem.W.kitOne K (.ref A.C_UnknownPerson) (.ref A.C_Contradiction) = some false
  kt_UnknownPerson_DifferentHouses : PySem.W.kitOne K (.ref A.C_UnknownPerson) (.ref A.C_DifferentHouses) = some false
  kt_UnknownPerson_InvalidCode : PySem.W.kitOne K (.ref A.C_UnknownPerson) (.ref A.C_InvalidCode) = some false
  kt_UnknownPerson_InvalidHouse : PySem.W.kitOne K (.ref A.C_UnknownPerson) (.ref A.C_InvalidHouse) = some false
  kt_UnknownPerson_InvalidLimit : PySem.W.kitOne K (.ref A.C_UnknownPerson) (.ref A.C_InvalidLimit) = some false
  kt_UnknownPerson_InvalidName : PySem.W.kitOne K (.ref A.C_UnknownPerson) (.ref A.C_InvalidName) = some false
  kt_UnknownPerson_InvalidOperation : PySem.W.kitOne K (.ref A.C_UnknownPerson) (.ref A.C_InvalidOperation) = some false
  kt_UnknownPerson_InvalidTick : PySem.W.kitOne K (.ref A.C_UnknownPerson) (.ref A.C_InvalidTick) = some false
  kt_UnknownPerson_InvalidWaiting : PySem.W.kitOne K (.ref A.C_UnknownPerson) (.ref A.C_InvalidWaiting) = some false
  kt_UnknownPerson_TextFault : PySem.W.kitOne K (.ref A.C_UnknownPerson) (.ref A.C_TextFault) = some false
  kt_UnknownPerson_UnknownName : PySem.W.kitOne K (.ref A.C_UnknownPerson) (.ref A.C_UnknownName) = some false
  kt_UnknownPerson_UnknownPerson : PySem.W.kitOne K (.ref A.C_UnknownPerson) (.ref A.C_UnknownPerson) = some true
  kt_UnknownPerson_ValueError : PySem.W.kitOne K (.ref A.C_UnknownPerson) (.type "ValueError") = some true
  z_ValueError : mg "ValueError" = none
  z_abs : mg "abs" = none
  z_all : mg "all" = none
  z_any : mg "any" = none
  z_bool : mg "bool" = none
  z_enumerate : mg "enumerate" = none
  z_int : mg "int" = none
  z_isinstance : mg "isinstance" = none
  z_len : mg "len" = none
  z_list : mg "list" = none
  z_range : mg "range" = none
  z_sorted : mg "sorted" = none
  z_str : mg "str" = none
  z_sum : mg "sum" = none
  z_tuple : mg "tuple" = none
  c_MAX_PERSONS : ∃ v u, mg "MAX_PERSONS" = some u ∧ L2.RelV v u ∧ ∀ Hb lf F H, Rep (S K A Hb lf) F H c_MAX_PERSONS v
  c_LENGTHS : ∃ v u, mg "LENGTHS" = some u ∧ L2.RelV v u ∧ ∀ Hb lf F H, Rep (S K A Hb lf) F H c_LENGTHS v
  c_MAX_KEYS : ∃ v u, mg "MAX_KEYS" = some u ∧ L2.RelV v u ∧ ∀ Hb lf F H, Rep (S K A Hb lf) F H c_MAX_KEYS v
  c_MAX_REMINDERS : ∃ v u, mg "MAX_REMINDERS" = some u ∧ L2.RelV v u ∧ ∀ Hb lf F H, Rep (S K A Hb lf) F H c_MAX_REMINDERS v
  c_MAX_TICK : ∃ v u, mg "MAX_TICK" = some u ∧ L2.RelV v u ∧ ∀ Hb lf F H, Rep (S K A Hb lf) F H c_MAX_TICK v
  c_HOME : ∃ v u, mg "HOME" = some u ∧ L2.RelV v u ∧ ∀ Hb lf F H, Rep (S K A Hb lf) F H c_HOME v
  c_OUT : ∃ v u, mg "OUT" = some u ∧ L2.RelV v u ∧ ∀ Hb lf F H, Rep (S K A Hb lf) F H c_OUT v
  c_ENTER : ∃ v u, mg "ENTER" = some u ∧ L2.RelV v u ∧ ∀ Hb lf F H, Rep (S K A Hb lf) F H c_ENTER v
  c_WAIT : ∃ v u, mg "WAIT" = some u ∧ L2.RelV v u ∧ ∀ Hb lf F H, Rep (S K A Hb lf) F H c_WAIT v
  c_LEAVE : ∃ v u, mg "LEAVE" = some u ∧ L2.RelV v u ∧ ∀ Hb lf F H, Rep (S K A Hb lf) F H c_LEAVE v
  c_TAKE : ∃ v u, mg "TAKE" = some u ∧ L2.RelV v u ∧ ∀ Hb lf F H, Rep (S K A Hb lf) F H c_TAKE v
  c_OPEN : ∃ v u, mg "OPEN" = some u ∧ L2.RelV v u ∧ ∀ Hb lf F H, Rep (S K A Hb lf) F H c_OPEN v
  c_MAX_ADDED : ∃ v u, mg "MAX_ADDED" = some u ∧ L2.RelV v u ∧ ∀ Hb lf F H, Rep (S K A Hb lf) F H c_MAX_ADDED v
def tl (A : Ad) : List (Addr × Str) := [(A.P_law, ("law" : Str) ++ ".<locals>." ++ "<lambda>")]
def cl (A : Ad) : List (Addr × Addr) := [(A.cc_law, A.P_law)]
structure HdT (K : PySem.W.Frag) (h0 : Heap) (A : Ad) : Prop where
  u : ∀ p ∈ tl A, ∀ q ∈ tl A, p.1 = q.1 → p.2 = q.2
  h : ∀ p ∈ cl A, PySem.W.CodeHd h0 p.1 p.2
  n : ∀ p ∈ cl A, K.lookup p.2 = none
  t : ∀ p ∈ cl A, h0.get? p.2 = some { cls := .none, data := .fields #[] }
structure TBs [Tbl] (base : Heap) (mg : Str → Option Value) (A : Ad) : Prop where
  tb_law : LamX.TabB base mg A.cc_law A.P_law
  in_law : (A.P_law, ("law" : Str) ++ ".<locals>." ++ "<lambda>") ∈ Tbl.T
  un_law : ∀ p ∈ Tbl.T, p.1 = A.P_law → p.2 = ("law" : Str) ++ ".<locals>." ++ "<lambda>"
section
variable {P : Program} {w : World} {K : PySem.W.Frag} {mg : Str → Option Value} {base : Heap} {A : Ad} [Tbl] {Hb : Hp} {lf : Nat → Addr}
theorem sc_is_int_in : FnScope ["value", "low", "high"] ["value", "low", "high"] (defScope st_is_int_in) := ⟨rfl, rfl, rfl, by decide +kernel, rfl, by decide +kernel, by decide +kernel⟩
theorem sc_is_table : FnScope ["value", "sign"] ["value"] (defScope st_is_table) := ⟨rfl, rfl, rfl, by decide +kernel, rfl, by decide +kernel, by decide +kernel⟩
theorem sc_common_multiple : FnScope ["one", "other", "multiple"] ["one", "other"] (defScope st_common_multiple) := ⟨rfl, rfl, rfl, by decide +kernel, rfl, by decide +kernel, by decide +kernel⟩
theorem sc_check_persons : FnScope ["part", "values", "count", "index", "value"] ["part", "values", "count"] (defScope st_check_persons) := ⟨rfl, rfl, rfl, by decide +kernel, rfl, by decide +kernel, by decide +kernel⟩
theorem sc_is_reminder : FnScope ["value", "period", "count"] ["value", "period", "count"] (defScope st_is_reminder) := ⟨rfl, rfl, rfl, by decide +kernel, rfl, by decide +kernel, by decide +kernel⟩
theorem sc_House__init_ : FnScope ["self", "tables", "keys", "careful", "reminders", "length", "index", "table", "reminder"] ["self", "tables", "keys", "careful", "reminders"] (defScope st_House__init_) := ⟨rfl, rfl, rfl, by decide +kernel, rfl, by decide +kernel, by decide +kernel⟩
theorem sc_House_persons : FnScope ["self"] ["self"] (defScope st_House_persons) := ⟨rfl, rfl, rfl, by decide +kernel, rfl, by decide +kernel, by decide +kernel⟩
theorem sc_House_period : FnScope ["self"] ["self"] (defScope st_House_period) := ⟨rfl, rfl, rfl, by decide +kernel, rfl, by decide +kernel, by decide +kernel⟩
theorem sc_House_wants_home : FnScope ["self", "person", "tick", "table"] ["self", "person", "tick"] (defScope st_House_wants_home) := ⟨rfl, rfl, rfl, by decide +kernel, rfl, by decide +kernel, by decide +kernel⟩
theorem sc_House_takes_key : FnScope ["self", "person", "tick"] ["self", "person", "tick"] (defScope st_House_takes_key) := ⟨rfl, rfl, rfl, by decide +kernel, rfl, by decide +kernel, by decide +kernel⟩
theorem sc_check_tick : FnScope ["tick"] ["tick"] (defScope st_check_tick) := ⟨rfl, rfl, rfl, by decide +kernel, rfl, by decide +kernel, by decide +kernel⟩
theorem sc_check_person : FnScope ["house", "person"] ["house", "person"] (defScope st_check_person) := ⟨rfl, rfl, rfl, by decide +kernel, rfl, by decide +kernel, by decide +kernel⟩
theorem sc_first_scene : FnScope ["house"] ["house"] (defScope st_first_scene) := ⟨rfl, rfl, rfl, by decide +kernel, rfl, by decide +kernel, by decide +kernel⟩
theorem sc_people_at_home : FnScope ["house", "scene", "tick", "persons", "person"] ["house", "scene", "tick"] (defScope st_people_at_home) := ⟨rfl, rfl, rfl, by decide +kernel, rfl, by decide +kernel, by decide +kernel⟩
theorem sc_after_tick : FnScope ["house", "scene", "tick", "at_home", "comers", "events", "leavers", "takers", "person", "is_empty", "waiting", "holders", "hook", "is_open", "inside"] ["house", "scene", "tick"] (defScope st_after_tick) := ⟨rfl, rfl, rfl, by decide +kernel, rfl, by decide +kernel, by decide +kernel⟩
theorem sc_Story__init_ : FnScope ["self", "house", "scene", "tick", "seen", "key", "events"] ["self", "house"] (defScope st_Story__init_) := ⟨rfl, rfl, rfl, by decide +kernel, rfl, by decide +kernel, by decide +kernel⟩
theorem sc_Story_size : FnScope ["self"] ["self"] (defScope st_Story_size) := ⟨rfl, rfl, rfl, by decide +kernel, rfl, by decide +kernel, by decide +kernel⟩
theorem sc_Story_place_of : FnScope ["self", "tick"] ["self", "tick"] (defScope st_Story_place_of) := ⟨rfl, rfl, rfl, by decide +kernel, rfl, by decide +kernel, by decide +kernel⟩
theorem sc_scene_after : FnScope ["house", "tick", "story"] ["house", "tick"] (defScope st_scene_after) := ⟨rfl, rfl, rfl, by decide +kernel, rfl, by decide +kernel, by decide +kernel⟩
theorem sc_at_home : FnScope ["house", "tick"] ["house", "tick"] (defScope st_at_home) := ⟨rfl, rfl, rfl, by decide +kernel, rfl, by decide +kernel, by decide +kernel⟩
theorem sc_events_between : GScope ["house", "first", "last", "scene", "tick", "event", "events"] ["house", "first", "last"] (defScope st_events_between) := ⟨rfl, rfl, rfl, by decide +kernel, rfl, by decide +kernel, by decide +kernel⟩
theorem sc_waiting : FnScope ["house", "tick"] ["house", "tick"] (defScope st_waiting) := ⟨rfl, rfl, rfl, by decide +kernel, rfl, by decide +kernel, by decide +kernel⟩
theorem sc_is_open : FnScope ["house", "tick"] ["house", "tick"] (defScope st_is_open) := ⟨rfl, rfl, rfl, by decide +kernel, rfl, by decide +kernel, by decide +kernel⟩
theorem sc_hook : FnScope ["house", "tick"] ["house", "tick"] (defScope st_hook) := ⟨rfl, rfl, rfl, by decide +kernel, rfl, by decide +kernel, by decide +kernel⟩
theorem sc_holders : FnScope ["house", "tick"] ["house", "tick"] (defScope st_holders) := ⟨rfl, rfl, rfl, by decide +kernel, rfl, by decide +kernel, by decide +kernel⟩
theorem sc_wait_ticks : FnScope ["house", "person"] ["house", "person"] (defScope st_wait_ticks) := ⟨rfl, rfl, rfl, by decide +kernel, rfl, by decide +kernel, by decide +kernel⟩
theorem sc_count_waits : FnScope ["house", "person", "first", "last", "story", "ticks"] ["house", "person", "first", "last"] (defScope st_count_waits) := ⟨rfl, rfl, rfl, by decide +kernel, rfl, by decide +kernel, by decide +kernel⟩
theorem sc_next_entry : FnScope ["house", "person", "tick", "story", "later"] ["house", "person", "tick"] (defScope st_next_entry) := ⟨rfl, rfl, rfl, by decide +kernel, rfl, by decide +kernel, by decide +kernel⟩
theorem sc_plan_reminders : FnScope ["house", "limit", "every", "free", "size", "added", "tick", "person", "reminder", "reminders"] ["house", "limit"] (defScope st_plan_reminders) := ⟨rfl, rfl, rfl, by decide +kernel, rfl, by decide +kernel, by decide +kernel⟩
theorem sc_law_below : FnScope ["_law_d", "_law_limit", "_law_result"] ["_law_d", "_law_limit"] (defScope st_law_below) := ⟨rfl, rfl, rfl, by decide +kernel, rfl, by decide +kernel, by decide +kernel⟩
theorem sc_law_table : FnScope ["_law_d", "_law_length_here", "_law_k"] ["_law_d"] (defScope st_law_table) := ⟨rfl, rfl, rfl, by decide +kernel, rfl, by decide +kernel, by decide +kernel⟩
theorem sc_law_length : FnScope ["_law_tables", "_law_length_here", "_law_table_here"] ["_law_tables"] (defScope st_law_length) := ⟨rfl, rfl, rfl, by decide +kernel, rfl, by decide +kernel, by decide +kernel⟩
theorem sc_law_parts : FnScope ["_law_d", "_law_most", "_law_tables", "_law_careful", "_law_k", "_law_length_here", "_law_reminders", "_law_reminder"] ["_law_d", "_law_most"] (defScope st_law_parts) := ⟨rfl, rfl, rfl, by decide +kernel, rfl, by decide +kernel, by decide +kernel⟩
theorem sc_law_house : FnScope ["_law_parts_here"] ["_law_parts_here"] (defScope st_law_house) := ⟨rfl, rfl, rfl, by decide +kernel, rfl, by decide +kernel, by decide +kernel⟩
theorem sc_law_error_of : FnScope ["_law_call", "_law_e", "_law_kinds", "_law_names", "_law_name"] ["_law_call"] (defScope st_law_error_of) := ⟨rfl, rfl, rfl, by decide +kernel, rfl, by decide +kernel, by decide +kernel⟩
theorem sc_law_all_raise : FnScope ["_law_calls", "_law_expected", "_law_call"] ["_law_calls", "_law_expected"] (defScope st_law_all_raise) := ⟨rfl, rfl, rfl, by decide +kernel, rfl, by decide +kernel, by decide +kernel⟩
theorem sc_law_random : FnScope ["_law_script", "_law_salt", "_law_seed", "_law_cell"] ["_law_script", "_law_salt"] (defScope st_law_random) := ⟨rfl, rfl, rfl, by decide +kernel, rfl, by decide +kernel, by decide +kernel⟩
theorem sc_law : FnScope ["_law_script", "_law_d", "_law_house_here", "_law_far", "_law_tick", "_law_calls", "_law_person", "_law_limit"] ["_law_script"] (defScope st_law) := ⟨rfl, rfl, rfl, by decide +kernel, rfl, by decide +kernel, by decide +kernel⟩
theorem nd_House : (["tables", "key_count", "careful", "reminders", "length"] : List Str).Nodup := by decide +kernel
theorem lt_House : (["tables", "key_count", "careful", "reminders", "length"] : List Str).length < 1000 := by decide
theorem nd_Story : (["scenes", "events", "start", "last"] : List Str).Nodup := by decide +kernel
theorem nm_House_wants_home : ("wants_home" : Str) ∉ (["tables", "key_count", "careful", "reminders", "length"] : List Str) := by decide +kernel
theorem nm_House_takes_key : ("takes_key" : Str) ∉ (["tables", "key_count", "careful", "reminders", "length"] : List Str) := by decide +kernel
theorem nm_Story_place_of : ("place_of" : Str) ∉ (["scenes", "events", "start", "last"] : List Str) := by decide +kernel
theorem ok_is_int_in (T : Txt K mg A) : FnOk P w K mg base CX0 1 A.f_is_int_in A.fd_is_int_in ["value", "low", "high"] (spM (S K A Hb lf) false 3 d_is_int_in) :=
  fnD_ok (O := []) T.F_is_int_in sc_is_int_in (by decide) (by decide) fun cdv A2 outer s H E hr => ⟨_, (pss_one (ps_ret (pe_and (pe_callB call_isi (by rfl) T.z_isinstance bt_isinstance (pa_cons (pv 0) (pa_cons (pe_bltn (v := .ty "int") (by rfl) T.z_int bt_int rfl) pa_nil))) (pe_and (pe_not (pe_callB call_isi (by rfl) T.z_isinstance bt_isinstance (pa_cons (pv 0) (pa_cons (pe_bltn (v := .ty "bool") (by rfl) T.z_bool bt_bool rfl) pa_nil)))) (pe_one (pe_chain op_le op_le (pv 1) (pv 0) (pv 2))))))),
      (rs_ret (μ := none) (by intro z; cases z) (by intro _ z; cases z) (ref_andV (ref_isi (ref_var (by decide))) (ref_andV (ref_notV (ref_isi (ref_var (by decide)))) (ref_chain ok_leI o2_leI (ref_var (by decide)) (ref_var (by decide)) (ref_var (by decide))))))⟩
theorem ok_is_table (T : Txt K mg A) : FnOk P w K mg base CX0 1 A.f_is_table A.fd_is_table ["value"] (spM (S K A Hb lf) false 1 d_is_table) :=
  fnD_ok (O := []) T.F_is_table sc_is_table (by decide) (by decide) fun cdv A2 outer s H E hr => ⟨_, (pss_cons (ps_if (PW.pt (pw_or (pt_not (pt_val (pe_callB call_isi (by rfl) T.z_isinstance bt_isinstance (pa_cons (pv 0) (pa_cons (pe_bltn (v := .ty "str") (by rfl) T.z_str bt_str rfl) pa_nil))))) (pw_or1 (pt_cmpR (op_notInX (hu65 hr)) (pe_callB call_len (by rfl) T.z_len bt_len (pa_cons (pv 0) pa_nil)) (pe_glob (by rfl) T.c_LENGTHS.choose_spec.choose_spec.1 T.c_LENGTHS.choose_spec.choose_spec.2.1) (by rfl))))) (pss_one (ps_ret pe_bl)) pss_nil)
      (pss_one (ps_ret (pe_callB (cr_all rfl) (by rfl) T.z_all bt_all (pa_cons (pe_lc rfl sc_is_table.nd (pi_seqX (pv 0)) (blkOk_by (own := [("sign", 1)]) (by kernel_rfl)) (fun _ _ _ _ _ => (pg_name (i := 1) sc_is_table.nd rfl (by first | exact .inl rfl | exact .inr rfl))) (fun _ _ _ _ _ => pts_nil) (fun _ _ _ _ _ => (pe_cmpR (op_inX (hu65 hr)) (pv 1) (pe_tup (pa_cons (pe_glob (by rfl) T.c_HOME.choose_spec.choose_spec.1 T.c_HOME.choose_spec.choose_spec.2.1) (pa_cons (pe_glob (by rfl) T.c_OUT.choose_spec.choose_spec.1 T.c_OUT.choose_spec.choose_spec.2.1) pa_nil))) (by rfl)))) pa_nil))))),
      (rs_seq (rs_if (μ := none) (ref_or (ref_not (ref_testB (ref_isi (ref_var (by decide))))) (ref_test (ref_op2 o2_notIn (ref_opA oA_len (ref_acons (ref_var (by decide)) ref_anil)) (ref_c (T.c_LENGTHS.choose_spec.choose_spec.2.2 _ _))))) (rs_ret (μ := none) (by intro z; cases z) (by intro _ z; cases z) ref_bl) rs_next)
      (rs_ret (μ := none) (by intro z; cases z) (by intro _ z; cases z) (ref_opA oA_all (ref_acons (ref_lc (E1 := E) (E2 := E) (vs := [1]) (ri_seq (ref_var (by decide))) (rg_set (by decide)) rt_yes (ref_op2 o2_in (ref_var (by decide)) (ref_tup (ref_acons (ref_c (T.c_HOME.choose_spec.choose_spec.2.2 _ _)) (ref_acons (ref_c (T.c_OUT.choose_spec.choose_spec.2.2 _ _)) ref_anil)))) (by decide) (by decide)) ref_anil))))⟩
theorem ok_common_multiple (T : Txt K mg A) : FnOk P w K mg base CX0 1 A.f_common_multiple A.fd_common_multiple ["one", "other"] (spM (S K A Hb lf) false 2 d_common_multiple) :=
  fnD_ok (O := []) T.F_common_multiple sc_common_multiple (by decide) (by decide) fun cdv A2 outer s H E hr => ⟨_, (pss_cons (ps_set (i := 2) sc_common_multiple.nd rfl (by first | exact .inl rfl | exact .inr rfl) (pv 0))
      (pss_cons (ps_while PassesOwn.never (pt_cmpR (op_neX (hu64 hr)) (pe_op op_mul (pe_op op_fdivN (pv 2) (pv 1)) (pv 1)) (pv 2) (nomark _)) (pss_one (ps_aug (i := 2) sc_common_multiple.nd rfl (by first | exact .inl rfl | exact .inr rfl) (pv 0) ip_add)))
      (pss_one (ps_ret (pv 2))))),
      (rs_seq (rs_set (by decide) (ref_var (by decide)))
      (rs_seq (rs_while (ref_test (ref_op2 o2_ne (ref_op2 o2_mul (ref_op2 o2_fdiv (ref_var (by decide)) (ref_var (by decide))) (ref_var (by decide))) (ref_var (by decide)))) (rs_aug (by decide) (ref_var (by decide))))
      (rs_ret (μ := none) (by intro z; cases z) (by intro _ z; cases z) (ref_var (by decide)))))⟩
theorem ok_check_persons (T : Txt K mg A) : FnOk P w K mg base CX0 2 A.f_check_persons A.fd_check_persons ["part", "values", "count"] (spM (S K A Hb lf) false 3 d_check_persons) :=
  fnD_ok (O := []) T.F_check_persons sc_check_persons (by decide) (by decide) fun cdv A2 outer s H E hr => ⟨_, (pss_cons (ps_if (pt_not (pt_val (pe_callB call_isi (by rfl) T.z_isinstance bt_isinstance (pa_cons (pv 1) (pa_cons (pe_bltn (v := .ty "tuple") (by rfl) T.z_tuple bt_tuple rfl) pa_nil))))) (pss_one ps_never) pss_nil)
      (pss_one (ps_for PassesOwn.never rfl (pi_enumT (by rfl) T.z_enumerate (pa_cons (pv 1) pa_nil)) (pg_tup rfl (pgs_cons (pg_name (i := 3) sc_check_persons.nd rfl (by first | exact .inl rfl | exact .inr rfl)) (pgs_cons (pg_name (i := 4) sc_check_persons.nd rfl (by first | exact .inl rfl | exact .inr rfl)) pgs_nil))) (pss_one (ps_if (PW.pt (pw_or (pt_not (pt_val (pe_call (ok_is_int_in T) (hr.mono (by decide)) (by rfl) T.g_is_int_in T.F_is_int_in.kp T.b_is_int_in .nil (passE (E := E)) (pa_cons (pv 4) (pa_cons pe_int (pa_cons (pe_op op_sub (pv 2) pe_int) pa_nil)))))) (pw_or1 (PW.pt (pw_and (pt_cmpR op_gt (pv 3) pe_int (nomark _)) (pw_and1 (pt_cmpR (op_leX (hu0 hr)) (pv 4) (pe_ix ix_seq (pv 1) (pe_op op_sub (pv 3) pe_int) (fun _ _ => rfl)) (nomark _)))))))) (pss_one ps_never) pss_nil))))),
      (rs_seq (rs_if (μ := none) (ref_not (ref_testB (ref_isi (ref_var (by decide))))) rs_bad rs_next)
      (rs_for (ri_enumT (ref_var (by decide))) (rg_tup (rgs_cons (rg_set (by decide)) (rgs_cons (rg_set (by decide)) rgs_nil)) rfl) (rs_if (μ := none) (ref_or (ref_not (ref_testB (ref_call (fun _ _ => RepL.nil) (fun ds => runF_ar) (ref_acons (ref_var (by decide)) (ref_acons ref_int (ref_acons (ref_op2 o2_sub (ref_var (by decide)) ref_int) ref_anil)))))) (ref_and (ref_test (ref_op2 o2_gtI (ref_var (by decide)) ref_int)) (ref_test (ref_op2 o2_le (ref_var (by decide)) (ref_op2 o2_ix (ref_var (by decide)) (ref_op2 o2_sub (ref_var (by decide)) ref_int)))))) rs_bad rs_next)))⟩
theorem ok_is_reminder (T : Txt K mg A) : FnOk P w K mg base CX0 2 A.f_is_reminder A.fd_is_reminder ["value", "period", "count"] (spM (S K A Hb lf) false 3 d_is_reminder) :=
  fnD_ok (O := []) T.F_is_reminder sc_is_reminder (by decide) (by decide) fun cdv A2 outer s H E hr => ⟨_, (pss_cons (ps_if (PW.pt (pw_or (pt_not (pt_val (pe_callB call_isi (by rfl) T.z_isinstance bt_isinstance (pa_cons (pv 0) (pa_cons (pe_bltn (v := .ty "tuple") (by rfl) T.z_tuple bt_tuple rfl) pa_nil))))) (pw_or1 (pt_cmpR (op_neX (hu64 hr)) (pe_callB call_len (by rfl) T.z_len bt_len (pa_cons (pv 0) pa_nil)) pe_int (nomark _))))) (pss_one (ps_ret pe_bl)) pss_nil)
      (pss_one (ps_ret (pe_and (pe_call (ok_is_int_in T) (hr.mono (by decide)) (by rfl) T.g_is_int_in T.F_is_int_in.kp T.b_is_int_in .nil (passE (E := E)) (pa_cons (pe_ix ix_seq (pv 0) pe_int (fun _ _ => rfl)) (pa_cons pe_int (pa_cons (pe_op op_sub (pv 1) pe_int) pa_nil)))) (pe_one (pe_call (ok_is_int_in T) (hr.mono (by decide)) (by rfl) T.g_is_int_in T.F_is_int_in.kp T.b_is_int_in .nil (passE (E := E)) (pa_cons (pe_ix ix_seq (pv 0) pe_int (fun _ _ => rfl)) (pa_cons pe_int (pa_cons (pe_op op_sub (pv 2) pe_int) pa_nil))))))))),
      (rs_seq (rs_if (μ := none) (ref_or (ref_not (ref_testB (ref_isi (ref_var (by decide))))) (ref_test (ref_op2 o2_ne (ref_opA oA_len (ref_acons (ref_var (by decide)) ref_anil)) ref_int))) (rs_ret (μ := none) (by intro z; cases z) (by intro _ z; cases z) ref_bl) rs_next)
      (rs_ret (μ := none) (by intro z; cases z) (by intro _ z; cases z) (ref_andV (ref_call (fun _ _ => RepL.nil) (fun ds => runF_ar) (ref_acons (ref_op2 o2_ix (ref_var (by decide)) ref_int) (ref_acons ref_int (ref_acons (ref_op2 o2_sub (ref_var (by decide)) ref_int) ref_anil)))) (ref_call (fun _ _ => RepL.nil) (fun ds => runF_ar) (ref_acons (ref_op2 o2_ix (ref_var (by decide)) ref_int) (ref_acons ref_int (ref_acons (ref_op2 o2_sub (ref_var (by decide)) ref_int) ref_anil)))))))⟩
theorem ok_House__init_ (T : Txt K mg A) : FnOk P w K mg base CX0 3 A.f_House__init_ A.fd_House__init_ ["self", "tables", "keys", "careful", "reminders"] (spM0 (S K A Hb lf) 5 d_House__init_) :=
  fnD_ok0 (O := []) T.F_House__init_ sc_House__init_ (by decide) (by decide) fun cdv A2 outer s H E hr => ⟨_, (pss_cons (ps_if (PW.pt (pw_or (pt_not (pt_val (pe_callB call_isi (by rfl) T.z_isinstance bt_isinstance (pa_cons (pv 1) (pa_cons (pe_bltn (v := .ty "tuple") (by rfl) T.z_tuple bt_tuple rfl) pa_nil))))) (pw_or1 (pt_cmpR (op_eqX (hu64 hr)) (pv 1) (pe_tup pa_nil) (nomark _))))) (pss_one ps_never) pss_nil)
      (pss_cons (ps_set (i := 5) sc_House__init_.nd rfl (by first | exact .inl rfl | exact .inr rfl) pe_int)
      (pss_cons (ps_for PassesOwn.never rfl (pi_enumT (by rfl) T.z_enumerate (pa_cons (pv 1) pa_nil)) (pg_tup rfl (pgs_cons (pg_name (i := 6) sc_House__init_.nd rfl (by first | exact .inl rfl | exact .inr rfl)) (pgs_cons (pg_name (i := 7) sc_House__init_.nd rfl (by first | exact .inl rfl | exact .inr rfl)) pgs_nil))) (pss_cons (ps_if (PW.pt (pw_or (pt_cmpR (op_eqX (hu64 hr)) (pv 6) (pe_glob (by rfl) T.c_MAX_PERSONS.choose_spec.choose_spec.1 T.c_MAX_PERSONS.choose_spec.choose_spec.2.1) (nomark _)) (pw_or1 (pt_not (pt_val (pe_call (ok_is_table T) (hr.mono (by decide)) (by rfl) T.g_is_table T.F_is_table.kp T.b_is_table .nil (passE (E := E)) (pa_cons (pv 7) pa_nil))))))) (pss_one ps_never) pss_nil)
      (pss_one (ps_set (i := 5) sc_House__init_.nd rfl (by first | exact .inl rfl | exact .inr rfl) (pe_call (ok_common_multiple T) (hr.mono (by decide)) (by rfl) T.g_common_multiple T.F_common_multiple.kp T.b_common_multiple .nil (passE (E := E)) (pa_cons (pv 5) (pa_cons (pe_callB call_len (by rfl) T.z_len bt_len (pa_cons (pv 7) pa_nil)) pa_nil)))))))
      (pss_cons (ps_if (pt_not (pt_val (pe_call (ok_is_int_in T) (hr.mono (by decide)) (by rfl) T.g_is_int_in T.F_is_int_in.kp T.b_is_int_in .nil (passE (E := E)) (pa_cons (pv 2) (pa_cons pe_int (pa_cons (pe_glob (by rfl) T.c_MAX_KEYS.choose_spec.choose_spec.1 T.c_MAX_KEYS.choose_spec.choose_spec.2.1) pa_nil)))))) (pss_one ps_never) pss_nil)
      (pss_cons (ps_expr (pe_call (ok_check_persons T) (hr.mono (by decide)) (by rfl) T.g_check_persons T.F_check_persons.kp T.b_check_persons .nil (passE (E := E)) (pa_cons pe_str (pa_cons (pv 3) (pa_cons (pe_callB call_len (by rfl) T.z_len bt_len (pa_cons (pv 1) pa_nil)) pa_nil)))))
      (pss_cons (ps_if (pt_not (pt_val (pe_callB call_isi (by rfl) T.z_isinstance bt_isinstance (pa_cons (pv 4) (pa_cons (pe_bltn (v := .ty "tuple") (by rfl) T.z_tuple bt_tuple rfl) pa_nil))))) (pss_one ps_never) pss_nil)
      (pss_cons (ps_for PassesOwn.never rfl (pi_enumT (by rfl) T.z_enumerate (pa_cons (pv 4) pa_nil)) (pg_tup rfl (pgs_cons (pg_name (i := 6) sc_House__init_.nd rfl (by first | exact .inl rfl | exact .inr rfl)) (pgs_cons (pg_name (i := 8) sc_House__init_.nd rfl (by first | exact .inl rfl | exact .inr rfl)) pgs_nil))) (pss_cons (ps_if (PW.pt (pw_or (pt_cmpR (op_eqX (hu64 hr)) (pv 6) (pe_glob (by rfl) T.c_MAX_REMINDERS.choose_spec.choose_spec.1 T.c_MAX_REMINDERS.choose_spec.choose_spec.2.1) (nomark _)) (pw_or1 (pt_not (pt_val (pe_call (ok_is_reminder T) (hr.mono (by decide)) (by rfl) T.g_is_reminder T.F_is_reminder.kp T.b_is_reminder .nil (passE (E := E)) (pa_cons (pv 8) (pa_cons (pv 5) (pa_cons (pe_callB call_len (by rfl) T.z_len bt_len (pa_cons (pv 1) pa_nil)) pa_nil))))))))) (pss_one ps_never) pss_nil)
      (pss_one (ps_if (PW.pt (pw_and (pt_cmpR op_gt (pv 6) pe_int (nomark _)) (pw_and1 (pt_cmpR (op_leX (hu0 hr)) (pv 8) (pe_ix ix_seq (pv 4) (pe_op op_sub (pv 6) pe_int) (fun _ _ => rfl)) (nomark _))))) (pss_one ps_never) pss_nil))))
      (pss_cons (ps_fld (pv 0) (pv 1) rfl)
      (pss_cons (ps_fld (pv 0) (pv 2) rfl)
      (pss_cons (ps_fld (pv 0) (pv 3) rfl)
      (pss_cons (ps_fld (pv 0) (pv 4) rfl)
      (pss_one (ps_fld (pv 0) (pv 5) rfl))))))))))))),
      (rs_seq (rs_if (μ := none) (ref_or (ref_not (ref_testB (ref_isi (ref_var (by decide))))) (ref_test (ref_op2 o2_eq (ref_var (by decide)) (ref_tup ref_anil)))) rs_bad rs_next)
      (rs_seq (rs_set (by decide) ref_int)
      (rs_seq (rs_for (ri_enumT (ref_var (by decide))) (rg_tup (rgs_cons (rg_set (by decide)) (rgs_cons (rg_set (by decide)) rgs_nil)) rfl) (rs_seq (rs_if (μ := none) (ref_or (ref_test (ref_op2 o2_eq (ref_var (by decide)) (ref_c (T.c_MAX_PERSONS.choose_spec.choose_spec.2.2 _ _)))) (ref_not (ref_testB (ref_call (fun _ _ => RepL.nil) (fun ds => runF_ar) (ref_acons (ref_var (by decide)) ref_anil))))) rs_bad rs_next)
      (rs_set (by decide) (ref_call (fun _ _ => RepL.nil) (fun ds => runF_ar) (ref_acons (ref_var (by decide)) (ref_acons (ref_opA oA_len (ref_acons (ref_var (by decide)) ref_anil)) ref_anil))))))
      (rs_seq (rs_if (μ := none) (ref_not (ref_testB (ref_call (fun _ _ => RepL.nil) (fun ds => runF_ar) (ref_acons (ref_var (by decide)) (ref_acons ref_int (ref_acons (ref_c (T.c_MAX_KEYS.choose_spec.choose_spec.2.2 _ _)) ref_anil)))))) rs_bad rs_next)
      (rs_seq (rs_drop (μ := none) (ref_call (fun _ _ => RepL.nil) (fun ds => runF_ar) (ref_acons ref_str (ref_acons (ref_var (by decide)) (ref_acons (ref_opA oA_len (ref_acons (ref_var (by decide)) ref_anil)) ref_anil)))))
      (rs_seq (rs_if (μ := none) (ref_not (ref_testB (ref_isi (ref_var (by decide))))) rs_bad rs_next)
      (rs_seq (rs_for (ri_enumT (ref_var (by decide))) (rg_tup (rgs_cons (rg_set (by decide)) (rgs_cons (rg_set (by decide)) rgs_nil)) rfl) (rs_seq (rs_if (μ := none) (ref_or (ref_test (ref_op2 o2_eq (ref_var (by decide)) (ref_c (T.c_MAX_REMINDERS.choose_spec.choose_spec.2.2 _ _)))) (ref_not (ref_testB (ref_call (fun _ _ => RepL.nil) (fun ds => runF_ar) (ref_acons (ref_var (by decide)) (ref_acons (ref_var (by decide)) (ref_acons (ref_opA oA_len (ref_acons (ref_var (by decide)) ref_anil)) ref_anil))))))) rs_bad rs_next)
      (rs_if (μ := none) (ref_and (ref_test (ref_op2 o2_gtI (ref_var (by decide)) ref_int)) (ref_test (ref_op2 o2_le (ref_var (by decide)) (ref_op2 o2_ix (ref_var (by decide)) (ref_op2 o2_sub (ref_var (by decide)) ref_int))))) rs_bad rs_next)))
      (rs_seq (rs_setFld T.cl_House T.na_House_tables rfl nd_House lt_House (by decide) (ref_var (by decide)))
      (rs_seq (rs_setFld T.cl_House T.na_House_key_count rfl nd_House lt_House (by decide) (ref_var (by decide)))
      (rs_seq (rs_setFld T.cl_House T.na_House_careful rfl nd_House lt_House (by decide) (ref_var (by decide)))
      (rs_seq (rs_setFld T.cl_House T.na_House_reminders rfl nd_House lt_House (by decide) (ref_var (by decide)))
      (rs_setFld T.cl_House T.na_House_length rfl nd_House lt_House (by decide) (ref_var (by decide))))))))))))))⟩
theorem ok_House_persons (T : Txt K mg A) : FnOk P w K mg base CX0 1 A.f_House_persons A.fd_House_persons ["self"] (spM (S K A Hb lf) false 1 d_House_persons) :=
  fnD_ok (O := []) T.F_House_persons sc_House_persons (by decide) (by decide) fun cdv A2 outer s H E hr => ⟨_, (pss_one (ps_ret (pe_callB call_len (by rfl) T.z_len bt_len (pa_cons (pe_fld (pv 0) rfl) pa_nil)))),
      (rs_ret (μ := none) (by intro z; cases z) (by intro _ z; cases z) (ref_opA oA_len (ref_acons (ref_fld T.cl_House T.na_House_tables rfl nd_House (ref_var (by decide))) ref_anil)))⟩
theorem ok_House_period (T : Txt K mg A) : FnOk P w K mg base CX0 1 A.f_House_period A.fd_House_period ["self"] (spM (S K A Hb lf) false 1 d_House_period) :=
  fnD_ok (O := []) T.F_House_period sc_House_period (by decide) (by decide) fun cdv A2 outer s H E hr => ⟨_, (pss_one (ps_ret (pe_fld (pv 0) rfl))),
      (rs_ret (μ := none) (by intro z; cases z) (by intro _ z; cases z) (ref_fld T.cl_House T.na_House_length rfl nd_House (ref_var (by decide))))⟩
theorem ok_House_wants_home (T : Txt K mg A) : FnOk P w K mg base CX0 1 A.f_House_wants_home A.fd_House_wants_home ["self", "person", "tick"] (spM (S K A Hb lf) false 3 d_House_wants_home) :=
  fnD_ok (O := []) T.F_House_wants_home sc_House_wants_home (by decide) (by decide) fun cdv A2 outer s H E hr => ⟨_, (pss_cons (ps_set (i := 3) sc_House_wants_home.nd rfl (by first | exact .inl rfl | exact .inr rfl) (pe_ix ix_seq (pe_fld (pv 0) rfl) (pv 1) (fun _ _ => rfl)))
      (pss_one (ps_ret (pe_cmpR (op_eqX (hu64 hr)) (pe_ix ix_seq (pv 3) (pe_op op_modN (pv 2) (pe_callB call_len (by rfl) T.z_len bt_len (pa_cons (pv 3) pa_nil))) (fun _ _ => rfl)) (pe_glob (by rfl) T.c_HOME.choose_spec.choose_spec.1 T.c_HOME.choose_spec.choose_spec.2.1) (nomark _))))),
      (rs_seq (rs_set (by decide) (ref_op2 o2_ix (ref_fld T.cl_House T.na_House_tables rfl nd_House (ref_var (by decide))) (ref_var (by decide))))
      (rs_ret (μ := none) (by intro z; cases z) (by intro _ z; cases z) (ref_op2 o2_eq (ref_op2 o2_ix (ref_var (by decide)) (ref_op2 o2_mod (ref_var (by decide)) (ref_opA oA_len (ref_acons (ref_var (by decide)) ref_anil)))) (ref_c (T.c_HOME.choose_spec.choose_spec.2.2 _ _)))))⟩
theorem ok_House_takes_key (T : Txt K mg A) : FnOk P w K mg base CX0 1 A.f_House_takes_key A.fd_House_takes_key ["self", "person", "tick"] (spM (S K A Hb lf) false 3 d_House_takes_key) :=
  fnD_ok (O := []) T.F_House_takes_key sc_House_takes_key (by decide) (by decide) fun cdv A2 outer s H E hr => ⟨_, (pss_one (ps_ret (pe_or (pe_cmpR (op_inX (hu65 hr)) (pv 1) (pe_fld (pv 0) rfl) (by rfl)) (pe_one (pe_cmpR (op_inX (hu65 hr)) (pe_tup (pa_cons (pe_op op_modN (pv 2) (pe_fld (pv 0) rfl)) (pa_cons (pv 1) pa_nil))) (pe_fld (pv 0) rfl) (by rfl)))))),
      (rs_ret (μ := none) (by intro z; cases z) (by intro _ z; cases z) (ref_orV (ref_op2 o2_in (ref_var (by decide)) (ref_fld T.cl_House T.na_House_careful rfl nd_House (ref_var (by decide)))) (ref_op2 o2_in (ref_tup (ref_acons (ref_op2 o2_mod (ref_var (by decide)) (ref_fld T.cl_House T.na_House_length rfl nd_House (ref_var (by decide)))) (ref_acons (ref_var (by decide)) ref_anil))) (ref_fld T.cl_House T.na_House_reminders rfl nd_House (ref_var (by decide))))))⟩
theorem ok_check_tick (T : Txt K mg A) : FnOk P w K mg base (L2N.CX P w) 2 A.f_check_tick A.fd_check_tick ["tick"] (spM (S K A Hb lf) false 1 d_check_tick) :=
  fnDN_ok (O := []) T.F_check_tick sc_check_tick (by decide) (by decide) fun cdv A2 outer s H E hr => ⟨_, (pss_one (ps_if (pt_not (pt_val (pe_call (ok_is_int_in T) (hr.mono (by decide)) (by rfl) T.g_is_int_in T.F_is_int_in.kp T.b_is_int_in .nil (passE (E := E)) (pa_cons (pv 0) (pa_cons pe_int (pa_cons (pe_glob (by rfl) T.c_MAX_TICK.choose_spec.choose_spec.1 T.c_MAX_TICK.choose_spec.choose_spec.2.1) pa_nil)))))) (pss_one (L2N.ps_raise rfl (L2N.takes_of rfl rfl rfl rfl) (L2N.pmk_own PySem.F.excBase_ValueError T.xp_InvalidTick T.g_InvalidTick T.xk_InvalidTick (raises_own T.xe_InvalidTick T.xy_InvalidTick) (by rfl)))) pss_nil)),
      (rs_if (μ := none) (ref_not (ref_testB (ref_call (fun _ _ => RepL.nil) (fun ds => runF_ar) (ref_acons (ref_var (by decide)) (ref_acons ref_int (ref_acons (ref_c (T.c_MAX_TICK.choose_spec.choose_spec.2.2 _ _)) ref_anil)))))) (rs_raise0 (c := 2)) rs_next)⟩
theorem ok_check_person (T : Txt K mg A) : FnOk P w K mg base (L2N.CX P w) 3 A.f_check_person A.fd_check_person ["house", "person"] (spM (S K A Hb lf) false 2 d_check_person) :=
  fnDN_ok (O := []) T.F_check_person sc_check_person (by decide) (by decide) fun cdv A2 outer s H E hr => ⟨_, (pss_one (ps_if (pt_not (pt_val (pe_call (ok_is_int_in T) (hr.mono (by decide)) (by rfl) T.g_is_int_in T.F_is_int_in.kp T.b_is_int_in .nil (passE (E := E)) (pa_cons (pv 1) (pa_cons pe_int (pa_cons (pe_op op_sub (pe_prop (pv 0) T.cl_House T.pr_House_persons (ok_House_persons T) (hr.mono (by decide)) T.b_House_persons .nil (passE (E := E)) rfl) pe_int) pa_nil)))))) (pss_one (L2N.ps_raise rfl (L2N.takes_of rfl rfl rfl rfl) (L2N.pmk_own PySem.F.excBase_ValueError T.xp_UnknownPerson T.g_UnknownPerson T.xk_UnknownPerson (raises_own T.xe_UnknownPerson T.xy_UnknownPerson) (by rfl)))) pss_nil)),
      (rs_if (μ := none) (ref_not (ref_testB (ref_call (fun _ _ => RepL.nil) (fun ds => runF_ar) (ref_acons (ref_var (by decide)) (ref_acons ref_int (ref_acons (ref_op2 o2_sub (ref_prop (fun ds => runF_ar) (ref_var (by decide))) ref_int) ref_anil)))))) (rs_raise0 (c := 3)) rs_next)⟩
theorem ok_first_scene (T : Txt K mg A) : FnOk P w K mg base CX0 1 A.f_first_scene A.fd_first_scene ["house"] (spM (S K A Hb lf) false 1 d_first_scene) :=
  fnD_ok (O := []) T.F_first_scene sc_first_scene (by decide) (by decide) fun cdv A2 outer s H E hr => ⟨_, (pss_one (ps_ret (pe_tup (pa_cons (pe_tup pa_nil) (pa_cons (pe_tup pa_nil) (pa_cons (pe_fld (pv 0) rfl) (pa_cons pe_bl pa_nil))))))),
      (rs_ret (μ := none) (by intro z; cases z) (by intro _ z; cases z) (ref_tup (ref_acons (ref_tup ref_anil) (ref_acons (ref_tup ref_anil) (ref_acons (ref_fld T.cl_House T.na_House_key_count rfl nd_House (ref_var (by decide))) (ref_acons ref_bl ref_anil))))))⟩
theorem ok_people_at_home (T : Txt K mg A) : FnOk P w K mg base CX0 3 A.f_people_at_home A.fd_people_at_home ["house", "scene", "tick"] (spM (S K A Hb lf) false 3 d_people_at_home) :=
  fnD_ok (O := []) T.F_people_at_home sc_people_at_home (by decide) (by decide) fun cdv A2 outer s H E hr => ⟨_, (pss_cons (ps_set (i := 3) sc_people_at_home.nd rfl (by first | exact .inl rfl | exact .inr rfl) (pe_listRg rfl (by rfl) T.z_list (prg_1 (by rfl) T.z_range (pe_prop (pv 0) T.cl_House T.pr_House_persons (ok_House_persons T) (hr.mono (by decide)) T.b_House_persons .nil (passE (E := E)) rfl))))
      (pss_cons (ps_if (pt_cmpR op_lt (pv 2) pe_int (nomark _)) (pss_one (ps_ret (pv 3))) pss_nil)
      (pss_one (ps_ret (pe_lc rfl sc_people_at_home.nd (pi_seqX (pv 3)) (blkOk_by (own := [("person", 4)]) (by kernel_rfl)) (fun _ _ _ _ _ => (pg_name (i := 4) sc_people_at_home.nd rfl (by first | exact .inl rfl | exact .inr rfl))) (fun _ _ _ _ _ => (pts_one (PW.pt (pw_and (pt_val (pe_meth (pv 0) T.cl_House T.me_House_wants_home (ok_House_wants_home T) (hr.mono (by decide)) T.b_House_wants_home .nil (passE (E := E)) (pa_cons (pv 4) (pa_cons (pv 2) pa_nil)))) (pw_and1 (pt_cmpR (op_notInX (hu65 hr)) (pv 4) (pe_ix ix_seq (pv 1) pe_int (fun _ _ => rfl)) (by rfl))))))) (fun _ _ _ _ _ => (pv 4))))))),
      (rs_seq (rs_set (by decide) (ref_lstRg (ref_prop (fun ds => runF_ar) (ref_var (by decide)))))
      (rs_seq (rs_if (μ := none) (ref_test (ref_op2 o2_ltI (ref_var (by decide)) ref_int)) (rs_ret (μ := none) (by intro z; cases z) (by intro _ z; cases z) (ref_var (by decide))) rs_next)
      (rs_ret (μ := none) (by intro z; cases z) (by intro _ z; cases z) (ref_lc (E1 := E) (E2 := E) (vs := [4]) (ri_seq (ref_var (by decide))) (rg_set (by decide)) (ref_and (ref_testB (ref_meth (fun _ _ => RepL.nil) (fun ds => runF_ar) nm_House_wants_home (ref_var (by decide)) (ref_acons (ref_var (by decide)) (ref_acons (ref_var (by decide)) ref_anil)))) (ref_test (ref_op2 o2_notIn (ref_var (by decide)) (ref_op2 o2_ix (ref_var (by decide)) ref_int)))) (ref_var (by decide)) (by decide) (by decide)))))⟩
theorem ok_after_tick (T : Txt K mg A) : FnOk P w K mg base CX0 4 A.f_after_tick A.fd_after_tick ["house", "scene", "tick"] (spM (S K A Hb lf) false 3 d_after_tick) :=
  fnD_ok (O := [5, 7]) T.F_after_tick sc_after_tick (by decide) (by decide) fun cdv A2 outer s H E hr => ⟨_, (pss_cons (ps_asg (pv 1) (pg_tup rfl (pgs_cons (pg_name (i := 10) sc_after_tick.nd rfl (by first | exact .inl rfl | exact .inr rfl)) (pgs_cons (pg_name (i := 11) sc_after_tick.nd rfl (by first | exact .inl rfl | exact .inr rfl)) (pgs_cons (pg_name (i := 12) sc_after_tick.nd rfl (by first | exact .inl rfl | exact .inr rfl)) (pgs_cons (pg_name (i := 13) sc_after_tick.nd rfl (by first | exact .inl rfl | exact .inr rfl)) pgs_nil))))))
      (pss_cons (ps_set (i := 3) sc_after_tick.nd rfl (by first | exact .inl rfl | exact .inr rfl) (pe_call (ok_people_at_home T) (hr.mono (by decide)) (by rfl) T.g_people_at_home T.F_people_at_home.kp T.b_people_at_home .nil (passE (E := E)) (pa_cons (pv 0) (pa_cons (pv 1) (pa_cons (pe_op op_sub (pv 2) pe_int) pa_nil)))))
      (pss_cons (ps_set (i := 4) sc_after_tick.nd rfl (by first | exact .inl rfl | exact .inr rfl) (pe_lc rfl sc_after_tick.nd (pi_range1 (by rfl) T.z_range (pa_cons (pe_prop (pv 0) T.cl_House T.pr_House_persons (ok_House_persons T) (hr.mono (by decide)) T.b_House_persons .nil (passE (E := E)) rfl) pa_nil)) (blkOk_by (own := [("person", 8)]) (by kernel_rfl)) (fun _ _ _ _ _ => (pg_name (i := 8) sc_after_tick.nd rfl (by first | exact .inl rfl | exact .inr rfl))) (fun _ _ _ _ _ => (pts_one (PW.pt (pw_and (pt_cmpR (op_notInX (hu65 hr)) (pv 8) (pv 3) (by rfl)) (pw_and1 (pt_val (pe_meth (pv 0) T.cl_House T.me_House_wants_home (ok_House_wants_home T) (hr.mono (by decide)) T.b_House_wants_home .nil (passE (E := E)) (pa_cons (pv 8) (pa_cons (pv 2) pa_nil))))))))) (fun _ _ _ _ _ => (pv 8))))
      (pss_cons (ps_set (i := 5) sc_after_tick.nd rfl (by first | exact .inl rfl | exact .inr rfl) (pe_lst pa_nil))
      (pss_cons (ps_if (PW.pt (pw_or (pt_cmpR (op_neX (hu64 hr)) (pv 3) (pe_lst pa_nil) (nomark _)) (pw_or (pt_val (pv 13)) (pw_or1 (pt_val (pe_callB (cr_any rfl) (by rfl) T.z_any bt_any (pa_cons (pe_lc rfl sc_after_tick.nd (pi_seqX (pv 4)) (blkOk_by (own := [("person", 8)]) (by kernel_rfl)) (fun _ _ _ _ _ => (pg_name (i := 8) sc_after_tick.nd rfl (by first | exact .inl rfl | exact .inr rfl))) (fun _ _ _ _ _ => pts_nil) (fun _ _ _ _ _ => (pe_cmpR (op_inX (hu65 hr)) (pv 8) (pv 11) (by rfl)))) pa_nil))))))) (pss_cons (ps_expr (pe_bm PySem.F.plainAttrs_list PySem.F.slot_list_extend PySem.F.type_list_extend mt_extend (pv 5) (pa_cons (pe_lc rfl sc_after_tick.nd (pi_seqX (pv 4)) (blkOk_by (own := [("person", 8)]) (by kernel_rfl)) (fun _ _ _ _ _ => (pg_name (i := 8) sc_after_tick.nd rfl (by first | exact .inl rfl | exact .inr rfl))) (fun _ _ _ _ _ => pts_nil) (fun _ _ _ _ _ => (pe_tup (pa_cons (pv 2) (pa_cons (pe_glob (by rfl) T.c_ENTER.choose_spec.choose_spec.1 T.c_ENTER.choose_spec.choose_spec.2.1) (pa_cons (pv 8) pa_nil)))))) pa_nil)))
      (pss_cons (ps_aug (i := 12) sc_after_tick.nd rfl (by first | exact .inl rfl | exact .inr rfl) (pe_callB call_len (by rfl) T.z_len bt_len (pa_cons (pe_lc rfl sc_after_tick.nd (pi_seqX (pv 4)) (blkOk_by (own := [("person", 8)]) (by kernel_rfl)) (fun _ _ _ _ _ => (pg_name (i := 8) sc_after_tick.nd rfl (by first | exact .inl rfl | exact .inr rfl))) (fun _ _ _ _ _ => (pts_one (pt_cmpR (op_inX (hu65 hr)) (pv 8) (pv 11) (by rfl)))) (fun _ _ _ _ _ => (pv 8))) pa_nil)) ip_add)
      (pss_cons (ps_set (i := 11) sc_after_tick.nd rfl (by first | exact .inl rfl | exact .inr rfl) (pe_callTy call_tuple_of (by rfl) T.z_tuple bt_tuple (pa_cons (pe_lc rfl sc_after_tick.nd (pi_seqX (pv 11)) (blkOk_by (own := [("person", 8)]) (by kernel_rfl)) (fun _ _ _ _ _ => (pg_name (i := 8) sc_after_tick.nd rfl (by first | exact .inl rfl | exact .inr rfl))) (fun _ _ _ _ _ => (pts_one (pt_cmpR (op_notInX (hu65 hr)) (pv 8) (pv 4) (by rfl)))) (fun _ _ _ _ _ => (pv 8))) pa_nil)))
      (pss_cons (ps_set (i := 10) sc_after_tick.nd rfl (by first | exact .inl rfl | exact .inr rfl) (pe_tup pa_nil))
      (pss_one (ps_set (i := 14) sc_after_tick.nd rfl (by first | exact .inl rfl | exact .inr rfl) (pe_callB cr_sortX (by rfl) T.z_sorted bt_sorted (pa_cons (pe_op op_addX (pv 3) (pv 4)) pa_nil)))))))) (pss_cons (ps_set (i := 10) sc_after_tick.nd rfl (by first | exact .inl rfl | exact .inr rfl) (pe_callTy call_tuple_of (by rfl) T.z_tuple bt_tuple (pa_cons (pv 4) pa_nil)))
      (pss_cons (ps_expr (pe_bm PySem.F.plainAttrs_list PySem.F.slot_list_extend PySem.F.type_list_extend mt_extend (pv 5) (pa_cons (pe_lc rfl sc_after_tick.nd (pi_seqX (pv 4)) (blkOk_by (own := [("person", 8)]) (by kernel_rfl)) (fun _ _ _ _ _ => (pg_name (i := 8) sc_after_tick.nd rfl (by first | exact .inl rfl | exact .inr rfl))) (fun _ _ _ _ _ => pts_nil) (fun _ _ _ _ _ => (pe_tup (pa_cons (pv 2) (pa_cons (pe_glob (by rfl) T.c_WAIT.choose_spec.choose_spec.1 T.c_WAIT.choose_spec.choose_spec.2.1) (pa_cons (pv 8) pa_nil)))))) pa_nil)))
      (pss_one (ps_set (i := 14) sc_after_tick.nd rfl (by first | exact .inl rfl | exact .inr rfl) (pe_lst pa_nil))))))
      (pss_cons (ps_setLc (i := 6) rfl sc_after_tick.nd rfl rfl rfl (pi_seqX (pv 14)) (blkOk_by (own := [("person", 8)]) (by kernel_rfl)) (fun _ _ _ _ _ => (pg_name (i := 8) sc_after_tick.nd rfl (by first | exact .inl rfl | exact .inr rfl))) (fun _ _ _ _ _ => (pts_one (pt_not (pt_val (pe_meth (pv 0) T.cl_House T.me_House_wants_home (ok_House_wants_home T) (hr.mono (by decide)) T.b_House_wants_home .nil (passE (E := E)) (pa_cons (pv 8) (pa_cons (pv 2) pa_nil))))))) (fun _ _ _ _ _ => (pv 8)))
      (pss_cons (ps_set (i := 7) sc_after_tick.nd rfl (by first | exact .inl rfl | exact .inr rfl) (pe_lst pa_nil))
      (pss_cons (ps_for PassesOwn.never rfl (pi_seqX (pv 6)) (pg_name (i := 8) sc_after_tick.nd rfl (by first | exact .inl rfl | exact .inr rfl)) (pss_cons (ps_expr (pe_bm PySem.F.plainAttrs_list PySem.F.slot_list_append PySem.F.type_list_append mt_append (pv 5) (pa_cons (pe_tup (pa_cons (pv 2) (pa_cons (pe_glob (by rfl) T.c_LEAVE.choose_spec.choose_spec.1 T.c_LEAVE.choose_spec.choose_spec.2.1) (pa_cons (pv 8) pa_nil)))) pa_nil)))
      (pss_one (ps_if (PW.pt (pw_and (pt_cmpR op_gt (pv 12) (pe_callB call_len (by rfl) T.z_len bt_len (pa_cons (pv 7) pa_nil)) (nomark _)) (pw_and1 (pt_val (pe_meth (pv 0) T.cl_House T.me_House_takes_key (ok_House_takes_key T) (hr.mono (by decide)) T.b_House_takes_key .nil (passE (E := E)) (pa_cons (pv 8) (pa_cons (pv 2) pa_nil))))))) (pss_cons (ps_expr (pe_bm PySem.F.plainAttrs_list PySem.F.slot_list_append PySem.F.type_list_append mt_append (pv 7) (pa_cons (pv 8) pa_nil)))
      (pss_one (ps_expr (pe_bm PySem.F.plainAttrs_list PySem.F.slot_list_append PySem.F.type_list_append mt_append (pv 5) (pa_cons (pe_tup (pa_cons (pv 2) (pa_cons (pe_glob (by rfl) T.c_TAKE.choose_spec.choose_spec.1 T.c_TAKE.choose_spec.choose_spec.2.1) (pa_cons (pv 8) pa_nil)))) pa_nil))))) pss_nil))))
      (pss_cons (ps_set (i := 9) sc_after_tick.nd rfl (by first | exact .inl rfl | exact .inr rfl) (pe_cmpR (op_eqX (hu64 hr)) (pe_callB call_len (by rfl) T.z_len bt_len (pa_cons (pv 6) pa_nil)) (pe_callB call_len (by rfl) T.z_len bt_len (pa_cons (pv 14) pa_nil)) (nomark _)))
      (pss_cons (ps_if (PW.pt (pw_and (pt_cmpR (op_neX (hu64 hr)) (pv 6) (pe_lst pa_nil) (nomark _)) (pw_and (pt_val (pv 9)) (pw_and (pt_cmpR (op_eqX (hu64 hr)) (pv 7) (pe_lst pa_nil) (nomark _)) (pw_and1 (pt_cmpR op_gt (pv 12) pe_int (nomark _))))))) (pss_cons (ps_expr (pe_bm PySem.F.plainAttrs_list PySem.F.slot_list_append PySem.F.type_list_append mt_append (pv 7) (pa_cons (pe_ix ix_seq (pv 6) (pe_un un_neg pe_int) (fun _ _ => rfl)) pa_nil)))
      (pss_one (ps_expr (pe_bm PySem.F.plainAttrs_list PySem.F.slot_list_append PySem.F.type_list_append mt_append (pv 5) (pa_cons (pe_tup (pa_cons (pv 2) (pa_cons (pe_glob (by rfl) T.c_TAKE.choose_spec.choose_spec.1 T.c_TAKE.choose_spec.choose_spec.2.1) (pa_cons (pe_ix ix_seq (pv 6) (pe_un un_neg pe_int) (fun _ _ => rfl)) pa_nil)))) pa_nil))))) pss_nil)
      (pss_cons (ps_if (PW.pt (pw_and (pt_cmpR (op_neX (hu64 hr)) (pv 6) (pe_lst pa_nil) (nomark _)) (pw_and1 (pt_val (pv 9))))) (pss_cons (ps_set (i := 13) sc_after_tick.nd rfl (by first | exact .inl rfl | exact .inr rfl) (pe_cmpR (op_eqX (hu64 hr)) (pv 7) (pe_lst pa_nil) (nomark _)))
      (pss_one (ps_if (pt_val (pv 13)) (pss_one (ps_expr (pe_bm PySem.F.plainAttrs_list PySem.F.slot_list_append PySem.F.type_list_append mt_append (pv 5) (pa_cons (pe_tup (pa_cons (pv 2) (pa_cons (pe_glob (by rfl) T.c_OPEN.choose_spec.choose_spec.1 T.c_OPEN.choose_spec.choose_spec.2.1) (pa_cons pe_non pa_nil)))) pa_nil)))) pss_nil))) (pss_one (ps_if (pt_cmpR (op_neX (hu64 hr)) (pv 14) (pe_lst pa_nil) (nomark _)) (pss_one (ps_set (i := 13) sc_after_tick.nd rfl (by first | exact .inl rfl | exact .inr rfl) pe_bl)) pss_nil)))
      (pss_one (ps_ret (pe_tup (pa_cons (pe_tup (pa_cons (pv 10) (pa_cons (pe_callTy call_tuple_of (by rfl) T.z_tuple bt_tuple (pa_cons (pe_callB cr_sortX (by rfl) T.z_sorted bt_sorted (pa_cons (pe_op op_addX (pe_callTy call_list_of (by rfl) T.z_list bt_list (pa_cons (pv 11) pa_nil)) (pv 7)) pa_nil)) pa_nil)) (pa_cons (pe_op op_sub (pv 12) (pe_callB call_len (by rfl) T.z_len bt_len (pa_cons (pv 7) pa_nil))) (pa_cons (pv 13) pa_nil))))) (pa_cons (pv 5) pa_nil)))))))))))))))),
      (rs_seq (rs_asg (ref_var (by decide)) (rg_tup (rgs_cons (rg_set (by decide)) (rgs_cons (rg_set (by decide)) (rgs_cons (rg_set (by decide)) (rgs_cons (rg_set (by decide)) rgs_nil)))) rfl))
      (rs_seq (rs_set (by decide) (ref_call (fun _ _ => RepL.nil) (fun ds => runF_ar) (ref_acons (ref_var (by decide)) (ref_acons (ref_var (by decide)) (ref_acons (ref_op2 o2_sub (ref_var (by decide)) ref_int) ref_anil)))))
      (rs_seq (rs_set (by decide) (ref_lc (E1 := E) (E2 := E) (vs := [8]) (ri_range1 (ref_acons (ref_prop (fun ds => runF_ar) (ref_var (by decide))) ref_anil)) (rg_set (by decide)) (ref_and (ref_test (ref_op2 o2_notIn (ref_var (by decide)) (ref_var (by decide)))) (ref_testB (ref_meth (fun _ _ => RepL.nil) (fun ds => runF_ar) nm_House_wants_home (ref_var (by decide)) (ref_acons (ref_var (by decide)) (ref_acons (ref_var (by decide)) ref_anil))))) (ref_var (by decide)) (by decide) (by decide)))
      (rs_seq (rs_setOwn (by decide) (by decide) (ref_lst ref_anil))
      (rs_seq (rs_if (μ := none) (ref_or (ref_test (ref_op2 o2_ne (ref_var (by decide)) (ref_lst ref_anil))) (ref_or (ref_testB (ref_var (by decide))) (ref_testB (ref_opA oA_any (ref_acons (ref_lc (E1 := E) (E2 := E) (vs := [8]) (ri_seq (ref_var (by decide))) (rg_set (by decide)) rt_yes (ref_op2 o2_in (ref_var (by decide)) (ref_var (by decide))) (by decide) (by decide)) ref_anil))))) (rs_seq (rs_ext (by decide) (ref_lc (E1 := E) (E2 := E) (vs := [8]) (ri_seq (ref_var (by decide))) (rg_set (by decide)) rt_yes (ref_tup (ref_acons (ref_var (by decide)) (ref_acons (ref_c (T.c_ENTER.choose_spec.choose_spec.2.2 _ _)) (ref_acons (ref_var (by decide)) ref_anil)))) (by decide) (by decide)))
      (rs_seq (rs_aug (by decide) (ref_opA oA_len (ref_acons (ref_lc (E1 := E) (E2 := E) (vs := [8]) (ri_seq (ref_var (by decide))) (rg_set (by decide)) (ref_test (ref_op2 o2_in (ref_var (by decide)) (ref_var (by decide)))) (ref_var (by decide)) (by decide) (by decide)) ref_anil)))
      (rs_seq (rs_set (by decide) (ref_opA oA_tuple (ref_acons (ref_lc (E1 := E) (E2 := E) (vs := [8]) (ri_seq (ref_var (by decide))) (rg_set (by decide)) (ref_test (ref_op2 o2_notIn (ref_var (by decide)) (ref_var (by decide)))) (ref_var (by decide)) (by decide) (by decide)) ref_anil)))
      (rs_seq (rs_set (by decide) (ref_tup ref_anil))
      (rs_set (by decide) (ref_opA oA_sorted (ref_acons (ref_op2 o2_add (ref_var (by decide)) (ref_var (by decide))) ref_anil))))))) (rs_seq (rs_set (by decide) (ref_opA oA_tuple (ref_acons (ref_var (by decide)) ref_anil)))
      (rs_seq (rs_ext (by decide) (ref_lc (E1 := E) (E2 := E) (vs := [8]) (ri_seq (ref_var (by decide))) (rg_set (by decide)) rt_yes (ref_tup (ref_acons (ref_var (by decide)) (ref_acons (ref_c (T.c_WAIT.choose_spec.choose_spec.2.2 _ _)) (ref_acons (ref_var (by decide)) ref_anil)))) (by decide) (by decide)))
      (rs_set (by decide) (ref_lst ref_anil)))))
      (rs_seq (rs_set (by decide) (ref_lc (E1 := E) (E2 := E) (vs := [8]) (ri_seq (ref_var (by decide))) (rg_set (by decide)) (ref_not (ref_testB (ref_meth (fun _ _ => RepL.nil) (fun ds => runF_ar) nm_House_wants_home (ref_var (by decide)) (ref_acons (ref_var (by decide)) (ref_acons (ref_var (by decide)) ref_anil))))) (ref_var (by decide)) (by decide) (by decide)))
      (rs_seq (rs_setOwn (by decide) (by decide) (ref_lst ref_anil))
      (rs_seq (rs_for (ri_seq (ref_var (by decide))) (rg_set (by decide)) (rs_seq (rs_app (by decide) (ref_tup (ref_acons (ref_var (by decide)) (ref_acons (ref_c (T.c_LEAVE.choose_spec.choose_spec.2.2 _ _)) (ref_acons (ref_var (by decide)) ref_anil)))))
      (rs_if (μ := none) (ref_upT (U := [5, 7]) (ref_and (ref_test (ref_op2 o2_gtI (ref_var (by decide)) (ref_opA oA_len (ref_acons (ref_own (by decide) (by decide)) ref_anil)))) (ref_testB (ref_meth (fun _ _ => RepL.nil) (fun ds => runF_ar) nm_House_takes_key (ref_var (by decide)) (ref_acons (ref_var (by decide)) (ref_acons (ref_var (by decide)) ref_anil)))))) (rs_seq (rs_app (by decide) (ref_var (by decide)))
      (rs_app (by decide) (ref_tup (ref_acons (ref_var (by decide)) (ref_acons (ref_c (T.c_TAKE.choose_spec.choose_spec.2.2 _ _)) (ref_acons (ref_var (by decide)) ref_anil)))))) rs_next)))
      (rs_seq (rs_set (by decide) (ref_op2 o2_eq (ref_opA oA_len (ref_acons (ref_var (by decide)) ref_anil)) (ref_opA oA_len (ref_acons (ref_var (by decide)) ref_anil))))
      (rs_seq (rs_if (μ := none) (ref_upT (U := [5, 7]) (ref_and (ref_test (ref_op2 o2_ne (ref_var (by decide)) (ref_lst ref_anil))) (ref_and (ref_testB (ref_var (by decide))) (ref_and (ref_test (ref_op2 o2_eq (ref_own (by decide) (by decide)) (ref_lst ref_anil))) (ref_test (ref_op2 o2_gtI (ref_var (by decide)) ref_int)))))) (rs_seq (rs_app (by decide) (ref_op2 o2_ix (ref_var (by decide)) (ref_op1 o1_neg ref_int)))
      (rs_app (by decide) (ref_tup (ref_acons (ref_var (by decide)) (ref_acons (ref_c (T.c_TAKE.choose_spec.choose_spec.2.2 _ _)) (ref_acons (ref_op2 o2_ix (ref_var (by decide)) (ref_op1 o1_neg ref_int)) ref_anil)))))) rs_next)
      (rs_seq (rs_if (μ := none) (ref_and (ref_test (ref_op2 o2_ne (ref_var (by decide)) (ref_lst ref_anil))) (ref_testB (ref_var (by decide)))) (rs_seq (rs_set (by decide) (ref_up (U := [5, 7]) (ref_op2 o2_eq (ref_own (by decide) (by decide)) (ref_lst ref_anil))))
      (rs_if (μ := none) (ref_testB (ref_var (by decide))) (rs_app (by decide) (ref_tup (ref_acons (ref_var (by decide)) (ref_acons (ref_c (T.c_OPEN.choose_spec.choose_spec.2.2 _ _)) (ref_acons ref_non ref_anil))))) rs_next)) (rs_if (μ := none) (ref_test (ref_op2 o2_ne (ref_var (by decide)) (ref_lst ref_anil))) (rs_set (by decide) ref_bl) rs_next))
      (rs_ret (μ := some [5, 7]) (by intro z; cases z) (by intro _ z; cases z; decide) (ref_tup (ref_acons (ref_tup (ref_acons (ref_var (by decide)) (ref_acons (ref_opA oA_tuple (ref_acons (ref_opA oA_sorted (ref_acons (ref_op2 o2_add (ref_opA oA_list (ref_acons (ref_var (by decide)) ref_anil)) (ref_own (by decide) (by decide))) ref_anil)) ref_anil)) (ref_acons (ref_op2 o2_sub (ref_var (by decide)) (ref_opA oA_len (ref_acons (ref_own (by decide) (by decide)) ref_anil))) (ref_acons (ref_var (by decide)) ref_anil))))) (ref_acons (ref_own (by decide) (by decide)) ref_anil)))))))))))))))⟩
theorem ok_Story__init_ (T : Txt K mg A) : FnOk P w K mg base CX0 5 A.f_Story__init_ A.fd_Story__init_ ["self", "house"] (spM0 (S K A Hb lf) 2 d_Story__init_) := by
  refine fnD_okH T.F_Story__init_ sc_Story__init_ fun cdv A2 outer s H E hr => ?_
  exact story_pair (S := S K A Hb lf) (c := 1) (fs := st_fs) (nx := st_nx) (ky := st_ky) (pss_cons (ps_fld (pv 0) (pe_lst pa_nil) rfl)
      (pss_cons (ps_fld (pv 0) (pe_lst pa_nil) rfl)
      (pss_cons (ps_fld (pv 0) pe_non rfl)
      (pss_cons (ps_par3 (i := 2) (j := 3) (l := 4) rfl sc_Story__init_.nd rfl rfl rfl (by decide) (by decide) (by decide) rfl rfl rfl (pa_cons (pe_call (ok_first_scene T) (hr.mono (by decide)) (by rfl) T.g_first_scene T.F_first_scene.kp T.b_first_scene .nil (passE (E := E)) (pa_cons (pv 1) pa_nil)) (pa_cons pe_int (pa_cons pe_nnew pa_nil))) rfl)
      (pss_cons (ps_while PassesOwn.never (pt_cmp (pc_isN (pe_fld (pv 0) rfl)))
        (pss_cons (ps_asg (pe_call (ok_after_tick T) (hr.mono (by decide)) (by rfl) T.g_after_tick T.F_after_tick.kp T.b_after_tick .nil (passE (E := E)) (pa_cons (pv 1) (pa_cons (pv 2) (pa_cons (pv 3) pa_nil)))) (pg_tup rfl (pgs_cons (pg_name (i := 2) sc_Story__init_.nd rfl (by first | exact .inl rfl | exact .inr rfl)) (pgs_cons (pg_name (i := 6) sc_Story__init_.nd rfl (by first | exact .inl rfl | exact .inr rfl)) pgs_nil))))
        (pss_cons (ps_set (i := 5) sc_Story__init_.nd rfl (by first | exact .inl rfl | exact .inr rfl) (pe_tup (pa_cons (pe_op op_modN (pv 3) (pe_prop (pv 1) T.cl_House T.pr_House_period (ok_House_period T) (hr.mono (by decide)) T.b_House_period .nil (passE (E := E)) rfl)) (pa_cons (pv 2) pa_nil))))
        (pss_one (ps_if (pt_cmp (pc_nin (S := S K A Hb lf) (room_n (hu64 hr)) rfl (pv 5) (pv 4)))
          (pss_one (ps_fld (pv 0) (pe_nget (S := S K A Hb lf) (room_n (hu64 hr)) rfl (pv 4) (pv 5) (fun _ _ => rfl)) rfl))
          (pss_cons (ps_nput (S := S K A Hb lf) (room_n (hu64 hr)) rfl (pv 4) (pv 5) (pv 3) rfl) (pss_cons (ps_expr (pe_bm PySem.F.plainAttrs_list PySem.F.slot_list_append PySem.F.type_list_append mt_append (pe_fld (pv 0) rfl) (pa_cons (pv 2) pa_nil))) (pss_cons (ps_expr (pe_bm PySem.F.plainAttrs_list PySem.F.slot_list_append PySem.F.type_list_append mt_append (pe_fld (pv 0) rfl) (pa_cons (pv 6) pa_nil))) (pss_one (ps_aug (i := 3) sc_Story__init_.nd rfl (by first | exact .inl rfl | exact .inr rfl) pe_int ip_add))))))))))
      (pss_one (ps_fld (pv 0) (pv 6) rfl)))))))
      (ref_call (fun _ _ => RepL.nil) (fun ds => runF_ar) (ref_acons (ref_var (by decide)) ref_anil))
      (ref_call (fun _ _ => RepL.nil) (fun ds => runF_ar) (ref_acons (ref_var (by decide)) (ref_acons (ref_var (by decide)) (ref_acons (ref_var (by decide)) ref_anil))))
      (ref_tup (ref_acons (ref_op2 o2_mod (ref_var (by decide)) (ref_prop (fun ds => runF_ar) (ref_var (by decide)))) (ref_acons (ref_var (by decide)) ref_anil)))
      rfl T.cl_Story T.na_Story_scenes T.na_Story_events T.na_Story_start T.na_Story_last (fun h s => stF_ok) (fun h sc t k ev p => stN_ok) (fun h sc t k ev l => stK_ok) rfl
theorem ok_Story_size (T : Txt K mg A) : FnOk P w K mg base CX0 1 A.f_Story_size A.fd_Story_size ["self"] (spM (S K A Hb lf) false 1 d_Story_size) :=
  fnD_ok (O := []) T.F_Story_size sc_Story_size (by decide) (by decide) fun cdv A2 outer s H E hr => ⟨_, (pss_one (ps_ret (pe_op op_sub (pe_callB call_len (by rfl) T.z_len bt_len (pa_cons (pe_fld (pv 0) rfl) pa_nil)) (pe_fld (pv 0) rfl)))),
      (rs_ret (μ := none) (by intro z; cases z) (by intro _ z; cases z) (ref_op2 o2_sub (ref_opA oA_len (ref_acons (ref_fld T.cl_Story T.na_Story_scenes rfl nd_Story (ref_var (by decide))) ref_anil)) (ref_fld T.cl_Story T.na_Story_start rfl nd_Story (ref_var (by decide)))))⟩
theorem ok_Story_place_of (T : Txt K mg A) : FnOk P w K mg base CX0 3 A.f_Story_place_of A.fd_Story_place_of ["self", "tick"] (spM (S K A Hb lf) false 2 d_Story_place_of) :=
  fnD_ok (O := []) T.F_Story_place_of sc_Story_place_of (by decide) (by decide) fun cdv A2 outer s H E hr => ⟨_, (pss_one (ps_ret (pe_ifExp (pt_cmpR op_lt (pv 1) (pe_callB call_len (by rfl) T.z_len bt_len (pa_cons (pe_fld (pv 0) rfl) pa_nil)) (nomark _)) (pv 1) (pe_op op_addX (pe_fld (pv 0) rfl) (pe_op op_modN (pe_op op_sub (pv 1) (pe_fld (pv 0) rfl)) (pe_prop (pv 0) T.cl_Story T.pr_Story_size (ok_Story_size T) (hr.mono (by decide)) T.b_Story_size .nil (passE (E := E)) rfl)))))),
      (rs_ret (μ := none) (by intro z; cases z) (by intro _ z; cases z) (ref_if (ref_test (ref_op2 o2_ltI (ref_var (by decide)) (ref_opA oA_len (ref_acons (ref_fld T.cl_Story T.na_Story_scenes rfl nd_Story (ref_var (by decide))) ref_anil)))) (ref_var (by decide)) (ref_op2 o2_add (ref_fld T.cl_Story T.na_Story_start rfl nd_Story (ref_var (by decide))) (ref_op2 o2_mod (ref_op2 o2_sub (ref_var (by decide)) (ref_fld T.cl_Story T.na_Story_start rfl nd_Story (ref_var (by decide)))) (ref_prop (fun ds => runF_ar) (ref_var (by decide)))))))⟩
theorem ok_scene_after (T : Txt K mg A) : FnOk P w K mg base (L2N.CX P w) 7 A.f_scene_after A.fd_scene_after ["house", "tick"] (spM (S K A Hb lf) false 2 d_scene_after) :=
  fnDN_ok (O := []) T.F_scene_after sc_scene_after (by decide) (by decide) fun cdv A2 outer s H E hr => ⟨_, (pss_cons (ps_expr (pe_call (ok_check_tick T) (hr.mono (by decide)) (by rfl) T.g_check_tick T.F_check_tick.kp T.b_check_tick .nil (L2N.passX (E := E) rfl rfl rfl rfl) (pa_cons (pv 1) pa_nil)))
      (pss_cons (ps_set (i := 2) sc_scene_after.nd rfl (by first | exact .inl rfl | exact .inr rfl) (pe_make T.mk_Story (ok_Story__init_ T) (hr.mono (by decide)) (by rfl) T.g_Story T.b_Story__init_ .nil (passE (E := E)) (pa_cons (pv 0) pa_nil)))
      (pss_one (ps_ret (pe_ix ix_seq (pe_fld (pv 2) rfl) (pe_meth (pv 2) T.cl_Story T.me_Story_place_of (ok_Story_place_of T) (hr.mono (by decide)) T.b_Story_place_of .nil (passE (E := E)) (pa_cons (pv 1) pa_nil)) (fun _ _ => rfl)))))),
      (rs_seq (rs_drop (μ := none) (ref_call (fun _ _ => RepL.nil) (fun ds => runF_ar) (ref_acons (ref_var (by decide)) ref_anil)))
      (rs_seq (rs_set (by decide) (ref_make (fun _ _ => RepL.nil) (fun d ds => ar_Story__init_) (ref_acons (ref_var (by decide)) ref_anil)))
      (rs_ret (μ := none) (by intro z; cases z) (by intro _ z; cases z) (ref_op2 o2_ix (ref_fld T.cl_Story T.na_Story_scenes rfl nd_Story (ref_var (by decide))) (ref_meth (fun _ _ => RepL.nil) (fun ds => runF_ar) nm_Story_place_of (ref_var (by decide)) (ref_acons (ref_var (by decide)) ref_anil))))))⟩
theorem ok_at_home (T : Txt K mg A) : FnOk P w K mg base (L2N.CX P w) 8 A.f_at_home A.fd_at_home ["house", "tick"] (spM (S K A Hb lf) false 2 d_at_home) :=
  fnDN_ok (O := []) T.F_at_home sc_at_home (by decide) (by decide) fun cdv A2 outer s H E hr => ⟨_, (pss_one (ps_ret (pe_call (ok_people_at_home T) (hr.mono (by decide)) (by rfl) T.g_people_at_home T.F_people_at_home.kp T.b_people_at_home .nil (passE (E := E)) (pa_cons (pv 0) (pa_cons (pe_call (ok_scene_after T) (hr.mono (by decide)) (by rfl) T.g_scene_after T.F_scene_after.kp T.b_scene_after .nil (L2N.passX (E := E) rfl rfl rfl rfl) (pa_cons (pv 0) (pa_cons (pv 1) pa_nil))) (pa_cons (pv 1) pa_nil)))))),
      (rs_ret (μ := none) (by intro z; cases z) (by intro _ z; cases z) (ref_call (fun _ _ => RepL.nil) (fun ds => runF_ar) (ref_acons (ref_var (by decide)) (ref_acons (ref_call (fun _ _ => RepL.nil) (fun ds => runF_ar) (ref_acons (ref_var (by decide)) (ref_acons (ref_var (by decide)) ref_anil))) (ref_acons (ref_var (by decide)) ref_anil)))))⟩
theorem ok_events_between (T : Txt K mg A) : GFn P w K mg base 3 A.f_events_between A.fd_events_between ["house", "first", "last"] (spGe (S K A Hb lf) 3 d_events_between) := by
  refine gfnX_ok (S := S K A Hb lf) (m := b_events_between) T.F_events_between sc_events_between (by decide) fun cdv A2 outer s H E pn hr => ⟨_, (gss_cons (gs_ps (ps_expr (pe_call (ok_check_tick (Hb := Hb) (lf := lf) T) (hr.mono (by decide)) (by rfl) T.g_check_tick T.F_check_tick.kp T.b_check_tick .nil (L2N.passL (pass_gcx (E := E))) (pa_cons (pv 1) pa_nil))))
      (gss_cons (gs_ps (ps_expr (pe_call (ok_check_tick (Hb := Hb) (lf := lf) T) (hr.mono (by decide)) (by rfl) T.g_check_tick T.F_check_tick.kp T.b_check_tick .nil (L2N.passL (pass_gcx (E := E))) (pa_cons (pv 2) pa_nil)))) gss_never)), ?_⟩
  exact (rgx_next (rs_drop (μ := none) (ref_call (fun _ _ => RepL.nil) (fun ds => runF_ar) (ref_acons (ref_var (by decide)) ref_anil)))
      (rgx_here (rs_drop (μ := none) (ref_call (fun _ _ => RepL.nil) (fun ds => runF_ar) (ref_acons (ref_var (by decide)) ref_anil)))))
theorem ok_waiting (T : Txt K mg A) : FnOk P w K mg base (L2N.CX P w) 8 A.f_waiting A.fd_waiting ["house", "tick"] (spM (S K A Hb lf) false 2 d_waiting) :=
  fnDN_ok (O := []) T.F_waiting sc_waiting (by decide) (by decide) fun cdv A2 outer s H E hr => ⟨_, (pss_one (ps_ret (pe_ix ix_seq (pe_call (ok_scene_after T) (hr.mono (by decide)) (by rfl) T.g_scene_after T.F_scene_after.kp T.b_scene_after .nil (L2N.passX (E := E) rfl rfl rfl rfl) (pa_cons (pv 0) (pa_cons (pv 1) pa_nil))) pe_int (fun _ _ => rfl)))),
      (rs_ret (μ := none) (by intro z; cases z) (by intro _ z; cases z) (ref_op2 o2_ix (ref_call (fun _ _ => RepL.nil) (fun ds => runF_ar) (ref_acons (ref_var (by decide)) (ref_acons (ref_var (by decide)) ref_anil))) ref_int))⟩
theorem ok_is_open (T : Txt K mg A) : FnOk P w K mg base (L2N.CX P w) 8 A.f_is_open A.fd_is_open ["house", "tick"] (spM (S K A Hb lf) false 2 d_is_open) :=
  fnDN_ok (O := []) T.F_is_open sc_is_open (by decide) (by decide) fun cdv A2 outer s H E hr => ⟨_, (pss_one (ps_ret (pe_ix ix_seq (pe_call (ok_scene_after T) (hr.mono (by decide)) (by rfl) T.g_scene_after T.F_scene_after.kp T.b_scene_after .nil (L2N.passX (E := E) rfl rfl rfl rfl) (pa_cons (pv 0) (pa_cons (pv 1) pa_nil))) pe_int (fun _ _ => rfl)))),
      (rs_ret (μ := none) (by intro z; cases z) (by intro _ z; cases z) (ref_op2 o2_ix (ref_call (fun _ _ => RepL.nil) (fun ds => runF_ar) (ref_acons (ref_var (by decide)) (ref_acons (ref_var (by decide)) ref_anil))) ref_int))⟩
theorem ok_hook (T : Txt K mg A) : FnOk P w K mg base (L2N.CX P w) 8 A.f_hook A.fd_hook ["house", "tick"] (spM (S K A Hb lf) false 2 d_hook) :=
  fnDN_ok (O := []) T.F_hook sc_hook (by decide) (by decide) fun cdv A2 outer s H E hr => ⟨_, (pss_one (ps_ret (pe_ix ix_seq (pe_call (ok_scene_after T) (hr.mono (by decide)) (by rfl) T.g_scene_after T.F_scene_after.kp T.b_scene_after .nil (L2N.passX (E := E) rfl rfl rfl rfl) (pa_cons (pv 0) (pa_cons (pv 1) pa_nil))) pe_int (fun _ _ => rfl)))),
      (rs_ret (μ := none) (by intro z; cases z) (by intro _ z; cases z) (ref_op2 o2_ix (ref_call (fun _ _ => RepL.nil) (fun ds => runF_ar) (ref_acons (ref_var (by decide)) (ref_acons (ref_var (by decide)) ref_anil))) ref_int))⟩
theorem ok_holders (T : Txt K mg A) : FnOk P w K mg base (L2N.CX P w) 8 A.f_holders A.fd_holders ["house", "tick"] (spM (S K A Hb lf) false 2 d_holders) :=
  fnDN_ok (O := []) T.F_holders sc_holders (by decide) (by decide) fun cdv A2 outer s H E hr => ⟨_, (pss_one (ps_ret (pe_ix ix_seq (pe_call (ok_scene_after T) (hr.mono (by decide)) (by rfl) T.g_scene_after T.F_scene_after.kp T.b_scene_after .nil (L2N.passX (E := E) rfl rfl rfl rfl) (pa_cons (pv 0) (pa_cons (pv 1) pa_nil))) pe_int (fun _ _ => rfl)))),
      (rs_ret (μ := none) (by intro z; cases z) (by intro _ z; cases z) (ref_op2 o2_ix (ref_call (fun _ _ => RepL.nil) (fun ds => runF_ar) (ref_acons (ref_var (by decide)) (ref_acons (ref_var (by decide)) ref_anil))) ref_int))⟩
theorem ok_wait_ticks (T : Txt K mg A) : FnOk P w K mg base (L2N.CX P w) 4 A.f_wait_ticks A.fd_wait_ticks ["house", "person"] (spM (S K A Hb lf) false 2 d_wait_ticks) :=
  fnDN_ok (O := []) T.F_wait_ticks sc_wait_ticks (by decide) (by decide) fun cdv A2 outer s H E hr => ⟨_, (pss_cons (ps_expr (pe_call (ok_check_person T) (hr.mono (by decide)) (by rfl) T.g_check_person T.F_check_person.kp T.b_check_person .nil (L2N.passX (E := E) rfl rfl rfl rfl) (pa_cons (pv 0) (pa_cons (pv 1) pa_nil))))
      (pss_one ps_never)),
      (rs_seq (rs_drop (μ := none) (ref_call (fun _ _ => RepL.nil) (fun ds => runF_ar) (ref_acons (ref_var (by decide)) (ref_acons (ref_var (by decide)) ref_anil))))
      rs_bad)⟩
theorem ok_count_waits (T : Txt K mg A) : FnOk P w K mg base (L2N.CX P w) 4 A.f_count_waits A.fd_count_waits ["house", "person", "first", "last"] (spM (S K A Hb lf) false 4 d_count_waits) :=
  fnDN_ok (O := []) T.F_count_waits sc_count_waits (by decide) (by decide) fun cdv A2 outer s H E hr => ⟨_, (pss_cons (ps_expr (pe_call (ok_check_person T) (hr.mono (by decide)) (by rfl) T.g_check_person T.F_check_person.kp T.b_check_person .nil (L2N.passX (E := E) rfl rfl rfl rfl) (pa_cons (pv 0) (pa_cons (pv 1) pa_nil))))
      (pss_cons (ps_expr (pe_call (ok_check_tick T) (hr.mono (by decide)) (by rfl) T.g_check_tick T.F_check_tick.kp T.b_check_tick .nil (L2N.passX (E := E) rfl rfl rfl rfl) (pa_cons (pv 2) pa_nil)))
      (pss_cons (ps_expr (pe_call (ok_check_tick T) (hr.mono (by decide)) (by rfl) T.g_check_tick T.F_check_tick.kp T.b_check_tick .nil (L2N.passX (E := E) rfl rfl rfl rfl) (pa_cons (pv 3) pa_nil)))
      (pss_cons (ps_if (pt_cmpR op_lt (pv 3) (pv 2) (nomark _)) (pss_one (ps_ret pe_int)) pss_nil)
      (pss_cons ps_never
      (pss_cons ps_never
      (pss_one ps_never))))))),
      (rs_seq (rs_drop (μ := none) (ref_call (fun _ _ => RepL.nil) (fun ds => runF_ar) (ref_acons (ref_var (by decide)) (ref_acons (ref_var (by decide)) ref_anil))))
      (rs_seq (rs_drop (μ := none) (ref_call (fun _ _ => RepL.nil) (fun ds => runF_ar) (ref_acons (ref_var (by decide)) ref_anil)))
      (rs_seq (rs_drop (μ := none) (ref_call (fun _ _ => RepL.nil) (fun ds => runF_ar) (ref_acons (ref_var (by decide)) ref_anil)))
      (rs_seq (rs_if (μ := none) (ref_test (ref_op2 o2_ltI (ref_var (by decide)) (ref_var (by decide)))) (rs_ret (μ := none) (by intro z; cases z) (by intro _ z; cases z) ref_int) rs_next)
      (rs_seq rs_bad
      (rs_seq rs_bad
      rs_bad))))))⟩
theorem ok_next_entry (T : Txt K mg A) : FnOk P w K mg base (L2N.CX P w) 4 A.f_next_entry A.fd_next_entry ["house", "person", "tick"] (spM (S K A Hb lf) false 3 d_next_entry) :=
  fnDN_ok (O := []) T.F_next_entry sc_next_entry (by decide) (by decide) fun cdv A2 outer s H E hr => ⟨_, (pss_cons (ps_expr (pe_call (ok_check_person T) (hr.mono (by decide)) (by rfl) T.g_check_person T.F_check_person.kp T.b_check_person .nil (L2N.passX (E := E) rfl rfl rfl rfl) (pa_cons (pv 0) (pa_cons (pv 1) pa_nil))))
      (pss_cons (ps_expr (pe_call (ok_check_tick T) (hr.mono (by decide)) (by rfl) T.g_check_tick T.F_check_tick.kp T.b_check_tick .nil (L2N.passX (E := E) rfl rfl rfl rfl) (pa_cons (pv 2) pa_nil)))
      (pss_cons ps_never
      (pss_cons ps_never
      (pss_one ps_never))))),
      (rs_seq (rs_drop (μ := none) (ref_call (fun _ _ => RepL.nil) (fun ds => runF_ar) (ref_acons (ref_var (by decide)) (ref_acons (ref_var (by decide)) ref_anil))))
      (rs_seq (rs_drop (μ := none) (ref_call (fun _ _ => RepL.nil) (fun ds => runF_ar) (ref_acons (ref_var (by decide)) ref_anil)))
      (rs_seq rs_bad
      (rs_seq rs_bad
      rs_bad))))⟩
theorem ok_plan_reminders (T : Txt K mg A) : FnOk P w K mg base (L2N.CX P w) 2 A.f_plan_reminders A.fd_plan_reminders ["house", "limit"] (spM (S K A Hb lf) false 2 d_plan_reminders) :=
  fnDN_ok (O := []) T.F_plan_reminders sc_plan_reminders (by decide) (by decide) fun cdv A2 outer s H E hr => ⟨_, (pss_cons (ps_if (pt_not (pt_val (pe_call (ok_is_int_in T) (hr.mono (by decide)) (by rfl) T.g_is_int_in T.F_is_int_in.kp T.b_is_int_in .nil (passE (E := E)) (pa_cons (pv 1) (pa_cons pe_int (pa_cons (pe_glob (by rfl) T.c_MAX_ADDED.choose_spec.choose_spec.1 T.c_MAX_ADDED.choose_spec.choose_spec.2.1) pa_nil)))))) (pss_one (L2N.ps_raise rfl (L2N.takes_of rfl rfl rfl rfl) (L2N.pmk_own PySem.F.excBase_ValueError T.xp_InvalidLimit T.g_InvalidLimit T.xk_InvalidLimit (raises_own T.xe_InvalidLimit T.xy_InvalidLimit) (by rfl)))) pss_nil)
      (pss_cons ps_never
      (pss_cons ps_never
      (pss_cons ps_never
      (pss_one ps_never))))),
      (rs_seq (rs_if (μ := none) (ref_not (ref_testB (ref_call (fun _ _ => RepL.nil) (fun ds => runF_ar) (ref_acons (ref_var (by decide)) (ref_acons ref_int (ref_acons (ref_c (T.c_MAX_ADDED.choose_spec.choose_spec.2.2 _ _)) ref_anil)))))) (rs_raise0 (c := 4)) rs_next)
      (rs_seq rs_bad
      (rs_seq rs_bad
      (rs_seq rs_bad
      rs_bad))))⟩
theorem ok_law_below (T : Txt K mg A) : FnOk P w K mg base CX0 1 A.f_law_below A.fd_law_below ["_law_d", "_law_limit"] (spM0 (S K A Hb lf) 2 d_law_below) :=
  fnD_ok0 (O := []) T.F_law_below sc_law_below (by decide) (by decide) fun cdv A2 outer s H E hr => ⟨_, (pss_cons (ps_if (PW.pt (pw_and (pt_cmpR (op_eqX (hu64 hr)) (pe_ix ix_seq (pv 0) pe_int (fun _ _ => rfl)) pe_int (nomark _)) (pw_and1 (pt_cmpR op_gt (pe_callB call_len (by rfl) T.z_len bt_len (pa_cons (pv 0) pa_nil)) pe_int (nomark _))))) (pss_one (ps_asg (pe_bm PySem.F.plainAttrs_list PySem.F.slot_list_pop PySem.F.type_list_pop mt_popAt (pv 0) (pa_cons pe_int pa_nil)) (pg_sub (pv 0) pe_int set_list))) pss_nil)
      (pss_cons (ps_if (pt_cmpR op_gt (pe_ix ix_seq (pv 0) pe_int (fun _ _ => rfl)) pe_int (nomark _)) (pss_cons (ps_set (i := 2) sc_law_below.nd rfl (by first | exact .inl rfl | exact .inr rfl) (pe_op op_modN (pe_ix ix_seq (pv 0) pe_int (fun _ _ => rfl)) (pv 1)))
      (pss_cons (ps_asg (pe_op op_fdivN (pe_ix ix_seq (pv 0) pe_int (fun _ _ => rfl)) (pv 1)) (pg_sub (pv 0) pe_int set_list))
      (pss_one (ps_ret (pv 2))))) pss_nil)
      (pss_cons (ps_asg (pe_op op_modN (pe_op op_addX (pe_op op_mul (pe_ix ix_seq (pv 0) pe_int (fun _ _ => rfl)) pe_int) pe_int) pe_int) (pg_sub (pv 0) pe_int set_list))
      (pss_one (ps_ret (pe_op op_modN (pe_op op_fdivN (pe_ix ix_seq (pv 0) pe_int (fun _ _ => rfl)) pe_int) (pv 1))))))),
      (rs_seq (rs_if (μ := none) (ref_upT (U := [0]) (ref_and (ref_test (ref_op2 o2_eq (ref_op2 o2_ix (ref_own (by decide) (by decide)) ref_int) ref_int)) (ref_test (ref_op2 o2_gtI (ref_opA oA_len (ref_acons (ref_own (by decide) (by decide)) ref_anil)) ref_int)))) (rs_setIx (by decide) (ref_popAt (by decide))) rs_next)
      (rs_seq (rs_if (μ := none) (ref_upT (U := [0]) (ref_test (ref_op2 o2_gtI (ref_op2 o2_ix (ref_own (by decide) (by decide)) ref_int) ref_int))) (rs_seq (rs_set (by decide) (ref_up (U := [0]) (ref_op2 o2_mod (ref_op2 o2_ix (ref_own (by decide) (by decide)) ref_int) (ref_var (by decide)))))
      (rs_seq (rs_setIx (by decide) (ref_up (U := [0]) (ref_op2 o2_fdiv (ref_op2 o2_ix (ref_own (by decide) (by decide)) ref_int) (ref_var (by decide)))))
      (rs_ret (μ := none) (by intro z; cases z) (by intro _ z; cases z) (ref_var (by decide))))) rs_next)
      (rs_seq (rs_setIx (by decide) (ref_up (U := [0]) (ref_op2 o2_mod (ref_op2 o2_add (ref_op2 o2_mul (ref_op2 o2_ix (ref_own (by decide) (by decide)) ref_int) ref_int) ref_int) ref_int)))
      (rs_ret (μ := none) (by intro z; cases z) (by intro _ z; cases z) (ref_up (U := [0]) (ref_op2 o2_mod (ref_op2 o2_fdiv (ref_op2 o2_ix (ref_own (by decide) (by decide)) ref_int) ref_int) (ref_var (by decide))))))))⟩
theorem ok_law_table (T : Txt K mg A) : FnOk P w K mg base CX0 2 A.f_law_table A.fd_law_table ["_law_d"] (spM0 (S K A Hb lf) 1 d_law_table) :=
  fnD_ok0 (O := []) T.F_law_table sc_law_table (by decide) (by decide) fun cdv A2 outer s H E hr => ⟨_, (pss_cons (ps_set (i := 1) sc_law_table.nd rfl (by first | exact .inl rfl | exact .inr rfl) (pe_ix ix_seq (pe_lst (pa_cons pe_int (pa_cons pe_int (pa_cons pe_int (pa_cons pe_int (pa_cons pe_int (pa_cons pe_int (pa_cons pe_int (pa_cons pe_int (pa_cons pe_int pa_nil)))))))))) (pe_call (ok_law_below T) (hr.mono (by decide)) (by rfl) T.g_law_below T.F_law_below.kp T.b_law_below .nil (passE (E := E)) (pa_cons (pv 0) (pa_cons (pe_ix ix_seq (pe_lst (pa_cons pe_int (pa_cons pe_int (pa_cons pe_int pa_nil)))) (pe_call (ok_law_below T) (hr.mono (by decide)) (by rfl) T.g_law_below T.F_law_below.kp T.b_law_below .nil (passE (E := E)) (pa_cons (pv 0) (pa_cons pe_int pa_nil))) (fun _ _ => rfl)) pa_nil))) (fun _ _ => rfl)))
      (pss_one (ps_ret (pe_join pe_str (pe_lc rfl sc_law_table.nd (pi_range1 (by rfl) T.z_range (pa_cons (pv 1) pa_nil)) (blkOk_by (own := [("_law_k", 2)]) (by kernel_rfl)) (fun _ _ _ _ _ => (pg_name (i := 2) sc_law_table.nd rfl (by first | exact .inl rfl | exact .inr rfl))) (fun _ _ _ _ _ => pts_nil) (fun _ _ _ _ _ => (pe_ix ix_seq pe_str (pe_call (ok_law_below T) (hr.mono (by decide)) (by rfl) T.g_law_below T.F_law_below.kp T.b_law_below .nil (passE (E := E)) (pa_cons (pv 0) (pa_cons pe_int pa_nil))) (fun _ _ => rfl)))))))),
      (rs_seq (rs_set (by decide) (ref_op2 o2_ix (ref_lst (ref_acons ref_int (ref_acons ref_int (ref_acons ref_int (ref_acons ref_int (ref_acons ref_int (ref_acons ref_int (ref_acons ref_int (ref_acons ref_int (ref_acons ref_int ref_anil)))))))))) (ref_callO (by decide) (fun d ds => runF0_ar) (ref_acons (ref_op2 o2_ix (ref_lst (ref_acons ref_int (ref_acons ref_int (ref_acons ref_int ref_anil)))) (ref_callO (by decide) (fun d ds => runF0_ar) (ref_acons ref_int ref_anil))) ref_anil))))
      (rs_ret (μ := none) (by intro z; cases z) (by intro _ z; cases z) (ref_m1 o2_join ref_str (ref_lc (E1 := E) (E2 := E) (vs := [2]) (ri_range1 (ref_acons (ref_var (by decide)) ref_anil)) (rg_set (by decide)) rt_yes (ref_op2 o2_ix ref_str (ref_callO (by decide) (fun d ds => runF0_ar) (ref_acons ref_int ref_anil))) (by decide) (by decide)))))⟩
theorem ok_law_length (T : Txt K mg A) : FnOk P w K mg base CX0 1 A.f_law_length A.fd_law_length ["_law_tables"] (spM (S K A Hb lf) false 1 d_law_length) :=
  fnD_ok (O := []) T.F_law_length sc_law_length (by decide) (by decide) fun cdv A2 outer s H E hr => ⟨_, (pss_cons (ps_set (i := 1) sc_law_length.nd rfl (by first | exact .inl rfl | exact .inr rfl) pe_int)
      (pss_cons (ps_while PassesOwn.never (pt_cmpR (op_neX (hu64 hr)) (pe_lc rfl sc_law_length.nd (pi_seqX (pv 0)) (blkOk_by (own := [("_law_table_here", 2)]) (by kernel_rfl)) (fun _ _ _ _ _ => (pg_name (i := 2) sc_law_length.nd rfl (by first | exact .inl rfl | exact .inr rfl))) (fun _ _ _ _ _ => (pts_one (pt_cmpR op_gt (pe_op op_modN (pv 1) (pe_callB call_len (by rfl) T.z_len bt_len (pa_cons (pv 2) pa_nil))) pe_int (nomark _)))) (fun _ _ _ _ _ => (pv 2))) (pe_lst pa_nil) (nomark _)) (pss_one (ps_set (i := 1) sc_law_length.nd rfl (by first | exact .inl rfl | exact .inr rfl) (pe_op op_addX (pv 1) pe_int))))
      (pss_one (ps_ret (pv 1))))),
      (rs_seq (rs_set (by decide) ref_int)
      (rs_seq (rs_while (ref_test (ref_op2 o2_ne (ref_lc (E1 := E) (E2 := E) (vs := [2]) (ri_seq (ref_var (by decide))) (rg_set (by decide)) (ref_test (ref_op2 o2_gtI (ref_op2 o2_mod (ref_var (by decide)) (ref_opA oA_len (ref_acons (ref_var (by decide)) ref_anil))) ref_int)) (ref_var (by decide)) (by decide) (by decide)) (ref_lst ref_anil))) (rs_set (by decide) (ref_op2 o2_add (ref_var (by decide)) ref_int)))
      (rs_ret (μ := none) (by intro z; cases z) (by intro _ z; cases z) (ref_var (by decide)))))⟩
theorem ok_law_parts (T : Txt K mg A) : FnOk P w K mg base CX0 3 A.f_law_parts A.fd_law_parts ["_law_d", "_law_most"] (spM0 (S K A Hb lf) 2 d_law_parts) :=
  fnD_ok0 (O := [6]) T.F_law_parts sc_law_parts (by decide) (by decide) fun cdv A2 outer s H E hr => ⟨_, (pss_cons (ps_set (i := 2) sc_law_parts.nd rfl (by first | exact .inl rfl | exact .inr rfl) (pe_callTy call_tuple_of (by rfl) T.z_tuple bt_tuple (pa_cons (pe_lc rfl sc_law_parts.nd (pi_range1 (by rfl) T.z_range (pa_cons (pe_op op_addX pe_int (pe_call (ok_law_below T) (hr.mono (by decide)) (by rfl) T.g_law_below T.F_law_below.kp T.b_law_below .nil (passE (E := E)) (pa_cons (pv 0) (pa_cons (pv 1) pa_nil)))) pa_nil)) (blkOk_by (own := [("_law_k", 4)]) (by kernel_rfl)) (fun _ _ _ _ _ => (pg_name (i := 4) sc_law_parts.nd rfl (by first | exact .inl rfl | exact .inr rfl))) (fun _ _ _ _ _ => pts_nil) (fun _ _ _ _ _ => (pe_call (ok_law_table T) (hr.mono (by decide)) (by rfl) T.g_law_table T.F_law_table.kp T.b_law_table .nil (passE (E := E)) (pa_cons (pv 0) pa_nil)))) pa_nil)))
      (pss_cons (ps_set (i := 3) sc_law_parts.nd rfl (by first | exact .inl rfl | exact .inr rfl) (pe_callTy call_tuple_of (by rfl) T.z_tuple bt_tuple (pa_cons (pe_lc rfl sc_law_parts.nd (pi_range1 (by rfl) T.z_range (pa_cons (pe_callB call_len (by rfl) T.z_len bt_len (pa_cons (pv 2) pa_nil)) pa_nil)) (blkOk_by (own := [("_law_k", 4)]) (by kernel_rfl)) (fun _ _ _ _ _ => (pg_name (i := 4) sc_law_parts.nd rfl (by first | exact .inl rfl | exact .inr rfl))) (fun _ _ _ _ _ => (pts_one (pt_cmpR (op_eqX (hu64 hr)) (pe_call (ok_law_below T) (hr.mono (by decide)) (by rfl) T.g_law_below T.F_law_below.kp T.b_law_below .nil (passE (E := E)) (pa_cons (pv 0) (pa_cons pe_int pa_nil))) pe_int (nomark _)))) (fun _ _ _ _ _ => (pv 4))) pa_nil)))
      (pss_cons (ps_par (i := 5) (j := 6) rfl sc_law_parts.nd rfl rfl (by decide) rfl rfl (pa_cons (pe_call (ok_law_length T) (hr.mono (by decide)) (by rfl) T.g_law_length T.F_law_length.kp T.b_law_length .nil (passE (E := E)) (pa_cons (pv 2) pa_nil)) (pa_cons (pe_lst pa_nil) pa_nil)) rfl)
      (pss_cons (ps_for PassesOwn.never rfl (pi_range1 (by rfl) T.z_range (pa_cons (pe_call (ok_law_below T) (hr.mono (by decide)) (by rfl) T.g_law_below T.F_law_below.kp T.b_law_below .nil (passE (E := E)) (pa_cons (pv 0) (pa_cons (pe_ix ix_seq (pe_lst (pa_cons pe_int (pa_cons pe_int (pa_cons pe_int pa_nil)))) (pe_call (ok_law_below T) (hr.mono (by decide)) (by rfl) T.g_law_below T.F_law_below.kp T.b_law_below .nil (passE (E := E)) (pa_cons (pv 0) (pa_cons pe_int pa_nil))) (fun _ _ => rfl)) pa_nil))) pa_nil)) (pg_name (i := 4) sc_law_parts.nd rfl (by first | exact .inl rfl | exact .inr rfl)) (pss_cons (ps_set (i := 7) sc_law_parts.nd rfl (by first | exact .inl rfl | exact .inr rfl) (pe_tup (pa_cons (pe_call (ok_law_below T) (hr.mono (by decide)) (by rfl) T.g_law_below T.F_law_below.kp T.b_law_below .nil (passE (E := E)) (pa_cons (pv 0) (pa_cons (pv 5) pa_nil))) (pa_cons (pe_call (ok_law_below T) (hr.mono (by decide)) (by rfl) T.g_law_below T.F_law_below.kp T.b_law_below .nil (passE (E := E)) (pa_cons (pv 0) (pa_cons (pe_callB call_len (by rfl) T.z_len bt_len (pa_cons (pv 2) pa_nil)) pa_nil))) pa_nil))))
      (pss_one (ps_if (pt_cmpR (op_notInX (hu65 hr)) (pv 7) (pv 6) (by rfl)) (pss_one (ps_expr (pe_bm PySem.F.plainAttrs_list PySem.F.slot_list_append PySem.F.type_list_append mt_append (pv 6) (pa_cons (pv 7) pa_nil)))) pss_nil))))
      (pss_one (ps_ret (pe_tup (pa_cons (pv 2) (pa_cons (pe_call (ok_law_below T) (hr.mono (by decide)) (by rfl) T.g_law_below T.F_law_below.kp T.b_law_below .nil (passE (E := E)) (pa_cons (pv 0) (pa_cons (pe_ix ix_seq (pe_lst (pa_cons pe_int (pa_cons pe_int pa_nil))) (pe_call (ok_law_below T) (hr.mono (by decide)) (by rfl) T.g_law_below T.F_law_below.kp T.b_law_below .nil (passE (E := E)) (pa_cons (pv 0) (pa_cons pe_int pa_nil))) (fun _ _ => rfl)) pa_nil))) (pa_cons (pv 3) (pa_cons (pe_callTy call_tuple_of (by rfl) T.z_tuple bt_tuple (pa_cons (pe_callB cr_sortX (by rfl) T.z_sorted bt_sorted (pa_cons (pv 6) pa_nil)) pa_nil)) pa_nil))))))))))),
      (rs_seq (rs_set (by decide) (ref_opA oA_tuple (ref_acons (ref_lc (E1 := E) (E2 := E) (vs := [4]) (ri_range1 (ref_acons (ref_op2 o2_add ref_int (ref_callO (by decide) (fun d ds => runF0_ar) (ref_acons (ref_var (by decide)) ref_anil))) ref_anil)) (rg_set (by decide)) rt_yes (ref_callO (by decide) (fun d ds => runF0_ar) ref_anil) (by decide) (by decide)) ref_anil)))
      (rs_seq (rs_set (by decide) (ref_opA oA_tuple (ref_acons (ref_lc (E1 := E) (E2 := E) (vs := [4]) (ri_range1 (ref_acons (ref_opA oA_len (ref_acons (ref_var (by decide)) ref_anil)) ref_anil)) (rg_set (by decide)) (ref_test (ref_op2 o2_eq (ref_callO (by decide) (fun d ds => runF0_ar) (ref_acons ref_int ref_anil)) ref_int)) (ref_var (by decide)) (by decide) (by decide)) ref_anil)))
      (rs_seq (rs_parO (by decide) (by decide) (by decide) (ref_call (fun _ _ => RepL.nil) (fun ds => runF_ar) (ref_acons (ref_var (by decide)) ref_anil)) (ref_lst ref_anil))
      (rs_seq (rs_for (ri_range1 (ref_acons (ref_callO (by decide) (fun d ds => runF0_ar) (ref_acons (ref_op2 o2_ix (ref_lst (ref_acons ref_int (ref_acons ref_int (ref_acons ref_int ref_anil)))) (ref_callO (by decide) (fun d ds => runF0_ar) (ref_acons ref_int ref_anil))) ref_anil)) ref_anil)) (rg_set (by decide)) (rs_seq (rs_set (by decide) (ref_tup (ref_acons (ref_callO (by decide) (fun d ds => runF0_ar) (ref_acons (ref_var (by decide)) ref_anil)) (ref_acons (ref_callO (by decide) (fun d ds => runF0_ar) (ref_acons (ref_opA oA_len (ref_acons (ref_var (by decide)) ref_anil)) ref_anil)) ref_anil))))
      (rs_if (μ := none) (ref_upT (U := [0, 6]) (ref_test (ref_op2 o2_notIn (ref_var (by decide)) (ref_own (by decide) (by decide))))) (rs_app (by decide) (ref_var (by decide))) rs_next)))
      (rs_ret (μ := none) (by intro z; cases z) (by intro _ z; cases z) (ref_tup (ref_acons (ref_var (by decide)) (ref_acons (ref_callO (by decide) (fun d ds => runF0_ar) (ref_acons (ref_op2 o2_ix (ref_lst (ref_acons ref_int (ref_acons ref_int ref_anil))) (ref_callO (by decide) (fun d ds => runF0_ar) (ref_acons ref_int ref_anil))) ref_anil)) (ref_acons (ref_var (by decide)) (ref_acons (ref_up (U := [0, 6]) (ref_opA oA_tuple (ref_acons (ref_opA oA_sorted (ref_acons (ref_own (by decide) (by decide)) ref_anil)) ref_anil))) ref_anil))))))))))⟩
theorem ok_law_house (T : Txt K mg A) : FnOk P w K mg base CX0 5 A.f_law_house A.fd_law_house ["_law_parts_here"] (spM (S K A Hb lf) false 1 d_law_house) :=
  fnD_ok (O := []) T.F_law_house sc_law_house (by decide) (by decide) fun cdv A2 outer s H E hr => ⟨_, (pss_one (ps_ret (pe_make T.mk_House (ok_House__init_ T) (hr.mono (by decide)) (by rfl) T.g_House T.b_House__init_ .nil (passE (E := E)) (pa_cons (pe_ix ix_seq (pv 0) pe_int (fun _ _ => rfl)) (pa_cons (pe_ix ix_seq (pv 0) pe_int (fun _ _ => rfl)) (pa_cons (pe_ix ix_seq (pv 0) pe_int (fun _ _ => rfl)) (pa_cons (pe_ix ix_seq (pv 0) pe_int (fun _ _ => rfl)) pa_nil))))))),
      (rs_ret (μ := none) (by intro z; cases z) (by intro _ z; cases z) (ref_make (fun _ _ => RepL.nil) (fun d ds => runF0_ar) (ref_acons (ref_op2 o2_ix (ref_var (by decide)) ref_int) (ref_acons (ref_op2 o2_ix (ref_var (by decide)) ref_int) (ref_acons (ref_op2 o2_ix (ref_var (by decide)) ref_int) (ref_acons (ref_op2 o2_ix (ref_var (by decide)) ref_int) ref_anil))))))⟩
theorem ok_law_error_of (T : Txt K mg A) : CloX0 P w K mg (S K A Hb lf) 14 16 ["_law_call"] A.f_law_error_of A.fd_law_error_of hx_law_error_of :=
  fun base1 f0 sp0 F => errX_ok (S := S K A Hb lf) 1 T.F_law_error_of sc_law_error_of (by decide) rfl (fun cdv A2 outer s H E hr => ⟨_, _, _, (pss_cons (ps_try_as (i := 1) rfl rfl sc_law_error_of.nd rfl rfl ⟨rfl, by decide, .inl T.g_HouseError⟩ takes0 (fun W pn xe tk _ => pss_one (ps_expr (pe_callV00 F (hr.mono (by decide)) (by rfl) (by first | exact .inl rfl | exact .inr (.inl rfl) | exact .inr (.inr rfl)) (fun σ => passAt tk σ)))) (fun a oe cls dd pn hz hf => (pss_cons (ps_set (i := 2) sc_law_error_of.nd rfl (by first | exact .inl rfl | exact .inr rfl) (pe_lst (pa_cons (pe_callB (call_isX hz hf) (by rfl) T.z_isinstance bt_isinstance (pa_cons (pv 1) (pa_cons (pe_glob (v := .ref A.C_InvalidTick) (by rfl) T.g_InvalidTick rfl) pa_nil))) (pa_cons (pe_callB (call_isX hz hf) (by rfl) T.z_isinstance bt_isinstance (pa_cons (pv 1) (pa_cons (pe_glob (v := .ref A.C_UnknownPerson) (by rfl) T.g_UnknownPerson rfl) pa_nil))) (pa_cons (pe_callB (call_isX hz hf) (by rfl) T.z_isinstance bt_isinstance (pa_cons (pv 1) (pa_cons (pe_glob (v := .ref A.C_InvalidLimit) (by rfl) T.g_InvalidLimit rfl) pa_nil))) pa_nil)))))
      (pss_cons (ps_set (i := 2) sc_law_error_of.nd rfl (by first | exact .inl rfl | exact .inr rfl) (pe_op op_addXS (pv 2) (pe_lst (pa_cons (pe_callB (call_isX hz hf) (by rfl) T.z_isinstance bt_isinstance (pa_cons (pv 1) (pa_cons (pe_glob (v := .ref A.C_DifferentHouses) (by rfl) T.g_DifferentHouses rfl) pa_nil))) (pa_cons (pe_callB (call_isX hz hf) (by rfl) T.z_isinstance bt_isinstance (pa_cons (pv 1) (pa_cons (pe_glob (v := .ref A.C_InvalidWaiting) (by rfl) T.g_InvalidWaiting rfl) pa_nil))) (pa_cons (pe_callB (call_isX hz hf) (by rfl) T.z_isinstance bt_isinstance (pa_cons (pv 1) (pa_cons (pe_glob (v := .ref A.C_Contradiction) (by rfl) T.g_Contradiction rfl) pa_nil))) pa_nil))))))
      (pss_cons (ps_set (i := 2) sc_law_error_of.nd rfl (by first | exact .inl rfl | exact .inr rfl) (pe_op op_addXS (pv 2) (pe_lst (pa_cons (pe_callB (call_isX hz hf) (by rfl) T.z_isinstance bt_isinstance (pa_cons (pv 1) (pa_cons (pe_glob (v := .ref A.C_InvalidName) (by rfl) T.g_InvalidName rfl) pa_nil))) (pa_cons (pe_callB (call_isX hz hf) (by rfl) T.z_isinstance bt_isinstance (pa_cons (pv 1) (pa_cons (pe_glob (v := .ref A.C_UnknownName) (by rfl) T.g_UnknownName rfl) pa_nil))) (pa_cons (pe_callB (call_isX hz hf) (by rfl) T.z_isinstance bt_isinstance (pa_cons (pv 1) (pa_cons (pe_glob (v := .ref A.C_InvalidHouse) (by rfl) T.g_InvalidHouse rfl) pa_nil))) pa_nil))))))
      (pss_cons (ps_set (i := 2) sc_law_error_of.nd rfl (by first | exact .inl rfl | exact .inr rfl) (pe_op op_addXS (pv 2) (pe_lst (pa_cons (pe_callB (call_isX hz hf) (by rfl) T.z_isinstance bt_isinstance (pa_cons (pv 1) (pa_cons (pe_glob (v := .ref A.C_TextFault) (by rfl) T.g_TextFault rfl) pa_nil))) (pa_cons (pe_callB (call_isX hz hf) (by rfl) T.z_isinstance bt_isinstance (pa_cons (pv 1) (pa_cons (pe_glob (v := .ref A.C_InvalidCode) (by rfl) T.g_InvalidCode rfl) pa_nil))) (pa_cons (pe_callB (call_isX hz hf) (by rfl) T.z_isinstance bt_isinstance (pa_cons (pv 1) (pa_cons (pe_glob (v := .ref A.C_InvalidOperation) (by rfl) T.g_InvalidOperation rfl) pa_nil))) pa_nil))))))
      (pss_cons (ps_if (PW.pt (pw_or (pt_cmpR (op_neXS (hu64 hr)) (pe_bmS PySem.F.plainAttrs_list PySem.F.slot_list_count PySem.F.type_list_count mt_cntBS (pv 2) (pa_cons pe_bl pa_nil)) pe_int (nomark _)) (pw_or1 (pt_not (pt_val (pe_callB (call_isX hz hf) (by rfl) T.z_isinstance bt_isinstance (pa_cons (pv 1) (pa_cons (pe_bltn (v := .ty "ValueError") (by rfl) T.z_ValueError PyProof.Rows.Boot.«ValueError» rfl) pa_nil)))))))) (pss_one (ps_ret (pe_tup (pa_cons pe_str (pa_cons pe_int pa_nil))))) pss_nil)
      (pss_cons (ps_set (i := 3) sc_law_error_of.nd rfl (by first | exact .inl rfl | exact .inr rfl) (pe_lst (pa_cons pe_str (pa_cons pe_str (pa_cons pe_str (pa_cons pe_str (pa_cons pe_str (pa_cons pe_str (pa_cons pe_str (pa_cons pe_str (pa_cons pe_str (pa_cons pe_str pa_nil))))))))))))
      (pss_cons (ps_set (i := 4) sc_law_error_of.nd rfl (by first | exact .inl rfl | exact .inr rfl) (pe_ix ix_seqS (pe_op op_addXS (pv 3) (pe_lst (pa_cons pe_str (pa_cons pe_str pa_nil)))) (pe_bmS PySem.F.plainAttrs_list PySem.F.slot_list_index PySem.F.type_list_index (mt_indexDS (hu65 hr)) (pv 2) (pa_cons pe_bl pa_nil)) (fun _ _ => rfl)))
      (pss_cons (ps_if (pt_cmpR (op_eqXS (hu64 hr)) (pv 4) pe_str (nomark _)) (pss_one (ps_ret (pe_tup (pa_cons (pv 4) (pa_cons (pe_tup (pa_cons (pe_xg hz hf (pv 1)) (pa_cons (pe_xg hz hf (pv 1)) pa_nil))) pa_nil))))) pss_nil)
      (pss_cons (ps_if (pt_cmpR (op_eqXS (hu64 hr)) (pv 4) pe_str (nomark _)) (pss_one (ps_ret (pe_tup (pa_cons (pv 4) (pa_cons (pe_xg hz hf (pv 1)) pa_nil))))) pss_nil)
      (pss_one (ps_ret (pe_tup (pa_cons (pv 4) (pa_cons (pe_ifExp (pt_cmpR (op_inXS (hu65 hr)) (pv 4) (pe_lst (pa_cons pe_str (pa_cons pe_str pa_nil))) (by rfl)) (pe_xg hz hf (pv 1)) pe_int) pa_nil))))))))))))))))
      (pss_one (ps_ret pe_non))),
      (List.forall_mem_cons.mpr ⟨(fun x a cls dd Hc E ex xr => (rs_seq (rs_set (by decide) (ref_lst (ref_acons (ref_isX (by decide) (xr.1.trans (congrArg (fun n => Value.ref (Sc.ca (S K A) n)) ex)) T.xc_InvalidTick (DdAt.of xr) (fun _ z => z) T.kt_InvalidTick_InvalidTick) (ref_acons (ref_isX (by decide) (xr.1.trans (congrArg (fun n => Value.ref (Sc.ca (S K A) n)) ex)) T.xc_InvalidTick (DdAt.of xr) (fun _ z => z) T.kt_InvalidTick_UnknownPerson) (ref_acons (ref_isX (by decide) (xr.1.trans (congrArg (fun n => Value.ref (Sc.ca (S K A) n)) ex)) T.xc_InvalidTick (DdAt.of xr) (fun _ z => z) T.kt_InvalidTick_InvalidLimit) ref_anil)))))
      (rs_seq (rs_set (by decide) (ref_op2 o2_add (ref_var (by decide)) (ref_lst (ref_acons (ref_isX (by decide) (xr.1.trans (congrArg (fun n => Value.ref (Sc.ca (S K A) n)) ex)) T.xc_InvalidTick (DdAt.of xr) (fun _ z => z) T.kt_InvalidTick_DifferentHouses) (ref_acons (ref_isX (by decide) (xr.1.trans (congrArg (fun n => Value.ref (Sc.ca (S K A) n)) ex)) T.xc_InvalidTick (DdAt.of xr) (fun _ z => z) T.kt_InvalidTick_InvalidWaiting) (ref_acons (ref_isX (by decide) (xr.1.trans (congrArg (fun n => Value.ref (Sc.ca (S K A) n)) ex)) T.xc_InvalidTick (DdAt.of xr) (fun _ z => z) T.kt_InvalidTick_Contradiction) ref_anil))))))
      (rs_seq (rs_set (by decide) (ref_op2 o2_add (ref_var (by decide)) (ref_lst (ref_acons (ref_isX (by decide) (xr.1.trans (congrArg (fun n => Value.ref (Sc.ca (S K A) n)) ex)) T.xc_InvalidTick (DdAt.of xr) (fun _ z => z) T.kt_InvalidTick_InvalidName) (ref_acons (ref_isX (by decide) (xr.1.trans (congrArg (fun n => Value.ref (Sc.ca (S K A) n)) ex)) T.xc_InvalidTick (DdAt.of xr) (fun _ z => z) T.kt_InvalidTick_UnknownName) (ref_acons (ref_isX (by decide) (xr.1.trans (congrArg (fun n => Value.ref (Sc.ca (S K A) n)) ex)) T.xc_InvalidTick (DdAt.of xr) (fun _ z => z) T.kt_InvalidTick_InvalidHouse) ref_anil))))))
      (rs_seq (rs_set (by decide) (ref_op2 o2_add (ref_var (by decide)) (ref_lst (ref_acons (ref_isX (by decide) (xr.1.trans (congrArg (fun n => Value.ref (Sc.ca (S K A) n)) ex)) T.xc_InvalidTick (DdAt.of xr) (fun _ z => z) T.kt_InvalidTick_TextFault) (ref_acons (ref_isX (by decide) (xr.1.trans (congrArg (fun n => Value.ref (Sc.ca (S K A) n)) ex)) T.xc_InvalidTick (DdAt.of xr) (fun _ z => z) T.kt_InvalidTick_InvalidCode) (ref_acons (ref_isX (by decide) (xr.1.trans (congrArg (fun n => Value.ref (Sc.ca (S K A) n)) ex)) T.xc_InvalidTick (DdAt.of xr) (fun _ z => z) T.kt_InvalidTick_InvalidOperation) ref_anil))))))
      (rs_seq (rs_if (μ := none) (ref_or (ref_test (ref_op2 o2_ne (ref_cnt (ref_var (by decide)) ref_bl) ref_int)) (ref_not (ref_testB (ref_isX (by decide) (xr.1.trans (congrArg (fun n => Value.ref (Sc.ca (S K A) n)) ex)) T.xc_InvalidTick (DdAt.of xr) (fun _ z => z) T.kt_InvalidTick_ValueError)))) (rs_ret (μ := none) (by intro z; cases z) (by intro _ z; cases z) (ref_tup (ref_acons ref_str (ref_acons ref_int ref_anil)))) rs_next)
      (rs_seq (rs_set (by decide) (ref_lst (ref_acons ref_str (ref_acons ref_str (ref_acons ref_str (ref_acons ref_str (ref_acons ref_str (ref_acons ref_str (ref_acons ref_str (ref_acons ref_str (ref_acons ref_str (ref_acons ref_str ref_anil))))))))))))
      (rs_seq (rs_set (by decide) (ref_op2 o2_ix (ref_op2 o2_add (ref_var (by decide)) (ref_lst (ref_acons ref_str (ref_acons ref_str ref_anil)))) (ref_index (ref_var (by decide)) ref_bl)))
      (rs_seq (rs_if (μ := none) (ref_test (ref_op2 o2_eq (ref_var (by decide)) ref_str)) (rs_ret (μ := none) (by intro z; cases z) (by intro _ z; cases z) (ref_tup (ref_acons (ref_var (by decide)) (ref_acons (ref_tup (ref_acons (ref_bad (fr := false)) (ref_acons (ref_bad (fr := false)) ref_anil))) ref_anil)))) rs_next)
      (rs_seq (rs_if (μ := none) (ref_test (ref_op2 o2_eq (ref_var (by decide)) ref_str)) (rs_ret (μ := none) (by intro z; cases z) (by intro _ z; cases z) (ref_tup (ref_acons (ref_var (by decide)) (ref_acons (ref_bad (fr := false)) ref_anil)))) rs_next)
      (rs_ret (μ := none) (by intro z; cases z) (by intro _ z; cases z) (ref_tup (ref_acons (ref_var (by decide)) (ref_acons (ref_if (ref_test (ref_op2 o2_in (ref_var (by decide)) (ref_lst (ref_acons ref_str (ref_acons ref_str ref_anil))))) (ref_bad (fr := false)) ref_int) ref_anil)))))))))))))), (List.forall_mem_cons.mpr ⟨(fun x a cls dd Hc E ex xr => (rs_seq (rs_set (by decide) (ref_lst (ref_acons (ref_isX (by decide) (xr.1.trans (congrArg (fun n => Value.ref (Sc.ca (S K A) n)) ex)) T.xc_UnknownPerson (DdAt.of xr) (fun _ z => z) T.kt_UnknownPerson_InvalidTick) (ref_acons (ref_isX (by decide) (xr.1.trans (congrArg (fun n => Value.ref (Sc.ca (S K A) n)) ex)) T.xc_UnknownPerson (DdAt.of xr) (fun _ z => z) T.kt_UnknownPerson_UnknownPerson) (ref_acons (ref_isX (by decide) (xr.1.trans (congrArg (fun n => Value.ref (Sc.ca (S K A) n)) ex)) T.xc_UnknownPerson (DdAt.of xr) (fun _ z => z) T.kt_UnknownPerson_InvalidLimit) ref_anil)))))
      (rs_seq (rs_set (by decide) (ref_op2 o2_add (ref_var (by decide)) (ref_lst (ref_acons (ref_isX (by decide) (xr.1.trans (congrArg (fun n => Value.ref (Sc.ca (S K A) n)) ex)) T.xc_UnknownPerson (DdAt.of xr) (fun _ z => z) T.kt_UnknownPerson_DifferentHouses) (ref_acons (ref_isX (by decide) (xr.1.trans (congrArg (fun n => Value.ref (Sc.ca (S K A) n)) ex)) T.xc_UnknownPerson (DdAt.of xr) (fun _ z => z) T.kt_UnknownPerson_InvalidWaiting) (ref_acons (ref_isX (by decide) (xr.1.trans (congrArg (fun n => Value.ref (Sc.ca (S K A) n)) ex)) T.xc_UnknownPerson (DdAt.of xr) (fun _ z => z) T.kt_UnknownPerson_Contradiction) ref_anil))))))
      (rs_seq (rs_set (by decide) (ref_op2 o2_add (ref_var (by decide)) (ref_lst (ref_acons (ref_isX (by decide) (xr.1.trans (congrArg (fun n => Value.ref (Sc.ca (S K A) n)) ex)) T.xc_UnknownPerson (DdAt.of xr) (fun _ z => z) T.kt_UnknownPerson_InvalidName) (ref_acons (ref_isX (by decide) (xr.1.trans (congrArg (fun n => Value.ref (Sc.ca (S K A) n)) ex)) T.xc_UnknownPerson (DdAt.of xr) (fun _ z => z) T.kt_UnknownPerson_UnknownName) (ref_acons (ref_isX (by decide) (xr.1.trans (congrArg (fun n => Value.ref (Sc.ca (S K A) n)) ex)) T.xc_UnknownPerson (DdAt.of xr) (fun _ z => z) T.kt_UnknownPerson_InvalidHouse) ref_anil))))))
      (rs_seq (rs_set (by decide) (ref_op2 o2_add (ref_var (by decide)) (ref_lst (ref_acons (ref_isX (by decide) (xr.1.trans (congrArg (fun n => Value.ref (Sc.ca (S K A) n)) ex)) T.xc_UnknownPerson (DdAt.of xr) (fun _ z => z) T.kt_UnknownPerson_TextFault) (ref_acons (ref_isX (by decide) (xr.1.trans (congrArg (fun n => Value.ref (Sc.ca (S K A) n)) ex)) T.xc_UnknownPerson (DdAt.of xr) (fun _ z => z) T.kt_UnknownPerson_InvalidCode) (ref_acons (ref_isX (by decide) (xr.1.trans (congrArg (fun n => Value.ref (Sc.ca (S K A) n)) ex)) T.xc_UnknownPerson (DdAt.of xr) (fun _ z => z) T.kt_UnknownPerson_InvalidOperation) ref_anil))))))
      (rs_seq (rs_if (μ := none) (ref_or (ref_test (ref_op2 o2_ne (ref_cnt (ref_var (by decide)) ref_bl) ref_int)) (ref_not (ref_testB (ref_isX (by decide) (xr.1.trans (congrArg (fun n => Value.ref (Sc.ca (S K A) n)) ex)) T.xc_UnknownPerson (DdAt.of xr) (fun _ z => z) T.kt_UnknownPerson_ValueError)))) (rs_ret (μ := none) (by intro z; cases z) (by intro _ z; cases z) (ref_tup (ref_acons ref_str (ref_acons ref_int ref_anil)))) rs_next)
      (rs_seq (rs_set (by decide) (ref_lst (ref_acons ref_str (ref_acons ref_str (ref_acons ref_str (ref_acons ref_str (ref_acons ref_str (ref_acons ref_str (ref_acons ref_str (ref_acons ref_str (ref_acons ref_str (ref_acons ref_str ref_anil))))))))))))
      (rs_seq (rs_set (by decide) (ref_op2 o2_ix (ref_op2 o2_add (ref_var (by decide)) (ref_lst (ref_acons ref_str (ref_acons ref_str ref_anil)))) (ref_index (ref_var (by decide)) ref_bl)))
      (rs_seq (rs_if (μ := none) (ref_test (ref_op2 o2_eq (ref_var (by decide)) ref_str)) (rs_ret (μ := none) (by intro z; cases z) (by intro _ z; cases z) (ref_tup (ref_acons (ref_var (by decide)) (ref_acons (ref_tup (ref_acons (ref_bad (fr := false)) (ref_acons (ref_bad (fr := false)) ref_anil))) ref_anil)))) rs_next)
      (rs_seq (rs_if (μ := none) (ref_test (ref_op2 o2_eq (ref_var (by decide)) ref_str)) (rs_ret (μ := none) (by intro z; cases z) (by intro _ z; cases z) (ref_tup (ref_acons (ref_var (by decide)) (ref_acons (ref_bad (fr := false)) ref_anil)))) rs_next)
      (rs_ret (μ := none) (by intro z; cases z) (by intro _ z; cases z) (ref_tup (ref_acons (ref_var (by decide)) (ref_acons (ref_if (ref_test (ref_op2 o2_in (ref_var (by decide)) (ref_lst (ref_acons ref_str (ref_acons ref_str ref_anil))))) (ref_bad (fr := false)) ref_int) ref_anil)))))))))))))), (List.forall_mem_cons.mpr ⟨(fun x a cls dd Hc E ex xr => (rs_seq (rs_set (by decide) (ref_lst (ref_acons (ref_isX (by decide) (xr.1.trans (congrArg (fun n => Value.ref (Sc.ca (S K A) n)) ex)) T.xc_InvalidLimit (DdAt.of xr) (fun _ z => z) T.kt_InvalidLimit_InvalidTick) (ref_acons (ref_isX (by decide) (xr.1.trans (congrArg (fun n => Value.ref (Sc.ca (S K A) n)) ex)) T.xc_InvalidLimit (DdAt.of xr) (fun _ z => z) T.kt_InvalidLimit_UnknownPerson) (ref_acons (ref_isX (by decide) (xr.1.trans (congrArg (fun n => Value.ref (Sc.ca (S K A) n)) ex)) T.xc_InvalidLimit (DdAt.of xr) (fun _ z => z) T.kt_InvalidLimit_InvalidLimit) ref_anil)))))
      (rs_seq (rs_set (by decide) (ref_op2 o2_add (ref_var (by decide)) (ref_lst (ref_acons (ref_isX (by decide) (xr.1.trans (congrArg (fun n => Value.ref (Sc.ca (S K A) n)) ex)) T.xc_InvalidLimit (DdAt.of xr) (fun _ z => z) T.kt_InvalidLimit_DifferentHouses) (ref_acons (ref_isX (by decide) (xr.1.trans (congrArg (fun n => Value.ref (Sc.ca (S K A) n)) ex)) T.xc_InvalidLimit (DdAt.of xr) (fun _ z => z) T.kt_InvalidLimit_InvalidWaiting) (ref_acons (ref_isX (by decide) (xr.1.trans (congrArg (fun n => Value.ref (Sc.ca (S K A) n)) ex)) T.xc_InvalidLimit (DdAt.of xr) (fun _ z => z) T.kt_InvalidLimit_Contradiction) ref_anil))))))
      (rs_seq (rs_set (by decide) (ref_op2 o2_add (ref_var (by decide)) (ref_lst (ref_acons (ref_isX (by decide) (xr.1.trans (congrArg (fun n => Value.ref (Sc.ca (S K A) n)) ex)) T.xc_InvalidLimit (DdAt.of xr) (fun _ z => z) T.kt_InvalidLimit_InvalidName) (ref_acons (ref_isX (by decide) (xr.1.trans (congrArg (fun n => Value.ref (Sc.ca (S K A) n)) ex)) T.xc_InvalidLimit (DdAt.of xr) (fun _ z => z) T.kt_InvalidLimit_UnknownName) (ref_acons (ref_isX (by decide) (xr.1.trans (congrArg (fun n => Value.ref (Sc.ca (S K A) n)) ex)) T.xc_InvalidLimit (DdAt.of xr) (fun _ z => z) T.kt_InvalidLimit_InvalidHouse) ref_anil))))))
      (rs_seq (rs_set (by decide) (ref_op2 o2_add (ref_var (by decide)) (ref_lst (ref_acons (ref_isX (by decide) (xr.1.trans (congrArg (fun n => Value.ref (Sc.ca (S K A) n)) ex)) T.xc_InvalidLimit (DdAt.of xr) (fun _ z => z) T.kt_InvalidLimit_TextFault) (ref_acons (ref_isX (by decide) (xr.1.trans (congrArg (fun n => Value.ref (Sc.ca (S K A) n)) ex)) T.xc_InvalidLimit (DdAt.of xr) (fun _ z => z) T.kt_InvalidLimit_InvalidCode) (ref_acons (ref_isX (by decide) (xr.1.trans (congrArg (fun n => Value.ref (Sc.ca (S K A) n)) ex)) T.xc_InvalidLimit (DdAt.of xr) (fun _ z => z) T.kt_InvalidLimit_InvalidOperation) ref_anil))))))
      (rs_seq (rs_if (μ := none) (ref_or (ref_test (ref_op2 o2_ne (ref_cnt (ref_var (by decide)) ref_bl) ref_int)) (ref_not (ref_testB (ref_isX (by decide) (xr.1.trans (congrArg (fun n => Value.ref (Sc.ca (S K A) n)) ex)) T.xc_InvalidLimit (DdAt.of xr) (fun _ z => z) T.kt_InvalidLimit_ValueError)))) (rs_ret (μ := none) (by intro z; cases z) (by intro _ z; cases z) (ref_tup (ref_acons ref_str (ref_acons ref_int ref_anil)))) rs_next)
      (rs_seq (rs_set (by decide) (ref_lst (ref_acons ref_str (ref_acons ref_str (ref_acons ref_str (ref_acons ref_str (ref_acons ref_str (ref_acons ref_str (ref_acons ref_str (ref_acons ref_str (ref_acons ref_str (ref_acons ref_str ref_anil))))))))))))
      (rs_seq (rs_set (by decide) (ref_op2 o2_ix (ref_op2 o2_add (ref_var (by decide)) (ref_lst (ref_acons ref_str (ref_acons ref_str ref_anil)))) (ref_index (ref_var (by decide)) ref_bl)))
      (rs_seq (rs_if (μ := none) (ref_test (ref_op2 o2_eq (ref_var (by decide)) ref_str)) (rs_ret (μ := none) (by intro z; cases z) (by intro _ z; cases z) (ref_tup (ref_acons (ref_var (by decide)) (ref_acons (ref_tup (ref_acons (ref_bad (fr := false)) (ref_acons (ref_bad (fr := false)) ref_anil))) ref_anil)))) rs_next)
      (rs_seq (rs_if (μ := none) (ref_test (ref_op2 o2_eq (ref_var (by decide)) ref_str)) (rs_ret (μ := none) (by intro z; cases z) (by intro _ z; cases z) (ref_tup (ref_acons (ref_var (by decide)) (ref_acons (ref_bad (fr := false)) ref_anil)))) rs_next)
      (rs_ret (μ := none) (by intro z; cases z) (by intro _ z; cases z) (ref_tup (ref_acons (ref_var (by decide)) (ref_acons (ref_if (ref_test (ref_op2 o2_in (ref_var (by decide)) (ref_lst (ref_acons ref_str (ref_acons ref_str ref_anil))))) (ref_bad (fr := false)) ref_int) ref_anil)))))))))))))), mem_nil⟩)⟩)⟩),
      (List.forall_mem_cons.mpr ⟨T.ex_InvalidTick, (List.forall_mem_cons.mpr ⟨T.ex_UnknownPerson, (List.forall_mem_cons.mpr ⟨T.ex_InvalidLimit, mem_nil⟩)⟩)⟩)⟩)
theorem ok_law_all_raise (T : Txt K mg A) : CloA P w K mg (S K A Hb lf) 14 17 ["_law_calls", "_law_expected"] A.f_law_all_raise A.fd_law_all_raise hx_law_error_of :=
  fun base1 fs F => fnD_okS T.F_law_all_raise sc_law_all_raise (fun vs H Q E h => by obtain ⟨_, _, _, _, h, _⟩ := h; rw [h]; rfl) fun cdv A2 outer s H E hr => ⟨_, (pss_one (ps_ret (pe_cmpR (op_eqX (hu64 hr)) (pe_lc rfl sc_law_all_raise.nd (pi_list (pv 0)) (blkOk_by (own := [("_law_call", 2)]) (by kernel_rfl)) (fun _ _ _ _ _ => pg_name (i := 2) sc_law_all_raise.nd rfl (by first | exact .inl rfl | exact .inr rfl)) (fun _ _ _ _ _ => pts_one (pt_cmpR (op_neX (hu64 hr)) (pe_call (clo_union (ok_law_error_of T) F) (hr.mono (by decide)) (by rfl) T.g_law_error_of T.F_law_error_of.kp T.b_law_error_of .nil (passE (E := fun _ _ _ => False)) (pa_cons (pv 2) pa_nil)) (pv 1) (nomark _))) (fun _ _ _ _ _ => pv 2)) (pe_lst pa_nil) (nomark _)))), fun vs H Q h => all_run rfl rfl h⟩
end
end K09
namespace K09
open PySem PySem.Spec PyProof.Rows L2 Mir
theorem all_mk {K : PySem.W.Frag} {h : Heap} {mg : Str → Option Value} (X : K.In h) (G : h.Ns mainGlobals mg)
    {f_is_int_in : Addr} {oc_is_int_in kV_is_int_in dc_is_int_in pm_is_int_in cd_is_int_in ct_is_int_in : Value} {od_is_int_in an_is_int_in : Option Addr} {sl_is_int_in : Array (Option Value)}
    {f_is_table : Addr} {oc_is_table kV_is_table dc_is_table pm_is_table cd_is_table ct_is_table : Value} {od_is_table an_is_table : Option Addr} {sl_is_table : Array (Option Value)}
    {f_common_multiple : Addr} {oc_common_multiple kV_common_multiple dc_common_multiple pm_common_multiple cd_common_multiple ct_common_multiple : Value} {od_common_multiple an_common_multiple : Option Addr} {sl_common_multiple : Array (Option Value)}
    {f_check_persons : Addr} {oc_check_persons kV_check_persons dc_check_persons pm_check_persons cd_check_persons ct_check_persons : Value} {od_check_persons an_check_persons : Option Addr} {sl_check_persons : Array (Option Value)}
    {f_is_reminder : Addr} {oc_is_reminder kV_is_reminder dc_is_reminder pm_is_reminder cd_is_reminder ct_is_reminder : Value} {od_is_reminder an_is_reminder : Option Addr} {sl_is_reminder : Array (Option Value)}
    {f_House__init_ : Addr} {oc_House__init_ kV_House__init_ dc_House__init_ pm_House__init_ cd_House__init_ ct_House__init_ : Value} {od_House__init_ an_House__init_ : Option Addr} {sl_House__init_ : Array (Option Value)}
    {T_House__init_ e0_House__init_ e1_House__init_ : Addr} {ocT_House__init_ : Value} {odT_House__init_ : Option Addr} {nT_House__init_ : Nat} {slT_House__init_ : Array (Option Value)}
    {ode0_House__init_ : Option Addr} {ne0_House__init_ : Nat} {sle0_House__init_ : Array (Option Value)}
    {ode1_House__init_ : Option Addr} {ne1_House__init_ : Nat} {sle1_House__init_ : Array (Option Value)}
    {f_House_persons : Addr} {oc_House_persons kV_House_persons dc_House_persons pm_House_persons cd_House_persons ct_House_persons : Value} {od_House_persons an_House_persons : Option Addr} {sl_House_persons : Array (Option Value)}
    {p_House_persons : Addr} {re_House_persons : List Value}
    {f_House_period : Addr} {oc_House_period kV_House_period dc_House_period pm_House_period cd_House_period ct_House_period : Value} {od_House_period an_House_period : Option Addr} {sl_House_period : Array (Option Value)}
    {p_House_period : Addr} {re_House_period : List Value}
    {f_House_wants_home : Addr} {oc_House_wants_home kV_House_wants_home dc_House_wants_home pm_House_wants_home cd_House_wants_home ct_House_wants_home : Value} {od_House_wants_home an_House_wants_home : Option Addr} {sl_House_wants_home : Array (Option Value)}
    {f_House_takes_key : Addr} {oc_House_takes_key kV_House_takes_key dc_House_takes_key pm_House_takes_key cd_House_takes_key ct_House_takes_key : Value} {od_House_takes_key an_House_takes_key : Option Addr} {sl_House_takes_key : Array (Option Value)}
    {f_check_tick : Addr} {oc_check_tick kV_check_tick dc_check_tick pm_check_tick cd_check_tick ct_check_tick : Value} {od_check_tick an_check_tick : Option Addr} {sl_check_tick : Array (Option Value)}
    {f_check_person : Addr} {oc_check_person kV_check_person dc_check_person pm_check_person cd_check_person ct_check_person : Value} {od_check_person an_check_person : Option Addr} {sl_check_person : Array (Option Value)}
    {f_first_scene : Addr} {oc_first_scene kV_first_scene dc_first_scene pm_first_scene cd_first_scene ct_first_scene : Value} {od_first_scene an_first_scene : Option Addr} {sl_first_scene : Array (Option Value)}
    {f_people_at_home : Addr} {oc_people_at_home kV_people_at_home dc_people_at_home pm_people_at_home cd_people_at_home ct_people_at_home : Value} {od_people_at_home an_people_at_home : Option Addr} {sl_people_at_home : Array (Option Value)}
    {f_after_tick : Addr} {oc_after_tick kV_after_tick dc_after_tick pm_after_tick cd_after_tick ct_after_tick : Value} {od_after_tick an_after_tick : Option Addr} {sl_after_tick : Array (Option Value)}
    {f_Story__init_ : Addr} {oc_Story__init_ kV_Story__init_ dc_Story__init_ pm_Story__init_ cd_Story__init_ ct_Story__init_ : Value} {od_Story__init_ an_Story__init_ : Option Addr} {sl_Story__init_ : Array (Option Value)}
    {f_Story_size : Addr} {oc_Story_size kV_Story_size dc_Story_size pm_Story_size cd_Story_size ct_Story_size : Value} {od_Story_size an_Story_size : Option Addr} {sl_Story_size : Array (Option Value)}
    {p_Story_size : Addr} {re_Story_size : List Value}
    {f_Story_place_of : Addr} {oc_Story_place_of kV_Story_place_of dc_Story_place_of pm_Story_place_of cd_Story_place_of ct_Story_place_of : Value} {od_Story_place_of an_Story_place_of : Option Addr} {sl_Story_place_of : Array (Option Value)}
    {f_scene_after : Addr} {oc_scene_after kV_scene_after dc_scene_after pm_scene_after cd_scene_after ct_scene_after : Value} {od_scene_after an_scene_after : Option Addr} {sl_scene_after : Array (Option Value)}
    {f_at_home : Addr} {oc_at_home kV_at_home dc_at_home pm_at_home cd_at_home ct_at_home : Value} {od_at_home an_at_home : Option Addr} {sl_at_home : Array (Option Value)}
    {f_events_between : Addr} {oc_events_between kV_events_between dc_events_between pm_events_between cd_events_between ct_events_between : Value} {od_events_between an_events_between : Option Addr} {sl_events_between : Array (Option Value)}
    {f_waiting : Addr} {oc_waiting kV_waiting dc_waiting pm_waiting cd_waiting ct_waiting : Value} {od_waiting an_waiting : Option Addr} {sl_waiting : Array (Option Value)}
    {f_is_open : Addr} {oc_is_open kV_is_open dc_is_open pm_is_open cd_is_open ct_is_open : Value} {od_is_open an_is_open : Option Addr} {sl_is_open : Array (Option Value)}
    {f_hook : Addr} {oc_hook kV_hook dc_hook pm_hook cd_hook ct_hook : Value} {od_hook an_hook : Option Addr} {sl_hook : Array (Option Value)}
    {f_holders : Addr} {oc_holders kV_holders dc_holders pm_holders cd_holders ct_holders : Value} {od_holders an_holders : Option Addr} {sl_holders : Array (Option Value)}
    {f_wait_ticks : Addr} {oc_wait_ticks kV_wait_ticks dc_wait_ticks pm_wait_ticks cd_wait_ticks ct_wait_ticks : Value} {od_wait_ticks an_wait_ticks : Option Addr} {sl_wait_ticks : Array (Option Value)}
    {f_count_waits : Addr} {oc_count_waits kV_count_waits dc_count_waits pm_count_waits cd_count_waits ct_count_waits : Value} {od_count_waits an_count_waits : Option Addr} {sl_count_waits : Array (Option Value)}
    {f_next_entry : Addr} {oc_next_entry kV_next_entry dc_next_entry pm_next_entry cd_next_entry ct_next_entry : Value} {od_next_entry an_next_entry : Option Addr} {sl_next_entry : Array (Option Value)}
    {f_plan_reminders : Addr} {oc_plan_reminders kV_plan_reminders dc_plan_reminders pm_plan_reminders cd_plan_reminders ct_plan_reminders : Value} {od_plan_reminders an_plan_reminders : Option Addr} {sl_plan_reminders : Array (Option Value)}
    {f_law_below : Addr} {oc_law_below kV_law_below dc_law_below pm_law_below cd_law_below ct_law_below : Value} {od_law_below an_law_below : Option Addr} {sl_law_below : Array (Option Value)}
    {f_law_table : Addr} {oc_law_table kV_law_table dc_law_table pm_law_table cd_law_table ct_law_table : Value} {od_law_table an_law_table : Option Addr} {sl_law_table : Array (Option Value)}
    {f_law_length : Addr} {oc_law_length kV_law_length dc_law_length pm_law_length cd_law_length ct_law_length : Value} {od_law_length an_law_length : Option Addr} {sl_law_length : Array (Option Value)}
    {f_law_parts : Addr} {oc_law_parts kV_law_parts dc_law_parts pm_law_parts cd_law_parts ct_law_parts : Value} {od_law_parts an_law_parts : Option Addr} {sl_law_parts : Array (Option Value)}
    {f_law_house : Addr} {oc_law_house kV_law_house dc_law_house pm_law_house cd_law_house ct_law_house : Value} {od_law_house an_law_house : Option Addr} {sl_law_house : Array (Option Value)}
    {f_law_error_of : Addr} {oc_law_error_of kV_law_error_of dc_law_error_of pm_law_error_of cd_law_error_of ct_law_error_of : Value} {od_law_error_of an_law_error_of : Option Addr} {sl_law_error_of : Array (Option Value)}
    {f_law_all_raise : Addr} {oc_law_all_raise kV_law_all_raise dc_law_all_raise pm_law_all_raise cd_law_all_raise ct_law_all_raise : Value} {od_law_all_raise an_law_all_raise : Option Addr} {sl_law_all_raise : Array (Option Value)}
    {f_law_random : Addr} {oc_law_random kV_law_random dc_law_random pm_law_random cd_law_random ct_law_random : Value} {od_law_random an_law_random : Option Addr} {sl_law_random : Array (Option Value)}
    {f_law cc_law P_law : Addr} {oc_law kV_law dc_law pm_law ct_law ocv_law : Value} {od_law an_law odv_law : Option Addr} {sl_law slv_law : Array (Option Value)} {vs_law : Array Value}
    {C_House : Addr}
    {C_Story : Addr}
    {C_InvalidTick : Addr}
    {C_UnknownPerson : Addr}
    {C_InvalidLimit : Addr}
    {C_HouseError : Addr}
    {C_InvalidHouse : Addr}
    {C_DifferentHouses : Addr}
    {C_InvalidWaiting : Addr}
    {C_Contradiction : Addr}
    {C_InvalidName : Addr}
    {C_UnknownName : Addr}
    {C_TextFault : Addr}
    {C_InvalidCode : Addr}
    {C_InvalidOperation : Addr}
    {t_MAX_PERSONS : Nat}
    {a_LENGTHS : Addr} {t0_LENGTHS t1_LENGTHS t2_LENGTHS t3_LENGTHS t4_LENGTHS t5_LENGTHS t6_LENGTHS t7_LENGTHS : Nat} {o_LENGTHS : Option Addr} {n_LENGTHS : Nat} {s_LENGTHS : Array (Option Value)}
    {t_MAX_KEYS : Nat}
    {t_MAX_REMINDERS : Nat}
    {t_MAX_TICK : Nat}
    {t_HOME : Nat}
    {t_OUT : Nat}
    {t_ENTER : Nat}
    {t_WAIT : Nat}
    {t_LEAVE : Nat}
    {t_TAKE : Nat}
    {t_OPEN : Nat}
    {t_MAX_ADDED : Nat}
    (a_House : PySem.W.nsIn K mainGlobals "House" = some (some (.ref C_House)))
    (a_Story : PySem.W.nsIn K mainGlobals "Story" = some (some (.ref C_Story)))
    (a_InvalidTick : PySem.W.nsIn K mainGlobals "InvalidTick" = some (some (.ref C_InvalidTick)))
    (a_UnknownPerson : PySem.W.nsIn K mainGlobals "UnknownPerson" = some (some (.ref C_UnknownPerson)))
    (a_InvalidLimit : PySem.W.nsIn K mainGlobals "InvalidLimit" = some (some (.ref C_InvalidLimit)))
    (a_HouseError : PySem.W.nsIn K mainGlobals "HouseError" = some (some (.ref C_HouseError)))
    (a_InvalidHouse : PySem.W.nsIn K mainGlobals "InvalidHouse" = some (some (.ref C_InvalidHouse)))
    (a_DifferentHouses : PySem.W.nsIn K mainGlobals "DifferentHouses" = some (some (.ref C_DifferentHouses)))
    (a_InvalidWaiting : PySem.W.nsIn K mainGlobals "InvalidWaiting" = some (some (.ref C_InvalidWaiting)))
    (a_Contradiction : PySem.W.nsIn K mainGlobals "Contradiction" = some (some (.ref C_Contradiction)))
    (a_InvalidName : PySem.W.nsIn K mainGlobals "InvalidName" = some (some (.ref C_InvalidName)))
    (a_UnknownName : PySem.W.nsIn K mainGlobals "UnknownName" = some (some (.ref C_UnknownName)))
    (a_TextFault : PySem.W.nsIn K mainGlobals "TextFault" = some (some (.ref C_TextFault)))
    (a_InvalidCode : PySem.W.nsIn K mainGlobals "InvalidCode" = some (some (.ref C_InvalidCode)))
    (a_InvalidOperation : PySem.W.nsIn K mainGlobals "InvalidOperation" = some (some (.ref C_InvalidOperation)))
    (a_is_int_in : PySem.W.nsIn K mainGlobals "is_int_in" = some (some (.ref f_is_int_in)))
    (l_is_int_in : K.lookup f_is_int_in = some ⟨oc_is_int_in, od_is_int_in, .func (PySem.W.fnOf "is_int_in" "is_int_in" (defArgs st_is_int_in) (defBody st_is_int_in) (defScope st_is_int_in) .none kV_is_int_in dc_is_int_in pm_is_int_in an_is_int_in cd_is_int_in ct_is_int_in), sl_is_int_in⟩)
    (c_is_int_in : PySem.W.codeIn K cd_is_int_in "is_int_in" = true)
    (k_is_int_in : PySem.W.keepIn K (.ref f_is_int_in) = true)
    (a_is_table : PySem.W.nsIn K mainGlobals "is_table" = some (some (.ref f_is_table)))
    (l_is_table : K.lookup f_is_table = some ⟨oc_is_table, od_is_table, .func (PySem.W.fnOf "is_table" "is_table" (defArgs st_is_table) (defBody st_is_table) (defScope st_is_table) .none kV_is_table dc_is_table pm_is_table an_is_table cd_is_table ct_is_table), sl_is_table⟩)
    (c_is_table : PySem.W.codeIn K cd_is_table "is_table" = true)
    (k_is_table : PySem.W.keepIn K (.ref f_is_table) = true)
    (a_common_multiple : PySem.W.nsIn K mainGlobals "common_multiple" = some (some (.ref f_common_multiple)))
    (l_common_multiple : K.lookup f_common_multiple = some ⟨oc_common_multiple, od_common_multiple, .func (PySem.W.fnOf "common_multiple" "common_multiple" (defArgs st_common_multiple) (defBody st_common_multiple) (defScope st_common_multiple) .none kV_common_multiple dc_common_multiple pm_common_multiple an_common_multiple cd_common_multiple ct_common_multiple), sl_common_multiple⟩)
    (c_common_multiple : PySem.W.codeIn K cd_common_multiple "common_multiple" = true)
    (k_common_multiple : PySem.W.keepIn K (.ref f_common_multiple) = true)
    (a_check_persons : PySem.W.nsIn K mainGlobals "check_persons" = some (some (.ref f_check_persons)))
    (l_check_persons : K.lookup f_check_persons = some ⟨oc_check_persons, od_check_persons, .func (PySem.W.fnOf "check_persons" "check_persons" (defArgs st_check_persons) (defBody st_check_persons) (defScope st_check_persons) .none kV_check_persons dc_check_persons pm_check_persons an_check_persons cd_check_persons ct_check_persons), sl_check_persons⟩)
    (c_check_persons : PySem.W.codeIn K cd_check_persons "check_persons" = true)
    (k_check_persons : PySem.W.keepIn K (.ref f_check_persons) = true)
    (a_is_reminder : PySem.W.nsIn K mainGlobals "is_reminder" = some (some (.ref f_is_reminder)))
    (l_is_reminder : K.lookup f_is_reminder = some ⟨oc_is_reminder, od_is_reminder, .func (PySem.W.fnOf "is_reminder" "is_reminder" (defArgs st_is_reminder) (defBody st_is_reminder) (defScope st_is_reminder) .none kV_is_reminder dc_is_reminder pm_is_reminder an_is_reminder cd_is_reminder ct_is_reminder), sl_is_reminder⟩)
    (c_is_reminder : PySem.W.codeIn K cd_is_reminder "is_reminder" = true)
    (k_is_reminder : PySem.W.keepIn K (.ref f_is_reminder) = true)
    (a_House__init_ : PySem.W.findIn K (.ref C_House) "__init__" = some (some (.ref f_House__init_)))
    (i_House__init_ : PySem.W.isFn K (.ref f_House__init_) = true)
    (l_House__init_ : K.lookup f_House__init_ = some ⟨oc_House__init_, od_House__init_, .func (PySem.W.fnOf "__init__" "House.__init__" (defArgs st_House__init_) (defBody st_House__init_) (defScope st_House__init_) (.ref T_House__init_) kV_House__init_ dc_House__init_ pm_House__init_ an_House__init_ cd_House__init_ ct_House__init_), sl_House__init_⟩)
    (c_House__init_ : PySem.W.codeIn K cd_House__init_ "House.__init__" = true)
    (k_House__init_ : PySem.W.keepIn K (.ref f_House__init_) = true)
    (pa_House_persons : PySem.W.findIn K (.ref C_House) "persons" = some (some (.ref p_House_persons)))
    (pg_House_persons : PySem.W.specialIn K (.ref p_House_persons) "__get__" = some (some (.builtin "property.__get__")))
    (pt_House_persons : PySem.W.takesIn K (.ref p_House_persons) = some true)
    (pc_House_persons : PySem.W.recIn K p_House_persons "property" = some (.ref f_House_persons :: re_House_persons))
    (l_House_persons : K.lookup f_House_persons = some ⟨oc_House_persons, od_House_persons, .func (PySem.W.fnOf "persons" "House.persons" (defArgs st_House_persons) (defBody st_House_persons) (defScope st_House_persons) .none kV_House_persons dc_House_persons pm_House_persons an_House_persons cd_House_persons ct_House_persons), sl_House_persons⟩)
    (c_House_persons : PySem.W.codeIn K cd_House_persons "House.persons" = true)
    (k_House_persons : PySem.W.keepIn K (.ref f_House_persons) = true)
    (pa_House_period : PySem.W.findIn K (.ref C_House) "period" = some (some (.ref p_House_period)))
    (pg_House_period : PySem.W.specialIn K (.ref p_House_period) "__get__" = some (some (.builtin "property.__get__")))
    (pt_House_period : PySem.W.takesIn K (.ref p_House_period) = some true)
    (pc_House_period : PySem.W.recIn K p_House_period "property" = some (.ref f_House_period :: re_House_period))
    (l_House_period : K.lookup f_House_period = some ⟨oc_House_period, od_House_period, .func (PySem.W.fnOf "period" "House.period" (defArgs st_House_period) (defBody st_House_period) (defScope st_House_period) .none kV_House_period dc_House_period pm_House_period an_House_period cd_House_period ct_House_period), sl_House_period⟩)
    (c_House_period : PySem.W.codeIn K cd_House_period "House.period" = true)
    (k_House_period : PySem.W.keepIn K (.ref f_House_period) = true)
    (a_House_wants_home : PySem.W.findIn K (.ref C_House) "wants_home" = some (some (.ref f_House_wants_home)))
    (i_House_wants_home : PySem.W.isFn K (.ref f_House_wants_home) = true)
    (l_House_wants_home : K.lookup f_House_wants_home = some ⟨oc_House_wants_home, od_House_wants_home, .func (PySem.W.fnOf "wants_home" "House.wants_home" (defArgs st_House_wants_home) (defBody st_House_wants_home) (defScope st_House_wants_home) .none kV_House_wants_home dc_House_wants_home pm_House_wants_home an_House_wants_home cd_House_wants_home ct_House_wants_home), sl_House_wants_home⟩)
    (c_House_wants_home : PySem.W.codeIn K cd_House_wants_home "House.wants_home" = true)
    (k_House_wants_home : PySem.W.keepIn K (.ref f_House_wants_home) = true)
    (a_House_takes_key : PySem.W.findIn K (.ref C_House) "takes_key" = some (some (.ref f_House_takes_key)))
    (i_House_takes_key : PySem.W.isFn K (.ref f_House_takes_key) = true)
    (l_House_takes_key : K.lookup f_House_takes_key = some ⟨oc_House_takes_key, od_House_takes_key, .func (PySem.W.fnOf "takes_key" "House.takes_key" (defArgs st_House_takes_key) (defBody st_House_takes_key) (defScope st_House_takes_key) .none kV_House_takes_key dc_House_takes_key pm_House_takes_key an_House_takes_key cd_House_takes_key ct_House_takes_key), sl_House_takes_key⟩)
    (c_House_takes_key : PySem.W.codeIn K cd_House_takes_key "House.takes_key" = true)
    (k_House_takes_key : PySem.W.keepIn K (.ref f_House_takes_key) = true)
    (a_check_tick : PySem.W.nsIn K mainGlobals "check_tick" = some (some (.ref f_check_tick)))
    (l_check_tick : K.lookup f_check_tick = some ⟨oc_check_tick, od_check_tick, .func (PySem.W.fnOf "check_tick" "check_tick" (defArgs st_check_tick) (defBody st_check_tick) (defScope st_check_tick) .none kV_check_tick dc_check_tick pm_check_tick an_check_tick cd_check_tick ct_check_tick), sl_check_tick⟩)
    (c_check_tick : PySem.W.codeIn K cd_check_tick "check_tick" = true)
    (k_check_tick : PySem.W.keepIn K (.ref f_check_tick) = true)
    (a_check_person : PySem.W.nsIn K mainGlobals "check_person" = some (some (.ref f_check_person)))
    (l_check_person : K.lookup f_check_person = some ⟨oc_check_person, od_check_person, .func (PySem.W.fnOf "check_person" "check_person" (defArgs st_check_person) (defBody st_check_person) (defScope st_check_person) .none kV_check_person dc_check_person pm_check_person an_check_person cd_check_person ct_check_person), sl_check_person⟩)
    (c_check_person : PySem.W.codeIn K cd_check_person "check_person" = true)
    (k_check_person : PySem.W.keepIn K (.ref f_check_person) = true)
    (a_first_scene : PySem.W.nsIn K mainGlobals "first_scene" = some (some (.ref f_first_scene)))
    (l_first_scene : K.lookup f_first_scene = some ⟨oc_first_scene, od_first_scene, .func (PySem.W.fnOf "first_scene" "first_scene" (defArgs st_first_scene) (defBody st_first_scene) (defScope st_first_scene) .none kV_first_scene dc_first_scene pm_first_scene an_first_scene cd_first_scene ct_first_scene), sl_first_scene⟩)
    (c_first_scene : PySem.W.codeIn K cd_first_scene "first_scene" = true)
    (k_first_scene : PySem.W.keepIn K (.ref f_first_scene) = true)
    (a_people_at_home : PySem.W.nsIn K mainGlobals "people_at_home" = some (some (.ref f_people_at_home)))
    (l_people_at_home : K.lookup f_people_at_home = some ⟨oc_people_at_home, od_people_at_home, .func (PySem.W.fnOf "people_at_home" "people_at_home" (defArgs st_people_at_home) (defBody st_people_at_home) (defScope st_people_at_home) .none kV_people_at_home dc_people_at_home pm_people_at_home an_people_at_home cd_people_at_home ct_people_at_home), sl_people_at_home⟩)
    (c_people_at_home : PySem.W.codeIn K cd_people_at_home "people_at_home" = true)
    (k_people_at_home : PySem.W.keepIn K (.ref f_people_at_home) = true)
    (a_after_tick : PySem.W.nsIn K mainGlobals "after_tick" = some (some (.ref f_after_tick)))
    (l_after_tick : K.lookup f_after_tick = some ⟨oc_after_tick, od_after_tick, .func (PySem.W.fnOf "after_tick" "after_tick" (defArgs st_after_tick) (defBody st_after_tick) (defScope st_after_tick) .none kV_after_tick dc_after_tick pm_after_tick an_after_tick cd_after_tick ct_after_tick), sl_after_tick⟩)
    (c_after_tick : PySem.W.codeIn K cd_after_tick "after_tick" = true)
    (k_after_tick : PySem.W.keepIn K (.ref f_after_tick) = true)
    (a_Story__init_ : PySem.W.findIn K (.ref C_Story) "__init__" = some (some (.ref f_Story__init_)))
    (i_Story__init_ : PySem.W.isFn K (.ref f_Story__init_) = true)
    (l_Story__init_ : K.lookup f_Story__init_ = some ⟨oc_Story__init_, od_Story__init_, .func (PySem.W.fnOf "__init__" "Story.__init__" (defArgs st_Story__init_) (defBody st_Story__init_) (defScope st_Story__init_) .none kV_Story__init_ dc_Story__init_ pm_Story__init_ an_Story__init_ cd_Story__init_ ct_Story__init_), sl_Story__init_⟩)
    (c_Story__init_ : PySem.W.codeIn K cd_Story__init_ "Story.__init__" = true)
    (k_Story__init_ : PySem.W.keepIn K (.ref f_Story__init_) = true)
    (pa_Story_size : PySem.W.findIn K (.ref C_Story) "size" = some (some (.ref p_Story_size)))
    (pg_Story_size : PySem.W.specialIn K (.ref p_Story_size) "__get__" = some (some (.builtin "property.__get__")))
    (pt_Story_size : PySem.W.takesIn K (.ref p_Story_size) = some true)
    (pc_Story_size : PySem.W.recIn K p_Story_size "property" = some (.ref f_Story_size :: re_Story_size))
    (l_Story_size : K.lookup f_Story_size = some ⟨oc_Story_size, od_Story_size, .func (PySem.W.fnOf "size" "Story.size" (defArgs st_Story_size) (defBody st_Story_size) (defScope st_Story_size) .none kV_Story_size dc_Story_size pm_Story_size an_Story_size cd_Story_size ct_Story_size), sl_Story_size⟩)
    (c_Story_size : PySem.W.codeIn K cd_Story_size "Story.size" = true)
    (k_Story_size : PySem.W.keepIn K (.ref f_Story_size) = true)
    (a_Story_place_of : PySem.W.findIn K (.ref C_Story) "place_of" = some (some (.ref f_Story_place_of)))
    (i_Story_place_of : PySem.W.isFn K (.ref f_Story_place_of) = true)
    (l_Story_place_of : K.lookup f_Story_place_of = some ⟨oc_Story_place_of, od_Story_place_of, .func (PySem.W.fnOf "place_of" "Story.place_of" (defArgs st_Story_place_of) (defBody st_Story_place_of) (defScope st_Story_place_of) .none kV_Story_place_of dc_Story_place_of pm_Story_place_of an_Story_place_of cd_Story_place_of ct_Story_place_of), sl_Story_place_of⟩)
    (c_Story_place_of : PySem.W.codeIn K cd_Story_place_of "Story.place_of" = true)
    (k_Story_place_of : PySem.W.keepIn K (.ref f_Story_place_of) = true)
    (a_scene_after : PySem.W.nsIn K mainGlobals "scene_after" = some (some (.ref f_scene_after)))
    (l_scene_after : K.lookup f_scene_after = some ⟨oc_scene_after, od_scene_after, .func (PySem.W.fnOf "scene_after" "scene_after" (defArgs st_scene_after) (defBody st_scene_after) (defScope st_scene_after) .none kV_scene_after dc_scene_after pm_scene_after an_scene_after cd_scene_after ct_scene_after), sl_scene_after⟩)
    (c_scene_after : PySem.W.codeIn K cd_scene_after "scene_after" = true)
    (k_scene_after : PySem.W.keepIn K (.ref f_scene_after) = true)
    (a_at_home : PySem.W.nsIn K mainGlobals "at_home" = some (some (.ref f_at_home)))
    (l_at_home : K.lookup f_at_home = some ⟨oc_at_home, od_at_home, .func (PySem.W.fnOf "at_home" "at_home" (defArgs st_at_home) (defBody st_at_home) (defScope st_at_home) .none kV_at_home dc_at_home pm_at_home an_at_home cd_at_home ct_at_home), sl_at_home⟩)
    (c_at_home : PySem.W.codeIn K cd_at_home "at_home" = true)
    (k_at_home : PySem.W.keepIn K (.ref f_at_home) = true)
    (a_events_between : PySem.W.nsIn K mainGlobals "events_between" = some (some (.ref f_events_between)))
    (l_events_between : K.lookup f_events_between = some ⟨oc_events_between, od_events_between, .func (PySem.W.fnOf "events_between" "events_between" (defArgs st_events_between) (defBody st_events_between) (defScope st_events_between) .none kV_events_between dc_events_between pm_events_between an_events_between cd_events_between ct_events_between), sl_events_between⟩)
    (c_events_between : PySem.W.codeIn K cd_events_between "events_between" = true)
    (k_events_between : PySem.W.keepIn K (.ref f_events_between) = true)
    (a_waiting : PySem.W.nsIn K mainGlobals "waiting" = some (some (.ref f_waiting)))
    (l_waiting : K.lookup f_waiting = some ⟨oc_waiting, od_waiting, .func (PySem.W.fnOf "waiting" "waiting" (defArgs st_waiting) (defBody st_waiting) (defScope st_waiting) .none kV_waiting dc_waiting pm_waiting an_waiting cd_waiting ct_waiting), sl_waiting⟩)
    (c_waiting : PySem.W.codeIn K cd_waiting "waiting" = true)
    (k_waiting : PySem.W.keepIn K (.ref f_waiting) = true)
    (a_is_open : PySem.W.nsIn K mainGlobals "is_open" = some (some (.ref f_is_open)))
    (l_is_open : K.lookup f_is_open = some ⟨oc_is_open, od_is_open, .func (PySem.W.fnOf "is_open" "is_open" (defArgs st_is_open) (defBody st_is_open) (defScope st_is_open) .none kV_is_open dc_is_open pm_is_open an_is_open cd_is_open ct_is_open), sl_is_open⟩)
    (c_is_open : PySem.W.codeIn K cd_is_open "is_open" = true)
    (k_is_open : PySem.W.keepIn K (.ref f_is_open) = true)
    (a_hook : PySem.W.nsIn K mainGlobals "hook" = some (some (.ref f_hook)))
    (l_hook : K.lookup f_hook = some ⟨oc_hook, od_hook, .func (PySem.W.fnOf "hook" "hook" (defArgs st_hook) (defBody st_hook) (defScope st_hook) .none kV_hook dc_hook pm_hook an_hook cd_hook ct_hook), sl_hook⟩)
    (c_hook : PySem.W.codeIn K cd_hook "hook" = true)
    (k_hook : PySem.W.keepIn K (.ref f_hook) = true)
    (a_holders : PySem.W.nsIn K mainGlobals "holders" = some (some (.ref f_holders)))
    (l_holders : K.lookup f_holders = some ⟨oc_holders, od_holders, .func (PySem.W.fnOf "holders" "holders" (defArgs st_holders) (defBody st_holders) (defScope st_holders) .none kV_holders dc_holders pm_holders an_holders cd_holders ct_holders), sl_holders⟩)
    (c_holders : PySem.W.codeIn K cd_holders "holders" = true)
    (k_holders : PySem.W.keepIn K (.ref f_holders) = true)
    (a_wait_ticks : PySem.W.nsIn K mainGlobals "wait_ticks" = some (some (.ref f_wait_ticks)))
    (l_wait_ticks : K.lookup f_wait_ticks = some ⟨oc_wait_ticks, od_wait_ticks, .func (PySem.W.fnOf "wait_ticks" "wait_ticks" (defArgs st_wait_ticks) (defBody st_wait_ticks) (defScope st_wait_ticks) .none kV_wait_ticks dc_wait_ticks pm_wait_ticks an_wait_ticks cd_wait_ticks ct_wait_ticks), sl_wait_ticks⟩)
    (c_wait_ticks : PySem.W.codeIn K cd_wait_ticks "wait_ticks" = true)
    (k_wait_ticks : PySem.W.keepIn K (.ref f_wait_ticks) = true)
    (a_count_waits : PySem.W.nsIn K mainGlobals "count_waits" = some (some (.ref f_count_waits)))
    (l_count_waits : K.lookup f_count_waits = some ⟨oc_count_waits, od_count_waits, .func (PySem.W.fnOf "count_waits" "count_waits" (defArgs st_count_waits) (defBody st_count_waits) (defScope st_count_waits) .none kV_count_waits dc_count_waits pm_count_waits an_count_waits cd_count_waits ct_count_waits), sl_count_waits⟩)
    (c_count_waits : PySem.W.codeIn K cd_count_waits "count_waits" = true)
    (k_count_waits : PySem.W.keepIn K (.ref f_count_waits) = true)
    (a_next_entry : PySem.W.nsIn K mainGlobals "next_entry" = some (some (.ref f_next_entry)))
    (l_next_entry : K.lookup f_next_entry = some ⟨oc_next_entry, od_next_entry, .func (PySem.W.fnOf "next_entry" "next_entry" (defArgs st_next_entry) (defBody st_next_entry) (defScope st_next_entry) .none kV_next_entry dc_next_entry pm_next_entry an_next_entry cd_next_entry ct_next_entry), sl_next_entry⟩)
    (c_next_entry : PySem.W.codeIn K cd_next_entry "next_entry" = true)
    (k_next_entry : PySem.W.keepIn K (.ref f_next_entry) = true)
    (a_plan_reminders : PySem.W.nsIn K mainGlobals "plan_reminders" = some (some (.ref f_plan_reminders)))
    (l_plan_reminders : K.lookup f_plan_reminders = some ⟨oc_plan_reminders, od_plan_reminders, .func (PySem.W.fnOf "plan_reminders" "plan_reminders" (defArgs st_plan_reminders) (defBody st_plan_reminders) (defScope st_plan_reminders) .none kV_plan_reminders dc_plan_reminders pm_plan_reminders an_plan_reminders cd_plan_reminders ct_plan_reminders), sl_plan_reminders⟩)
    (c_plan_reminders : PySem.W.codeIn K cd_plan_reminders "plan_reminders" = true)
    (k_plan_reminders : PySem.W.keepIn K (.ref f_plan_reminders) = true)
    (a_law_below : PySem.W.nsIn K mainGlobals "_law_below" = some (some (.ref f_law_below)))
    (l_law_below : K.lookup f_law_below = some ⟨oc_law_below, od_law_below, .func (PySem.W.fnOf "_law_below" "_law_below" (defArgs st_law_below) (defBody st_law_below) (defScope st_law_below) .none kV_law_below dc_law_below pm_law_below an_law_below cd_law_below ct_law_below), sl_law_below⟩)
    (c_law_below : PySem.W.codeIn K cd_law_below "_law_below" = true)
    (k_law_below : PySem.W.keepIn K (.ref f_law_below) = true)
    (a_law_table : PySem.W.nsIn K mainGlobals "_law_table" = some (some (.ref f_law_table)))
    (l_law_table : K.lookup f_law_table = some ⟨oc_law_table, od_law_table, .func (PySem.W.fnOf "_law_table" "_law_table" (defArgs st_law_table) (defBody st_law_table) (defScope st_law_table) .none kV_law_table dc_law_table pm_law_table an_law_table cd_law_table ct_law_table), sl_law_table⟩)
    (c_law_table : PySem.W.codeIn K cd_law_table "_law_table" = true)
    (k_law_table : PySem.W.keepIn K (.ref f_law_table) = true)
    (a_law_length : PySem.W.nsIn K mainGlobals "_law_length" = some (some (.ref f_law_length)))
    (l_law_length : K.lookup f_law_length = some ⟨oc_law_length, od_law_length, .func (PySem.W.fnOf "_law_length" "_law_length" (defArgs st_law_length) (defBody st_law_length) (defScope st_law_length) .none kV_law_length dc_law_length pm_law_length an_law_length cd_law_length ct_law_length), sl_law_length⟩)
    (c_law_length : PySem.W.codeIn K cd_law_length "_law_length" = true)
    (k_law_length : PySem.W.keepIn K (.ref f_law_length) = true)
    (a_law_parts : PySem.W.nsIn K mainGlobals "_law_parts" = some (some (.ref f_law_parts)))
    (l_law_parts : K.lookup f_law_parts = some ⟨oc_law_parts, od_law_parts, .func (PySem.W.fnOf "_law_parts" "_law_parts" (defArgs st_law_parts) (defBody st_law_parts) (defScope st_law_parts) .none kV_law_parts dc_law_parts pm_law_parts an_law_parts cd_law_parts ct_law_parts), sl_law_parts⟩)
    (c_law_parts : PySem.W.codeIn K cd_law_parts "_law_parts" = true)
    (k_law_parts : PySem.W.keepIn K (.ref f_law_parts) = true)
    (a_law_house : PySem.W.nsIn K mainGlobals "_law_house" = some (some (.ref f_law_house)))
    (l_law_house : K.lookup f_law_house = some ⟨oc_law_house, od_law_house, .func (PySem.W.fnOf "_law_house" "_law_house" (defArgs st_law_house) (defBody st_law_house) (defScope st_law_house) .none kV_law_house dc_law_house pm_law_house an_law_house cd_law_house ct_law_house), sl_law_house⟩)
    (c_law_house : PySem.W.codeIn K cd_law_house "_law_house" = true)
    (k_law_house : PySem.W.keepIn K (.ref f_law_house) = true)
    (a_law_error_of : PySem.W.nsIn K mainGlobals "_law_error_of" = some (some (.ref f_law_error_of)))
    (l_law_error_of : K.lookup f_law_error_of = some ⟨oc_law_error_of, od_law_error_of, .func (PySem.W.fnOf "_law_error_of" "_law_error_of" (defArgs st_law_error_of) (defBody st_law_error_of) (defScope st_law_error_of) .none kV_law_error_of dc_law_error_of pm_law_error_of an_law_error_of cd_law_error_of ct_law_error_of), sl_law_error_of⟩)
    (c_law_error_of : PySem.W.codeIn K cd_law_error_of "_law_error_of" = true)
    (k_law_error_of : PySem.W.keepIn K (.ref f_law_error_of) = true)
    (a_law_all_raise : PySem.W.nsIn K mainGlobals "_law_all_raise" = some (some (.ref f_law_all_raise)))
    (l_law_all_raise : K.lookup f_law_all_raise = some ⟨oc_law_all_raise, od_law_all_raise, .func (PySem.W.fnOf "_law_all_raise" "_law_all_raise" (defArgs st_law_all_raise) (defBody st_law_all_raise) (defScope st_law_all_raise) .none kV_law_all_raise dc_law_all_raise pm_law_all_raise an_law_all_raise cd_law_all_raise ct_law_all_raise), sl_law_all_raise⟩)
    (c_law_all_raise : PySem.W.codeIn K cd_law_all_raise "_law_all_raise" = true)
    (k_law_all_raise : PySem.W.keepIn K (.ref f_law_all_raise) = true)
    (a_law_random : PySem.W.nsIn K mainGlobals "_law_random" = some (some (.ref f_law_random)))
    (l_law_random : K.lookup f_law_random = some ⟨oc_law_random, od_law_random, .func (PySem.W.fnOf "_law_random" "_law_random" (defArgs st_law_random) (defBody st_law_random) (defScope st_law_random) .none kV_law_random dc_law_random pm_law_random an_law_random cd_law_random ct_law_random), sl_law_random⟩)
    (c_law_random : PySem.W.codeIn K cd_law_random "_law_random" = true)
    (k_law_random : PySem.W.keepIn K (.ref f_law_random) = true)
    (a_law : PySem.W.nsIn K mainGlobals "law" = some (some (.ref f_law)))
    (l_law : K.lookup f_law = some ⟨oc_law, od_law, .func (PySem.W.fnOf "law" "law" (defArgs st_law) (defBody st_law) (defScope st_law) .none kV_law dc_law pm_law an_law (.ref cc_law) ct_law), sl_law⟩)
    (c_law : PySem.W.codeIn K (.ref cc_law) "law" = true)
    (k_law : PySem.W.keepIn K (.ref f_law) = true)
    (pg_House : PySem.W.plainGet K C_House Str.empty = true)
    (hd_House : PySem.W.hasDictIn K C_House = true)
    (po_House : PySem.W.plainOver K C_House = true)
    (sa_House : PySem.W.findIn K (.ref C_House) "__setattr__" = some (some (.builtin "object.__setattr__")))
    (mk_House : PySem.W.makesIn K C_House = true)
    (kc_House : PySem.W.keepIn K (.ref C_House) = true)
    (na_House_tables : PySem.W.findIn K (.ref C_House) "tables" = some none)
    (na_House_key_count : PySem.W.findIn K (.ref C_House) "key_count" = some none)
    (na_House_careful : PySem.W.findIn K (.ref C_House) "careful" = some none)
    (na_House_reminders : PySem.W.findIn K (.ref C_House) "reminders" = some none)
    (na_House_length : PySem.W.findIn K (.ref C_House) "length" = some none)
    (pg_Story : PySem.W.plainGet K C_Story Str.empty = true)
    (hd_Story : PySem.W.hasDictIn K C_Story = true)
    (po_Story : PySem.W.plainOver K C_Story = true)
    (sa_Story : PySem.W.findIn K (.ref C_Story) "__setattr__" = some (some (.builtin "object.__setattr__")))
    (mk_Story : PySem.W.makesIn K C_Story = true)
    (kc_Story : PySem.W.keepIn K (.ref C_Story) = true)
    (na_Story_scenes : PySem.W.findIn K (.ref C_Story) "scenes" = some none)
    (na_Story_events : PySem.W.findIn K (.ref C_Story) "events" = some none)
    (na_Story_start : PySem.W.findIn K (.ref C_Story) "start" = some none)
    (na_Story_last : PySem.W.findIn K (.ref C_Story) "last" = some none)
    (xd_InvalidTick : PySem.W.hasDictIn K C_InvalidTick = true)
    (xy_InvalidTick : PySem.W.typeIn K (.ref C_InvalidTick) = some (.type "type"))
    (xd_UnknownPerson : PySem.W.hasDictIn K C_UnknownPerson = true)
    (xy_UnknownPerson : PySem.W.typeIn K (.ref C_UnknownPerson) = some (.type "type"))
    (xd_InvalidLimit : PySem.W.hasDictIn K C_InvalidLimit = true)
    (xy_InvalidLimit : PySem.W.typeIn K (.ref C_InvalidLimit) = some (.type "type"))
    (xd_HouseError : PySem.W.hasDictIn K C_HouseError = true)
    (xy_HouseError : PySem.W.typeIn K (.ref C_HouseError) = some (.type "type"))
    (xd_InvalidHouse : PySem.W.hasDictIn K C_InvalidHouse = true)
    (xy_InvalidHouse : PySem.W.typeIn K (.ref C_InvalidHouse) = some (.type "type"))
    (xd_DifferentHouses : PySem.W.hasDictIn K C_DifferentHouses = true)
    (xy_DifferentHouses : PySem.W.typeIn K (.ref C_DifferentHouses) = some (.type "type"))
    (xd_InvalidWaiting : PySem.W.hasDictIn K C_InvalidWaiting = true)
    (xy_InvalidWaiting : PySem.W.typeIn K (.ref C_InvalidWaiting) = some (.type "type"))
    (xd_Contradiction : PySem.W.hasDictIn K C_Contradiction = true)
    (xy_Contradiction : PySem.W.typeIn K (.ref C_Contradiction) = some (.type "type"))
    (xd_InvalidName : PySem.W.hasDictIn K C_InvalidName = true)
    (xy_InvalidName : PySem.W.typeIn K (.ref C_InvalidName) = some (.type "type"))
    (xd_UnknownName : PySem.W.hasDictIn K C_UnknownName = true)
    (xy_UnknownName : PySem.W.typeIn K (.ref C_UnknownName) = some (.type "type"))
    (xd_TextFault : PySem.W.hasDictIn K C_TextFault = true)
    (xy_TextFault : PySem.W.typeIn K (.ref C_TextFault) = some (.type "type"))
    (xd_InvalidCode : PySem.W.hasDictIn K C_InvalidCode = true)
    (xy_InvalidCode : PySem.W.typeIn K (.ref C_InvalidCode) = some (.type "type"))
    (xd_InvalidOperation : PySem.W.hasDictIn K C_InvalidOperation = true)
    (xy_InvalidOperation : PySem.W.typeIn K (.ref C_InvalidOperation) = some (.type "type"))
    (xe_HouseError : PySem.W.subIn K (.ref C_HouseError) (.type "BaseException") = some true)
    (xr_HouseError : PySem.W.readsIn K C_HouseError (.type "type") = true)
    (xi_HouseError : PySem.W.findCls K (.ref C_HouseError) (.type "type") "__init__" = some (.val (.builtin "ValueError.__init__")))
    (xg_HouseError : PySem.W.specialIn K (.ref C_HouseError) "__getattribute__" = some (some (.builtin "type.__getattribute__")))
    (xn_ : PySem.W.specialIn K (.builtin "object.__class__") "__get__" = some (some (.builtin "getset_descriptor.__get__")))
    (xt_ : PySem.W.takesIn K (.builtin "object.__class__") = some true)
    (xp_InvalidTick : PySem.W.excIn K C_InvalidTick [.type "ValueError", .type "Exception", .type "BaseException", .type "object"] "ValueError.__new__" = true)
    (xe_InvalidTick : PySem.W.subIn K (.ref C_InvalidTick) (.type "BaseException") = some true)
    (xk_InvalidTick : PySem.W.keepIn K (.ref C_InvalidTick) = true)
    (xa_InvalidTick : PySem.W.findIn K (.ref C_InvalidTick) "__getattribute__" = some (some (.builtin "BaseException.__getattribute__")))
    (xh_InvalidTick : PySem.W.findIn K (.ref C_InvalidTick) "__getattr__" = some none)
    (xc_InvalidTick : PySem.W.findIn K (.ref C_InvalidTick) "__class__" = some (some (.builtin "object.__class__")))
    (xo_InvalidTick : PySem.W.mroIn K C_InvalidTick (.type "object") = some true)
    (ss_InvalidTick : PySem.W.subIn K (.ref C_InvalidTick) (.ref C_InvalidTick) = some true)
    (xm_InvalidTick : PySem.W.subIn K (.ref C_InvalidTick) (.ref C_HouseError) = some true)
    (xp_UnknownPerson : PySem.W.excIn K C_UnknownPerson [.type "ValueError", .type "Exception", .type "BaseException", .type "object"] "ValueError.__new__" = true)
    (xe_UnknownPerson : PySem.W.subIn K (.ref C_UnknownPerson) (.type "BaseException") = some true)
    (xk_UnknownPerson : PySem.W.keepIn K (.ref C_UnknownPerson) = true)
    (xa_UnknownPerson : PySem.W.findIn K (.ref C_UnknownPerson) "__getattribute__" = some (some (.builtin "BaseException.__getattribute__")))
    (xh_UnknownPerson : PySem.W.findIn K (.ref C_UnknownPerson) "__getattr__" = some none)
    (xc_UnknownPerson : PySem.W.findIn K (.ref C_UnknownPerson) "__class__" = some (some (.builtin "object.__class__")))
    (xo_UnknownPerson : PySem.W.mroIn K C_UnknownPerson (.type "object") = some true)
    (ss_UnknownPerson : PySem.W.subIn K (.ref C_UnknownPerson) (.ref C_UnknownPerson) = some true)
    (xm_UnknownPerson : PySem.W.subIn K (.ref C_UnknownPerson) (.ref C_HouseError) = some true)
    (xp_InvalidLimit : PySem.W.excIn K C_InvalidLimit [.type "ValueError", .type "Exception", .type "BaseException", .type "object"] "ValueError.__new__" = true)
    (xe_InvalidLimit : PySem.W.subIn K (.ref C_InvalidLimit) (.type "BaseException") = some true)
    (xk_InvalidLimit : PySem.W.keepIn K (.ref C_InvalidLimit) = true)
    (xa_InvalidLimit : PySem.W.findIn K (.ref C_InvalidLimit) "__getattribute__" = some (some (.builtin "BaseException.__getattribute__")))
    (xh_InvalidLimit : PySem.W.findIn K (.ref C_InvalidLimit) "__getattr__" = some none)
    (xc_InvalidLimit : PySem.W.findIn K (.ref C_InvalidLimit) "__class__" = some (some (.builtin "object.__class__")))
    (xo_InvalidLimit : PySem.W.mroIn K C_InvalidLimit (.type "object") = some true)
    (ss_InvalidLimit : PySem.W.subIn K (.ref C_InvalidLimit) (.ref C_InvalidLimit) = some true)
    (xm_InvalidLimit : PySem.W.subIn K (.ref C_InvalidLimit) (.ref C_HouseError) = some true)
    (sx_InvalidTick : PySem.W.subIn K (.ref C_InvalidTick) (.type "StopIteration") = some false)
    (kt_InvalidLimit_Contradiction : PySem.W.subIn K (.ref C_InvalidLimit) (.ref C_Contradiction) = some false)
    (kt_InvalidLimit_DifferentHouses : PySem.W.subIn K (.ref C_InvalidLimit) (.ref C_DifferentHouses) = some false)
    (kt_InvalidLimit_InvalidCode : PySem.W.subIn K (.ref C_InvalidLimit) (.ref C_InvalidCode) = some false)
    (kt_InvalidLimit_InvalidHouse : PySem.W.subIn K (.ref C_InvalidLimit) (.ref C_InvalidHouse) = some false)
    (kt_InvalidLimit_InvalidLimit : PySem.W.subIn K (.ref C_InvalidLimit) (.ref C_InvalidLimit) = some true)
    (kt_InvalidLimit_InvalidName : PySem.W.subIn K (.ref C_InvalidLimit) (.ref C_InvalidName) = some false)
    (kt_InvalidLimit_InvalidOperation : PySem.W.subIn K (.ref C_InvalidLimit) (.ref C_InvalidOperation) = some false)
    (kt_InvalidLimit_InvalidTick : PySem.W.subIn K (.ref C_InvalidLimit) (.ref C_InvalidTick) = some false)
    (kt_InvalidLimit_InvalidWaiting : PySem.W.subIn K (.ref C_InvalidLimit) (.ref C_InvalidWaiting) = some false)
    (kt_InvalidLimit_TextFault : PySem.W.subIn K (.ref C_InvalidLimit) (.ref C_TextFault) = some false)
    (kt_InvalidLimit_UnknownName : PySem.W.subIn K (.ref C_InvalidLimit) (.ref C_UnknownName) = some false)
    (kt_InvalidLimit_UnknownPerson : PySem.W.subIn K (.ref C_InvalidLimit) (.ref C_UnknownPerson) = some false)
    (kt_InvalidLimit_ValueError : PySem.W.subIn K (.ref C_InvalidLimit) (.type "ValueError") = some true)
    (kt_InvalidTick_Contradiction : PySem.W.subIn K (.ref C_InvalidTick) (.ref C_Contradiction) = some false)
    (kt_InvalidTick_DifferentHouses : PySem.W.subIn K (.ref C_InvalidTick) (.ref C_DifferentHouses) = some false)
    (kt_InvalidTick_InvalidCode : PySem.W.subIn K (.ref C_InvalidTick) (.ref C_InvalidCode) = some false)
    (kt_InvalidTick_InvalidHouse : PySem.W.subIn K (.ref C_InvalidTick) (.ref C_InvalidHouse) = some false)
    (kt_InvalidTick_InvalidLimit : PySem.W.subIn K (.ref C_InvalidTick) (.ref C_InvalidLimit) = some false)
    (kt_InvalidTick_InvalidName : PySem.W.subIn K (.ref C_InvalidTick) (.ref C_InvalidName) = some false)
    (kt_InvalidTick_InvalidOperation : PySem.W.subIn K (.ref C_InvalidTick) (.ref C_InvalidOperation) = some false)
    (kt_InvalidTick_InvalidTick : PySem.W.subIn K (.ref C_InvalidTick) (.ref C_InvalidTick) = some true)
    (kt_InvalidTick_InvalidWaiting : PySem.W.subIn K (.ref C_InvalidTick) (.ref C_InvalidWaiting) = some false)
    (kt_InvalidTick_TextFault : PySem.W.subIn K (.ref C_InvalidTick) (.ref C_TextFault) = some false)
    (kt_InvalidTick_UnknownName : PySem.W.subIn K (.ref C_InvalidTick) (.ref C_UnknownName) = some false)
    (kt_InvalidTick_UnknownPerson : PySem.W.subIn K (.ref C_InvalidTick) (.ref C_UnknownPerson) = some false)
    (kt_InvalidTick_ValueError : PySem.W.subIn K (.ref C_InvalidTick) (.type "ValueError") = some true)
    (kt_UnknownPerson_Contradiction : PySem.W.subIn K (.ref C_UnknownPerson) (.ref C_Contradiction) = some false)
    (kt_UnknownPerson_DifferentHouses : PySem.W.subIn K (.ref C_UnknownPerson) (.ref C_DifferentHouses) = some false)
    (kt_UnknownPerson_InvalidCode : PySem.W.subIn K (.ref C_UnknownPerson) (.ref C_InvalidCode) = some false)
    (kt_UnknownPerson_InvalidHouse : PySem.W.subIn K (.ref C_UnknownPerson) (.ref C_InvalidHouse) = some false)
    (kt_UnknownPerson_InvalidLimit : PySem.W.subIn K (.ref C_UnknownPerson) (.ref C_InvalidLimit) = some false)
    (kt_UnknownPerson_InvalidName : PySem.W.subIn K (.ref C_UnknownPerson) (.ref C_InvalidName) = some false)
    (kt_UnknownPerson_InvalidOperation : PySem.W.subIn K (.ref C_UnknownPerson) (.ref C_InvalidOperation) = some false)
    (kt_UnknownPerson_InvalidTick : PySem.W.subIn K (.ref C_UnknownPerson) (.ref C_InvalidTick) = some false)
    (kt_UnknownPerson_InvalidWaiting : PySem.W.subIn K (.ref C_UnknownPerson) (.ref C_InvalidWaiting) = some false)
    (kt_UnknownPerson_TextFault : PySem.W.subIn K (.ref C_UnknownPerson) (.ref C_TextFault) = some false)
    (kt_UnknownPerson_UnknownName : PySem.W.subIn K (.ref C_UnknownPerson) (.ref C_UnknownName) = some false)
    (kt_UnknownPerson_UnknownPerson : PySem.W.subIn K (.ref C_UnknownPerson) (.ref C_UnknownPerson) = some true)
    (kt_UnknownPerson_ValueError : PySem.W.subIn K (.ref C_UnknownPerson) (.type "ValueError") = some true)
    (z_ValueError : PySem.W.nsIn K mainGlobals "ValueError" = some none)
    (z_abs : PySem.W.nsIn K mainGlobals "abs" = some none)
    (z_all : PySem.W.nsIn K mainGlobals "all" = some none)
    (z_any : PySem.W.nsIn K mainGlobals "any" = some none)
    (z_bool : PySem.W.nsIn K mainGlobals "bool" = some none)
    (z_enumerate : PySem.W.nsIn K mainGlobals "enumerate" = some none)
    (z_int : PySem.W.nsIn K mainGlobals "int" = some none)
    (z_isinstance : PySem.W.nsIn K mainGlobals "isinstance" = some none)
    (z_len : PySem.W.nsIn K mainGlobals "len" = some none)
    (z_list : PySem.W.nsIn K mainGlobals "list" = some none)
    (z_range : PySem.W.nsIn K mainGlobals "range" = some none)
    (z_sorted : PySem.W.nsIn K mainGlobals "sorted" = some none)
    (z_str : PySem.W.nsIn K mainGlobals "str" = some none)
    (z_sum : PySem.W.nsIn K mainGlobals "sum" = some none)
    (z_tuple : PySem.W.nsIn K mainGlobals "tuple" = some none)
    (u_MAX_PERSONS : PySem.W.nsIn K mainGlobals "MAX_PERSONS" = some (some (.int 6 t_MAX_PERSONS)))
    (u_LENGTHS : PySem.W.nsIn K mainGlobals "LENGTHS" = some (some (.ref a_LENGTHS)))
    (l_LENGTHS : K.lookup a_LENGTHS = some ⟨.type "tuple", o_LENGTHS, .seq #[.int 1 t0_LENGTHS, .int 2 t1_LENGTHS, .int 3 t2_LENGTHS, .int 4 t3_LENGTHS, .int 6 t4_LENGTHS, .int 8 t5_LENGTHS, .int 12 t6_LENGTHS, .int 24 t7_LENGTHS] n_LENGTHS, s_LENGTHS⟩)
    (u_MAX_KEYS : PySem.W.nsIn K mainGlobals "MAX_KEYS" = some (some (.int 9 t_MAX_KEYS)))
    (u_MAX_REMINDERS : PySem.W.nsIn K mainGlobals "MAX_REMINDERS" = some (some (.int 10 t_MAX_REMINDERS)))
    (u_MAX_TICK : PySem.W.nsIn K mainGlobals "MAX_TICK" = some (some (.int 1000000000000000000 t_MAX_TICK)))
    (u_HOME : PySem.W.nsIn K mainGlobals "HOME" = some (some (.str "h" t_HOME)))
    (u_OUT : PySem.W.nsIn K mainGlobals "OUT" = some (some (.str "o" t_OUT)))
    (u_ENTER : PySem.W.nsIn K mainGlobals "ENTER" = some (some (.str "enter" t_ENTER)))
    (u_WAIT : PySem.W.nsIn K mainGlobals "WAIT" = some (some (.str "wait" t_WAIT)))
    (u_LEAVE : PySem.W.nsIn K mainGlobals "LEAVE" = some (some (.str "leave" t_LEAVE)))
    (u_TAKE : PySem.W.nsIn K mainGlobals "TAKE" = some (some (.str "take" t_TAKE)))
    (u_OPEN : PySem.W.nsIn K mainGlobals "OPEN" = some (some (.str "open" t_OPEN)))
    (u_MAX_ADDED : PySem.W.nsIn K mainGlobals "MAX_ADDED" = some (some (.int 2 t_MAX_ADDED)))
    (lT_House__init_ : K.lookup T_House__init_ = some ⟨ocT_House__init_, odT_House__init_, .seq #[.ref e0_House__init_, .ref e1_House__init_] nT_House__init_, slT_House__init_⟩)
    (v_law : K.lookup cc_law = some ⟨ocv_law, odv_law, .fields vs_law, slv_law⟩)
    (le0_House__init_ : K.lookup e0_House__init_ = some ⟨.type "tuple", ode0_House__init_, .seq #[] ne0_House__init_, sle0_House__init_⟩)
    (le1_House__init_ : K.lookup e1_House__init_ = some ⟨.type "tuple", ode1_House__init_, .seq #[] ne1_House__init_, sle1_House__init_⟩)
    (p_law : vs_law[11]? = some (.ref P_law))
    (h_law : PySem.W.codeHdIn K cc_law P_law = true)
    (n_law : K.lookup P_law = none)
    (t_law : h.get? P_law = some { cls := .none, data := .fields #[] })
    (uT : ∀ p ∈ ([(P_law, ("law" : Str) ++ ".<locals>." ++ "<lambda>")] : List (Addr × Str)), ∀ q ∈ ([(P_law, ("law" : Str) ++ ".<locals>." ++ "<lambda>")] : List (Addr × Str)), p.1 = q.1 → p.2 = q.2) :
    ∃ A : Ad, Txt K mg A ∧ HdT K h A := by
  have F_House__init_ := funD_mkD (st := st_House__init_) (dvs := [V.ref e0_House__init_, V.ref e1_House__init_]) (its := [.ref e0_House__init_, .ref e1_House__init_]) l_House__init_ c_House__init_ k_House__init_ (by simp) lT_House__init_ rfl (.cons rfl (.cons rfl .nil))
  obtain ⟨ds_House__init__0, v_House__init__0, bb_House__init__0⟩ := FunD.binds1 (ps := ["self", "tables", "keys", "careful", "reminders"]) F_House__init_ 5 2 (by simp) (by rfl) fun T kV doc pm an cdv ct us its hu hi => match us, its, hu, hi with | [_, _, _, _, _], [_, _], _, _ => ⟨_, rfl, rfl⟩
  have vv_House__init__0 : L2.Vals ([] : List V) ds_House__init__0 := v_House__init__0
  cases vv_House__init__0
  have bf_House__init_ := bb_House__init__0
  refine ⟨{ dv_House__init_ := [V.ref e0_House__init_, V.ref e1_House__init_], cc_law := cc_law, P_law := P_law, C_InvalidTick := C_InvalidTick, C_UnknownPerson := C_UnknownPerson, C_InvalidLimit := C_InvalidLimit, C_HouseError := C_HouseError, C_InvalidHouse := C_InvalidHouse, C_DifferentHouses := C_DifferentHouses, C_InvalidWaiting := C_InvalidWaiting, C_Contradiction := C_Contradiction, C_InvalidName := C_InvalidName, C_UnknownName := C_UnknownName, C_TextFault := C_TextFault, C_InvalidCode := C_InvalidCode, C_InvalidOperation := C_InvalidOperation, f_is_int_in := f_is_int_in, fd_is_int_in := PySem.W.fnOf "is_int_in" "is_int_in" (defArgs st_is_int_in) (defBody st_is_int_in) (defScope st_is_int_in) .none kV_is_int_in dc_is_int_in pm_is_int_in an_is_int_in cd_is_int_in ct_is_int_in, f_is_table := f_is_table, fd_is_table := PySem.W.fnOf "is_table" "is_table" (defArgs st_is_table) (defBody st_is_table) (defScope st_is_table) .none kV_is_table dc_is_table pm_is_table an_is_table cd_is_table ct_is_table, f_common_multiple := f_common_multiple, fd_common_multiple := PySem.W.fnOf "common_multiple" "common_multiple" (defArgs st_common_multiple) (defBody st_common_multiple) (defScope st_common_multiple) .none kV_common_multiple dc_common_multiple pm_common_multiple an_common_multiple cd_common_multiple ct_common_multiple, f_check_persons := f_check_persons, fd_check_persons := PySem.W.fnOf "check_persons" "check_persons" (defArgs st_check_persons) (defBody st_check_persons) (defScope st_check_persons) .none kV_check_persons dc_check_persons pm_check_persons an_check_persons cd_check_persons ct_check_persons, f_is_reminder := f_is_reminder, fd_is_reminder := PySem.W.fnOf "is_reminder" "is_reminder" (defArgs st_is_reminder) (defBody st_is_reminder) (defScope st_is_reminder) .none kV_is_reminder dc_is_reminder pm_is_reminder an_is_reminder cd_is_reminder ct_is_reminder, f_House__init_ := f_House__init_, fd_House__init_ := PySem.W.fnOf "__init__" "House.__init__" (defArgs st_House__init_) (defBody st_House__init_) (defScope st_House__init_) (.ref T_House__init_) kV_House__init_ dc_House__init_ pm_House__init_ an_House__init_ cd_House__init_ ct_House__init_, f_House_persons := f_House_persons, fd_House_persons := PySem.W.fnOf "persons" "House.persons" (defArgs st_House_persons) (defBody st_House_persons) (defScope st_House_persons) .none kV_House_persons dc_House_persons pm_House_persons an_House_persons cd_House_persons ct_House_persons, p_House_persons := p_House_persons, f_House_period := f_House_period, fd_House_period := PySem.W.fnOf "period" "House.period" (defArgs st_House_period) (defBody st_House_period) (defScope st_House_period) .none kV_House_period dc_House_period pm_House_period an_House_period cd_House_period ct_House_period, p_House_period := p_House_period, f_House_wants_home := f_House_wants_home, fd_House_wants_home := PySem.W.fnOf "wants_home" "House.wants_home" (defArgs st_House_wants_home) (defBody st_House_wants_home) (defScope st_House_wants_home) .none kV_House_wants_home dc_House_wants_home pm_House_wants_home an_House_wants_home cd_House_wants_home ct_House_wants_home, f_House_takes_key := f_House_takes_key, fd_House_takes_key := PySem.W.fnOf "takes_key" "House.takes_key" (defArgs st_House_takes_key) (defBody st_House_takes_key) (defScope st_House_takes_key) .none kV_House_takes_key dc_House_takes_key pm_House_takes_key an_House_takes_key cd_House_takes_key ct_House_takes_key, f_check_tick := f_check_tick, fd_check_tick := PySem.W.fnOf "check_tick" "check_tick" (defArgs st_check_tick) (defBody st_check_tick) (defScope st_check_tick) .none kV_check_tick dc_check_tick pm_check_tick an_check_tick cd_check_tick ct_check_tick, f_check_person := f_check_person, fd_check_person := PySem.W.fnOf "check_person" "check_person" (defArgs st_check_person) (defBody st_check_person) (defScope st_check_person) .none kV_check_person dc_check_person pm_check_person an_check_person cd_check_person ct_check_person, f_first_scene := f_first_scene, fd_first_scene := PySem.W.fnOf "first_scene" "first_scene" (defArgs st_first_scene) (defBody st_first_scene) (defScope st_first_scene) .none kV_first_scene dc_first_scene pm_first_scene an_first_scene cd_first_scene ct_first_scene, f_people_at_home := f_people_at_home, fd_people_at_home := PySem.W.fnOf "people_at_home" "people_at_home" (defArgs st_people_at_home) (defBody st_people_at_home) (defScope st_people_at_home) .none kV_people_at_home dc_people_at_home pm_people_at_home an_people_at_home cd_people_at_home ct_people_at_home, f_after_tick := f_after_tick, fd_after_tick := PySem.W.fnOf "after_tick" "after_tick" (defArgs st_after_tick) (defBody st_after_tick) (defScope st_after_tick) .none kV_after_tick dc_after_tick pm_after_tick an_after_tick cd_after_tick ct_after_tick, f_Story__init_ := f_Story__init_, fd_Story__init_ := PySem.W.fnOf "__init__" "Story.__init__" (defArgs st_Story__init_) (defBody st_Story__init_) (defScope st_Story__init_) .none kV_Story__init_ dc_Story__init_ pm_Story__init_ an_Story__init_ cd_Story__init_ ct_Story__init_, f_Story_size := f_Story_size, fd_Story_size := PySem.W.fnOf "size" "Story.size" (defArgs st_Story_size) (defBody st_Story_size) (defScope st_Story_size) .none kV_Story_size dc_Story_size pm_Story_size an_Story_size cd_Story_size ct_Story_size, p_Story_size := p_Story_size, f_Story_place_of := f_Story_place_of, fd_Story_place_of := PySem.W.fnOf "place_of" "Story.place_of" (defArgs st_Story_place_of) (defBody st_Story_place_of) (defScope st_Story_place_of) .none kV_Story_place_of dc_Story_place_of pm_Story_place_of an_Story_place_of cd_Story_place_of ct_Story_place_of, f_scene_after := f_scene_after, fd_scene_after := PySem.W.fnOf "scene_after" "scene_after" (defArgs st_scene_after) (defBody st_scene_after) (defScope st_scene_after) .none kV_scene_after dc_scene_after pm_scene_after an_scene_after cd_scene_after ct_scene_after, f_at_home := f_at_home, fd_at_home := PySem.W.fnOf "at_home" "at_home" (defArgs st_at_home) (defBody st_at_home) (defScope st_at_home) .none kV_at_home dc_at_home pm_at_home an_at_home cd_at_home ct_at_home, f_events_between := f_events_between, fd_events_between := PySem.W.fnOf "events_between" "events_between" (defArgs st_events_between) (defBody st_events_between) (defScope st_events_between) .none kV_events_between dc_events_between pm_events_between an_events_between cd_events_between ct_events_between, f_waiting := f_waiting, fd_waiting := PySem.W.fnOf "waiting" "waiting" (defArgs st_waiting) (defBody st_waiting) (defScope st_waiting) .none kV_waiting dc_waiting pm_waiting an_waiting cd_waiting ct_waiting, f_is_open := f_is_open, fd_is_open := PySem.W.fnOf "is_open" "is_open" (defArgs st_is_open) (defBody st_is_open) (defScope st_is_open) .none kV_is_open dc_is_open pm_is_open an_is_open cd_is_open ct_is_open, f_hook := f_hook, fd_hook := PySem.W.fnOf "hook" "hook" (defArgs st_hook) (defBody st_hook) (defScope st_hook) .none kV_hook dc_hook pm_hook an_hook cd_hook ct_hook, f_holders := f_holders, fd_holders := PySem.W.fnOf "holders" "holders" (defArgs st_holders) (defBody st_holders) (defScope st_holders) .none kV_holders dc_holders pm_holders an_holders cd_holders ct_holders, f_wait_ticks := f_wait_ticks, fd_wait_ticks := PySem.W.fnOf "wait_ticks" "wait_ticks" (defArgs st_wait_ticks) (defBody st_wait_ticks) (defScope st_wait_ticks) .none kV_wait_ticks dc_wait_ticks pm_wait_ticks an_wait_ticks cd_wait_ticks ct_wait_ticks, f_count_waits := f_count_waits, fd_count_waits := PySem.W.fnOf "count_waits" "count_waits" (defArgs st_count_waits) (defBody st_count_waits) (defScope st_count_waits) .none kV_count_waits dc_count_waits pm_count_waits an_count_waits cd_count_waits ct_count_waits, f_next_entry := f_next_entry, fd_next_entry := PySem.W.fnOf "next_entry" "next_entry" (defArgs st_next_entry) (defBody st_next_entry) (defScope st_next_entry) .none kV_next_entry dc_next_entry pm_next_entry an_next_entry cd_next_entry ct_next_entry, f_plan_reminders := f_plan_reminders, fd_plan_reminders := PySem.W.fnOf "plan_reminders" "plan_reminders" (defArgs st_plan_reminders) (defBody st_plan_reminders) (defScope st_plan_reminders) .none kV_plan_reminders dc_plan_reminders pm_plan_reminders an_plan_reminders cd_plan_reminders ct_plan_reminders, f_law_below := f_law_below, fd_law_below := PySem.W.fnOf "_law_below" "_law_below" (defArgs st_law_below) (defBody st_law_below) (defScope st_law_below) .none kV_law_below dc_law_below pm_law_below an_law_below cd_law_below ct_law_below, f_law_table := f_law_table, fd_law_table := PySem.W.fnOf "_law_table" "_law_table" (defArgs st_law_table) (defBody st_law_table) (defScope st_law_table) .none kV_law_table dc_law_table pm_law_table an_law_table cd_law_table ct_law_table, f_law_length := f_law_length, fd_law_length := PySem.W.fnOf "_law_length" "_law_length" (defArgs st_law_length) (defBody st_law_length) (defScope st_law_length) .none kV_law_length dc_law_length pm_law_length an_law_length cd_law_length ct_law_length, f_law_parts := f_law_parts, fd_law_parts := PySem.W.fnOf "_law_parts" "_law_parts" (defArgs st_law_parts) (defBody st_law_parts) (defScope st_law_parts) .none kV_law_parts dc_law_parts pm_law_parts an_law_parts cd_law_parts ct_law_parts, f_law_house := f_law_house, fd_law_house := PySem.W.fnOf "_law_house" "_law_house" (defArgs st_law_house) (defBody st_law_house) (defScope st_law_house) .none kV_law_house dc_law_house pm_law_house an_law_house cd_law_house ct_law_house, f_law_error_of := f_law_error_of, fd_law_error_of := PySem.W.fnOf "_law_error_of" "_law_error_of" (defArgs st_law_error_of) (defBody st_law_error_of) (defScope st_law_error_of) .none kV_law_error_of dc_law_error_of pm_law_error_of an_law_error_of cd_law_error_of ct_law_error_of, f_law_all_raise := f_law_all_raise, fd_law_all_raise := PySem.W.fnOf "_law_all_raise" "_law_all_raise" (defArgs st_law_all_raise) (defBody st_law_all_raise) (defScope st_law_all_raise) .none kV_law_all_raise dc_law_all_raise pm_law_all_raise an_law_all_raise cd_law_all_raise ct_law_all_raise, f_law_random := f_law_random, fd_law_random := PySem.W.fnOf "_law_random" "_law_random" (defArgs st_law_random) (defBody st_law_random) (defScope st_law_random) .none kV_law_random dc_law_random pm_law_random an_law_random cd_law_random ct_law_random, f_law := f_law, fd_law := PySem.W.fnOf "law" "law" (defArgs st_law) (defBody st_law) (defScope st_law) .none kV_law dc_law pm_law an_law (.ref cc_law) ct_law, C_House := C_House, C_Story := C_Story }, ?_, ⟨uT, (List.forall_mem_cons.mpr ⟨PySem.W.codeHd_of_K X h_law, (fun _ m => by cases m)⟩), (List.forall_mem_cons.mpr ⟨n_law, (fun _ m => by cases m)⟩), (List.forall_mem_cons.mpr ⟨t_law, (fun _ m => by cases m)⟩)⟩⟩
  refine { g_is_int_in := ?mg_is_int_in, F_is_int_in := ?mF_is_int_in, b_is_int_in := ?mb_is_int_in, g_is_table := ?mg_is_table, F_is_table := ?mF_is_table, b_is_table := ?mb_is_table, g_common_multiple := ?mg_common_multiple, F_common_multiple := ?mF_common_multiple, b_common_multiple := ?mb_common_multiple, g_check_persons := ?mg_check_persons, F_check_persons := ?mF_check_persons, b_check_persons := ?mb_check_persons, g_is_reminder := ?mg_is_reminder, F_is_reminder := ?mF_is_reminder, b_is_reminder := ?mb_is_reminder, F_House__init_ := ?mF_House__init_, b_House__init_ := ?mb_House__init_, pr_House_persons := ?mpr_House_persons, F_House_persons := ?mF_House_persons, b_House_persons := ?mb_House_persons, pr_House_period := ?mpr_House_period, F_House_period := ?mF_House_period, b_House_period := ?mb_House_period, me_House_wants_home := ?mme_House_wants_home, F_House_wants_home := ?mF_House_wants_home, b_House_wants_home := ?mb_House_wants_home, me_House_takes_key := ?mme_House_takes_key, F_House_takes_key := ?mF_House_takes_key, b_House_takes_key := ?mb_House_takes_key, g_check_tick := ?mg_check_tick, F_check_tick := ?mF_check_tick, b_check_tick := ?mb_check_tick, g_check_person := ?mg_check_person, F_check_person := ?mF_check_person, b_check_person := ?mb_check_person, g_first_scene := ?mg_first_scene, F_first_scene := ?mF_first_scene, b_first_scene := ?mb_first_scene, g_people_at_home := ?mg_people_at_home, F_people_at_home := ?mF_people_at_home, b_people_at_home := ?mb_people_at_home, g_after_tick := ?mg_after_tick, F_after_tick := ?mF_after_tick, b_after_tick := ?mb_after_tick, F_Story__init_ := ?mF_Story__init_, b_Story__init_ := ?mb_Story__init_, pr_Story_size := ?mpr_Story_size, F_Story_size := ?mF_Story_size, b_Story_size := ?mb_Story_size, me_Story_place_of := ?mme_Story_place_of, F_Story_place_of := ?mF_Story_place_of, b_Story_place_of := ?mb_Story_place_of, g_scene_after := ?mg_scene_after, F_scene_after := ?mF_scene_after, b_scene_after := ?mb_scene_after, g_at_home := ?mg_at_home, F_at_home := ?mF_at_home, b_at_home := ?mb_at_home, g_events_between := ?mg_events_between, F_events_between := ?mF_events_between, b_events_between := ?mb_events_between, g_waiting := ?mg_waiting, F_waiting := ?mF_waiting, b_waiting := ?mb_waiting, g_is_open := ?mg_is_open, F_is_open := ?mF_is_open, b_is_open := ?mb_is_open, g_hook := ?mg_hook, F_hook := ?mF_hook, b_hook := ?mb_hook, g_holders := ?mg_holders, F_holders := ?mF_holders, b_holders := ?mb_holders, g_wait_ticks := ?mg_wait_ticks, F_wait_ticks := ?mF_wait_ticks, b_wait_ticks := ?mb_wait_ticks, g_count_waits := ?mg_count_waits, F_count_waits := ?mF_count_waits, b_count_waits := ?mb_count_waits, g_next_entry := ?mg_next_entry, F_next_entry := ?mF_next_entry, b_next_entry := ?mb_next_entry, g_plan_reminders := ?mg_plan_reminders, F_plan_reminders := ?mF_plan_reminders, b_plan_reminders := ?mb_plan_reminders, g_law_below := ?mg_law_below, F_law_below := ?mF_law_below, b_law_below := ?mb_law_below, g_law_table := ?mg_law_table, F_law_table := ?mF_law_table, b_law_table := ?mb_law_table, g_law_length := ?mg_law_length, F_law_length := ?mF_law_length, b_law_length := ?mb_law_length, g_law_parts := ?mg_law_parts, F_law_parts := ?mF_law_parts, b_law_parts := ?mb_law_parts, g_law_house := ?mg_law_house, F_law_house := ?mF_law_house, b_law_house := ?mb_law_house, g_law_error_of := ?mg_law_error_of, F_law_error_of := ?mF_law_error_of, b_law_error_of := ?mb_law_error_of, g_law_all_raise := ?mg_law_all_raise, F_law_all_raise := ?mF_law_all_raise, b_law_all_raise := ?mb_law_all_raise, g_law_random := ?mg_law_random, F_law_random := ?mF_law_random, b_law_random := ?mb_law_random, code_law := ?mcode_law, g_law := ?mg_law, F_law := ?mF_law, b_law := ?mb_law, cl_House := ?mcl_House, g_House := ?mg_House, mk_House := ?mmk_House, na_House_tables := ?mna_House_tables, na_House_key_count := ?mna_House_key_count, na_House_careful := ?mna_House_careful, na_House_reminders := ?mna_House_reminders, na_House_length := ?mna_House_length, cl_Story := ?mcl_Story, g_Story := ?mg_Story, mk_Story := ?mmk_Story, na_Story_scenes := ?mna_Story_scenes, na_Story_events := ?mna_Story_events, na_Story_start := ?mna_Story_start, na_Story_last := ?mna_Story_last, g_InvalidTick := ?mg_InvalidTick, g_UnknownPerson := ?mg_UnknownPerson, g_InvalidLimit := ?mg_InvalidLimit, g_HouseError := ?mg_HouseError, g_InvalidHouse := ?mg_InvalidHouse, g_DifferentHouses := ?mg_DifferentHouses, g_InvalidWaiting := ?mg_InvalidWaiting, g_Contradiction := ?mg_Contradiction, g_InvalidName := ?mg_InvalidName, g_UnknownName := ?mg_UnknownName, g_TextFault := ?mg_TextFault, g_InvalidCode := ?mg_InvalidCode, g_InvalidOperation := ?mg_InvalidOperation, xb_HouseError := ?mxb_HouseError, xp_InvalidTick := ?mxp_InvalidTick, xk_InvalidTick := ?mxk_InvalidTick, xe_InvalidTick := ?mxe_InvalidTick, xy_InvalidTick := ?mxy_InvalidTick, xc_InvalidTick := ?mxc_InvalidTick, ex_InvalidTick := ?mex_InvalidTick, xp_UnknownPerson := ?mxp_UnknownPerson, xk_UnknownPerson := ?mxk_UnknownPerson, xe_UnknownPerson := ?mxe_UnknownPerson, xy_UnknownPerson := ?mxy_UnknownPerson, xc_UnknownPerson := ?mxc_UnknownPerson, ex_UnknownPerson := ?mex_UnknownPerson, xp_InvalidLimit := ?mxp_InvalidLimit, xk_InvalidLimit := ?mxk_InvalidLimit, xe_InvalidLimit := ?mxe_InvalidLimit, xy_InvalidLimit := ?mxy_InvalidLimit, xc_InvalidLimit := ?mxc_InvalidLimit, ex_InvalidLimit := ?mex_InvalidLimit, sx_InvalidTick := ?msx_InvalidTick, kt_InvalidLimit_Contradiction := ?mkt_InvalidLimit_Contradiction, kt_InvalidLimit_DifferentHouses := ?mkt_InvalidLimit_DifferentHouses, kt_InvalidLimit_InvalidCode := ?mkt_InvalidLimit_InvalidCode, kt_InvalidLimit_InvalidHouse := ?mkt_InvalidLimit_InvalidHouse, kt_InvalidLimit_InvalidLimit := ?mkt_InvalidLimit_InvalidLimit, kt_InvalidLimit_InvalidName := ?mkt_InvalidLimit_InvalidName, kt_InvalidLimit_InvalidOperation := ?mkt_InvalidLimit_InvalidOperation, kt_InvalidLimit_InvalidTick := ?mkt_InvalidLimit_InvalidTick, kt_InvalidLimit_InvalidWaiting := ?mkt_InvalidLimit_InvalidWaiting, kt_InvalidLimit_TextFault := ?mkt_InvalidLimit_TextFault, kt_InvalidLimit_UnknownName := ?mkt_InvalidLimit_UnknownName, kt_InvalidLimit_UnknownPerson := ?mkt_InvalidLimit_UnknownPerson, kt_InvalidLimit_ValueError := ?mkt_InvalidLimit_ValueError, kt_InvalidTick_Contradiction := ?mkt_InvalidTick_Contradiction, kt_InvalidTick_DifferentHouses := ?mkt_InvalidTick_DifferentHouses, kt_InvalidTick_InvalidCode := ?mkt_InvalidTick_InvalidCode, kt_InvalidTick_InvalidHouse := ?mkt_InvalidTick_InvalidHouse, kt_InvalidTick_InvalidLimit := ?mkt_InvalidTick_InvalidLimit, kt_InvalidTick_InvalidName := ?mkt_InvalidTick_InvalidName, kt_InvalidTick_InvalidOperation := ?mkt_InvalidTick_InvalidOperation, kt_InvalidTick_InvalidTick := ?mkt_InvalidTick_InvalidTick, kt_InvalidTick_InvalidWaiting := ?mkt_InvalidTick_InvalidWaiting, kt_InvalidTick_TextFault := ?mkt_InvalidTick_TextFault, kt_InvalidTick_UnknownName := ?mkt_InvalidTick_UnknownName, kt_InvalidTick_UnknownPerson := ?mkt_InvalidTick_UnknownPerson, kt_InvalidTick_ValueError := ?mkt_InvalidTick_ValueError, kt_UnknownPerson_Contradiction := ?mkt_UnknownPerson_Contradiction, kt_UnknownPerson_DifferentHouses := ?mkt_UnknownPerson_DifferentHouses, kt_UnknownPerson_InvalidCode := ?mkt_UnknownPerson_InvalidCode, kt_UnknownPerson_InvalidHouse := ?mkt_UnknownPerson_InvalidHouse, kt_UnknownPerson_InvalidLimit := ?mkt_UnknownPerson_InvalidLimit, kt_UnknownPerson_InvalidName := ?mkt_UnknownPerson_InvalidName, kt_UnknownPerson_InvalidOperation := ?mkt_UnknownPerson_InvalidOperation, kt_UnknownPerson_InvalidTick := ?mkt_UnknownPerson_InvalidTick, kt_UnknownPerson_InvalidWaiting := ?mkt_UnknownPerson_InvalidWaiting, kt_UnknownPerson_TextFault := ?mkt_UnknownPerson_TextFault, kt_UnknownPerson_UnknownName := ?mkt_UnknownPerson_UnknownName, kt_UnknownPerson_UnknownPerson := ?mkt_UnknownPerson_UnknownPerson, kt_UnknownPerson_ValueError := ?mkt_UnknownPerson_ValueError, z_ValueError := ?mz_ValueError, z_abs := ?mz_abs, z_all := ?mz_all, z_any := ?mz_any, z_bool := ?mz_bool, z_enumerate := ?mz_enumerate, z_int := ?mz_int, z_isinstance := ?mz_isinstance, z_len := ?mz_len, z_list := ?mz_list, z_range := ?mz_range, z_sorted := ?mz_sorted, z_str := ?mz_str, z_sum := ?mz_sum, z_tuple := ?mz_tuple, c_MAX_PERSONS := ?mc_MAX_PERSONS, c_LENGTHS := ?mc_LENGTHS, c_MAX_KEYS := ?mc_MAX_KEYS, c_MAX_REMINDERS := ?mc_MAX_REMINDERS, c_MAX_TICK := ?mc_MAX_TICK, c_HOME := ?mc_HOME, c_OUT := ?mc_OUT, c_ENTER := ?mc_ENTER, c_WAIT := ?mc_WAIT, c_LEAVE := ?mc_LEAVE, c_TAKE := ?mc_TAKE, c_OPEN := ?mc_OPEN, c_MAX_ADDED := ?mc_MAX_ADDED }
  (case mg_is_int_in => exact PySem.W.mg_of X G a_is_int_in)
  (case mF_is_int_in => exact funD_mk (st := st_is_int_in) l_is_int_in c_is_int_in k_is_int_in)
  (case mb_is_int_in => exact FunD.bindsN (funD_mk (st := st_is_int_in) l_is_int_in c_is_int_in k_is_int_in) fun _ _ _ _ _ _ us hl => match us, hl with | [_, _, _], _ => rfl)
  (case mg_is_table => exact PySem.W.mg_of X G a_is_table)
  (case mF_is_table => exact funD_mk (st := st_is_table) l_is_table c_is_table k_is_table)
  (case mb_is_table => exact FunD.bindsN (funD_mk (st := st_is_table) l_is_table c_is_table k_is_table) fun _ _ _ _ _ _ us hl => match us, hl with | [_], _ => rfl)
  (case mg_common_multiple => exact PySem.W.mg_of X G a_common_multiple)
  (case mF_common_multiple => exact funD_mk (st := st_common_multiple) l_common_multiple c_common_multiple k_common_multiple)
  (case mb_common_multiple => exact FunD.bindsN (funD_mk (st := st_common_multiple) l_common_multiple c_common_multiple k_common_multiple) fun _ _ _ _ _ _ us hl => match us, hl with | [_, _], _ => rfl)
  (case mg_check_persons => exact PySem.W.mg_of X G a_check_persons)
  (case mF_check_persons => exact funD_mk (st := st_check_persons) l_check_persons c_check_persons k_check_persons)
  (case mb_check_persons => exact FunD.bindsN (funD_mk (st := st_check_persons) l_check_persons c_check_persons k_check_persons) fun _ _ _ _ _ _ us hl => match us, hl with | [_, _, _], _ => rfl)
  (case mg_is_reminder => exact PySem.W.mg_of X G a_is_reminder)
  (case mF_is_reminder => exact funD_mk (st := st_is_reminder) l_is_reminder c_is_reminder k_is_reminder)
  (case mb_is_reminder => exact FunD.bindsN (funD_mk (st := st_is_reminder) l_is_reminder c_is_reminder k_is_reminder) fun _ _ _ _ _ _ us hl => match us, hl with | [_, _, _], _ => rfl)
  (case mF_House__init_ => exact funD_mkD (its := [.ref e0_House__init_, .ref e1_House__init_]) l_House__init_ c_House__init_ k_House__init_ (by simp) lT_House__init_ rfl (.cons rfl (.cons rfl .nil)))
  (case mb_House__init_ => exact bf_House__init_)
  (case mpr_House_persons => exact ⟨pa_House_persons, pg_House_persons, pt_House_persons, re_House_persons, pc_House_persons⟩)
  (case mF_House_persons => exact funD_mk (st := st_House_persons) l_House_persons c_House_persons k_House_persons)
  (case mb_House_persons => exact FunD.bindsN (funD_mk (st := st_House_persons) l_House_persons c_House_persons k_House_persons) fun _ _ _ _ _ _ us hl => match us, hl with | [_], _ => rfl)
  (case mpr_House_period => exact ⟨pa_House_period, pg_House_period, pt_House_period, re_House_period, pc_House_period⟩)
  (case mF_House_period => exact funD_mk (st := st_House_period) l_House_period c_House_period k_House_period)
  (case mb_House_period => exact FunD.bindsN (funD_mk (st := st_House_period) l_House_period c_House_period k_House_period) fun _ _ _ _ _ _ us hl => match us, hl with | [_], _ => rfl)
  (case mme_House_wants_home => exact ⟨a_House_wants_home, i_House_wants_home, k_House_wants_home⟩)
  (case mF_House_wants_home => exact funD_mk (st := st_House_wants_home) l_House_wants_home c_House_wants_home k_House_wants_home)
  (case mb_House_wants_home => exact FunD.bindsN (funD_mk (st := st_House_wants_home) l_House_wants_home c_House_wants_home k_House_wants_home) fun _ _ _ _ _ _ us hl => match us, hl with | [_, _, _], _ => rfl)
  (case mme_House_takes_key => exact ⟨a_House_takes_key, i_House_takes_key, k_House_takes_key⟩)
  (case mF_House_takes_key => exact funD_mk (st := st_House_takes_key) l_House_takes_key c_House_takes_key k_House_takes_key)
  (case mb_House_takes_key => exact FunD.bindsN (funD_mk (st := st_House_takes_key) l_House_takes_key c_House_takes_key k_House_takes_key) fun _ _ _ _ _ _ us hl => match us, hl with | [_, _, _], _ => rfl)
  (case mg_check_tick => exact PySem.W.mg_of X G a_check_tick)
  (case mF_check_tick => exact funD_mk (st := st_check_tick) l_check_tick c_check_tick k_check_tick)
  (case mb_check_tick => exact FunD.bindsN (funD_mk (st := st_check_tick) l_check_tick c_check_tick k_check_tick) fun _ _ _ _ _ _ us hl => match us, hl with | [_], _ => rfl)
  (case mg_check_person => exact PySem.W.mg_of X G a_check_person)
  (case mF_check_person => exact funD_mk (st := st_check_person) l_check_person c_check_person k_check_person)
  (case mb_check_person => exact FunD.bindsN (funD_mk (st := st_check_person) l_check_person c_check_person k_check_person) fun _ _ _ _ _ _ us hl => match us, hl with | [_, _], _ => rfl)
  (case mg_first_scene => exact PySem.W.mg_of X G a_first_scene)
  (case mF_first_scene => exact funD_mk (st := st_first_scene) l_first_scene c_first_scene k_first_scene)
  (case mb_first_scene => exact FunD.bindsN (funD_mk (st := st_first_scene) l_first_scene c_first_scene k_first_scene) fun _ _ _ _ _ _ us hl => match us, hl with | [_], _ => rfl)
  (case mg_people_at_home => exact PySem.W.mg_of X G a_people_at_home)
  (case mF_people_at_home => exact funD_mk (st := st_people_at_home) l_people_at_home c_people_at_home k_people_at_home)
  (case mb_people_at_home => exact FunD.bindsN (funD_mk (st := st_people_at_home) l_people_at_home c_people_at_home k_people_at_home) fun _ _ _ _ _ _ us hl => match us, hl with | [_, _, _], _ => rfl)
  (case mg_after_tick => exact PySem.W.mg_of X G a_after_tick)
  (case mF_after_tick => exact funD_mk (st := st_after_tick) l_after_tick c_after_tick k_after_tick)
  (case mb_after_tick => exact FunD.bindsN (funD_mk (st := st_after_tick) l_after_tick c_after_tick k_after_tick) fun _ _ _ _ _ _ us hl => match us, hl with | [_, _, _], _ => rfl)
  (case mF_Story__init_ => exact funD_mk (st := st_Story__init_) l_Story__init_ c_Story__init_ k_Story__init_)
  (case mb_Story__init_ => exact FunD.bindsN (funD_mk (st := st_Story__init_) l_Story__init_ c_Story__init_ k_Story__init_) fun _ _ _ _ _ _ us hl => match us, hl with | [_, _], _ => rfl)
  (case mpr_Story_size => exact ⟨pa_Story_size, pg_Story_size, pt_Story_size, re_Story_size, pc_Story_size⟩)
  (case mF_Story_size => exact funD_mk (st := st_Story_size) l_Story_size c_Story_size k_Story_size)
  (case mb_Story_size => exact FunD.bindsN (funD_mk (st := st_Story_size) l_Story_size c_Story_size k_Story_size) fun _ _ _ _ _ _ us hl => match us, hl with | [_], _ => rfl)
  (case mme_Story_place_of => exact ⟨a_Story_place_of, i_Story_place_of, k_Story_place_of⟩)
  (case mF_Story_place_of => exact funD_mk (st := st_Story_place_of) l_Story_place_of c_Story_place_of k_Story_place_of)
  (case mb_Story_place_of => exact FunD.bindsN (funD_mk (st := st_Story_place_of) l_Story_place_of c_Story_place_of k_Story_place_of) fun _ _ _ _ _ _ us hl => match us, hl with | [_, _], _ => rfl)
  (case mg_scene_after => exact PySem.W.mg_of X G a_scene_after)
  (case mF_scene_after => exact funD_mk (st := st_scene_after) l_scene_after c_scene_after k_scene_after)
  (case mb_scene_after => exact FunD.bindsN (funD_mk (st := st_scene_after) l_scene_after c_scene_after k_scene_after) fun _ _ _ _ _ _ us hl => match us, hl with | [_, _], _ => rfl)
  (case mg_at_home => exact PySem.W.mg_of X G a_at_home)
  (case mF_at_home => exact funD_mk (st := st_at_home) l_at_home c_at_home k_at_home)
  (case mb_at_home => exact FunD.bindsN (funD_mk (st := st_at_home) l_at_home c_at_home k_at_home) fun _ _ _ _ _ _ us hl => match us, hl with | [_, _], _ => rfl)
  (case mg_events_between => exact PySem.W.mg_of X G a_events_between)
  (case mF_events_between => exact funD_mk (st := st_events_between) l_events_between c_events_between k_events_between)
  (case mb_events_between => exact FunD.bindsN (funD_mk (st := st_events_between) l_events_between c_events_between k_events_between) fun _ _ _ _ _ _ us hl => match us, hl with | [_, _, _], _ => rfl)
  (case mg_waiting => exact PySem.W.mg_of X G a_waiting)
  (case mF_waiting => exact funD_mk (st := st_waiting) l_waiting c_waiting k_waiting)
  (case mb_waiting => exact FunD.bindsN (funD_mk (st := st_waiting) l_waiting c_waiting k_waiting) fun _ _ _ _ _ _ us hl => match us, hl with | [_, _], _ => rfl)
  (case mg_is_open => exact PySem.W.mg_of X G a_is_open)
  (case mF_is_open => exact funD_mk (st := st_is_open) l_is_open c_is_open k_is_open)
  (case mb_is_open => exact FunD.bindsN (funD_mk (st := st_is_open) l_is_open c_is_open k_is_open) fun _ _ _ _ _ _ us hl => match us, hl with | [_, _], _ => rfl)
  (case mg_hook => exact PySem.W.mg_of X G a_hook)
  (case mF_hook => exact funD_mk (st := st_hook) l_hook c_hook k_hook)
  (case mb_hook => exact FunD.bindsN (funD_mk (st := st_hook) l_hook c_hook k_hook) fun _ _ _ _ _ _ us hl => match us, hl with | [_, _], _ => rfl)
  (case mg_holders => exact PySem.W.mg_of X G a_holders)
  (case mF_holders => exact funD_mk (st := st_holders) l_holders c_holders k_holders)
  (case mb_holders => exact FunD.bindsN (funD_mk (st := st_holders) l_holders c_holders k_holders) fun _ _ _ _ _ _ us hl => match us, hl with | [_, _], _ => rfl)
  (case mg_wait_ticks => exact PySem.W.mg_of X G a_wait_ticks)
  (case mF_wait_ticks => exact funD_mk (st := st_wait_ticks) l_wait_ticks c_wait_ticks k_wait_ticks)
  (case mb_wait_ticks => exact FunD.bindsN (funD_mk (st := st_wait_ticks) l_wait_ticks c_wait_ticks k_wait_ticks) fun _ _ _ _ _ _ us hl => match us, hl with | [_, _], _ => rfl)
  (case mg_count_waits => exact PySem.W.mg_of X G a_count_waits)
  (case mF_count_waits => exact funD_mk (st := st_count_waits) l_count_waits c_count_waits k_count_waits)
  (case mb_count_waits => exact FunD.bindsN (funD_mk (st := st_count_waits) l_count_waits c_count_waits k_count_waits) fun _ _ _ _ _ _ us hl => match us, hl with | [_, _, _, _], _ => rfl)
  (case mg_next_entry => exact PySem.W.mg_of X G a_next_entry)
  (case mF_next_entry => exact funD_mk (st := st_next_entry) l_next_entry c_next_entry k_next_entry)
  (case mb_next_entry => exact FunD.bindsN (funD_mk (st := st_next_entry) l_next_entry c_next_entry k_next_entry) fun _ _ _ _ _ _ us hl => match us, hl with | [_, _, _], _ => rfl)
  (case mg_plan_reminders => exact PySem.W.mg_of X G a_plan_reminders)
  (case mF_plan_reminders => exact funD_mk (st := st_plan_reminders) l_plan_reminders c_plan_reminders k_plan_reminders)
  (case mb_plan_reminders => exact FunD.bindsN (funD_mk (st := st_plan_reminders) l_plan_reminders c_plan_reminders k_plan_reminders) fun _ _ _ _ _ _ us hl => match us, hl with | [_, _], _ => rfl)
  (case mg_law_below => exact PySem.W.mg_of X G a_law_below)
  (case mF_law_below => exact funD_mk (st := st_law_below) l_law_below c_law_below k_law_below)
  (case mb_law_below => exact FunD.bindsN (funD_mk (st := st_law_below) l_law_below c_law_below k_law_below) fun _ _ _ _ _ _ us hl => match us, hl with | [_, _], _ => rfl)
  (case mg_law_table => exact PySem.W.mg_of X G a_law_table)
  (case mF_law_table => exact funD_mk (st := st_law_table) l_law_table c_law_table k_law_table)
  (case mb_law_table => exact FunD.bindsN (funD_mk (st := st_law_table) l_law_table c_law_table k_law_table) fun _ _ _ _ _ _ us hl => match us, hl with | [_], _ => rfl)
  (case mg_law_length => exact PySem.W.mg_of X G a_law_length)
  (case mF_law_length => exact funD_mk (st := st_law_length) l_law_length c_law_length k_law_length)
  (case mb_law_length => exact FunD.bindsN (funD_mk (st := st_law_length) l_law_length c_law_length k_law_length) fun _ _ _ _ _ _ us hl => match us, hl with | [_], _ => rfl)
  (case mg_law_parts => exact PySem.W.mg_of X G a_law_parts)
  (case mF_law_parts => exact funD_mk (st := st_law_parts) l_law_parts c_law_parts k_law_parts)
  (case mb_law_parts => exact FunD.bindsN (funD_mk (st := st_law_parts) l_law_parts c_law_parts k_law_parts) fun _ _ _ _ _ _ us hl => match us, hl with | [_, _], _ => rfl)
  (case mg_law_house => exact PySem.W.mg_of X G a_law_house)
  (case mF_law_house => exact funD_mk (st := st_law_house) l_law_house c_law_house k_law_house)
  (case mb_law_house => exact FunD.bindsN (funD_mk (st := st_law_house) l_law_house c_law_house k_law_house) fun _ _ _ _ _ _ us hl => match us, hl with | [_], _ => rfl)
  (case mg_law_error_of => exact PySem.W.mg_of X G a_law_error_of)
  (case mF_law_error_of => exact funD_mk (st := st_law_error_of) l_law_error_of c_law_error_of k_law_error_of)
  (case mb_law_error_of => exact FunD.bindsN (funD_mk (st := st_law_error_of) l_law_error_of c_law_error_of k_law_error_of) fun _ _ _ _ _ _ us hl => match us, hl with | [_], _ => rfl)
  (case mg_law_all_raise => exact PySem.W.mg_of X G a_law_all_raise)
  (case mF_law_all_raise => exact funD_mk (st := st_law_all_raise) l_law_all_raise c_law_all_raise k_law_all_raise)
  (case mb_law_all_raise => exact FunD.bindsN (funD_mk (st := st_law_all_raise) l_law_all_raise c_law_all_raise k_law_all_raise) fun _ _ _ _ _ _ us hl => match us, hl with | [_, _], _ => rfl)
  (case mg_law_random => exact PySem.W.mg_of X G a_law_random)
  (case mF_law_random => exact funD_mk (st := st_law_random) l_law_random c_law_random k_law_random)
  (case mb_law_random => exact FunD.bindsN (funD_mk (st := st_law_random) l_law_random c_law_random k_law_random) fun _ _ _ _ _ _ us hl => match us, hl with | [_, _], _ => rfl)
  (case mcode_law => exact rfl)
  (case mg_law => exact PySem.W.mg_of X G a_law)
  (case mF_law => exact funD_mk (st := st_law) l_law c_law k_law)
  (case mb_law => exact FunD.bindsN (funD_mk (st := st_law) l_law c_law k_law) fun _ _ _ _ _ _ us hl => match us, hl with | [_], _ => rfl)
  (case mcl_House => exact ⟨pg_House, hd_House, po_House, sa_House⟩)
  (case mg_House => exact PySem.W.mg_of X G a_House)
  (case mmk_House => exact ⟨mk_House, a_House__init_, i_House__init_, kc_House⟩)
  (case mna_House_tables => exact na_House_tables)
  (case mna_House_key_count => exact na_House_key_count)
  (case mna_House_careful => exact na_House_careful)
  (case mna_House_reminders => exact na_House_reminders)
  (case mna_House_length => exact na_House_length)
  (case mcl_Story => exact ⟨pg_Story, hd_Story, po_Story, sa_Story⟩)
  (case mg_Story => exact PySem.W.mg_of X G a_Story)
  (case mmk_Story => exact ⟨mk_Story, a_Story__init_, i_Story__init_, kc_Story⟩)
  (case mna_Story_scenes => exact na_Story_scenes)
  (case mna_Story_events => exact na_Story_events)
  (case mna_Story_start => exact na_Story_start)
  (case mna_Story_last => exact na_Story_last)
  (case mg_InvalidTick => exact PySem.W.mg_of X G a_InvalidTick)
  (case mg_UnknownPerson => exact PySem.W.mg_of X G a_UnknownPerson)
  (case mg_InvalidLimit => exact PySem.W.mg_of X G a_InvalidLimit)
  (case mg_HouseError => exact PySem.W.mg_of X G a_HouseError)
  (case mg_InvalidHouse => exact PySem.W.mg_of X G a_InvalidHouse)
  (case mg_DifferentHouses => exact PySem.W.mg_of X G a_DifferentHouses)
  (case mg_InvalidWaiting => exact PySem.W.mg_of X G a_InvalidWaiting)
  (case mg_Contradiction => exact PySem.W.mg_of X G a_Contradiction)
  (case mg_InvalidName => exact PySem.W.mg_of X G a_InvalidName)
  (case mg_UnknownName => exact PySem.W.mg_of X G a_UnknownName)
  (case mg_TextFault => exact PySem.W.mg_of X G a_TextFault)
  (case mg_InvalidCode => exact PySem.W.mg_of X G a_InvalidCode)
  (case mg_InvalidOperation => exact PySem.W.mg_of X G a_InvalidOperation)
  (case mxb_HouseError => exact ⟨xr_HouseError, xi_HouseError, xg_HouseError⟩)
  (case mxp_InvalidTick => exact xp_InvalidTick)
  (case mxk_InvalidTick => exact xk_InvalidTick)
  (case mxe_InvalidTick => exact xe_InvalidTick)
  (case mxy_InvalidTick => exact xy_InvalidTick)
  (case mxc_InvalidTick => exact ⟨cl_of xd_InvalidTick, xa_InvalidTick, xh_InvalidTick, xe_InvalidTick, xc_InvalidTick, xn_, xt_, xo_InvalidTick⟩)
  (case mex_InvalidTick => exact PySem.W.exm_ref xe_HouseError xd_HouseError xy_HouseError xm_InvalidTick)
  (case mxp_UnknownPerson => exact xp_UnknownPerson)
  (case mxk_UnknownPerson => exact xk_UnknownPerson)
  (case mxe_UnknownPerson => exact xe_UnknownPerson)
  (case mxy_UnknownPerson => exact xy_UnknownPerson)
  (case mxc_UnknownPerson => exact ⟨cl_of xd_UnknownPerson, xa_UnknownPerson, xh_UnknownPerson, xe_UnknownPerson, xc_UnknownPerson, xn_, xt_, xo_UnknownPerson⟩)
  (case mex_UnknownPerson => exact PySem.W.exm_ref xe_HouseError xd_HouseError xy_HouseError xm_UnknownPerson)
  (case mxp_InvalidLimit => exact xp_InvalidLimit)
  (case mxk_InvalidLimit => exact xk_InvalidLimit)
  (case mxe_InvalidLimit => exact xe_InvalidLimit)
  (case mxy_InvalidLimit => exact xy_InvalidLimit)
  (case mxc_InvalidLimit => exact ⟨cl_of xd_InvalidLimit, xa_InvalidLimit, xh_InvalidLimit, xe_InvalidLimit, xc_InvalidLimit, xn_, xt_, xo_InvalidLimit⟩)
  (case mex_InvalidLimit => exact PySem.W.exm_ref xe_HouseError xd_HouseError xy_HouseError xm_InvalidLimit)
  (case msx_InvalidTick => exact sx_InvalidTick)
  (case mkt_InvalidLimit_Contradiction => exact kit_ref ss_InvalidLimit xd_Contradiction xy_Contradiction kt_InvalidLimit_Contradiction)
  (case mkt_InvalidLimit_DifferentHouses => exact kit_ref ss_InvalidLimit xd_DifferentHouses xy_DifferentHouses kt_InvalidLimit_DifferentHouses)
  (case mkt_InvalidLimit_InvalidCode => exact kit_ref ss_InvalidLimit xd_InvalidCode xy_InvalidCode kt_InvalidLimit_InvalidCode)
  (case mkt_InvalidLimit_InvalidHouse => exact kit_ref ss_InvalidLimit xd_InvalidHouse xy_InvalidHouse kt_InvalidLimit_InvalidHouse)
  (case mkt_InvalidLimit_InvalidLimit => exact kit_ref ss_InvalidLimit xd_InvalidLimit xy_InvalidLimit kt_InvalidLimit_InvalidLimit)
  (case mkt_InvalidLimit_InvalidName => exact kit_ref ss_InvalidLimit xd_InvalidName xy_InvalidName kt_InvalidLimit_InvalidName)
  (case mkt_InvalidLimit_InvalidOperation => exact kit_ref ss_InvalidLimit xd_InvalidOperation xy_InvalidOperation kt_InvalidLimit_InvalidOperation)
  (case mkt_InvalidLimit_InvalidTick => exact kit_ref ss_InvalidLimit xd_InvalidTick xy_InvalidTick kt_InvalidLimit_InvalidTick)
  (case mkt_InvalidLimit_InvalidWaiting => exact kit_ref ss_InvalidLimit xd_InvalidWaiting xy_InvalidWaiting kt_InvalidLimit_InvalidWaiting)
  (case mkt_InvalidLimit_TextFault => exact kit_ref ss_InvalidLimit xd_TextFault xy_TextFault kt_InvalidLimit_TextFault)
  (case mkt_InvalidLimit_UnknownName => exact kit_ref ss_InvalidLimit xd_UnknownName xy_UnknownName kt_InvalidLimit_UnknownName)
  (case mkt_InvalidLimit_UnknownPerson => exact kit_ref ss_InvalidLimit xd_UnknownPerson xy_UnknownPerson kt_InvalidLimit_UnknownPerson)
  (case mkt_InvalidLimit_ValueError => exact kit_blt (by decide +kernel) kt_InvalidLimit_ValueError)
  (case mkt_InvalidTick_Contradiction => exact kit_ref ss_InvalidTick xd_Contradiction xy_Contradiction kt_InvalidTick_Contradiction)
  (case mkt_InvalidTick_DifferentHouses => exact kit_ref ss_InvalidTick xd_DifferentHouses xy_DifferentHouses kt_InvalidTick_DifferentHouses)
  (case mkt_InvalidTick_InvalidCode => exact kit_ref ss_InvalidTick xd_InvalidCode xy_InvalidCode kt_InvalidTick_InvalidCode)
  (case mkt_InvalidTick_InvalidHouse => exact kit_ref ss_InvalidTick xd_InvalidHouse xy_InvalidHouse kt_InvalidTick_InvalidHouse)
  (case mkt_InvalidTick_InvalidLimit => exact kit_ref ss_InvalidTick xd_InvalidLimit xy_InvalidLimit kt_InvalidTick_InvalidLimit)
  (case mkt_InvalidTick_InvalidName => exact kit_ref ss_InvalidTick xd_InvalidName xy_InvalidName kt_InvalidTick_InvalidName)
  (case mkt_InvalidTick_InvalidOperation => exact kit_ref ss_InvalidTick xd_InvalidOperation xy_InvalidOperation kt_InvalidTick_InvalidOperation)
  (case mkt_InvalidTick_InvalidTick => exact kit_ref ss_InvalidTick xd_InvalidTick xy_InvalidTick kt_InvalidTick_InvalidTick)
  (case mkt_InvalidTick_InvalidWaiting => exact kit_ref ss_InvalidTick xd_InvalidWaiting xy_InvalidWaiting kt_InvalidTick_InvalidWaiting)
  (case mkt_InvalidTick_TextFault => exact kit_ref ss_InvalidTick xd_TextFault xy_TextFault kt_InvalidTick_TextFault)
  (case mkt_InvalidTick_UnknownName => exact kit_ref ss_InvalidTick xd_UnknownName xy_UnknownName kt_InvalidTick_UnknownName)
  (case mkt_InvalidTick_UnknownPerson => exact kit_ref ss_InvalidTick xd_UnknownPerson xy_UnknownPerson kt_InvalidTick_UnknownPerson)
  (case mkt_InvalidTick_ValueError => exact kit_blt (by decide +kernel) kt_InvalidTick_ValueError)
  (case mkt_UnknownPerson_Contradiction => exact kit_ref ss_UnknownPerson xd_Contradiction xy_Contradiction kt_UnknownPerson_Contradiction)
  (case mkt_UnknownPerson_DifferentHouses => exact kit_ref ss_UnknownPerson xd_DifferentHouses xy_DifferentHouses kt_UnknownPerson_DifferentHouses)
  (case mkt_UnknownPerson_InvalidCode => exact kit_ref ss_UnknownPerson xd_InvalidCode xy_InvalidCode kt_UnknownPerson_InvalidCode)
  (case mkt_UnknownPerson_InvalidHouse => exact kit_ref ss_UnknownPerson xd_InvalidHouse xy_InvalidHouse kt_UnknownPerson_InvalidHouse)
  (case mkt_UnknownPerson_InvalidLimit => exact kit_ref ss_UnknownPerson xd_InvalidLimit xy_InvalidLimit kt_UnknownPerson_InvalidLimit)
  (case mkt_UnknownPerson_InvalidName => exact kit_ref ss_UnknownPerson xd_InvalidName xy_InvalidName kt_UnknownPerson_InvalidName)
  (case mkt_UnknownPerson_InvalidOperation => exact kit_ref ss_UnknownPerson xd_InvalidOperation xy_InvalidOperation kt_UnknownPerson_InvalidOperation)
  (case mkt_UnknownPerson_InvalidTick => exact kit_ref ss_UnknownPerson xd_InvalidTick xy_InvalidTick kt_UnknownPerson_InvalidTick)
  (case mkt_UnknownPerson_InvalidWaiting => exact kit_ref ss_UnknownPerson xd_InvalidWaiting xy_InvalidWaiting kt_UnknownPerson_InvalidWaiting)
  (case mkt_UnknownPerson_TextFault => exact kit_ref ss_UnknownPerson xd_TextFault xy_TextFault kt_UnknownPerson_TextFault)
  (case mkt_UnknownPerson_UnknownName => exact kit_ref ss_UnknownPerson xd_UnknownName xy_UnknownName kt_UnknownPerson_UnknownName)
  (case mkt_UnknownPerson_UnknownPerson => exact kit_ref ss_UnknownPerson xd_UnknownPerson xy_UnknownPerson kt_UnknownPerson_UnknownPerson)
  (case mkt_UnknownPerson_ValueError => exact kit_blt (by decide +kernel) kt_UnknownPerson_ValueError)
  (case mz_ValueError => exact PySem.W.mg_none_of X G z_ValueError)
  (case mz_abs => exact PySem.W.mg_none_of X G z_abs)
  (case mz_all => exact PySem.W.mg_none_of X G z_all)
  (case mz_any => exact PySem.W.mg_none_of X G z_any)
  (case mz_bool => exact PySem.W.mg_none_of X G z_bool)
  (case mz_enumerate => exact PySem.W.mg_none_of X G z_enumerate)
  (case mz_int => exact PySem.W.mg_none_of X G z_int)
  (case mz_isinstance => exact PySem.W.mg_none_of X G z_isinstance)
  (case mz_len => exact PySem.W.mg_none_of X G z_len)
  (case mz_list => exact PySem.W.mg_none_of X G z_list)
  (case mz_range => exact PySem.W.mg_none_of X G z_range)
  (case mz_sorted => exact PySem.W.mg_none_of X G z_sorted)
  (case mz_str => exact PySem.W.mg_none_of X G z_str)
  (case mz_sum => exact PySem.W.mg_none_of X G z_sum)
  (case mz_tuple => exact PySem.W.mg_none_of X G z_tuple)
  (case mc_MAX_PERSONS => exact ⟨.int 6, _, PySem.W.mg_of X G u_MAX_PERSONS, ⟨_, rfl⟩, fun _ _ _ _ => rfl⟩)
  (case mc_LENGTHS => exact ⟨.ref a_LENGTHS, _, PySem.W.mg_of X G u_LENGTHS, rfl, fun _ _ => rep_ktup (vs := [V.int 1, V.int 2, V.int 3, V.int 4, V.int 6, V.int 8, V.int 12, V.int 24]) l_LENGTHS rfl rfl (by show 8 ≤ sizeLine; decide) (.cons ⟨_, rfl⟩ (.cons ⟨_, rfl⟩ (.cons ⟨_, rfl⟩ (.cons ⟨_, rfl⟩ (.cons ⟨_, rfl⟩ (.cons ⟨_, rfl⟩ (.cons ⟨_, rfl⟩ (.cons ⟨_, rfl⟩ .nil)))))))) (fun F H => RepL.ofInts (ns := [1, 2, 3, 4, 6, 8, 12, 24]))⟩)
  (case mc_MAX_KEYS => exact ⟨.int 9, _, PySem.W.mg_of X G u_MAX_KEYS, ⟨_, rfl⟩, fun _ _ _ _ => rfl⟩)
  (case mc_MAX_REMINDERS => exact ⟨.int 10, _, PySem.W.mg_of X G u_MAX_REMINDERS, ⟨_, rfl⟩, fun _ _ _ _ => rfl⟩)
  (case mc_MAX_TICK => exact ⟨.int 1000000000000000000, _, PySem.W.mg_of X G u_MAX_TICK, ⟨_, rfl⟩, fun _ _ _ _ => rfl⟩)
  (case mc_HOME => exact ⟨.str "h", _, PySem.W.mg_of X G u_HOME, ⟨_, rfl⟩, fun _ _ _ _ => rfl⟩)
  (case mc_OUT => exact ⟨.str "o", _, PySem.W.mg_of X G u_OUT, ⟨_, rfl⟩, fun _ _ _ _ => rfl⟩)
  (case mc_ENTER => exact ⟨.str "enter", _, PySem.W.mg_of X G u_ENTER, ⟨_, rfl⟩, fun _ _ _ _ => rfl⟩)
  (case mc_WAIT => exact ⟨.str "wait", _, PySem.W.mg_of X G u_WAIT, ⟨_, rfl⟩, fun _ _ _ _ => rfl⟩)
  (case mc_LEAVE => exact ⟨.str "leave", _, PySem.W.mg_of X G u_LEAVE, ⟨_, rfl⟩, fun _ _ _ _ => rfl⟩)
  (case mc_TAKE => exact ⟨.str "take", _, PySem.W.mg_of X G u_TAKE, ⟨_, rfl⟩, fun _ _ _ _ => rfl⟩)
  (case mc_OPEN => exact ⟨.str "open", _, PySem.W.mg_of X G u_OPEN, ⟨_, rfl⟩, fun _ _ _ _ => rfl⟩)
  (case mc_MAX_ADDED => exact ⟨.int 2, _, PySem.W.mg_of X G u_MAX_ADDED, ⟨_, rfl⟩, fun _ _ _ _ => rfl⟩)
end K09
namespace K09
open PySem PySem.Spec PyProof.Rows L2 Mir
section
variable {P : Program} {w : World} {K : PySem.W.Frag} {mg : Str → Option Value} {base : Heap} {A : Ad} [Tbl]
theorem ok_law_random (T : Txt K mg A) : FnOk P w K mg base CX0 1 A.f_law_random A.fd_law_random ["_law_script", "_law_salt"] (spRnd K) := by
  obtain ⟨oc, od, dV, kV, doc, pm, an, cdv, ct, osl, e, lk, hcd, _, _⟩ := T.F_law_random.ex
  rw [e] at lk ⊢
  refine fn_of (N := ["_law_script", "_law_salt", "_law_seed", "_law_cell"]) lk hcd sc_law_random (fun vs H Q E h => by obtain ⟨a, ns, salt, h1, _⟩ := h; rw [h1]; rfl) fun A2 outer s H vs Q E hr hsp => ?_
  have hx : PSs (cxOf CX0 P w K mg base ["_law_script", "_law_salt", "_law_seed", "_law_cell"] "_law_random" (defScope st_law_random) A.f_law_random cdv A2 outer s H E).nox (defBody st_law_random) _ :=
    pss_cons (ps_set (i := 2) sc_law_random.nd rfl (by first | exact .inl rfl | exact .inr rfl) (pv 1))
      (pss_cons (ps_for PassesOwn.never rfl (pi_list (pv 0)) (pg_name (i := 3) sc_law_random.nd rfl (by first | exact .inl rfl | exact .inr rfl)) (pss_one (ps_set (i := 2) sc_law_random.nd rfl (by first | exact .inl rfl | exact .inr rfl) (pe_op op_modN (pe_op op_add (pe_op op_mul (pv 2) pe_int) (pe_callB call_abs (by rfl) T.z_abs bt_abs (pa_cons (pv 3) pa_nil))) pe_int))))
      (pss_one (ps_ret (pe_op op_cat (pe_lst (pa_cons (pv 2) (pa_cons pe_int pa_nil))) (pe_lc rfl sc_law_random.nd (pi_list (pv 0)) (blkOk_by (own := [("_law_cell", 3)]) (by kernel_rfl)) (fun _ _ _ _ _ => pg_name (i := 3) sc_law_random.nd rfl (by first | exact .inl rfl | exact .inr rfl)) (fun _ _ _ _ _ => pts_one (pt_cmpR op_ge (pv 3) (pe_op op_pow pe_int pe_int) (nomark _))) (fun _ _ _ _ _ => pv 3))))))
  exact ⟨_, hx.nox, rnd_run hsp⟩
theorem ok_law (T : Txt K mg A) (B : TBs base mg A) (hm : ∀ ns : List Int, ns.length ≤ 63 → ∃ e, b_law (env1 6 (rndL ns 9)) = .ret (.bl true) e) : FnOk P w K mg base CX0 18 A.f_law A.fd_law ["_law_script"] (spLaw K) := by
  obtain ⟨oc, od, dV, kV, doc, pm, an, cdv, ct, osl, e, lk, hcd, _, _⟩ := T.F_law.ex
  rw [e] at lk ⊢
  obtain rfl : cdv = .ref A.cc_law := by
    have h0 := T.code_law
    rw [e] at h0
    exact h0
  refine fn_of (N := ["_law_script", "_law_d", "_law_house_here", "_law_far", "_law_tick", "_law_calls", "_law_person", "_law_limit"]) lk hcd sc_law (fun vs H Q E h => by obtain ⟨a, ns, h1, _⟩ := h; rw [h1]; rfl) fun A2 outer s H vs Q E hr hsp => ?_
  have hx : ∃ t, PSs (cxOf CX0 P w K mg base ["_law_script", "_law_d", "_law_house_here", "_law_far", "_law_tick", "_law_calls", "_law_person", "_law_limit"] "law" (defScope st_law) A.f_law (.ref A.cc_law) A2 outer s H E).nox ((defBody st_law).drop 1) t ∧ RefS (S K A) [1] [] E false t b_law := ⟨_, (pss_cons (ps_set (i := 2) sc_law.nd rfl (by first | exact .inl rfl | exact .inr rfl) (pe_call (ok_law_house (P := P) (Hb := fun _ => none) (lf := fun _ => 0) T) (hr.mono (by decide)) (by rfl) T.g_law_house T.F_law_house.kp T.b_law_house .nil (passE (E := E)) (pa_cons (pe_call (ok_law_parts (P := P) (Hb := fun _ => none) (lf := fun _ => 0) T) (hr.mono (by decide)) (by rfl) T.g_law_parts T.F_law_parts.kp T.b_law_parts .nil (passE (E := E)) (pa_cons (pv 1) (pa_cons pe_int pa_nil))) pa_nil)))
      (pss_cons (ps_set (i := 3) sc_law.nd rfl (by first | exact .inl rfl | exact .inr rfl) (pe_op op_mul (pe_call (ok_law_below (P := P) (Hb := fun _ => none) (lf := fun _ => 0) T) (hr.mono (by decide)) (by rfl) T.g_law_below T.F_law_below.kp T.b_law_below .nil (passE (E := E)) (pa_cons (pv 1) (pa_cons pe_int pa_nil))) (pe_call (ok_law_below (P := P) (Hb := fun _ => none) (lf := fun _ => 0) T) (hr.mono (by decide)) (by rfl) T.g_law_below T.F_law_below.kp T.b_law_below .nil (passE (E := E)) (pa_cons (pv 1) (pa_cons pe_int pa_nil)))))
      (pss_cons (ps_set (i := 4) sc_law.nd rfl (by first | exact .inl rfl | exact .inr rfl) (pe_ix ix_seq (pe_lst (pa_cons (pe_op op_sub (pe_op op_sub pe_int pe_int) (pv 3)) (pa_cons (pe_op op_addX (pe_op op_addX (pe_op op_pow pe_int pe_int) pe_int) (pv 3)) (pa_cons pe_non (pa_cons pe_bl (pa_cons pe_str (pa_cons (pe_tup (pa_cons pe_int pa_nil)) pa_nil))))))) (pe_call (ok_law_below (P := P) (Hb := fun _ => none) (lf := fun _ => 0) T) (hr.mono (by decide)) (by rfl) T.g_law_below T.F_law_below.kp T.b_law_below .nil (passE (E := E)) (pa_cons (pv 1) (pa_cons pe_int pa_nil))) (fun _ _ => rfl)))
      (pss_mkJ (kl := 14) (j := 5) sc_law.nd rfl (by first | exact .inl rfl | exact .inr rfl) (MkLs.cons (mk_plain (fun _ => rfl) (lamP_by (by kernel_rfl)) B.tb_law rfl B.in_law B.un_law rfl (fun q cl pm cv ctv us hl => match us, hl with | [], _ => rfl) (fun A2 outer s H E f c2 hr => (pe_call (ok_at_home (P := P) (Hb := fun _ => none) (lf := fun _ => 0) T) (hr.mono (by decide)) (by rfl) T.g_at_home T.F_at_home.kp T.b_at_home .nil (L2N.passL (passX (E := E) rfl rfl rfl rfl)) (pa_cons (pv 2) (pa_cons (pv 4) pa_nil))))) (MkLs.cons (mk_dflt (x0 := "_law_a") (fun _ => rfl) (lamP_by (by kernel_rfl)) B.tb_law rfl B.in_law B.un_law rfl rfl (fun _ _ _ _ _ _ _ _ => ⟨_, rfl, rfl⟩) (fun A2 outer s H E f c2 hr => (pe_call (ok_waiting (P := P) (Hb := fun _ => none) (lf := fun _ => 0) T) (hr.mono (by decide)) (by rfl) T.g_waiting T.F_waiting.kp T.b_waiting .nil (L2N.passL (passX (E := E) rfl rfl rfl rfl)) (pa_cons (pv 2) (pa_cons (pv 4) pa_nil))))) (MkLs.cons (mk_dflt (x0 := "_law_b") (fun _ => rfl) (lamP_by (by kernel_rfl)) B.tb_law rfl B.in_law B.un_law rfl rfl (fun _ _ _ _ _ _ _ _ => ⟨_, rfl, rfl⟩) (fun A2 outer s H E f c2 hr => (pe_call (ok_holders (P := P) (Hb := fun _ => none) (lf := fun _ => 0) T) (hr.mono (by decide)) (by rfl) T.g_holders T.F_holders.kp T.b_holders .nil (L2N.passL (passX (E := E) rfl rfl rfl rfl)) (pa_cons (pv 2) (pa_cons (pv 4) pa_nil))))) MkLs.nil))) (fun fs pn pl gd hp => (psj_cat (kl := 14) (j := 5) sc_law.nd rfl (by first | exact .inl rfl | exact .inr rfl) (by first | exact .inl rfl | exact .inr (.inl rfl) | exact .inr (.inr rfl)) (MkLs.cons (mk_dflt (x0 := "_law_c") (fun _ => rfl) (lamP_by (by kernel_rfl)) B.tb_law rfl B.in_law B.un_law rfl rfl (fun _ _ _ _ _ _ _ _ => ⟨_, rfl, rfl⟩) (fun A2 outer s H E f c2 hr => (pe_call (ok_hook (P := P) (Hb := fun _ => none) (lf := fun _ => 0) T) (hr.mono (by decide)) (by rfl) T.g_hook T.F_hook.kp T.b_hook .nil (L2N.passL (passX (E := E) rfl rfl rfl rfl)) (pa_cons (pv 2) (pa_cons (pv 4) pa_nil))))) (MkLs.cons (mk_dflt (x0 := "_law_e") (fun _ => rfl) (lamP_by (by kernel_rfl)) B.tb_law rfl B.in_law B.un_law rfl rfl (fun _ _ _ _ _ _ _ _ => ⟨_, rfl, rfl⟩) (fun A2 outer s H E f c2 hr => (pe_call (ok_is_open (P := P) (Hb := fun _ => none) (lf := fun _ => 0) T) (hr.mono (by decide)) (by rfl) T.g_is_open T.F_is_open.kp T.b_is_open .nil (L2N.passL (passX (E := E) rfl rfl rfl rfl)) (pa_cons (pv 2) (pa_cons (pv 4) pa_nil))))) MkLs.nil)) gd hp (fun p0 pn pl gd hp => (psj_cat (kl := 14) (j := 5) sc_law.nd rfl (by first | exact .inl rfl | exact .inr rfl) (by first | exact .inl rfl | exact .inr (.inl rfl) | exact .inr (.inr rfl)) (MkLs.cons (mk_dflt (x0 := "_law_f") (fun _ => rfl) (lamP_by (by kernel_rfl)) B.tb_law rfl B.in_law B.un_law rfl rfl (fun _ _ _ _ _ _ _ _ => ⟨_, rfl, rfl⟩) (fun A2 outer s H E f c2 hr => (pe_listG (pgen_call (ok_events_between (P := P) (Hb := fun _ => none) (lf := fun _ => 0) T) (hr.mono (by decide)) (by rfl) T.g_events_between T.F_events_between.kp T.b_events_between .nil (pa_cons (pv 2) (pa_cons (pv 4) (pa_cons pe_non pa_nil)))) (passStop (passX (E := E) rfl rfl rfl rfl)) nostopS (hr.mono (by decide)) (by rfl) T.z_list (by rfl)))) (MkLs.cons (mk_dflt (x0 := "_law_g") (fun _ => rfl) (lamP_by (by kernel_rfl)) B.tb_law rfl B.in_law B.un_law rfl rfl (fun _ _ _ _ _ _ _ _ => ⟨_, rfl, rfl⟩) (fun A2 outer s H E f c2 hr => (pe_call (ok_next_entry (P := P) (Hb := fun _ => none) (lf := fun _ => 0) T) (hr.mono (by decide)) (by rfl) T.g_next_entry T.F_next_entry.kp T.b_next_entry .nil (L2N.passL (passX (E := E) rfl rfl rfl rfl)) (pa_cons (pv 2) (pa_cons pe_int (pa_cons (pv 4) pa_nil)))))) MkLs.nil)) gd hp (fun p1 pn pl gd hp => (psj_cat (kl := 14) (j := 5) sc_law.nd rfl (by first | exact .inl rfl | exact .inr rfl) (by first | exact .inl rfl | exact .inr (.inl rfl) | exact .inr (.inr rfl)) (MkLs.cons (mk_dflt (x0 := "_law_h") (fun _ => rfl) (lamP_by (by kernel_rfl)) B.tb_law rfl B.in_law B.un_law rfl rfl (fun _ _ _ _ _ _ _ _ => ⟨_, rfl, rfl⟩) (fun A2 outer s H E f c2 hr => (pe_listG (pgen_call (ok_events_between (P := P) (Hb := fun _ => none) (lf := fun _ => 0) T) (hr.mono (by decide)) (by rfl) T.g_events_between T.F_events_between.kp T.b_events_between .nil (pa_cons (pv 2) (pa_cons (pv 3) (pa_cons (pv 4) pa_nil)))) (passStop (passX (E := E) rfl rfl rfl rfl)) nostopS (hr.mono (by decide)) (by rfl) T.z_list (by rfl)))) (MkLs.cons (mk_dflt (x0 := "_law_i") (fun _ => rfl) (lamP_by (by kernel_rfl)) B.tb_law rfl B.in_law B.un_law rfl rfl (fun _ _ _ _ _ _ _ _ => ⟨_, rfl, rfl⟩) (fun A2 outer s H E f c2 hr => (pe_call (ok_count_waits (P := P) (Hb := fun _ => none) (lf := fun _ => 0) T) (hr.mono (by decide)) (by rfl) T.g_count_waits T.F_count_waits.kp T.b_count_waits .nil (L2N.passL (passX (E := E) rfl rfl rfl rfl)) (pa_cons (pv 2) (pa_cons pe_int (pa_cons (pv 4) (pa_cons pe_non pa_nil))))))) MkLs.nil)) gd hp (fun p2 pn pl gd hp => (psj_app (kl := 14) (j := 5) rfl (by first | exact .inl rfl | exact .inr (.inl rfl) | exact .inr (.inr rfl)) (mk_dflt (x0 := "_law_j") (fun _ => rfl) (lamP_by (by kernel_rfl)) B.tb_law rfl B.in_law B.un_law rfl rfl (fun _ _ _ _ _ _ _ _ => ⟨_, rfl, rfl⟩) (fun A2 outer s H E f c2 hr => (pe_call (ok_count_waits (P := P) (Hb := fun _ => none) (lf := fun _ => 0) T) (hr.mono (by decide)) (by rfl) T.g_count_waits T.F_count_waits.kp T.b_count_waits .nil (L2N.passL (passX (E := E) rfl rfl rfl rfl)) (pa_cons (pv 2) (pa_cons pe_int (pa_cons (pv 3) (pa_cons (pv 4) pa_nil))))))) gd hp (fun p3 pn pl gd hp => (psj_fin (pss_cons (ps_if (pt_not (pt_val (pe_all (ok_law_all_raise (P := P) (Hb := fun _ => none) (lf := fun _ => 0) T) (by rfl) T.g_law_all_raise T.F_law_all_raise.kp T.b_law_all_raise (hr.mono (by decide)) gd hp (pa_cons (pv 5) (pa_cons (pe_tup (pa_cons pe_str (pa_cons pe_int pa_nil))) pa_nil))))) (pss_one (ps_ret pe_bl)) pss_nil)
      (pss_cons (ps_set (i := 6) sc_law.nd rfl (by first | exact .inl rfl | exact .inr rfl) (pe_ix ix_seq (pe_lst (pa_cons (pe_op op_sub (pe_op op_sub pe_int pe_int) (pv 3)) (pa_cons (pe_op op_addX (pe_prop (pv 2) T.cl_House T.pr_House_persons (ok_House_persons (P := P) (Hb := fun _ => none) (lf := fun _ => 0) T) (hr.mono (by decide)) T.b_House_persons .nil (passE (E := E)) rfl) (pv 3)) (pa_cons pe_non (pa_cons pe_bl (pa_cons pe_str (pa_cons (pe_tup (pa_cons pe_int pa_nil)) pa_nil))))))) (pe_call (ok_law_below (P := P) (Hb := fun _ => none) (lf := fun _ => 0) T) (hr.mono (by decide)) (by rfl) T.g_law_below T.F_law_below.kp T.b_law_below .nil (passE (E := E)) (pa_cons (pv 1) (pa_cons pe_int pa_nil))) (fun _ _ => rfl)))
      (pss_mkJ2 (kl := 14) (j := 5) sc_law.nd rfl (by first | exact .inl rfl | exact .inr rfl) (MkLs.cons (mk_plain (fun _ => rfl) (lamP_by (by kernel_rfl)) B.tb_law rfl B.in_law B.un_law rfl (fun q cl pm cv ctv us hl => match us, hl with | [], _ => rfl) (fun A2 outer s H E f c2 hr => (pe_call (ok_wait_ticks (P := P) (Hb := fun _ => none) (lf := fun _ => 0) T) (hr.mono (by decide)) (by rfl) T.g_wait_ticks T.F_wait_ticks.kp T.b_wait_ticks .nil (L2N.passL (passX (E := E) rfl rfl rfl rfl)) (pa_cons (pv 2) (pa_cons (pv 6) pa_nil))))) (MkLs.cons (mk_dflt (x0 := "_law_a") (fun _ => rfl) (lamP_by (by kernel_rfl)) B.tb_law rfl B.in_law B.un_law rfl rfl (fun _ _ _ _ _ _ _ _ => ⟨_, rfl, rfl⟩) (fun A2 outer s H E f c2 hr => (pe_call (ok_count_waits (P := P) (Hb := fun _ => none) (lf := fun _ => 0) T) (hr.mono (by decide)) (by rfl) T.g_count_waits T.F_count_waits.kp T.b_count_waits .nil (L2N.passL (passX (E := E) rfl rfl rfl rfl)) (pa_cons (pv 2) (pa_cons (pv 6) (pa_cons (pv 4) (pa_cons (pv 4) pa_nil))))))) MkLs.nil)) (fun fs pn pl gd hp => (psj_app (kl := 14) (j := 5) rfl (by first | exact .inl rfl | exact .inr (.inl rfl) | exact .inr (.inr rfl)) (mk_dflt (x0 := "_law_b") (fun _ => rfl) (lamP_by (by kernel_rfl)) B.tb_law rfl B.in_law B.un_law rfl rfl (fun _ _ _ _ _ _ _ _ => ⟨_, rfl, rfl⟩) (fun A2 outer s H E f c2 hr => (pe_call (ok_next_entry (P := P) (Hb := fun _ => none) (lf := fun _ => 0) T) (hr.mono (by decide)) (by rfl) T.g_next_entry T.F_next_entry.kp T.b_next_entry .nil (L2N.passL (passX (E := E) rfl rfl rfl rfl)) (pa_cons (pv 2) (pa_cons (pv 6) (pa_cons (pv 4) pa_nil)))))) gd hp (fun p0 pn pl gd hp => (psj_fin (pss_cons (ps_if (pt_not (pt_val (pe_all (ok_law_all_raise (P := P) (Hb := fun _ => none) (lf := fun _ => 0) T) (by rfl) T.g_law_all_raise T.F_law_all_raise.kp T.b_law_all_raise (hr.mono (by decide)) gd hp (pa_cons (pv 5) (pa_cons (pe_tup (pa_cons pe_str (pa_cons pe_int pa_nil))) pa_nil))))) (pss_one (ps_ret pe_bl)) pss_nil)
      (pss_cons (ps_set (i := 7) sc_law.nd rfl (by first | exact .inl rfl | exact .inr rfl) (pe_ix ix_seq (pe_lst (pa_cons (pe_op op_sub (pe_op op_sub pe_int pe_int) (pv 3)) (pa_cons (pe_op op_addX pe_int (pv 3)) (pa_cons pe_non (pa_cons pe_bl (pa_cons pe_str pa_nil)))))) (pe_call (ok_law_below (P := P) (Hb := fun _ => none) (lf := fun _ => 0) T) (hr.mono (by decide)) (by rfl) T.g_law_below T.F_law_below.kp T.b_law_below .nil (passE (E := E)) (pa_cons (pv 1) (pa_cons pe_int pa_nil))) (fun _ _ => rfl)))
      (pss_cons (ps_if (pt_cmpR (op_neX (hu64 hr)) (pe_cloX (CloX0.to (ok_law_error_of (P := P) (Hb := fun _ => none) (lf := fun _ => 0) T)) rfl (by rfl) T.g_law_error_of T.F_law_error_of.kp T.b_law_error_of (fun _ => rfl) (lamP_by (by kernel_rfl)) (hr.mono (by decide)) B.tb_law rfl B.in_law B.un_law rfl (fun q cl pm cv ctv us hl => match us, hl with | [], _ => rfl) (fun A2 outer s H E f c2 hr => (pe_call (ok_plan_reminders (P := P) (Hb := fun _ => none) (lf := fun _ => 0) T) (hr.mono (by decide)) (by rfl) T.g_plan_reminders T.F_plan_reminders.kp T.b_plan_reminders .nil (L2N.passL (passX (E := E) rfl rfl rfl rfl)) (pa_cons (pv 2) (pa_cons (pv 7) pa_nil))))) (pe_tup (pa_cons pe_str (pa_cons pe_int pa_nil))) (nomark _)) (pss_one (ps_ret pe_bl)) pss_nil)
      (pss_one (ps_ret (pe_and (pe_callB call_isi (by rfl) T.z_isinstance bt_isinstance (pa_cons (pe_call (ok_waiting (P := P) (Hb := fun _ => none) (lf := fun _ => 0) T) (hr.mono (by decide)) (by rfl) T.g_waiting T.F_waiting.kp T.b_waiting .nil (L2N.passL passL) (pa_cons (pv 2) (pa_cons (pe_op op_pow pe_int pe_int) pa_nil))) (pa_cons (pe_bltn (v := .ty "tuple") (by rfl) T.z_tuple bt_tuple rfl) pa_nil))) (pe_one (pe_cmpR (op_eqX (hu64 hr)) (pe_call (ok_count_waits (P := P) (Hb := fun _ => none) (lf := fun _ => 0) T) (hr.mono (by decide)) (by rfl) T.g_count_waits T.F_count_waits.kp T.b_count_waits .nil (L2N.passL passL) (pa_cons (pv 2) (pa_cons pe_int (pa_cons pe_int (pa_cons pe_int pa_nil))))) pe_int (nomark _)))))))))))))))))))))))))))))),
      (rs_seq (rs_set (by decide) (ref_call (fun _ _ => RepL.nil) (fun ds => runF_ar) (ref_acons (ref_callO (by decide) (fun d ds => runF0_ar) (ref_acons ref_int ref_anil)) ref_anil)))
      (rs_seq (rs_set (by decide) (ref_op2 o2_mul (ref_callO (by decide) (fun d ds => runF0_ar) (ref_acons ref_int ref_anil)) (ref_callO (by decide) (fun d ds => runF0_ar) (ref_acons ref_int ref_anil))))
      (rs_seq (rs_set (by decide) (ref_op2 o2_ix (ref_lst (ref_acons (ref_op2 o2_sub (ref_op2 o2_sub ref_int ref_int) (ref_var (by decide))) (ref_acons (ref_op2 o2_add (ref_op2 o2_add (ref_op2 o2_pow ref_int ref_int) ref_int) (ref_var (by decide))) (ref_acons ref_non (ref_acons ref_bl (ref_acons ref_str (ref_acons (ref_tup (ref_acons ref_int ref_anil)) ref_anil))))))) (ref_callO (by decide) (fun d ds => runF0_ar) (ref_acons ref_int ref_anil))))
      (rs_mkJ (by decide) (ln_le 3 rfl (by decide)) (fun fs _ e0 => (rj_cat (by decide) (len_cat e0 (ln_cat 5 rfl (by decide))) (fun p0 _ h0 => have e1 := map_app e0 h0
      (rj_cat (by decide) (len_cat e1 (ln_cat 7 rfl (by decide))) (fun p1 _ h1 => have e2 := map_app e1 h1
      (rj_cat (by decide) (len_cat e2 (ln_cat 9 rfl (by decide))) (fun p2 _ h2 => have e3 := map_app e2 h2
      (rj_app (len_of e3 (ln_lt 9 rfl (by decide))) (fun p3 _ h3 => have e4 := map_snoc e3 h3
      (rj_fin (rj_seq (rj_if (μ := none) (tj_not (tj_testB (ref_all e4 (ln_lt 10 rfl (by decide)) (RefLs.cons (fun EZ => (ref_call (fun _ _ => RepL.nil) (fun ds => runF_ar) (ref_acons (ref_var (by decide)) (ref_acons (ref_var (by decide)) ref_anil)))) (RefLs.cons (fun EZ => (ref_call (fun _ _ => RepL.nil) (fun ds => runF_ar) (ref_acons (ref_var (by decide)) (ref_acons (ref_var (by decide)) ref_anil)))) (RefLs.cons (fun EZ => (ref_call (fun _ _ => RepL.nil) (fun ds => runF_ar) (ref_acons (ref_var (by decide)) (ref_acons (ref_var (by decide)) ref_anil)))) (RefLs.cons (fun EZ => (ref_call (fun _ _ => RepL.nil) (fun ds => runF_ar) (ref_acons (ref_var (by decide)) (ref_acons (ref_var (by decide)) ref_anil)))) (RefLs.cons (fun EZ => (ref_call (fun _ _ => RepL.nil) (fun ds => runF_ar) (ref_acons (ref_var (by decide)) (ref_acons (ref_var (by decide)) ref_anil)))) (RefLs.cons (fun EZ => (ref_listGX (fr := false) T.sx_InvalidTick (fun ds o h => runGe_ar h) (ref_acons (ref_var (by decide)) (ref_acons (ref_var (by decide)) (ref_acons ref_non ref_anil))))) (RefLs.cons (fun EZ => (ref_call (fun _ _ => RepL.nil) (fun ds => runF_ar) (ref_acons (ref_var (by decide)) (ref_acons ref_int (ref_acons (ref_var (by decide)) ref_anil))))) (RefLs.cons (fun EZ => (ref_listGX (fr := false) T.sx_InvalidTick (fun ds o h => runGe_ar h) (ref_acons (ref_var (by decide)) (ref_acons (ref_var (by decide)) (ref_acons (ref_var (by decide)) ref_anil))))) (RefLs.cons (fun EZ => (ref_call (fun _ _ => RepL.nil) (fun ds => runF_ar) (ref_acons (ref_var (by decide)) (ref_acons ref_int (ref_acons (ref_var (by decide)) (ref_acons ref_non ref_anil)))))) (RefLs.cons (fun EZ => (ref_call (fun _ _ => RepL.nil) (fun ds => runF_ar) (ref_acons (ref_var (by decide)) (ref_acons ref_int (ref_acons (ref_var (by decide)) (ref_acons (ref_var (by decide)) ref_anil)))))) RefLs.nil)))))))))) (ref_tup (ref_acons ref_str (ref_acons ref_int ref_anil)))))) (rs_ret (μ := none) (by intro z; cases z) (by intro _ z; cases z) ref_bl) rs_next)
      (rs_seq (rs_set (by decide) (ref_op2 o2_ix (ref_lst (ref_acons (ref_op2 o2_sub (ref_op2 o2_sub ref_int ref_int) (ref_var (by decide))) (ref_acons (ref_op2 o2_add (ref_prop (fun ds => runF_ar) (ref_var (by decide))) (ref_var (by decide))) (ref_acons ref_non (ref_acons ref_bl (ref_acons ref_str (ref_acons (ref_tup (ref_acons ref_int ref_anil)) ref_anil))))))) (ref_callO (by decide) (fun d ds => runF0_ar) (ref_acons ref_int ref_anil))))
      (rs_mkJ (by decide) (ln_le 2 rfl (by decide)) (fun fs _ e0 => (rj_app (len_of e0 (ln_lt 2 rfl (by decide))) (fun p0 _ h0 => have e1 := map_snoc e0 h0
      (rj_fin (rj_seq (rj_if (μ := none) (tj_not (tj_testB (ref_all e1 (ln_lt 3 rfl (by decide)) (RefLs.cons (fun EZ => (ref_call (fun _ _ => RepL.nil) (fun ds => runF_ar) (ref_acons (ref_var (by decide)) (ref_acons (ref_var (by decide)) ref_anil)))) (RefLs.cons (fun EZ => (ref_call (fun _ _ => RepL.nil) (fun ds => runF_ar) (ref_acons (ref_var (by decide)) (ref_acons (ref_var (by decide)) (ref_acons (ref_var (by decide)) (ref_acons (ref_var (by decide)) ref_anil)))))) (RefLs.cons (fun EZ => (ref_call (fun _ _ => RepL.nil) (fun ds => runF_ar) (ref_acons (ref_var (by decide)) (ref_acons (ref_var (by decide)) (ref_acons (ref_var (by decide)) ref_anil))))) RefLs.nil))) (ref_tup (ref_acons ref_str (ref_acons ref_int ref_anil)))))) (rs_ret (μ := none) (by intro z; cases z) (by intro _ z; cases z) ref_bl) rs_next)
      (rs_seq (rs_set (by decide) (ref_op2 o2_ix (ref_lst (ref_acons (ref_op2 o2_sub (ref_op2 o2_sub ref_int ref_int) (ref_var (by decide))) (ref_acons (ref_op2 o2_add ref_int (ref_var (by decide))) (ref_acons ref_non (ref_acons ref_bl (ref_acons ref_str ref_anil)))))) (ref_callO (by decide) (fun d ds => runF0_ar) (ref_acons ref_int ref_anil))))
      (rs_seq (rs_if (μ := none) (ref_test (ref_op2 o2_ne (ref_cloX (fun EZ => (ref_call (fun _ _ => RepL.nil) (fun ds => runF_ar) (ref_acons (ref_var (by decide)) (ref_acons (ref_var (by decide)) ref_anil))))) (ref_tup (ref_acons ref_str (ref_acons ref_int ref_anil))))) (rs_ret (μ := none) (by intro z; cases z) (by intro _ z; cases z) ref_bl) rs_next)
      (rs_ret (μ := none) (by intro z; cases z) (by intro _ z; cases z) (ref_andV (ref_isi (ref_nx (ref_call (fun _ _ => RepL.nil) (fun ds => runF_ar) (ref_acons (ref_var (by decide)) (ref_acons (ref_op2 o2_pow ref_int ref_int) ref_anil))))) (ref_op2 o2_eq (ref_nx (ref_call (fun _ _ => RepL.nil) (fun ds => runF_ar) (ref_acons (ref_var (by decide)) (ref_acons ref_int (ref_acons ref_int (ref_acons ref_int ref_anil)))))) ref_int)))))))))))))))))))))))))))⟩
  obtain ⟨t, h1, h2⟩ := hx
  have h3 : PSs (cxOf CX0 P w K mg base ["_law_script", "_law_d", "_law_house_here", "_law_far", "_law_tick", "_law_calls", "_law_person", "_law_limit"] "law" (defScope st_law) A.f_law (.ref A.cc_law) A2 outer s H E).nox (defBody st_law) _ :=
    pss_cons (ps_set (i := 1) sc_law.nd rfl (by first | exact .inl rfl | exact .inr rfl) (pe_call (ok_law_random T) (hr.mono (by decide)) (by rfl) T.g_law_random T.F_law_random.kp T.b_law_random .nil (passE (E := E)) (pa_cons (pv 0) (pa_cons pe_int pa_nil)))) h1
  obtain ⟨a, ns, rfl, hS, hlen, k, htb⟩ := hsp
  refine ⟨_, h3.nox, ?_⟩
  refine ⟨.ref a, rfl, a, ns, 9, rfl, hS, by omega, fun H' p ext hp hl => ?_⟩
  exact law_run (n := 6) h2 (by decide) ext hp hl (hm ns hlen) htb ext_none k rfl
theorem law_inT {l : PySem.W.OpenLaw} {w : World} {K : PySem.W.Frag} {mg : Str → Option Value} {h : Heap} {A : Ad} (hT : Tbl.T = tl A) (T : Txt K mg A) (D : HdT K h A) (hm : ∀ ns : List Int, ns.length ≤ 63 → ∃ e, b_law (env1 6 (rndL ns 9)) = .ret (.bl true) e) :
    LamX.LawAtS l w K CX0 18 63 "_law_script" mg A.f_law h := by
  have hcl : ∀ p ∈ tl A, ∃ c, (c, p.1) ∈ cl A := by
    intro p hp
    simp only [tl, List.mem_cons, List.not_mem_nil, or_false] at hp
    cases hp
    exact ⟨A.cc_law, by simp [cl]⟩
  have hB : ∀ base : Heap, (∀ p ∈ cl A, LamX.TabB base mg p.1 p.2) → TBs base mg A := fun base hB => { tb_law := hB (A.cc_law, A.P_law) (by simp [cl]), in_law := by rw [hT]; simp [tl], un_law := fun p hp e => D.u p (by rw [← hT]; exact hp) (A.P_law, _) (by simp [tl]) e }
  refine ⟨A.fd_law, cl A, spLaw K, D.t, D.n, D.h, fun s u => T.F_law.bindsA (ps := ["_law_script"]) (fun _ _ _ _ _ _ us hl => match us, hl with | [_], _ => rfl) s [u] rfl, fun H a ns hl _ ht hS => ⟨a, ns, rfl, hS, hl, fun _ => rfl, fun p hp => ?_⟩, fun base _ _ q => ok_law T (hB base q) hm⟩
  rw [hT] at hp
  obtain ⟨c, hc⟩ := hcl p hp
  exact LamX.TabS.nil (ht _ hc)
theorem law_endT {l : PySem.W.OpenLaw} {w : World} {K : PySem.W.Frag} {mg : Str → Option Value} {fa : Addr} {h : Heap} (hh : ∃ A : Ad, Txt K mg A ∧ HdT K h A) (hmg : mg "law" = some (.ref fa)) (hm : ∀ ns : List Int, ns.length ≤ 63 → ∃ e, b_law (env1 6 (rndL ns 9)) = .ret (.bl true) e) :
    LamX.LawAtS l w K CX0 18 63 "_law_script" mg fa h := by
  obtain ⟨A, T, D⟩ := hh
  have e := hmg.symm.trans T.g_law
  cases e
  letI i : Tbl := ⟨tl A⟩
  exact law_inT rfl T D hm
end
end K09
namespace K09
open PySem PySem.Spec PyProof.Rows L2 Mir
def Rnd (o : D) : Prop := ∃ ds : List Int, o = .lst (ds.map .int) ∧ 2 ≤ ds.length
theorem fmod_range {a b : Int} (h : 0 < b) : 0 ≤ a.fmod b ∧ a.fmod b < b := ⟨Int.fmod_nonneg_of_pos _ h, Int.fmod_lt_of_pos _ h⟩
theorem below_tail {s0 s1 lim : Int} {rest : List Int} (h1 : 0 < lim) (h2 : lim < 1000000000) : ∃ (r : Int) (e : Mir.Env) (ds : List Int), (sSeq (sIf (mTest (e2 oGtI (e2 oIx (eVar 0) (eC (.int 1))) (eC (.int 0)))) (sSeq (sAsg (eUp (e2 oMod (e2 oIx (eVar 0) (eC (.int 1))) (eVar 1))) (gSet 2))
  (sSeq (sSetIx 0 1 (eUp (e2 oFdiv (e2 oIx (eVar 0) (eC (.int 1))) (eVar 1))))
  (sRet (eVar 2)))) sNext)
  (sSeq (sSetIx 0 0 (eUp (e2 oMod (e2 oAdd (e2 oMul (e2 oIx (eVar 0) (eC (.int 0))) (eC (.int 48271))) (eC (.int 11))) (eC (.int 2147483647)))))
  (sRet (eUp (e2 oMod (e2 oFdiv (e2 oIx (eVar 0) (eC (.int 0))) (eC (.int 64))) (eVar 1)))))) [some (.lst (((s0 :: s1 :: rest).map .int : List D))), some (.int lim), none] = .ret (.int r) e ∧ e[0]? = some (some (.lst (ds.map .int))) ∧ 0 ≤ r ∧ r < lim ∧ 2 ≤ ds.length := by
  have hl0 : lim ≠ 0 := by omega
  have hlm : lim ≠ 0 ∧ lim.natAbs < 1073741824 := ⟨by omega, by omega⟩
  have i1 : ∀ (a b : D) (l : List D), ixN (a :: b :: l).length 1 = some 1 := fun a b l => ixN_at (by simp) rfl
  have i0 : ∀ (a b : D) (l : List D), ixN (a :: b :: l).length 0 = some 0 := fun a b l => ixN_at (by simp) rfl
  by_cases c : 0 < s1
  · refine ⟨s1.fmod lim, [some (.lst ((s0 :: s1.fdiv lim :: rest).map .int)), some (.int lim), some (.int (s1.fmod lim))], s0 :: s1.fdiv lim :: rest, ?_, rfl, (fmod_range h1).1, (fmod_range h1).2, by simp⟩
    · simp only [ap_sSeq, ap_sIf, ap_mTest, ap_e2, ap_eVar, ap_eC, List.getElem?_cons_zero, List.getElem?_cons_succ, List.map_cons, Out.bind_ok, oIx_lst, atI_c1, Out.opt_some, oGtI_int, dd_boo, Out.fl_ok, c, decide_true, if_true, ap_sAsg, ap_eUp, oMod_int _ _ hl0, dp_int, ap_gSet, Fl.bind_next, set_2, ap_sSetIx, oFdiv_int _ _ hlm, i1, ap_sRet, Fl.bind_ret, set_0, set_1]
  · refine ⟨(((s0 * 48271 + 11).fmod 2147483647).fdiv 64).fmod lim, [some (.lst ((((s0 * 48271 + 11).fmod 2147483647) :: s1 :: rest).map .int)), some (.int lim), none], ((s0 * 48271 + 11).fmod 2147483647) :: s1 :: rest, ?_, rfl, (fmod_range h1).1, (fmod_range h1).2, by simp⟩
    · simp only [ap_sSeq, ap_sIf, ap_mTest, ap_e2, ap_eVar, ap_eC, List.getElem?_cons_zero, List.getElem?_cons_succ, List.map_cons, Out.bind_ok, oIx_lst, atI_c0, atI_c1, Out.opt_some, oGtI_int, dd_boo, Out.fl_ok, c, decide_false, if_false, ap_sNext, ap_eUp, oMod_int _ _ hl0, dp_int, Fl.bind_next, ap_sSetIx, i0, ap_sRet, Fl.bind_ret, set_0, set_1, oMul_int _ 48271 (.inr (by decide)), oAdd_int, oMod_int _ 2147483647 (by decide), oFdiv_int _ 64 (by decide), if_true, Bool.false_eq_true]
theorem below_spec {o : D} (ho : Rnd o) {lim : Int} (h1 : 0 < lim) (h2 : lim < 1000000000) : ∃ r o', d_law_below o [.int lim] = .ok (.int r) o' ∧ 0 ≤ r ∧ r < lim ∧ Rnd o' := by
  obtain ⟨ds, rfl, hl⟩ := ho
  obtain ⟨s0, s1, rest, rfl⟩ : ∃ s0 s1 rest, ds = s0 :: s1 :: rest := by
    match ds, hl with
    | s0 :: s1 :: rest, _ => exact ⟨s0, s1, rest, rfl⟩
  have i1 : ∀ (a b : D) (l : List D), ixN (a :: b :: l).length 1 = some 1 := fun a b l => ixN_at (by simp) rfl
  have i2 : ∀ (a b c : D) (l : List D), seqIndex? 2 (a :: b :: c :: l).length = some 2 := fun a b c l => seqIx_at (by simp) rfl
  have first : ∃ (t0 t1 : Int) (rs : List Int), (sIf (mAnd (mTest (e2 oEq (e2 oIx (eVar 0) (eC (.int 1))) (eC (.int 0)))) (mTest (e2 oGtI (eA (A1 oLen) (aCons (eVar 0) aNil)) (eC (.int 2))))) (sSetIx 0 1 (ePopAt 0 2)) sNext) [some (.lst (((s0 :: s1 :: rest).map .int : List D))), some (.int lim), none] = .next [some (.lst (((t0 :: t1 :: rs).map .int : List D))), some (.int lim), none] := by
    by_cases c : s1 = 0
    · cases rest with
      | nil =>
        refine ⟨s0, s1, [], ?_⟩
        subst c
        simp [oEq_int]
      | cons t rest =>
        refine ⟨s0, t, rest, ?_⟩
        subst c
        have hg : (2 : Int) < ((D.int s0 :: D.int 0 :: D.int t :: rest.map D.int).length : Int) := by simp only [List.length_cons]; omega
        simp only [ap_sIf, ap_mAnd, ap_mTest, ap_e2, ap_eVar, ap_eC, List.getElem?_cons_zero, List.getElem?_cons_succ, List.map_cons, Out.bind_ok, oIx_lst, atI_c1, Out.opt_some, oEq_int, dd_boo, Out.fl_ok, decide_true, if_true, ap_eA, ap_aCons, ap_aNil, ap_A1, oLen_lst, oGtI_int, hg, ap_sSetIx, ap_ePopAt, i2]
        rw [if_pos (by decide)]
        simp only [Out.fl_ok, set_0, List.getElem?_cons_zero, List.eraseIdx_cons_succ, List.eraseIdx_cons_zero, i1, set_1]
    · refine ⟨s0, s1, rest, ?_⟩
      simp [oEq_int, c]
  obtain ⟨t0, t1, rs, hf⟩ := first
  obtain ⟨r, e, ds, h3, h4, h5, h6, h7⟩ := below_tail (s0 := t0) (s1 := t1) (rest := rs) h1 h2
  refine ⟨r, _, ?_, h5, h6, ds, rfl, h7⟩
  have hb : b_law_below [some (.lst (((s0 :: s1 :: rest).map .int : List D))), some (.int lim), none] = .ret (.int r) e := by
    unfold b_law_below
    rw [ap_sSeq, hf, Fl.bind_next]
    exact h3
  exact runF0_ret hb h4 rfl
end K09
namespace K09
open PySem PySem.Spec PyProof.Rows L2 Mir
def D24 : List Int := [1, 2, 3, 4, 6, 8, 12, 24]
def signs (z : Str) : Prop := ∀ c ∈ z.cps.toList, c = 104 ∨ c = 111
structure Tab (z : Str) : Prop where
  s : signs z
  l : (z.length : Int) ∈ D24
theorem d24_range {n : Int} (h : n ∈ D24) : 1 ≤ n ∧ n ≤ 24 := by
  simp only [D24, List.mem_cons, List.not_mem_nil, or_false] at h
  omega
theorem Tab.le {z : Str} (h : Tab z) : z.length ≤ 24 := by have := d24_range h.l; omega
theorem Tab.pos {z : Str} (h : Tab z) : 1 ≤ z.length := by have := d24_range h.l; omega
theorem callO_below {env env1 : Mir.Env} {b : EM} {j : Nat} {lim : Int} {o0 o : D} (h0 : env[j]? = some (some o0)) (hb : b env = .ok (.int lim) env1) (h1 : env1[j]? = some (some o)) (ho : Rnd o) (l1 : 0 < lim) (l2 : lim < 1000000000) :
    ∃ r o', eCallO d_law_below j (aCons b aNil) env = .ok (.int r) (env1.set j (some o')) ∧ 0 ≤ r ∧ r < lim ∧ Rnd o' := by
  obtain ⟨r, o', e, q1, q2, q3⟩ := below_spec ho l1 l2
  refine ⟨r, o', ?_, q1, q2, q3⟩
  rw [ap_eCallO, h0]
  dsimp only
  rw [ap_aCons, hb]
  simp only [Out.bind_ok, ap_aNil]
  rw [h1]
  dsimp only
  rw [e]
theorem ho_ix {r : Int} (h0 : 0 ≤ r) (h1 : r < 2) : ∃ c : Nat, oIx (.str "ho") (.int r) = some (.str ⟨#[c]⟩) ∧ (c = 104 ∨ c = 111) := by
  have : r = 0 ∨ r = 1 := by omega
  rcases this with rfl | rfl
  · exact ⟨104, rfl, .inl rfl⟩
  · exact ⟨111, rfl, .inr rfl⟩
theorem join_signs (cs : List Nat) : Txt.join "" (cs.map fun c => (⟨#[c]⟩ : Str)) = ⟨cs.toArray⟩ := by
  have h := SX.join_S [] (cs.map fun c => [c])
  rw [List.map_map] at h
  have e : TL.joinL [] (cs.map fun c => [c]) = cs := by
    induction cs with
    | nil => rfl
    | cons c cs ih => cases cs with
      | nil => rfl
      | cons d cs => show [c] ++ ([] ++ TL.joinL [] ((d :: cs).map fun c => [c])) = _; rw [ih (SX.join_S _ _ |> fun z => by rw [List.map_map] at z; exact z)]; rfl
  rw [e] at h
  exact h
theorem lens_join (cs : List Nat) : ((cs.map fun c => (⟨#[c]⟩ : Str)).map (·.length)).sum = cs.length := by
  induction cs with
  | nil => rfl
  | cons c cs ih => rw [List.map_cons, List.map_cons, List.sum_cons, ih, List.length_cons]; show 1 + _ = _; omega
theorem rangeL_len (lo : Int) (n : Nat) : (rangeL lo n).length = n := by unfold rangeL; rw [List.length_map, List.length_range]
theorem rng1_at {n : Int} (h0 : 0 ≤ n) (h1 : n < 2 ^ 62) : rng1 [.int n] = some (rangeL 0 n.toNat) := by unfold rng1; dsimp only; rw [if_pos ⟨by omega, h1⟩]
theorem table_spec {o : D} (ho : Rnd o) : ∃ z o', d_law_table o [] = .ok (.str z) o' ∧ Tab z ∧ Rnd o' := by
  obtain ⟨r1, o1, e1, a1, b1, ho1⟩ := callO_below (env := [some o, none, none]) (b := eC (.int 3)) (j := 0) rfl rfl rfl ho (by decide) (by decide)
  obtain ⟨l1, hl1, hl2, hl3⟩ : ∃ l : Int, atI [D.int 5, .int 7, .int 9] r1 = some (.int l) ∧ 0 < l ∧ l ≤ 9 := by
    have : r1 = 0 ∨ r1 = 1 ∨ r1 = 2 := by omega
    rcases this with rfl | rfl | rfl
    · exact ⟨5, rfl, by decide, by decide⟩
    · exact ⟨7, rfl, by decide, by decide⟩
    · exact ⟨9, rfl, by decide, by decide⟩
  have hb : (e2 oIx (eLst (aCons (eC (.int 5)) (aCons (eC (.int 7)) (aCons (eC (.int 9)) aNil)))) (eCallO d_law_below 0 (aCons (eC (.int 3)) aNil))) [some o, none, none] = .ok (.int l1) [some o1, none, none] := by
    rw [ap_e2, ap_eLst]
    simp only [ap_aCons, ap_eC, ap_aNil, Out.bind_ok]
    rw [if_pos (by decide)]
    simp only [Out.opt_some, Out.bind_ok]
    rw [e1]
    simp only [Out.bind_ok, oIx_lst, hl1, Out.opt_some]
    rfl
  obtain ⟨r2, o2, e2', a2, b2, ho2⟩ := callO_below (env := [some o, none, none]) (j := 0) rfl hb rfl ho1 hl2 (by omega)
  obtain ⟨n, hn1, hn2⟩ : ∃ n : Int, atI [D.int 1, .int 2, .int 3, .int 4, .int 4, .int 6, .int 8, .int 12, .int 24] r2 = some (.int n) ∧ n ∈ D24 := by
    have : r2 = 0 ∨ r2 = 1 ∨ r2 = 2 ∨ r2 = 3 ∨ r2 = 4 ∨ r2 = 5 ∨ r2 = 6 ∨ r2 = 7 ∨ r2 = 8 := by omega
    rcases this with rfl | rfl | rfl | rfl | rfl | rfl | rfl | rfl | rfl
    · exact ⟨1, rfl, by decide⟩
    · exact ⟨2, rfl, by decide⟩
    · exact ⟨3, rfl, by decide⟩
    · exact ⟨4, rfl, by decide⟩
    · exact ⟨4, rfl, by decide⟩
    · exact ⟨6, rfl, by decide⟩
    · exact ⟨8, rfl, by decide⟩
    · exact ⟨12, rfl, by decide⟩
    · exact ⟨24, rfl, by decide⟩
  have hr := d24_range hn2
  have hlc : ∃ (cs : List Nat) (o' : D), (eLc [2] (iRng1M (aCons (eVar 1) aNil)) (gSet 2) mYes (e2 oIx (eC (.str "ho")) (eCallO d_law_below 0 (aCons (eC (.int 2)) aNil)))) [some o2, some (.int n), none] = .ok (.lst ((cs.map fun c => (⟨#[c]⟩ : Str)).map D.str)) [some o', some (.int n), none] ∧ Rnd o' ∧ cs.length = n.toNat ∧ ∀ c ∈ cs, c = 104 ∨ c = 111 := by
    obtain ⟨xs, env', q1, o', cs, q2, q3, q4, q5, q6⟩ := lcGo_inv (vs := [2]) (g := gSet 2) (c := mYes) (e := e2 oIx (eC (.str "ho")) (eCallO d_law_below 0 (aCons (eC (.int 2)) aNil)))
      (fun done acc env => ∃ (o' : D) (cs : List Nat), env = [some o', some (.int n), none] ∧ Rnd o' ∧ acc = (cs.map fun c => (⟨#[c]⟩ : Str)).map D.str ∧ cs.length = done.length ∧ ∀ c ∈ cs, c = 104 ∨ c = 111)
      (ds := rangeL 0 n.toNat) (done := []) (acc := []) (env := [some o2, some (.int n), none]) ⟨o2, [], rfl, ho2, rfl, rfl, fun c m => (by cases m)⟩ (by rw [rangeL_len]; simp only [List.length_nil]; omega) (Nat.le_refl _) (by
        rintro done acc d env ⟨o', cs, rfl, p1, rfl, p2, p3⟩ m
        obtain ⟨r, o'', q1, q2, q3, q4⟩ := callO_below (env := [some o', some (.int n), some d]) (b := eC (.int 2)) (j := 0) rfl rfl rfl p1 (by decide) (by decide)
        obtain ⟨c, q5, q6⟩ := ho_ix q2 q3
        refine ⟨_, rfl, true, _, rfl, fun z => (by cases z), fun _ => ⟨.str ⟨#[c]⟩, [some o'', some (.int n), some d], ?_, o'', cs ++ [c], rfl, q4, ?_, ?_, ?_⟩⟩
        · rw [ap_e2, ap_eC, Out.bind_ok]
          have q1' : eCallO d_law_below 0 (aCons (eC (.int 2)) aNil) (List.set [some o', some (.int n), none] 2 (some d)) = _ := q1
          rw [q1']
          simp only [Out.bind_ok, q5, Out.opt_some]
          rfl
        · simp
        · simp [p2]
        · intro x m
          rcases List.mem_append.mp m with m | m
          · exact p3 x m
          · rw [List.mem_singleton.mp m]
            exact q6)
    refine ⟨cs, o', ?_, q3, by rw [q5]; simp [rangeL_len], q6⟩
    rw [ap_eLc, ap_iRng1M]
    simp only [ap_aCons, ap_eVar, ap_aNil, List.getElem?_cons_succ, List.getElem?_cons_zero, Out.bind_ok]
    rw [rng1_at (by omega) (by omega)]
    simp only [Out.opt_some, Out.bind_ok]
    have q1' : lcGo [2] (gSet 2) mYes (e2 oIx (eC (.str "ho")) (eCallO d_law_below 0 (aCons (eC (.int 2)) aNil))) (rangeL 0 n.toNat) [] (wipeE [some o2, some (.int n), none] [2]) = _ := q1
    rw [q1']
    simp only [Out.bind_ok, q2, q4]
    rfl
  obtain ⟨cs, o', q1, q2, q3, q4⟩ := hlc
  refine ⟨⟨cs.toArray⟩, o', ?_, ⟨?_, ?_⟩, q2⟩
  · refine runF0_ret (e := [some o', some (.int n), none]) ?_ rfl rfl
    show b_law_table [some o, none, none] = _
    unfold b_law_table
    rw [ap_sSeq, ap_sAsg, ap_e2, ap_eLst]
    simp only [ap_aCons, ap_eC, ap_aNil, Out.bind_ok]
    rw [if_pos (by decide)]
    simp only [Out.opt_some, Out.bind_ok]
    rw [e2']
    simp only [Out.bind_ok, oIx_lst, hn1, Out.opt_some, Out.fl_ok, ap_gSet, Fl.bind_next, ap_sRet]
    rw [ap_eM1, ap_eC]
    simp only [Out.bind_ok, dd_isS, if_true]
    have q1' := q1
    rw [show (List.set (List.set [some o1, none, none] 0 (some o2)) 1 (some (D.int n)) : Mir.Env) = [some o2, some (.int n), none] from rfl, q1']
    simp only [Out.bind_ok]
    unfold oJoin
    dsimp only
    rw [strsOf_map]
    simp only [Option.bind_some]
    rw [lens_join, if_pos (by rw [List.length_map, q3]; show n.toNat + n.toNat * 0 ≤ 100000; omega), join_signs]
    rfl
  · intro c m
    exact q4 c (by simpa using m)
  · show ((cs.toArray.size : Nat) : Int) ∈ D24
    rw [List.size_toArray, q3]
    have : ((n.toNat : Nat) : Int) = n := by omega
    rw [this]
    exact hn2
end K09
namespace K09
open PySem PySem.Spec PyProof.Rows L2 Mir
theorem cm_run (a b m : Int) (n : Nat) (h : whileN (mTest (e2 oNe (e2 oMul (e2 oFdiv (eVar 2) (eVar 1)) (eVar 1)) (eVar 2))) (sAug 2 (eVar 0) (· + ·)) n [some (.int a), some (.int b), some (.int a)] = some (.next [some (.int a), some (.int b), some (.int m)])) :
    d_common_multiple [.int a, .int b] = .ok (.int m) := by
  refine runF_ret (e := [some (.int a), some (.int b), some (.int m)]) ?_ rfl
  show b_common_multiple [some (.int a), some (.int b), none] = _
  unfold b_common_multiple
  rw [ap_sSeq, ap_sAsg]
  simp only [ap_eVar, List.getElem?_cons_zero, Out.fl_ok, ap_gSet, Fl.bind_next, set_2, ap_sSeq]
  rw [sWhile_of h]
  rfl
theorem cm_step (a b : Int) (hb : 1 ≤ b ∧ b ≤ 1000000) (ha : 1 ≤ a) (n : Nat) : ∀ (k : Nat) (x m : Int), x + k * a = m → b ∣ m → (∀ i : Nat, i < k → ¬ b ∣ x + i * a) → k < n → whileN (mTest (e2 oNe (e2 oMul (e2 oFdiv (eVar 2) (eVar 1)) (eVar 1)) (eVar 2))) (sAug 2 (eVar 0) (· + ·)) n [some (.int a), some (.int b), some (.int x)] = some (.next [some (.int a), some (.int b), some (.int m)]) := by
  induction n with
  | zero => intro k x m _ _ _ h; omega
  | succ n ih =>
    intro k x m hm hd hk hn
    have hb0 : b ≠ 0 ∧ b.natAbs < 1073741824 := ⟨by omega, by omega⟩
    have ht : (mTest (e2 oNe (e2 oMul (e2 oFdiv (eVar 2) (eVar 1)) (eVar 1)) (eVar 2))) [some (.int a), some (.int b), some (.int x)] = .ok (!decide (x.fdiv b * b = x)) [some (.int a), some (.int b), some (.int x)] := by
      simp only [ap_mTest, ap_e2, ap_eVar, List.getElem?_cons_zero, List.getElem?_cons_succ, Out.bind_ok, oFdiv_int _ _ hb0, Out.opt_some, oMul_int _ _ (.inr (show -(2 ^ 64) < b ∧ b < 2 ^ 64 by omega)), oNe_int, dd_boo]
    have hdv : (x.fdiv b * b = x) ↔ b ∣ x := by
      rw [Int.fdiv_eq_ediv_of_nonneg _ (by omega)]
      constructor
      · intro h
        exact ⟨x / b, by rw [Int.mul_comm]; exact h.symm⟩
      · intro h
        exact Int.ediv_mul_cancel h
    unfold whileN
    rw [ht]
    cases k with
    | zero =>
      have e : x = m := by simpa using hm
      subst e
      rw [decide_eq_true (hdv.mpr hd)]
      rfl
    | succ k =>
      have h0 : ¬ b ∣ x := by simpa using hk 0 (by omega)
      rw [decide_eq_false (fun z => h0 (hdv.mp z))]
      simp only [Bool.not_false]
      have hs : (sAug 2 (eVar 0) (· + ·)) [some (.int a), some (.int b), some (.int x)] = .next [some (.int a), some (.int b), some (.int (x + a))] := rfl
      rw [hs]
      refine ih k (x + a) m ?_ hd (fun i hi => ?_) (by omega)
      · rw [← hm]
        have : ((k + 1 : Nat) : Int) * a = a + k * a := by rw [show ((k + 1 : Nat) : Int) = k + 1 by omega, Int.add_mul]; omega
        omega
      · have := hk (i + 1) (by omega)
        have e : ((i + 1 : Nat) : Int) * a = a + i * a := by rw [show ((i + 1 : Nat) : Int) = i + 1 by omega, Int.add_mul]; omega
        rw [e] at this
        rw [show x + a + i * a = x + (a + i * a) by omega]
        exact this
theorem cm_tab : ∀ a ∈ D24, ∀ b ∈ D24, ∃ m ∈ D24, a ∣ m ∧ b ∣ m ∧ m = (Int.lcm a b : Int) ∧ ∃ k : Nat, k < 25 ∧ a + k * a = m ∧ ∀ i : Nat, i < k → ¬ b ∣ a + i * a := by decide +kernel
theorem cm_spec {a b : Int} (ha : a ∈ D24) (hb : b ∈ D24) : ∃ m, d_common_multiple [.int a, .int b] = .ok (.int m) ∧ m ∈ D24 ∧ a ∣ m ∧ b ∣ m ∧ ∀ c, a ∣ c → b ∣ c → m ∣ c := by
  obtain ⟨m, h1, h2, h3, hl, k, h4, h5, h6⟩ := cm_tab a ha b hb
  exact ⟨m, cm_run a b m 25 (cm_step a b ⟨(d24_range hb).1, by have := (d24_range hb).2; omega⟩ (d24_range ha).1 25 k a m h5 h3 h6 h4), h1, h2, h3, fun c q1 q2 => by rw [hl]; exact Int.coe_lcm_dvd q1 q2⟩
theorem strOk_tab {z : Str} (h : signs z) : PyData.strOk z = true := by
  unfold PyData.strOk
  rw [← Array.all_toList, List.all_eq_true]
  intro c m
  rcases h c m with rfl | rfl <;> decide
theorem fit_strs {zs : List Str} (h : ∀ z ∈ zs, signs z) : (D.lst (zs.map .str)).fit = true ∧ (D.tup (zs.map .str)).fit = true := by
  have l : D.layL (zs.map .str) = true ∧ D.depL (zs.map .str) = 0 := by
    induction zs with
    | nil => exact ⟨rfl, rfl⟩
    | cons z zs ih =>
      obtain ⟨h1, h2⟩ := ih fun x m => h x (List.mem_cons_of_mem _ m)
      refine ⟨?_, ?_⟩
      · rw [List.map_cons, dl_cons, dl_str, strOk_tab (h z List.mem_cons_self), h1]; rfl
      · rw [List.map_cons, de_cons, de_str, h2]; rfl
  exact ⟨fit_of (by rw [dl_lst]; exact l.1) (by rw [de_lst, l.2]; omega), fit_of (by rw [dl_tup]; exact l.1) (by rw [de_tup, l.2]; omega)⟩
theorem ne_nilL {xs : List D} (h : (D.lst xs).fit = true) : oNe (.lst xs) (.lst []) = some (.bl (!xs.isEmpty)) := by
  unfold oNe oEqB
  simp only [h, fit_nilL, Bool.and_self, if_true, Option.map_some]
  cases xs <;> simp [D.eqb, D.eqbL]
def Good (ts : List Str) (L : Int) : Prop := ∀ z ∈ ts, (z.length : Int) ∣ L
theorem len_cond {ts : List Str} (ht : ∀ z ∈ ts, Tab z) (hl : ts.length ≤ 1000) (L : Int) : (mTest (e2 oNe (eLc [2] (iSeqM (eVar 0)) (gSet 2) (mTest (e2 oGtI (e2 oMod (eVar 1) (eA (A1 oLen) (aCons (eVar 2) aNil))) (eC (.int 0)))) (eVar 2)) (eLst aNil))) [some (.tup (ts.map .str)), some (.int L), none] = .ok (!(ts.filter fun z => decide (0 < L.fmod z.length)).isEmpty) [some (.tup (ts.map .str)), some (.int L), none] := by
  have h := lcGo_filter (vs := [2]) (g := gSet 2) (c := mTest (e2 oGtI (e2 oMod (eVar 1) (eA (A1 oLen) (aCons (eVar 2) aNil))) (eC (.int 0)))) (e := eVar 2) (fun d => match d with | .str z => decide (0 < L.fmod z.length) | _ => false) id (w := [some (.tup (ts.map .str)), some (.int L), none]) (ds := ts.map .str) (by rw [List.length_map]; omega) (by
    intro d m
    obtain ⟨z, hz, rfl⟩ := List.mem_map.mp m
    have hz' := ht z hz
    have hp := hz'.pos
    refine ⟨_, rfl, [some (.tup (ts.map .str)), some (.int L), some (.str z)], ?_, fun _ => rfl, fun _ => ⟨_, rfl, rfl⟩⟩
    simp only [ap_mTest, ap_e2, ap_eVar, List.set, List.getElem?_cons_zero, List.getElem?_cons_succ, Out.bind_ok, ap_eA, ap_aCons, ap_aNil, ap_A1, oLen_str z (by have := hz'.le; omega), Out.opt_some, oMod_int L z.length (by omega), ap_eC, oGtI_int, dd_boo])
  have hf : ((ts.map D.str).filter fun d => match d with | .str z => decide (0 < L.fmod z.length) | _ => false) = (ts.filter fun z => decide (0 < L.fmod z.length)).map D.str := by
    rw [List.filter_map]; rfl
  rw [ap_mTest, ap_e2, ap_eLc, ap_iSeqM]
  simp only [ap_eVar, List.getElem?_cons_zero, Out.bind_ok, dd_itT, Out.opt_some]
  have h' : lcGo [2] (gSet 2) (mTest (e2 oGtI (e2 oMod (eVar 1) (eA (A1 oLen) (aCons (eVar 2) aNil))) (eC (.int 0)))) (eVar 2) (ts.map D.str) [] (wipeE [some (.tup (ts.map .str)), some (.int L), none] [2]) = _ := h
  rw [h']
  simp only [Out.bind_ok, ap_eLst, ap_aNil, hf, List.map_id]
  rw [if_pos (by decide)]
  simp only [Out.opt_some, Out.bind_ok]
  rw [ne_nilL (fit_strs fun z m => (ht z (List.mem_filter.mp m).1).s).1]
  simp only [Out.opt_some, Out.bind_ok, dd_boo, List.isEmpty_map]
  rfl
theorem good_iff {ts : List Str} (ht : ∀ z ∈ ts, Tab z) (L : Int) : (ts.filter fun z => decide (0 < L.fmod z.length)).isEmpty = true ↔ Good ts L := by
  rw [List.isEmpty_iff, List.filter_eq_nil_iff]
  constructor
  · intro h z m
    have := h z m
    have hp := (ht z m).pos
    have hr := fmod_range (a := L) (b := z.length) (by omega)
    have h0 : L.fmod z.length = 0 := by
      have : ¬ 0 < L.fmod z.length := by simpa using this
      omega
    rw [Int.fmod_eq_emod_of_nonneg _ (by omega)] at h0
    exact Int.dvd_of_emod_eq_zero h0
  · intro h z m
    have hp := (ht z m).pos
    have := h z m
    rw [Int.fmod_eq_emod_of_nonneg _ (by omega), Int.emod_eq_zero_of_dvd this]
    simp
theorem good24 {ts : List Str} (ht : ∀ z ∈ ts, Tab z) : Good ts 24 := fun z m => by
  have := (ht z m).l
  have key : ∀ n ∈ D24, n ∣ (24 : Int) := by decide +kernel
  exact key _ this
theorem length_spec {ts : List Str} (ht : ∀ z ∈ ts, Tab z) (hl : ts.length ≤ 1000) : ∃ L, d_law_length [.tup (ts.map .str)] = .ok (.int L) ∧ 1 ≤ L ∧ L ≤ 24 ∧ Good ts L ∧ ∀ M, 1 ≤ M → Good ts M → L ≤ M := by
  have key : ∀ (k : Nat) (L : Int), 1 ≤ L → L + k = 24 → (∀ M, 1 ≤ M → Good ts M → L ≤ M) → ∃ L', whileN (mTest (e2 oNe (eLc [2] (iSeqM (eVar 0)) (gSet 2) (mTest (e2 oGtI (e2 oMod (eVar 1) (eA (A1 oLen) (aCons (eVar 2) aNil))) (eC (.int 0)))) (eVar 2)) (eLst aNil))) (sAsg (e2 oAdd (eVar 1) (eC (.int 1))) (gSet 1)) (k + 1) [some (.tup (ts.map .str)), some (.int L), none] = some (.next [some (.tup (ts.map .str)), some (.int L'), none]) ∧ 1 ≤ L' ∧ L' ≤ 24 ∧ Good ts L' ∧ ∀ M, 1 ≤ M → Good ts M → L' ≤ M := by
    intro k
    induction k with
    | zero =>
      intro L h1 h2 h3
      have : L = 24 := by omega
      subst this
      refine ⟨24, ?_, h1, by omega, good24 ht, h3⟩
      unfold whileN
      rw [len_cond ht hl, (good_iff ht 24).mpr (good24 ht)]
      rfl
    | succ k ih =>
      intro L h1 h2 h3
      by_cases c : (ts.filter fun z => decide (0 < L.fmod z.length)).isEmpty = true
      · refine ⟨L, ?_, h1, by omega, (good_iff ht L).mp c, h3⟩
        unfold whileN
        rw [len_cond ht hl, c]
        rfl
      · obtain ⟨L', q1, q2⟩ := ih (L + 1) (by omega) (by omega) fun M m1 m2 => by
          have := h3 M m1 m2
          have : M ≠ L := fun z => c ((good_iff ht L).mpr (z ▸ m2))
          omega
        refine ⟨L', ?_, q2⟩
        unfold whileN
        rw [len_cond ht hl, Bool.eq_false_iff.mpr c]
        exact q1
  obtain ⟨L, q1, q2, q3, q4, q5⟩ := key 23 1 (by decide) rfl fun M m _ => m
  refine ⟨L, ?_, q2, q3, q4, q5⟩
  refine runF_ret (e := [some (.tup (ts.map .str)), some (.int L), none]) ?_ rfl
  show b_law_length [some (.tup (ts.map .str)), none, none] = _
  unfold b_law_length
  rw [ap_sSeq, ap_sAsg, ap_eC]
  simp only [Out.fl_ok, ap_gSet, Fl.bind_next, set_1, ap_sSeq]
  rw [sWhile_of q1]
  rfl
end K09
namespace K09
open PySem PySem.Spec PyProof.Rows L2 Mir
structure Pt where
  ts : List Str
  keys : Int
  cs : List Int
  rs : List (Int × Int)
def Pt.D (p : Pt) : Mir.D := .tup [.tup (p.ts.map .str), .int p.keys, .tup (p.cs.map .int), .tup (p.rs.map pairD)]
def ltP2 (p q : Int × Int) : Prop := p.1 < q.1 ∨ (p.1 = q.1 ∧ p.2 < q.2)
structure Pt.Ok (p : Pt) : Prop where
  t0 : 1 ≤ p.ts.length
  t6 : p.ts.length ≤ 6
  tt : ∀ z ∈ p.ts, Tab z
  k0 : 0 ≤ p.keys
  k9 : p.keys ≤ 9
  cl : p.cs.Pairwise (· < ·)
  cr : ∀ c ∈ p.cs, 0 ≤ c ∧ c < p.ts.length
  rn : p.rs.length ≤ 10
  rl : p.rs.Pairwise ltP2
  rr : ∀ r ∈ p.rs, 0 ≤ r.1 ∧ (∀ M, 1 ≤ M → Good p.ts M → r.1 < M) ∧ 0 ≤ r.2 ∧ r.2 < p.ts.length
theorem callO_table {env : Mir.Env} {o : D} (h0 : env[0]? = some (some o)) (ho : Rnd o) : ∃ z o', eCallO d_law_table 0 aNil env = .ok (.str z) (env.set 0 (some o')) ∧ Tab z ∧ Rnd o' := by
  obtain ⟨z, o', e, q1, q2⟩ := table_spec ho
  refine ⟨z, o', ?_, q1, q2⟩
  rw [ap_eCallO, h0]
  dsimp only
  rw [ap_aNil]
  simp only [Out.bind_ok]
  rw [h0]
  dsimp only
  rw [e]
theorem callO_ix {env : Mir.Env} {E0 : EM} {lits : List Int} {k : Int} {o : D} (h0 : env[0]? = some (some o)) (ho : Rnd o) (hE : E0 env = .ok (.lst (lits.map .int)) env) (hk : (lits.length : Int) = k) (h1 : 0 < k) (h2 : k < 1000000000) (hp : ∀ l ∈ lits, 0 < l ∧ l < 1000000000) (hlen : 0 < env.length) :
    ∃ r o' l, eCallO d_law_below 0 (aCons (e2 oIx E0 (eCallO d_law_below 0 (aCons (eC (.int k)) aNil))) aNil) env = .ok (.int r) (env.set 0 (some o')) ∧ l ∈ lits ∧ 0 ≤ r ∧ r < l ∧ Rnd o' := by
  obtain ⟨r1, o1, e1, a1, b1, ho1⟩ := callO_below (env := env) (b := eC (.int k)) (j := 0) h0 rfl h0 ho h1 h2
  obtain ⟨n, rfl⟩ := Int.eq_ofNat_of_zero_le a1
  have hn : n < lits.length := by omega
  have hx : atI (lits.map D.int) ((n : Nat) : Int) = some (.int lits[n]) := atI_nat (by rw [List.getElem?_map, List.getElem?_eq_getElem hn]; rfl)
  have hb : (e2 oIx E0 (eCallO d_law_below 0 (aCons (eC (.int k)) aNil))) env = .ok (.int lits[n]) (env.set 0 (some o1)) := by
    rw [ap_e2, hE]
    simp only [Out.bind_ok]
    rw [e1]
    simp only [Out.bind_ok, oIx_lst]
    rw [hx]
    rfl
  have hl := hp _ (List.getElem_mem hn)
  obtain ⟨r2, o2, e2', a2, b2, ho2⟩ := callO_below (env := env) (j := 0) h0 hb (List.getElem?_set_self hlen) ho1 hl.1 hl.2
  exact ⟨r2, o2, lits[n], by rw [e2', List.set_set], List.getElem_mem hn, a2, b2, ho2⟩
theorem eqb_pair (a b : Int × Int) : (pairD a).eqb (pairD b) = decide (a = b) := by
  simp only [Mir.pairD, D.eqb, D.eqbL, Bool.and_true]
  by_cases h : a = b
  · subst h; simp
  · rw [decide_eq_false h]
    by_cases h1 : a.1 = b.1
    · have : a.2 ≠ b.2 := fun z => h (Prod.ext h1 z)
      simp [this]
    · simp [h1]
theorem notIn_pairs (p : Int × Int) (rs : List (Int × Int)) : oNotIn (pairD p) (.lst (rs.map pairD)) = some (.bl (!decide (p ∈ rs))) := by
  have f1 : (pairD p).fit = true := fit_of rfl (by show 1 ≤ 64; omega)
  have f2 : (D.lst (rs.map pairD)).fit = true := fit_of (by simp) (by rw [de_lst]; have := de_pairs rs; omega)
  have e : oInB (pairD p) (.lst (rs.map pairD)) = some (decide (p ∈ rs)) := by
    unfold oInB
    simp only [Mir.pairD] at f1 ⊢
    simp only [f1, f2, Bool.and_self, if_true]
    rw [List.any_map]
    congr 1
    rw [Bool.eq_iff_iff, List.any_eq_true, decide_eq_true_iff]
    constructor
    · rintro ⟨x, m, h⟩
      have : decide (x = p) = true := by rw [← eqb_pair]; exact h
      rw [← of_decide_eq_true this]
      exact m
    · intro m
      refine ⟨p, m, ?_⟩
      have : decide (p = p) = true := decide_eq_true rfl
      rw [← eqb_pair] at this
      exact this
  unfold oNotIn
  rw [e]
  rfl
theorem oSort_pairs (rs : List (Int × Int)) : oSort (.lst (rs.map pairD)) = some (.lst ((sortP rs).map pairD)) := by
  cases rs with
  | nil =>
    have h1 : sortP [] = [] := List.eq_nil_of_length_eq_zero (sortP_perm []).length_eq
    have h2 : sortI [] = [] := List.eq_nil_of_length_eq_zero (sortI_perm []).length_eq
    show some (D.lst ((sortI []).map D.int)) = _
    rw [h1, h2]; rfl
  | cons r rs =>
    show (pairsOf ((r :: rs).map pairD)).map _ = _
    rw [pairsOf_map]; rfl
theorem sortP_lt {rs : List (Int × Int)} (h : rs.Nodup) : (sortP rs).Pairwise ltP2 := by
  have h1 := sortP_le rs
  have h2 : (sortP rs).Nodup := (sortP_perm rs).nodup_iff.mpr h
  refine (List.pairwise_and_iff.mpr ⟨h1, h2⟩).imp fun {a b} ⟨q1, q2⟩ => ?_
  rw [leB_iff] at q1
  unfold ltP2
  rcases q1 with q1 | ⟨q1, q3⟩
  · exact .inl q1
  · by_cases c : a.2 = b.2
    · exact absurd (Prod.ext q1 c) q2
    · exact .inr ⟨q1, by omega⟩
theorem rng1_len {n : Nat} (h : n ≤ 1000) : rng1 [.int (n : Int)] = some (rangeL 0 n) := rng1_at (Int.natCast_nonneg n) (Int.lt_of_le_of_lt (Int.ofNat_le.mpr h) (by decide))
theorem parts_tables {mo : Int} (hm1 : 1 ≤ mo) (hm2 : mo ≤ 6) {o : D} (ho : Rnd o) : ∃ (o' : D) (ts : List Str), (eA (A1 oTuple) (aCons (eLc [4] (iRng1M (aCons (e2 oAdd (eC (.int 1)) (eCallO d_law_below 0 (aCons (eVar 1) aNil))) aNil)) (gSet 4) mYes (eCallO d_law_table 0 aNil)) aNil)) [some o, some (.int mo), none, none, none, none, none, none] = .ok (.tup (ts.map .str)) [some o', some (.int mo), none, none, none, none, none, none] ∧ Rnd o' ∧ 1 ≤ ts.length ∧ (ts.length : Int) ≤ mo ∧ ∀ z ∈ ts, Tab z := by
  obtain ⟨r1, o1, e1, a1, b1, ho1⟩ := callO_below (env := [some o, some (.int mo), none, none, none, none, none, none]) (b := eVar 1) (j := 0) rfl rfl rfl ho (by omega) (by omega)
  obtain ⟨xs, env', q1, o', ts, q2, q3, q4, q5, q6⟩ := lcGo_at (vs := [4]) (g := gSet 4) (c := mYes) (e := eCallO d_law_table 0 aNil) (total := rangeL 0 (1 + r1).toNat) (by rw [rangeL_len]; omega)
    (fun done acc env => ∃ (o' : D) (ts : List Str), env = [some o', some (.int mo), none, none, none, none, none, none] ∧ Rnd o' ∧ acc = ts.map D.str ∧ ts.length = done.length ∧ ∀ z ∈ ts, Tab z)
    (ds := rangeL 0 (1 + r1).toNat) (done := []) (acc := []) (env := [some o1, some (.int mo), none, none, none, none, none, none]) rfl ⟨o1, [], rfl, ho1, rfl, rfl, fun c m => (by cases m)⟩ (Nat.le_refl _) (by
      rintro done acc d rest env ht ⟨o', ts, rfl, p1, rfl, p2, p3⟩
      obtain ⟨z, o'', q1, q2, q3⟩ := callO_table (env := [some o', some (.int mo), none, none, some d, none, none, none]) rfl p1
      refine ⟨_, rfl, true, _, rfl, fun z => (by cases z), fun _ => ⟨_, _, q1, o'', ts ++ [z], rfl, q3, by simp, by simp [p2], fun x m => ?_⟩⟩
      rcases List.mem_append.mp m with m | m
      · exact p3 x m
      · rw [List.mem_singleton.mp m]
        exact q2)
  refine ⟨o', ts, ?_, q3, by rw [q5, rangeL_len]; omega, by rw [q5, rangeL_len]; omega, q6⟩
  rw [ap_eA, ap_aCons, ap_eLc, ap_iRng1M, ap_aCons, ap_e2, ap_eC]
  simp only [Out.bind_ok]
  rw [e1]
  simp only [Out.bind_ok, oAdd_int, Out.opt_some, ap_aNil]
  rw [rng1_at (by omega) (by omega)]
  simp only [Out.opt_some, Out.bind_ok]
  have q1' : lcGo [4] (gSet 4) mYes (eCallO d_law_table 0 aNil) (rangeL 0 (1 + r1).toNat) [] (wipeE (List.set [some o, some (.int mo), none, none, none, none, none, none] 0 (some o1)) [4]) = _ := q1
  rw [q1']
  simp only [Out.bind_ok, q2, q4, ap_A1, oTuple_lst, Out.opt_some]
  rfl
theorem parts_careful {mo : Int} {o T : D} {ts : List D} (hT : T = .tup ts) (ho : Rnd o) (hl : ts.length ≤ 1000) : ∃ (o' : D) (cs : List Int), (eA (A1 oTuple) (aCons (eLc [4] (iRng1M (aCons (eA (A1 oLen) (aCons (eVar 2) aNil)) aNil)) (gSet 4) (mTest (e2 oEq (eCallO d_law_below 0 (aCons (eC (.int 3)) aNil)) (eC (.int 0)))) (eVar 4)) aNil)) [some o, some (.int mo), some T, none, none, none, none, none] = .ok (.tup (cs.map .int)) [some o', some (.int mo), some T, none, none, none, none, none] ∧ Rnd o' ∧ cs.Pairwise (· < ·) ∧ ∀ c ∈ cs, 0 ≤ c ∧ c < (ts.length : Int) := by
  subst hT
  obtain ⟨xs, env', q1, o', cs, q2, q3, q4, q5, q6⟩ := lcGo_at (vs := [4]) (g := gSet 4) (c := mTest (e2 oEq (eCallO d_law_below 0 (aCons (eC (.int 3)) aNil)) (eC (.int 0)))) (e := eVar 4) (total := rangeL 0 ts.length) (by rw [rangeL_len]; omega)
    (fun done acc env => ∃ (o' : D) (cs : List Int), env = [some o', some (.int mo), some (.tup ts), none, none, none, none, none] ∧ Rnd o' ∧ acc = cs.map D.int ∧ cs.Pairwise (· < ·) ∧ ∀ c ∈ cs, 0 ≤ c ∧ c < (done.length : Int))
    (ds := rangeL 0 ts.length) (done := []) (acc := []) (env := [some o, some (.int mo), some (.tup ts), none, none, none, none, none]) rfl ⟨o, [], rfl, ho, rfl, .nil, fun c m => (by cases m)⟩ (Nat.le_refl _) (by
      rintro done acc d rest env ht ⟨o', cs, rfl, p1, rfl, p2, p3⟩
      obtain ⟨rfl, hlt⟩ := rangeL_at ht
      obtain ⟨r, o'', e1, a1, b1, ho1⟩ := callO_below (env := [some o', some (.int mo), some (.tup ts), none, some (.int (0 + done.length)), none, none, none]) (b := eC (.int 3)) (j := 0) rfl rfl rfl p1 (by decide) (by decide)
      have up : ∀ c ∈ cs, 0 ≤ c ∧ c < ((done ++ [D.int (0 + done.length)]).length : Int) := fun c m => by
        have := p3 c m
        rw [List.length_append]
        simp only [List.length_cons, List.length_nil]
        omega
      refine ⟨_, rfl, decide (r = 0), [some o'', some (.int mo), some (.tup ts), none, some (.int (0 + done.length)), none, none, none], ?_, fun _ => ⟨o'', cs, rfl, ho1, rfl, p2, up⟩, fun _ => ⟨.int (0 + done.length), _, rfl, o'', cs ++ [0 + (done.length : Int)], rfl, ho1, by simp, ?_, ?_⟩⟩
      · rw [ap_mTest, ap_e2]
        have e1' : eCallO d_law_below 0 (aCons (eC (.int 3)) aNil) (List.set [some o', some (.int mo), some (.tup ts), none, none, none, none, none] 4 (some (.int (0 + done.length)))) = _ := e1
        rw [e1']
        simp only [Out.bind_ok, ap_eC, oEq_int, Out.opt_some, dd_boo]
        rfl
      · refine List.pairwise_append.mpr ⟨p2, List.pairwise_singleton _ _, fun a ha b hb => ?_⟩
        rw [List.mem_singleton.mp hb]
        have := p3 a ha
        omega
      · intro c m
        rcases List.mem_append.mp m with m | m
        · exact up c m
        · rw [List.mem_singleton.mp m, List.length_append]
          simp only [List.length_cons, List.length_nil]
          omega)
  refine ⟨o', cs, ?_, q3, q5, fun c m => by have := q6 c m; rw [rangeL_len] at this; exact this⟩
  have hI : (iRng1M (aCons (eA (A1 oLen) (aCons (eVar 2) aNil)) aNil)) [some o, some (.int mo), some (.tup ts), none, none, none, none, none] = .ok (rangeL 0 ts.length) [some o, some (.int mo), some (.tup ts), none, none, none, none, none] := by
    have h1 : (aCons (eA (A1 oLen) (aCons (eVar 2) aNil)) aNil) [some o, some (.int mo), some (.tup ts), none, none, none, none, none] = .ok [.int (ts.length : Int)] [some o, some (.int mo), some (.tup ts), none, none, none, none, none] := rfl
    rw [ap_iRng1M, h1, Out.bind_ok, rng1_len hl]
    rfl
  rw [ap_eA, ap_aCons, ap_eLc, hI, Out.bind_ok]
  have q1' : lcGo [4] (gSet 4) (mTest (e2 oEq (eCallO d_law_below 0 (aCons (eC (.int 3)) aNil)) (eC (.int 0)))) (eVar 4) (rangeL 0 ts.length) [] (wipeE [some o, some (.int mo), some (.tup ts), none, none, none, none, none] [4]) = _ := q1
  rw [q1', Out.bind_ok, Out.bind_ok, ap_aNil, Out.bind_ok, Out.bind_ok, q2, q4]
  rfl
theorem parts_loop {mo : Int} {o T C : D} {L n : Int} {ts : List D} (hT : T = .tup ts) (hn : (ts.length : Int) = n) (hn1 : 1 ≤ n) (hn2 : n ≤ 6) (hL : 1 ≤ L) (hL2 : L ≤ 24) (ho : Rnd o) :
    ∃ (o' : D) (rs : List (Int × Int)) (k r : Option D), (sFor (iRng1M (aCons (eCallO d_law_below 0 (aCons (e2 oIx (eLst (aCons (eC (.int 1)) (aCons (eC (.int 4)) (aCons (eC (.int 11)) aNil)))) (eCallO d_law_below 0 (aCons (eC (.int 3)) aNil))) aNil)) aNil)) (gSet 4) (sSeq (sAsg (eTup (aCons (eCallO d_law_below 0 (aCons (eVar 5) aNil)) (aCons (eCallO d_law_below 0 (aCons (eA (A1 oLen) (aCons (eVar 2) aNil)) aNil)) aNil))) (gSet 7))
  (sIf (mTest (e2 oNotIn (eVar 7) (eVar 6))) (sApp 6 (eVar 7)) sNext))) [some o, some (.int mo), some T, some C, none, some (.int L), some (.lst []), none] = .next [some o', some (.int mo), some T, some C, k, some (.int L), some (.lst (rs.map pairD)), r] ∧ Rnd o' ∧ rs.length ≤ 10 ∧ rs.Nodup ∧ ∀ p ∈ rs, (0 ≤ p.1 ∧ p.1 < L) ∧ 0 ≤ p.2 ∧ p.2 < n := by
  subst hT
  obtain ⟨m, o1, l, e1, hl, a1, b1, ho1⟩ := callO_ix (env := [some o, some (.int mo), some (.tup ts), some C, none, some (.int L), some (.lst []), none]) (E0 := eLst (aCons (eC (.int 1)) (aCons (eC (.int 4)) (aCons (eC (.int 11)) aNil)))) (lits := [1, 4, 11]) (k := 3) rfl ho rfl rfl (by decide) (by decide) (by decide) (by simp)
  have hl2 : l ≤ 11 := by
    simp only [List.mem_cons, List.not_mem_nil, or_false] at hl
    omega
  obtain ⟨env', q1, o', rs, k, r, q2, q3, q4, q5, q6⟩ := forGo_at (g := gSet 4) (b := sSeq (sAsg (eTup (aCons (eCallO d_law_below 0 (aCons (eVar 5) aNil)) (aCons (eCallO d_law_below 0 (aCons (eA (A1 oLen) (aCons (eVar 2) aNil)) aNil)) aNil))) (gSet 7))
      (sIf (mTest (e2 oNotIn (eVar 7) (eVar 6))) (sApp 6 (eVar 7)) sNext)) (total := rangeL 0 m.toNat)
    (fun done env => ∃ (o' : D) (rs : List (Int × Int)) (k r : Option D), env = [some o', some (.int mo), some (.tup ts), some C, k, some (.int L), some (.lst (rs.map pairD)), r] ∧ Rnd o' ∧ rs.length ≤ done.length ∧ rs.Nodup ∧ ∀ p ∈ rs, (0 ≤ p.1 ∧ p.1 < L) ∧ 0 ≤ p.2 ∧ p.2 < n)
    (ds := rangeL 0 m.toNat) (done := []) (env := [some o1, some (.int mo), some (.tup ts), some C, none, some (.int L), some (.lst []), none]) rfl ⟨o1, [], none, none, rfl, ho1, Nat.le_refl _, List.nodup_nil, fun p m => (by cases m)⟩ (by
      rintro done d rest env ht ⟨o', rs, k, r, rfl, p1, p2, p3, p4⟩
      have hdl : done.length < m.toNat := (rangeL_at ht).2
      obtain ⟨x, o2, f1, f2, f3, ho2⟩ := callO_below (env := [some o', some (.int mo), some (.tup ts), some C, some d, some (.int L), some (.lst (rs.map pairD)), r]) (b := eVar 5) (j := 0) rfl rfl rfl p1 (by omega) (by omega)
      obtain ⟨y, o3, g1, g2, g3, ho3⟩ := callO_below (env := [some o2, some (.int mo), some (.tup ts), some C, some d, some (.int L), some (.lst (rs.map pairD)), r]) (b := eA (A1 oLen) (aCons (eVar 2) aNil)) (j := 0) (lim := n) (env1 := [some o2, some (.int mo), some (.tup ts), some C, some d, some (.int L), some (.lst (rs.map pairD)), r]) rfl (by
        simp only [ap_eA, ap_aCons, ap_eVar, List.getElem?_cons_succ, List.getElem?_cons_zero, Out.bind_ok, ap_aNil, ap_A1, oLen_tup, Out.opt_some, hn]) rfl ho2 (by omega) (by omega)
      refine ⟨_, rfl, ?_⟩
      have hs : (sAsg (eTup (aCons (eCallO d_law_below 0 (aCons (eVar 5) aNil)) (aCons (eCallO d_law_below 0 (aCons (eA (A1 oLen) (aCons (eVar 2) aNil)) aNil)) aNil))) (gSet 7)) [some o', some (.int mo), some (.tup ts), some C, some d, some (.int L), some (.lst (rs.map pairD)), r] = .next [some o3, some (.int mo), some (.tup ts), some C, some d, some (.int L), some (.lst (rs.map pairD)), some (pairD (x, y))] := by
        rw [ap_sAsg, ap_eTup, ap_aCons, f1]
        simp only [Out.bind_ok]
        rw [ap_aCons]
        have g1' : eCallO d_law_below 0 (aCons (eA (A1 oLen) (aCons (eVar 2) aNil)) aNil) (List.set [some o', some (.int mo), some (.tup ts), some C, some d, some (.int L), some (.lst (rs.map pairD)), r] 0 (some o2)) = _ := g1
        rw [g1']
        simp only [Out.bind_ok, ap_aNil]
        rw [if_pos (by show 2 ≤ 100000; decide)]
        rfl
      have ht2 : (mTest (e2 oNotIn (eVar 7) (eVar 6))) [some o3, some (.int mo), some (.tup ts), some C, some d, some (.int L), some (.lst (rs.map pairD)), some (pairD (x, y))] = .ok (!decide ((x, y) ∈ rs)) [some o3, some (.int mo), some (.tup ts), some C, some d, some (.int L), some (.lst (rs.map pairD)), some (pairD (x, y))] := by
        simp only [ap_mTest, ap_e2, ap_eVar, List.getElem?_cons_succ, List.getElem?_cons_zero, Out.bind_ok, notIn_pairs, Out.opt_some, dd_boo]
      by_cases c : (x, y) ∈ rs
      · refine ⟨_, .inl ?_, o3, rs, some d, some (pairD (x, y)), rfl, ho3, by rw [List.length_append]; omega, p3, p4⟩
        show sSeq _ _ [some o', some (.int mo), some (.tup ts), some C, some d, some (.int L), some (.lst (rs.map pairD)), r] = _
        rw [ap_sSeq, hs, Fl.bind_next, ap_sIf, ht2, decide_eq_true c]
        rfl
      · refine ⟨_, .inl ?_, o3, rs ++ [(x, y)], some d, some (pairD (x, y)), rfl, ho3, by rw [List.length_append, List.length_append]; simpa using p2, ?_, ?_⟩
        · show sSeq _ _ [some o', some (.int mo), some (.tup ts), some C, some d, some (.int L), some (.lst (rs.map pairD)), r] = _
          rw [ap_sSeq, hs, Fl.bind_next, ap_sIf, ht2, decide_eq_false c]
          simp only [Bool.not_false, Out.fl_ok, if_true]
          rw [ap_sApp]
          simp only [List.getElem?_cons_succ, List.getElem?_cons_zero, ap_eVar, Out.fl_ok]
          rw [if_pos (by rw [List.length_map]; omega), List.map_append]
          rfl
        · refine List.nodup_append.mpr ⟨p3, by simp, fun a ha b hb e => c ?_⟩
          rw [List.mem_singleton.mp hb] at e
          exact e ▸ ha
        · intro p hp
          rcases List.mem_append.mp hp with hp | hp
          · exact p4 p hp
          · rw [List.mem_singleton.mp hp]
            exact ⟨⟨f2, f3⟩, g2, g3⟩)
  refine ⟨o', rs, k, r, ?_, q3, by rw [rangeL_len] at q4; omega, q5, q6⟩
  rw [ap_sFor, ap_iRng1M, ap_aCons, e1]
  simp only [Out.bind_ok, ap_aNil]
  rw [rng1_at (by omega) (by omega)]
  simp only [Out.opt_some, Out.fl_ok]
  have q1' : forGo (gSet 4) _ (rangeL 0 m.toNat) (List.set [some o, some (.int mo), some (.tup ts), some C, none, some (.int L), some (.lst []), none] 0 (some o1)) = _ := q1
  rw [q1', q2]
end K09
namespace K09
open PySem PySem.Spec PyProof.Rows L2 Mir
theorem parts_spec {mo : Int} (hm1 : 1 ≤ mo) (hm2 : mo ≤ 6) {o : D} (ho : Rnd o) : ∃ (p : Pt) (o' : D), d_law_parts o [.int mo] = .ok p.D o' ∧ p.Ok ∧ Rnd o' ∧ (p.ts.length : Int) ≤ mo := by
  obtain ⟨o1, ts, e1, ho1, t1, t6, ht⟩ := parts_tables hm1 hm2 ho
  obtain ⟨o2, cs, e2', ho2, c1, c2⟩ := parts_careful (T := .tup (ts.map .str)) rfl ho1 (by rw [List.length_map]; omega)
  obtain ⟨L, l1, l2, l3, l4, l5⟩ := length_spec ht (by omega)
  obtain ⟨o3, rs, k, r, e3, ho3, r1, r2, r3⟩ := parts_loop (o := o2) (T := .tup (ts.map .str)) (C := .tup (cs.map .int)) (L := L) (n := ts.length) rfl (by rw [List.length_map]) (by omega) (by omega) l2 l3 ho2
  obtain ⟨ky, o4, l, e4, hl, k1, k2, ho4⟩ := callO_ix (env := [some o3, some (.int mo), some (.tup (ts.map .str)), some (.tup (cs.map .int)), k, some (.int L), some (.lst (rs.map pairD)), r]) (E0 := eLst (aCons (eC (.int 3)) (aCons (eC (.int 10)) aNil))) (lits := [3, 10]) (k := 2) rfl ho3 rfl rfl (by decide) (by decide) (by decide) (by simp)
  have hl2 : l ≤ 10 := by
    simp only [List.mem_cons, List.not_mem_nil, or_false] at hl
    omega
  refine ⟨⟨ts, ky, cs, sortP rs⟩, o4, ?_, ⟨t1, by show ts.length ≤ 6; omega, ht, k1, by show ky ≤ 9; omega, c1, fun c m => by have := c2 c m; rw [List.length_map] at this; exact this, by show (sortP rs).length ≤ 10; rw [(sortP_perm rs).length_eq]; exact r1, sortP_lt r2, fun p m => ?_⟩, ho4, t6⟩
  · refine runF0_ret (e := [some o4, some (.int mo), some (.tup (ts.map .str)), some (.tup (cs.map .int)), k, some (.int L), some (.lst (rs.map pairD)), r]) ?_ rfl rfl
    show b_law_parts [some o, some (.int mo), none, none, none, none, none, none] = _
    unfold b_law_parts
    have s1 : (sAsg (eA (A1 oTuple) (aCons (eLc [4] (iRng1M (aCons (e2 oAdd (eC (.int 1)) (eCallO d_law_below 0 (aCons (eVar 1) aNil))) aNil)) (gSet 4) mYes (eCallO d_law_table 0 aNil)) aNil)) (gSet 2)) [some o, some (.int mo), none, none, none, none, none, none] = .next [some o1, some (.int mo), some (.tup (ts.map .str)), none, none, none, none, none] := by
      rw [ap_sAsg, e1, Out.fl_ok]; rfl
    rw [ap_sSeq, s1, Fl.bind_next]
    have s2 : (sAsg (eA (A1 oTuple) (aCons (eLc [4] (iRng1M (aCons (eA (A1 oLen) (aCons (eVar 2) aNil)) aNil)) (gSet 4) (mTest (e2 oEq (eCallO d_law_below 0 (aCons (eC (.int 3)) aNil)) (eC (.int 0)))) (eVar 4)) aNil)) (gSet 3)) [some o1, some (.int mo), some (.tup (ts.map .str)), none, none, none, none, none] = .next [some o2, some (.int mo), some (.tup (ts.map .str)), some (.tup (cs.map .int)), none, none, none, none] := by
      rw [ap_sAsg, e2', Out.fl_ok]; rfl
    rw [ap_sSeq, s2, Fl.bind_next]
    have s3 : (sParO 5 (eCall d_law_length [] (aCons (eVar 2) aNil)) 6 (eLst aNil)) [some o2, some (.int mo), some (.tup (ts.map .str)), some (.tup (cs.map .int)), none, none, none, none] = .next [some o2, some (.int mo), some (.tup (ts.map .str)), some (.tup (cs.map .int)), none, some (.int L), some (.lst []), none] := by
      rw [ap_sParO, ap_eCall]
      have : (aCons (eVar 2) aNil) [some o2, some (.int mo), some (.tup (ts.map .str)), some (.tup (cs.map .int)), none, none, none, none] = .ok [.tup (ts.map .str)] [some o2, some (.int mo), some (.tup (ts.map .str)), some (.tup (cs.map .int)), none, none, none, none] := rfl
      rw [this, Out.bind_ok]
      rw [show ([D.tup (ts.map .str)] ++ [] : List D) = [D.tup (ts.map .str)] from rfl, l1]
      rfl
    rw [ap_sSeq, s3, Fl.bind_next, ap_sSeq, e3, Fl.bind_next, ap_sRet, ap_eTup, ap_aCons]
    have s4 : (aCons (eCallO d_law_below 0 (aCons (e2 oIx (eLst (aCons (eC (.int 3)) (aCons (eC (.int 10)) aNil))) (eCallO d_law_below 0 (aCons (eC (.int 2)) aNil))) aNil)) (aCons (eVar 3) (aCons (eUp (eA (A1 oTuple) (aCons (eA (A1 oSort) (aCons (eVar 6) aNil)) aNil))) aNil))) [some o3, some (.int mo), some (.tup (ts.map .str)), some (.tup (cs.map .int)), k, some (.int L), some (.lst (rs.map pairD)), r] = .ok [.int ky, .tup (cs.map .int), .tup ((sortP rs).map pairD)] [some o4, some (.int mo), some (.tup (ts.map .str)), some (.tup (cs.map .int)), k, some (.int L), some (.lst (rs.map pairD)), r] := by
      rw [ap_aCons, e4, Out.bind_ok, ap_aCons]
      have s5 : (aCons (eUp (eA (A1 oTuple) (aCons (eA (A1 oSort) (aCons (eVar 6) aNil)) aNil))) aNil) (List.set [some o3, some (.int mo), some (.tup (ts.map .str)), some (.tup (cs.map .int)), k, some (.int L), some (.lst (rs.map pairD)), r] 0 (some o4)) = .ok [.tup ((sortP rs).map pairD)] [some o4, some (.int mo), some (.tup (ts.map .str)), some (.tup (cs.map .int)), k, some (.int L), some (.lst (rs.map pairD)), r] := by
        have s6 : (eA (A1 oSort) (aCons (eVar 6) aNil)) (List.set [some o3, some (.int mo), some (.tup (ts.map .str)), some (.tup (cs.map .int)), k, some (.int L), some (.lst (rs.map pairD)), r] 0 (some o4)) = .ok (.lst ((sortP rs).map pairD)) [some o4, some (.int mo), some (.tup (ts.map .str)), some (.tup (cs.map .int)), k, some (.int L), some (.lst (rs.map pairD)), r] := by
          show Out.opt (oSort (.lst (rs.map pairD))) _ = _
          rw [oSort_pairs]; rfl
        rw [ap_aCons, ap_eUp, ap_eA, ap_aCons, s6, Out.bind_ok, ap_aNil, Out.bind_ok, Out.bind_ok, ap_A1, oTuple_lst, Out.opt_some, Out.bind_ok, dp_tup, dp_pairs]
        rfl
      have s7 : eVar 3 (List.set [some o3, some (.int mo), some (.tup (ts.map .str)), some (.tup (cs.map .int)), k, some (.int L), some (.lst (rs.map pairD)), r] 0 (some o4)) = .ok (.tup (cs.map .int)) (List.set [some o3, some (.int mo), some (.tup (ts.map .str)), some (.tup (cs.map .int)), k, some (.int L), some (.lst (rs.map pairD)), r] 0 (some o4)) := rfl
      rw [s7, Out.bind_ok, s5]
      rfl
    have s8 : eVar 2 [some o3, some (.int mo), some (.tup (ts.map .str)), some (.tup (cs.map .int)), k, some (.int L), some (.lst (rs.map pairD)), r] = .ok (.tup (ts.map .str)) [some o3, some (.int mo), some (.tup (ts.map .str)), some (.tup (cs.map .int)), k, some (.int L), some (.lst (rs.map pairD)), r] := rfl
    rw [s8, Out.bind_ok, s4, Out.bind_ok, Out.bind_ok, if_pos (by show 4 ≤ 100000; decide)]
    rfl
  · have hm := (sortP_perm rs).mem_iff.mp m
    obtain ⟨⟨q1, q2⟩, q3, q4⟩ := r3 p hm
    exact ⟨q1, fun M m1 m2 => by have := l5 M m1 m2; omega, q3, q4⟩
theorem is_int_in_spec (v lo hi : Int) : d_is_int_in [.int v, .int lo, .int hi] = .ok (.bl (decide (lo ≤ v) && decide (v ≤ hi))) := by
  refine runF_ret (e := [some (.int v), some (.int lo), some (.int hi)]) ?_ rfl
  show b_is_int_in [some (.int v), some (.int lo), some (.int hi)] = _
  unfold b_is_int_in
  have h1 : oIsi "int" (.int v) = some (.bl true) := by
    show (Option.some "int").bind _ = _
    rfl
  have h2 : oIsi "bool" (.int v) = some (.bl false) := by
    show (Option.some "int").bind _ = _
    rfl
  simp only [ap_sRet, ap_eAndV, ap_e1, ap_eVar, List.getElem?_cons_zero, List.getElem?_cons_succ, Out.bind_ok, h1, h2, Out.opt_some, dd_boo, if_true, ap_eNotV, Bool.not_false, ap_eChain, oLeI_int, Option.bind_some]
  cases decide (lo ≤ v) <;> rfl
theorem inT_signs {c : Nat} (h : c = 104 ∨ c = 111) : oIn (.str ⟨#[c]⟩) (.tup [.str "h", .str "o"]) = some (.bl true) := by
  rcases h with rfl | rfl <;> kernel_rfl
theorem inT_d24 {n : Int} (h : n ∈ D24) : oNotIn (.int n) c_LENGTHS = some (.bl false) := by
  simp only [D24, List.mem_cons, List.not_mem_nil, or_false] at h
  rcases h with rfl | rfl | rfl | rfl | rfl | rfl | rfl | rfl <;> rfl
theorem is_table_spec {z : Str} (h : Tab z) : d_is_table [.str z] = .ok (.bl true) := by
  refine runF_ret (e := [some (.str z), none]) ?_ rfl
  show b_is_table [some (.str z), none] = _
  unfold b_is_table
  have h1 : oIsi "str" (.str z) = some (.bl true) := rfl
  have hlc := lcGo_map (vs := [1]) (g := gSet 1) (c := mYes) (e := e2 oIn (eVar 1) (eTup (aCons (eC c_HOME) (aCons (eC c_OUT) aNil)))) (fun _ => .bl true) (w := [some (.str z), none]) (ds := z.cps.toList.map fun c => .str ⟨#[c]⟩) (by rw [List.length_map]; exact Nat.le_trans (show z.cps.toList.length ≤ 24 by rw [Array.length_toList]; exact h.le) (by decide)) (by
    intro d m
    obtain ⟨c, hc, rfl⟩ := List.mem_map.mp m
    refine ⟨_, rfl, _, rfl, [some (.str z), some (.str ⟨#[c]⟩)], ?_, rfl⟩
    have : (eTup (aCons (eC c_HOME) (aCons (eC c_OUT) aNil))) [some (.str z), some (.str ⟨#[c]⟩)] = .ok (.tup [.str "h", .str "o"]) [some (.str z), some (.str ⟨#[c]⟩)] := rfl
    show ((eVar 1) [some (.str z), some (.str ⟨#[c]⟩)]).bind _ = _
    rw [show (eVar 1) [some (.str z), some (.str ⟨#[c]⟩)] = .ok (.str ⟨#[c]⟩) [some (.str z), some (.str ⟨#[c]⟩)] from rfl, Out.bind_ok, this, Out.bind_ok, inT_signs (h.s c hc)]
    rfl)
  have hall : oAll (.lst ((z.cps.toList.map fun c => D.str ⟨#[c]⟩).map fun _ => D.bl true)) = some (.bl true) := by
    have e : (z.cps.toList.map fun c => D.str ⟨#[c]⟩).map (fun _ => D.bl true) = (z.cps.toList.map fun _ => true).map D.bl := by rw [List.map_map, List.map_map]; rfl
    rw [e]
    show (blsOf _).map _ = _
    rw [blsOf_map]
    simp
  have ht : (mOr (mNot (mTest (e1 (oIsi "str") (eVar 0)))) (mTest (e2 oNotIn (eA (A1 oLen) (aCons (eVar 0) aNil)) (eC c_LENGTHS)))) [some (.str z), none] = .ok false [some (.str z), none] := by
    simp only [ap_mOr, ap_mNot, ap_mTest, ap_e1, ap_eVar, List.getElem?_cons_zero, Out.bind_ok, h1, Out.opt_some, dd_boo, Bool.not_true, Bool.false_eq_true, if_false, ap_e2, ap_eA, ap_aCons, ap_aNil, ap_A1, oLen_str z (by have := h.le; omega), ap_eC, inT_d24 h.l]
  rw [ap_sSeq, ap_sIf, ht]
  simp only [Out.fl_ok, Bool.false_eq_true, if_false, ap_sNext, Fl.bind_next]
  rw [ap_sRet, ap_eA, ap_aCons, ap_eLc, ap_iSeqM]
  rw [show (eVar 0) [some (.str z), none] = .ok (.str z) [some (.str z), none] from rfl, Out.bind_ok, dd_itS, Out.opt_some, Out.bind_ok]
  have hlc' : lcGo [1] (gSet 1) mYes (e2 oIn (eVar 1) (eTup (aCons (eC c_HOME) (aCons (eC c_OUT) aNil)))) (z.cps.toList.map fun c => .str ⟨#[c]⟩) [] (wipeE [some (.str z), none] [1]) = _ := hlc
  rw [hlc', Out.bind_ok, Out.bind_ok, ap_aNil, Out.bind_ok, Out.bind_ok, ap_A1, hall]
  rfl
end K09
namespace K09
open PySem PySem.Spec PyProof.Rows L2 Mir
theorem le_pair (a b : Int × Int) : oLe (pairD a) (pairD b) = some (.bl (leB a b)) := by
  have e : leInts [a.1, a.2] [b.1, b.2] = leB a b := by
    rw [Bool.eq_iff_iff, leB_iff]
    unfold leInts
    simp only [List.length_cons, List.length_nil, Ob.lexAt, List.getD_cons_zero, List.getD_cons_succ]
    by_cases h1 : a.1 = b.1
    · by_cases h2 : a.2 = b.2
      · simp [Ob.lexAt, h1, h2]
      · simp [Ob.lexAt, h1, h2]
    · simp [Ob.lexAt, h1]; omega
  unfold oLe Mir.pairD
  dsimp only
  rw [show intsOf [D.int a.1, .int a.2] = some [a.1, a.2] from rfl, Option.bind_some, show intsOf [D.int b.1, .int b.2] = some [b.1, b.2] from rfl, Option.bind_some, e]
theorem leB_false {a b : Int × Int} (h : ltP2 b a) : leB a b = false := by
  rw [Bool.eq_false_iff]
  intro z
  rw [leB_iff] at z
  unfold ltP2 at h
  omega
theorem call_iii {env e1 : Mir.Env} {ar : AM} {v lo hi : Int} (h : ar env = .ok [.int v, .int lo, .int hi] e1) : eCall d_is_int_in [] ar env = .ok (.bl (decide (lo ≤ v) && decide (v ≤ hi))) e1 := by
  rw [ap_eCall, h, Out.bind_ok, List.append_nil, is_int_in_spec]
  rfl
theorem pw_at {cs : List Int} (h : cs.Pairwise (· < ·)) {i : Nat} {a b : Int} (h1 : cs[i]? = some a) (h2 : cs[i + 1]? = some b) : a < b := by
  obtain ⟨l1, e1⟩ := List.getElem?_eq_some_iff.mp h1
  obtain ⟨l2, e2⟩ := List.getElem?_eq_some_iff.mp h2
  have := List.pairwise_iff_getElem.mp h i (i + 1) l1 l2 (Nat.lt_succ_self i)
  rw [e1, e2] at this
  exact this
theorem pw_atP {cs : List (Int × Int)} (h : cs.Pairwise ltP2) {i : Nat} {a b : Int × Int} (h1 : cs[i]? = some a) (h2 : cs[i + 1]? = some b) : ltP2 a b := by
  obtain ⟨l1, e1⟩ := List.getElem?_eq_some_iff.mp h1
  obtain ⟨l2, e2⟩ := List.getElem?_eq_some_iff.mp h2
  have := List.pairwise_iff_getElem.mp h i (i + 1) l1 l2 (Nat.lt_succ_self i)
  rw [e1, e2] at this
  exact this
theorem check_persons_spec {part : D} {cs : List Int} {n : Int} (h1 : cs.Pairwise (· < ·)) (h2 : ∀ c ∈ cs, 0 ≤ c ∧ c < n) : d_check_persons [part, .tup (cs.map .int), .int n] = .ok .non := by
  obtain ⟨env', q1, a, b, q2⟩ := forGo_at (g := gTupleM [(gSet 3), (gSet 4)]) (b := sIf (mOr (mNot (mTest (eCall d_is_int_in [] (aCons (eVar 4) (aCons (eC (.int 0)) (aCons (e2 oSub (eVar 2) (eC (.int 1))) aNil)))))) (mAnd (mTest (e2 oGtI (eVar 3) (eC (.int 0)))) (mTest (e2 oLe (eVar 4) (e2 oIx (eVar 1) (e2 oSub (eVar 3) (eC (.int 1)))))))) sBad sNext)
    (total := enumL 0 (cs.map .int)) (fun done env => ∃ a b : Option D, env = [some part, some (.tup (cs.map .int)), some (.int n), a, b]) (ds := enumL 0 (cs.map .int)) (done := []) (env := [some part, some (.tup (cs.map .int)), some (.int n), none, none]) rfl ⟨none, none, rfl⟩ (by
      rintro done d rest env ht ⟨a, b, rfl⟩
      obtain ⟨x, hx, rfl⟩ := enumL_at ht
      obtain ⟨c, hc, rfl⟩ : ∃ c, cs[done.length]? = some c ∧ x = .int c := by
        rw [List.getElem?_map] at hx
        cases q : cs[done.length]? with
        | none => rw [q] at hx; cases hx
        | some c => rw [q] at hx; cases hx; exact ⟨c, rfl, rfl⟩
      have hm := h2 c (List.mem_of_getElem? hc)
      refine ⟨[some part, some (.tup (cs.map .int)), some (.int n), some (.int done.length), some (.int c)], rfl, _, .inl ?_, some (.int done.length), some (.int c), rfl⟩
      have t1 : (mTest (eCall d_is_int_in [] (aCons (eVar 4) (aCons (eC (.int 0)) (aCons (e2 oSub (eVar 2) (eC (.int 1))) aNil))))) [some part, some (.tup (cs.map .int)), some (.int n), some (.int done.length), some (.int c)] = .ok true [some part, some (.tup (cs.map .int)), some (.int n), some (.int done.length), some (.int c)] := by
        have hA : (aCons (eVar 4) (aCons (eC (.int 0)) (aCons (e2 oSub (eVar 2) (eC (.int 1))) aNil))) [some part, some (.tup (cs.map .int)), some (.int n), some (.int done.length), some (.int c)] = .ok [.int c, .int 0, .int (n - 1)] [some part, some (.tup (cs.map .int)), some (.int n), some (.int done.length), some (.int c)] := rfl
        rw [ap_mTest, call_iii hA, decide_eq_true hm.1, decide_eq_true (show c ≤ n - 1 by omega)]
        rfl
      have t2 : (mAnd (mTest (e2 oGtI (eVar 3) (eC (.int 0)))) (mTest (e2 oLe (eVar 4) (e2 oIx (eVar 1) (e2 oSub (eVar 3) (eC (.int 1))))))) [some part, some (.tup (cs.map .int)), some (.int n), some (.int done.length), some (.int c)] = .ok false [some part, some (.tup (cs.map .int)), some (.int n), some (.int done.length), some (.int c)] := by
        have t3 : (mTest (e2 oGtI (eVar 3) (eC (.int 0)))) [some part, some (.tup (cs.map .int)), some (.int n), some (.int done.length), some (.int c)] = .ok (decide ((0 : Int) < done.length)) [some part, some (.tup (cs.map .int)), some (.int n), some (.int done.length), some (.int c)] := rfl
        rw [ap_mAnd, t3, Out.bind_ok]
        by_cases z : (0 : Int) < done.length
        · rw [decide_eq_true z, if_pos rfl]
          obtain ⟨j, hj⟩ : ∃ j, done.length = j + 1 := ⟨done.length - 1, by omega⟩
          rw [hj] at hc
          obtain ⟨c0, hc0⟩ : ∃ c0, cs[j]? = some c0 := by
            have := (List.getElem?_eq_some_iff.mp hc).1
            exact ⟨cs[j], List.getElem?_eq_getElem (by omega)⟩
          have hlt := pw_at h1 hc0 hc
          have t4 : (e2 oIx (eVar 1) (e2 oSub (eVar 3) (eC (.int 1)))) [some part, some (.tup (cs.map .int)), some (.int n), some (.int done.length), some (.int c)] = .ok (.int c0) [some part, some (.tup (cs.map .int)), some (.int n), some (.int done.length), some (.int c)] := by
            show Out.opt (atI (cs.map D.int) ((done.length : Int) - 1)) _ = _
            rw [atI_at (j := j) (v := .int c0) (by rw [List.getElem?_map, hc0]; rfl) (by omega)]
            rfl
          rw [ap_mTest, ap_e2, show (eVar 4) [some part, some (.tup (cs.map .int)), some (.int n), some (.int done.length), some (.int c)] = .ok (.int c) [some part, some (.tup (cs.map .int)), some (.int n), some (.int done.length), some (.int c)] from rfl, Out.bind_ok, t4, Out.bind_ok, oLe_int, decide_eq_false (by omega)]
          rfl
        · rw [decide_eq_false z]
          rfl
      rw [ap_sIf, ap_mOr, ap_mNot, t1]
      simp only [Out.bind_ok, Bool.not_true, Bool.false_eq_true, if_false]
      rw [t2]
      rfl)
  refine runF_next (e := env') ?_ rfl
  show b_check_persons [some part, some (.tup (cs.map .int)), some (.int n), none, none] = _
  unfold b_check_persons
  have t0 : (mNot (mTest (e1 (oIsi "tuple") (eVar 1)))) [some part, some (.tup (cs.map .int)), some (.int n), none, none] = .ok false [some part, some (.tup (cs.map .int)), some (.int n), none, none] := rfl
  rw [ap_sSeq, ap_sIf, t0, Out.fl_ok]
  simp only [Bool.false_eq_true, if_false, ap_sNext, Fl.bind_next]
  rw [ap_sFor, ap_iEnumT, show (eVar 1) [some part, some (.tup (cs.map .int)), some (.int n), none, none] = .ok (.tup (cs.map .int)) [some part, some (.tup (cs.map .int)), some (.int n), none, none] from rfl, Out.bind_ok, dd_isT, Out.opt_some, Out.bind_ok, Out.fl_ok]
  exact q1
theorem is_reminder_spec {r : Int × Int} {M n : Int} (h1 : 0 ≤ r.1) (h2 : r.1 < M) (h3 : 0 ≤ r.2) (h4 : r.2 < n) : d_is_reminder [pairD r, .int M, .int n] = .ok (.bl true) := by
  refine runF_ret (e := [some (pairD r), some (.int M), some (.int n)]) ?_ rfl
  show b_is_reminder [some (pairD r), some (.int M), some (.int n)] = _
  unfold b_is_reminder
  have t0 : (mOr (mNot (mTest (e1 (oIsi "tuple") (eVar 0)))) (mTest (e2 oNe (eA (A1 oLen) (aCons (eVar 0) aNil)) (eC (.int 2))))) [some (pairD r), some (.int M), some (.int n)] = .ok false [some (pairD r), some (.int M), some (.int n)] := by
    have x1 : oIsi "tuple" (pairD r) = some (.bl true) := rfl
    have x2 : oLen (pairD r) = some (.int 2) := rfl
    simp only [ap_mOr, ap_mNot, ap_mTest, ap_e1, ap_eVar, List.getElem?_cons_zero, Out.bind_ok, x1, Out.opt_some, dd_boo, Bool.not_true, Bool.false_eq_true, if_false, ap_e2, ap_eA, ap_aCons, ap_aNil, ap_A1, x2, ap_eC, oNe_int]
    rfl
  rw [ap_sSeq, ap_sIf, t0, Out.fl_ok]
  simp only [Bool.false_eq_true, if_false, ap_sNext, Fl.bind_next]
  have t1 : (eCall d_is_int_in [] (aCons (e2 oIx (eVar 0) (eC (.int 0))) (aCons (eC (.int 0)) (aCons (e2 oSub (eVar 1) (eC (.int 1))) aNil)))) [some (pairD r), some (.int M), some (.int n)] = .ok (.bl true) [some (pairD r), some (.int M), some (.int n)] := by
    have hA : (aCons (e2 oIx (eVar 0) (eC (.int 0))) (aCons (eC (.int 0)) (aCons (e2 oSub (eVar 1) (eC (.int 1))) aNil))) [some (pairD r), some (.int M), some (.int n)] = .ok [.int r.1, .int 0, .int (M - 1)] [some (pairD r), some (.int M), some (.int n)] := rfl
    rw [call_iii hA, decide_eq_true h1, decide_eq_true (show r.1 ≤ M - 1 by omega)]
    rfl
  have t2 : (eCall d_is_int_in [] (aCons (e2 oIx (eVar 0) (eC (.int 1))) (aCons (eC (.int 0)) (aCons (e2 oSub (eVar 2) (eC (.int 1))) aNil)))) [some (pairD r), some (.int M), some (.int n)] = .ok (.bl true) [some (pairD r), some (.int M), some (.int n)] := by
    have hA : (aCons (e2 oIx (eVar 0) (eC (.int 1))) (aCons (eC (.int 0)) (aCons (e2 oSub (eVar 2) (eC (.int 1))) aNil))) [some (pairD r), some (.int M), some (.int n)] = .ok [.int r.2, .int 0, .int (n - 1)] [some (pairD r), some (.int M), some (.int n)] := rfl
    rw [call_iii hA, decide_eq_true h3, decide_eq_true (show r.2 ≤ n - 1 by omega)]
    rfl
  rw [ap_sRet, ap_eAndV, t1, Out.bind_ok, dd_boo, Out.opt_some, Out.bind_ok, if_pos rfl, t2]
  rfl
end K09
namespace K09
open PySem PySem.Spec PyProof.Rows L2 Mir
def Pt.env (p : Pt) (a b c d : Option Mir.D) : Mir.Env := [some (.ins 0 []), some (.tup (p.ts.map .str)), some (.int p.keys), some (.tup (p.cs.map .int)), some (.tup (p.rs.map pairD)), a, b, c, d]
theorem get_strs {ts : List Str} {i : Nat} {x : D} (h : (ts.map D.str)[i]? = some x) : ∃ z, ts[i]? = some z ∧ x = .str z := by
  rw [List.getElem?_map] at h
  cases q : ts[i]? with
  | none => rw [q] at h; cases h
  | some z => rw [q] at h; cases h; exact ⟨z, rfl, rfl⟩
theorem get_pairs {ts : List (Int × Int)} {i : Nat} {x : D} (h : (ts.map Mir.pairD)[i]? = some x) : ∃ z, ts[i]? = some z ∧ x = Mir.pairD z := by
  rw [List.getElem?_map] at h
  cases q : ts[i]? with
  | none => rw [q] at h; cases h
  | some z => rw [q] at h; cases h; exact ⟨z, rfl, rfl⟩
theorem init_tables {p : Pt} (h : p.Ok) : ∃ M i t, (sFor (Mir.iEnumT (eVar 1)) (gTupleM [(gSet 6), (gSet 7)]) (sSeq (sIf (mOr (mTest (e2 oEq (eVar 6) (eC c_MAX_PERSONS))) (mNot (mTest (eCall d_is_table [] (aCons (eVar 7) aNil))))) sBad sNext)
  (sAsg (eCall d_common_multiple [] (aCons (eVar 5) (aCons (eA (A1 oLen) (aCons (eVar 7) aNil)) aNil))) (gSet 5)))) (p.env (some (.int 1)) none none none) = .next (p.env (some (.int M)) i t none) ∧ M ∈ D24 ∧ Good p.ts M ∧ ∀ c, Good p.ts c → M ∣ c := by
  obtain ⟨env', q1, M, i, t, q2, q3, q4, q5⟩ := forGo_at (g := gTupleM [(gSet 6), (gSet 7)]) (b := sSeq (sIf (mOr (mTest (e2 oEq (eVar 6) (eC c_MAX_PERSONS))) (mNot (mTest (eCall d_is_table [] (aCons (eVar 7) aNil))))) sBad sNext)
      (sAsg (eCall d_common_multiple [] (aCons (eVar 5) (aCons (eA (A1 oLen) (aCons (eVar 7) aNil)) aNil))) (gSet 5)))
    (total := enumL 0 (p.ts.map .str)) (fun done env => ∃ (M : Int) (i t : Option D), env = p.env (some (.int M)) i t none ∧ M ∈ D24 ∧ (∀ j z, j < done.length → p.ts[j]? = some z → (z.length : Int) ∣ M) ∧ ∀ c, Good p.ts c → M ∣ c) (ds := enumL 0 (p.ts.map .str)) (done := []) (env := p.env (some (.int 1)) none none none) rfl
    ⟨1, none, none, rfl, by decide, (fun j z hj => by cases hj), fun c _ => Int.one_dvd c⟩ (by
      rintro done d rest env ht ⟨M, i, t, rfl, m1, m2, m3⟩
      obtain ⟨x, hx, rfl⟩ := enumL_at ht
      obtain ⟨z, hz, rfl⟩ := get_strs hx
      have hT := h.tt z (List.mem_of_getElem? hz)
      have hlt := (List.getElem?_eq_some_iff.mp hz).1
      have h6 := h.t6
      obtain ⟨m, c1, c2, c3, c4, c5⟩ := cm_spec m1 hT.l
      refine ⟨p.env (some (.int M)) (some (.int done.length)) (some (.str z)) none, rfl, p.env (some (.int m)) (some (.int done.length)) (some (.str z)) none, .inl ?_, m, _, _, rfl, c2, fun j y hj hy => ?_, fun c gc => c5 c (m3 c gc) (gc z (List.mem_of_getElem? hz))⟩
      · have t1 : (mTest (e2 oEq (eVar 6) (eC c_MAX_PERSONS))) (p.env (some (.int M)) (some (.int done.length)) (some (.str z)) none) = .ok false (p.env (some (.int M)) (some (.int done.length)) (some (.str z)) none) := by
          have e : (e2 oEq (eVar 6) (eC c_MAX_PERSONS)) (p.env (some (.int M)) (some (.int done.length)) (some (.str z)) none) = Out.opt (oEq (.int done.length) (.int 6)) (p.env (some (.int M)) (some (.int done.length)) (some (.str z)) none) := rfl
          rw [ap_mTest, e, oEq_int, decide_eq_false (by omega)]
          rfl
        have t2 : (mTest (eCall d_is_table [] (aCons (eVar 7) aNil))) (p.env (some (.int M)) (some (.int done.length)) (some (.str z)) none) = .ok true (p.env (some (.int M)) (some (.int done.length)) (some (.str z)) none) := by
          have hA : (aCons (eVar 7) aNil) (p.env (some (.int M)) (some (.int done.length)) (some (.str z)) none) = .ok [.str z] (p.env (some (.int M)) (some (.int done.length)) (some (.str z)) none) := rfl
          rw [ap_mTest, ap_eCall, hA, Out.bind_ok, List.append_nil, is_table_spec hT]
          rfl
        have hA : (aCons (eVar 5) (aCons (eA (A1 oLen) (aCons (eVar 7) aNil)) aNil)) (p.env (some (.int M)) (some (.int done.length)) (some (.str z)) none) = .ok [.int M, .int z.length] (p.env (some (.int M)) (some (.int done.length)) (some (.str z)) none) := by
          have e : (eA (A1 oLen) (aCons (eVar 7) aNil)) (p.env (some (.int M)) (some (.int done.length)) (some (.str z)) none) = Out.opt (oLen (.str z)) (p.env (some (.int M)) (some (.int done.length)) (some (.str z)) none) := rfl
          rw [ap_aCons, show (eVar 5) (p.env (some (.int M)) (some (.int done.length)) (some (.str z)) none) = .ok (.int M) (p.env (some (.int M)) (some (.int done.length)) (some (.str z)) none) from rfl, Out.bind_ok, ap_aCons, e, oLen_str z (by have := hT.le; omega)]
          rfl
        rw [ap_sSeq, ap_sIf, ap_mOr, t1, Out.bind_ok]
        simp only [Bool.false_eq_true, if_false]
        rw [ap_mNot, t2, Out.bind_ok, Out.fl_ok]
        simp only [Bool.not_true, Bool.false_eq_true, if_false, ap_sNext, Fl.bind_next]
        rw [ap_sAsg, ap_eCall, hA, Out.bind_ok, List.append_nil, c1]
        rfl
      · rw [List.length_append] at hj
        simp only [List.length_cons, List.length_nil] at hj
        by_cases e : j = done.length
        · subst e
          rw [hz] at hy
          cases hy
          exact c4
        · exact Int.dvd_trans (m2 j y (by omega) hy) c3)
  refine ⟨M, i, t, ?_, q3, fun z m => ?_, q5⟩
  · rw [ap_sFor, ap_iEnumT, show (eVar 1) (p.env (some (.int 1)) none none none) = .ok (.tup (p.ts.map .str)) (p.env (some (.int 1)) none none none) from rfl, Out.bind_ok, dd_isT, Out.opt_some, Out.bind_ok, Out.fl_ok, q1, q2]
  · obtain ⟨j, hj⟩ := List.mem_iff_getElem?.mp m
    refine q4 j z ?_ hj
    rw [enumL_len, List.length_map]
    exact (List.getElem?_eq_some_iff.mp hj).1
theorem init_reminders {p : Pt} (h : p.Ok) {M : Int} (hM : 1 ≤ M) (hG : Good p.ts M) {i0 t0 : Option D} : ∃ i r, (sFor (Mir.iEnumT (eVar 4)) (gTupleM [(gSet 6), (gSet 8)]) (sSeq (sIf (mOr (mTest (e2 oEq (eVar 6) (eC c_MAX_REMINDERS))) (mNot (mTest (eCall d_is_reminder [] (aCons (eVar 8) (aCons (eVar 5) (aCons (eA (A1 oLen) (aCons (eVar 1) aNil)) aNil))))))) sBad sNext)
  (sIf (mAnd (mTest (e2 oGtI (eVar 6) (eC (.int 0)))) (mTest (e2 oLe (eVar 8) (e2 oIx (eVar 4) (e2 oSub (eVar 6) (eC (.int 1))))))) sBad sNext))) (p.env (some (.int M)) i0 t0 none) = .next (p.env (some (.int M)) i t0 r) := by
  obtain ⟨env', q1, i, r, q2⟩ := forGo_at (g := gTupleM [(gSet 6), (gSet 8)]) (b := sSeq (sIf (mOr (mTest (e2 oEq (eVar 6) (eC c_MAX_REMINDERS))) (mNot (mTest (eCall d_is_reminder [] (aCons (eVar 8) (aCons (eVar 5) (aCons (eA (A1 oLen) (aCons (eVar 1) aNil)) aNil))))))) sBad sNext)
      (sIf (mAnd (mTest (e2 oGtI (eVar 6) (eC (.int 0)))) (mTest (e2 oLe (eVar 8) (e2 oIx (eVar 4) (e2 oSub (eVar 6) (eC (.int 1))))))) sBad sNext))
    (total := enumL 0 (p.rs.map pairD)) (fun done env => ∃ i r : Option D, env = p.env (some (.int M)) i t0 r) (ds := enumL 0 (p.rs.map pairD)) (done := []) (env := p.env (some (.int M)) i0 t0 none) rfl ⟨_, _, rfl⟩ (by
      rintro done d rest env ht ⟨i, r, rfl⟩
      obtain ⟨x, hx, rfl⟩ := enumL_at ht
      obtain ⟨z, hz, rfl⟩ := get_pairs hx
      have hR := h.rr z (List.mem_of_getElem? hz)
      have hlt := (List.getElem?_eq_some_iff.mp hz).1
      have h10 := h.rn
      generalize hE : p.env (some (.int M)) (some (.int done.length)) t0 (some (pairD z)) = e9
      refine ⟨e9, by rw [← hE]; rfl, e9, .inl ?_, _, _, hE.symm⟩
      have t1 : (mTest (e2 oEq (eVar 6) (eC c_MAX_REMINDERS))) e9 = .ok false e9 := by
        have e : (e2 oEq (eVar 6) (eC c_MAX_REMINDERS)) e9 = Out.opt (oEq (.int done.length) (.int 10)) e9 := by rw [← hE]; rfl
        rw [ap_mTest, e, oEq_int, decide_eq_false (by omega)]
        rfl
      have t2 : (mTest (eCall d_is_reminder [] (aCons (eVar 8) (aCons (eVar 5) (aCons (eA (A1 oLen) (aCons (eVar 1) aNil)) aNil))))) e9 = .ok true e9 := by
        have hA : (aCons (eVar 8) (aCons (eVar 5) (aCons (eA (A1 oLen) (aCons (eVar 1) aNil)) aNil))) e9 = .ok [pairD z, .int M, .int ((p.ts.map D.str).length : Nat)] e9 := by rw [← hE]; rfl
        rw [ap_mTest, ap_eCall, hA, Out.bind_ok, List.append_nil, is_reminder_spec hR.1 (hR.2.1 M hM hG) hR.2.2.1 (by rw [List.length_map]; exact hR.2.2.2)]
        rfl
      have t3 : (mAnd (mTest (e2 oGtI (eVar 6) (eC (.int 0)))) (mTest (e2 oLe (eVar 8) (e2 oIx (eVar 4) (e2 oSub (eVar 6) (eC (.int 1))))))) e9 = .ok false e9 := by
        have t3 : (mTest (e2 oGtI (eVar 6) (eC (.int 0)))) e9 = .ok (decide ((0 : Int) < done.length)) e9 := by rw [← hE]; rfl
        rw [ap_mAnd, t3, Out.bind_ok]
        by_cases c : (0 : Int) < done.length
        · rw [decide_eq_true c, if_pos rfl]
          obtain ⟨j, hj⟩ : ∃ j, done.length = j + 1 := ⟨done.length - 1, by omega⟩
          rw [hj] at hz
          obtain ⟨c0, hc0⟩ : ∃ c0, p.rs[j]? = some c0 := by
            have := (List.getElem?_eq_some_iff.mp hz).1
            exact ⟨p.rs[j], List.getElem?_eq_getElem (by omega)⟩
          have hlt := pw_atP h.rl hc0 hz
          have t4 : (e2 oIx (eVar 4) (e2 oSub (eVar 6) (eC (.int 1)))) e9 = .ok (pairD c0) e9 := by
            have e : (e2 oIx (eVar 4) (e2 oSub (eVar 6) (eC (.int 1)))) e9 = Out.opt (atI (p.rs.map Mir.pairD) ((done.length : Int) - 1)) e9 := by rw [← hE]; rfl
            rw [e, atI_at (j := j) (v := Mir.pairD c0) (by rw [List.getElem?_map, hc0]; rfl) (by omega)]
            rfl
          have t5 : (eVar 8) e9 = .ok (pairD z) e9 := by rw [← hE]; rfl
          rw [ap_mTest, ap_e2, t5, Out.bind_ok, t4, Out.bind_ok, le_pair, leB_false hlt]
          rfl
        · rw [decide_eq_false c]
          rfl
      rw [ap_sSeq, ap_sIf, ap_mOr, t1, Out.bind_ok]
      simp only [Bool.false_eq_true, if_false]
      rw [ap_mNot, t2, Out.bind_ok, Out.fl_ok]
      simp only [Bool.not_true, Bool.false_eq_true, if_false, ap_sNext, Fl.bind_next]
      rw [ap_sIf, t3]
      rfl)
  refine ⟨i, r, ?_⟩
  rw [ap_sFor, ap_iEnumT, show (eVar 4) (p.env (some (.int M)) i0 t0 none) = .ok (.tup (p.rs.map pairD)) (p.env (some (.int M)) i0 t0 none) from rfl, Out.bind_ok, dd_isT, Out.opt_some, Out.bind_ok, Out.fl_ok, q1, q2]
def Pt.H (p : Pt) (M : Int) : Mir.D := .ins 0 [.tup (p.ts.map .str), .int p.keys, .tup (p.cs.map .int), .tup (p.rs.map pairD), .int M]
theorem eqT_ne {ts : List Str} (h : ∀ z ∈ ts, signs z) (hn : 1 ≤ ts.length) : oEq (.tup (ts.map .str)) (.tup []) = some (.bl false) := by
  unfold oEq oEqB
  simp only [(fit_strs h).2, fit_nilT, Bool.and_self, if_true, Option.map_some]
  cases ts with
  | nil => simp at hn
  | cons z ts => simp [D.eqb, D.eqbL]
theorem init_spec {p : Pt} (h : p.Ok) : ∃ M, d_House__init_ (.ins 0 []) [.tup (p.ts.map .str), .int p.keys, .tup (p.cs.map .int), .tup (p.rs.map pairD)] = .ok .non (p.H M) ∧ M ∈ D24 ∧ Good p.ts M ∧ ∀ c, Good p.ts c → M ∣ c := by
  obtain ⟨M, i, t, eT, m1, m2, m3⟩ := init_tables h
  obtain ⟨i2, r, e2'⟩ := init_reminders h (d24_range m1).1 m2 (i0 := i) (t0 := t)
  refine ⟨M, ?_, m1, m2, m3⟩
  refine runF0_next (e := [some (p.H M), some (.tup (p.ts.map .str)), some (.int p.keys), some (.tup (p.cs.map .int)), some (.tup (p.rs.map pairD)), some (.int M), i2, t, r]) ?_ rfl rfl
  show b_House__init_ (p.env none none none none) = _
  unfold b_House__init_
  have s1 : (mOr (mNot (mTest (e1 (oIsi "tuple") (eVar 1)))) (mTest (e2 oEq (eVar 1) (eTup aNil)))) (p.env none none none none) = .ok false (p.env none none none none) := by
    have a1 : (mNot (mTest (e1 (oIsi "tuple") (eVar 1)))) (p.env none none none none) = .ok false (p.env none none none none) := rfl
    have a2 : (e2 oEq (eVar 1) (eTup aNil)) (p.env none none none none) = Out.opt (oEq (.tup (p.ts.map .str)) (.tup [])) (p.env none none none none) := rfl
    rw [ap_mOr, a1, Out.bind_ok]
    simp only [Bool.false_eq_true, if_false]
    rw [ap_mTest, a2, eqT_ne (fun z m => (h.tt z m).s) h.t0]
    rfl
  rw [ap_sSeq, ap_sIf, s1, Out.fl_ok]
  simp only [Bool.false_eq_true, if_false]
  rw [ap_sNext, Fl.bind_next]
  have s2 : (sAsg (eC (.int 1)) (gSet 5)) (p.env none none none none) = .next (p.env (some (.int 1)) none none none) := rfl
  rw [ap_sSeq, s2, Fl.bind_next, ap_sSeq, eT, Fl.bind_next]
  have s3 : (mNot (mTest (eCall d_is_int_in [] (aCons (eVar 2) (aCons (eC (.int 0)) (aCons (eC c_MAX_KEYS) aNil)))))) (p.env (some (.int M)) i t none) = .ok false (p.env (some (.int M)) i t none) := by
    have hA : (aCons (eVar 2) (aCons (eC (.int 0)) (aCons (eC c_MAX_KEYS) aNil))) (p.env (some (.int M)) i t none) = .ok [.int p.keys, .int 0, .int 9] (p.env (some (.int M)) i t none) := rfl
    rw [ap_mNot, ap_mTest, call_iii hA, decide_eq_true h.k0, decide_eq_true h.k9]
    rfl
  rw [ap_sSeq, ap_sIf, s3, Out.fl_ok]
  simp only [Bool.false_eq_true, if_false]
  rw [ap_sNext, Fl.bind_next]
  have s4 : (sDrop (eCall d_check_persons [] (aCons (eC (.str "careful")) (aCons (eVar 3) (aCons (eA (A1 oLen) (aCons (eVar 1) aNil)) aNil))))) (p.env (some (.int M)) i t none) = .next (p.env (some (.int M)) i t none) := by
    have hA : (aCons (eC (.str "careful")) (aCons (eVar 3) (aCons (eA (A1 oLen) (aCons (eVar 1) aNil)) aNil))) (p.env (some (.int M)) i t none) = .ok [.str "careful", .tup (p.cs.map .int), .int ((p.ts.map D.str).length : Nat)] (p.env (some (.int M)) i t none) := rfl
    rw [ap_sDrop, ap_eCall, hA, Out.bind_ok, List.append_nil, check_persons_spec h.cl (fun c m => by rw [List.length_map]; exact h.cr c m)]
    rfl
  rw [ap_sSeq, s4, Fl.bind_next]
  have s5 : (mNot (mTest (e1 (oIsi "tuple") (eVar 4)))) (p.env (some (.int M)) i t none) = .ok false (p.env (some (.int M)) i t none) := rfl
  rw [ap_sSeq, ap_sIf, s5, Out.fl_ok]
  simp only [Bool.false_eq_true, if_false]
  rw [ap_sNext, Fl.bind_next, ap_sSeq, e2', Fl.bind_next]
  rfl
end K09
namespace K09
open PySem PySem.Spec PyProof.Rows L2 Mir
structure Sn where
  wt : List Int
  hd : List Int
  hk : Int
  op : Bool
def Sn.D (s : Sn) : Mir.D := .tup [.tup (s.wt.map .int), .tup (s.hd.map .int), .int s.hk, .bl s.op]
def wh (p : Pt) (k t : Int) : Bool := match p.ts[k.toNat]? with
  | some z => decide (z.cps.toList[(t.fmod z.length).toNat]? = some 104)
  | none => false
def tkk (p : Pt) (M k t : Int) : Bool := decide (k ∈ p.cs) || decide ((t.fmod M, k) ∈ p.rs)
def home (p : Pt) (s : Sn) (t : Int) : List Int := if t < 0 then rgI p.ts.length else (rgI p.ts.length).filter fun k => wh p k t && !decide (k ∈ s.wt)
theorem h_lit : ("h" : Str) = ⟨#[104]⟩ := by kernel_rfl
theorem persons_spec (p : Pt) (M : Int) : d_House_persons [p.H M] = .ok (.int p.ts.length) := by
  refine runF_ret (e := [some (p.H M)]) ?_ rfl
  refine w_ret (k_A1 (k_fld (k_var rfl) rfl) ?_)
  rw [oLen_tup, List.length_map]
theorem period_spec (p : Pt) (M : Int) : d_House_period [p.H M] = .ok (.int M) := runF_ret (e := [some (p.H M)]) (w_ret (k_fld (k_var rfl) rfl)) rfl
theorem tab_at {p : Pt} (h : p.Ok) {k : Int} (k0 : 0 ≤ k) (k1 : k < p.ts.length) : ∃ z, p.ts[k.toNat]? = some z ∧ Tab z ∧ atI (p.ts.map D.str) k = some (.str z) := by
  have hl : k.toNat < p.ts.length := by omega
  refine ⟨p.ts[k.toNat], List.getElem?_eq_getElem hl, h.tt _ (List.getElem_mem hl), ?_⟩
  exact atI_at (j := k.toNat) (by rw [List.getElem?_map, List.getElem?_eq_getElem hl]; rfl) (by omega)
theorem str_len (z : Str) : z.cps.toList.length = z.length := Array.length_toList
theorem wants_spec {p : Pt} (h : p.Ok) (M : Int) {k t : Int} (k0 : 0 ≤ k) (k1 : k < p.ts.length) : d_House_wants_home [p.H M, .int k, .int t] = .ok (.bl (wh p k t)) := by
  obtain ⟨z, hz, tz, az⟩ := tab_at h k0 k1
  have lp := tz.pos
  have l24 := tz.le
  obtain ⟨m0, m1⟩ := fmod_range (a := t) (b := z.length) (by omega)
  have hj : (t.fmod z.length).toNat < z.cps.toList.length := by rw [str_len]; omega
  refine runF_ret (e := [some (p.H M), some (.int k), some (.int t), some (.str z)]) ?_ rfl
  refine (w_seq (e := [some (p.H M), some (.int k), some (.int t), some (.str z)]) (w_asg (k_e2 (k_fld (k_var rfl) rfl) (k_var rfl) az))).trans ?_
  refine w_ret (k_e2 (x := .str ⟨#[z.cps.toList[(t.fmod z.length).toNat]]⟩) (k_e2 (k_var rfl) (k_e2 (k_var rfl) (k_A1 (k_var rfl) (oLen_str z (by omega))) (oMod_int t _ (by omega))) ?_) k_c ?_)
  · show (if z.length ≤ 100000 then (atI z.cps.toList (t.fmod z.length)).map (fun c => D.str ⟨#[c]⟩) else none) = _
    rw [if_pos (by omega), atI_at (j := (t.fmod z.length).toNat) (List.getElem?_eq_getElem hj) (by omega)]
    rfl
  · show oEq _ (.str "h") = _
    rw [oEq_str, h_lit]
    unfold wh
    rw [hz]
    dsimp only
    rw [List.getElem?_eq_getElem hj]
    congr 3
    simp
theorem takes_spec {p : Pt} {M k t : Int} (hM : M ≠ 0) : d_House_takes_key [p.H M, .int k, .int t] = .ok (.bl (tkk p M k t)) := by
  refine runF_ret (e := [some (p.H M), some (.int k), some (.int t)]) ?_ rfl
  exact w_ret (k_orV (k_e2 (k_var rfl) (k_fld (k_var rfl) rfl) (oIn_intsT k p.cs)) fun _ => k_e2 (k_tup (k_two (k_e2 (k_var rfl) (k_fld (k_var rfl) rfl) (oMod_int t M hM)) (k_var rfl))) (k_fld (k_var rfl) rfl) (oIn_pairsT (t.fmod M, k) p.rs))
theorem home_spec {p : Pt} (h : p.Ok) (M : Int) (s : Sn) (t : Int) : d_people_at_home [p.H M, s.D, .int t] = .ok (.lst ((home p s t).map .int)) := by
  have h6 := h.t6
  have s1 : sAsg (eRg false (eProp 0 d_House_persons (eVar 0))) (gSet 3) [some (p.H M), some s.D, some (.int t), none, none] = .next [some (p.H M), some s.D, some (.int t), some (.lst ((rgI p.ts.length).map .int)), none] := by
    have := w_asg (i := 3) (k_rgL (env := [some (p.H M), some s.D, some (.int t), none, none]) (a := eProp 0 d_House_persons (eVar 0)) (k := p.ts.length) (k_prop (k_var rfl) (persons_spec p M)) (by omega))
    rw [this]
    show Fl.next _ = _
    rw [show ((p.ts.length : Int)).toNat = p.ts.length from rfl, rangeL_rgI]
    rfl
  have s2 : mTest (e2 oLtI (eVar 2) (eC (.int 0))) [some (p.H M), some s.D, some (.int t), some (.lst ((rgI p.ts.length).map .int)), none] = .ok (decide (t < 0)) [some (p.H M), some s.D, some (.int t), some (.lst ((rgI p.ts.length).map .int)), none] := k_test (k_e2 (k_var rfl) k_c (oLtI_int t 0))
  refine runF_ret (e := [some (p.H M), some s.D, some (.int t), some (.lst ((rgI p.ts.length).map .int)), none]) ?_ rfl
  refine (w_seq s1).trans ?_
  unfold home
  by_cases c : t < 0
  · rw [if_pos c]
    refine w_seqR ?_
    rw [w_if s2, decide_eq_true c]
    exact w_ret (k_var rfl)
  · rw [if_neg c]
    have s3 : (sIf (mTest (e2 oLtI (eVar 2) (eC (.int 0)))) (sRet (eVar 3)) sNext) [some (p.H M), some s.D, some (.int t), some (.lst ((rgI p.ts.length).map .int)), none] = .next [some (p.H M), some s.D, some (.int t), some (.lst ((rgI p.ts.length).map .int)), none] := by
      rw [w_if s2, decide_eq_false c]; rfl
    refine (w_seq s3).trans ?_
    have := k_lc (i := 4) (env := [some (p.H M), some s.D, some (.int t), some (.lst ((rgI p.ts.length).map .int)), none]) (it := iSeqM (eVar 3)) (c := mAnd (mTest (eMeth 0 d_House_wants_home [] (eVar 0) (aCons (eVar 4) (aCons (eVar 2) aNil)))) (mTest (e2 oNotIn (eVar 4) (e2 oIx (eVar 1) (eC (.int 0)))))) (e := eVar 4)
      D.int (fun k => wh p k t && !decide (k ∈ s.wt)) D.int (xs := rgI p.ts.length) (by show 4 < 5; decide) (k_itM (k_var rfl) rfl) (by rw [len_rgI]; omega)
      (fun k m => k_and (k_test (k_meth (k_var rfl) (k_two (k_var rfl) (k_var rfl)) (wants_spec h M (mem_rgI.mp m).1 (mem_rgI.mp m).2))) fun _ => k_test (k_e2 (k_var rfl) (k_e2 (k_var rfl) k_c (atI_c0 _ _)) (oNotIn_intsT k s.wt)))
      (fun k m _ => k_var rfl)
    exact w_ret this
end K09
namespace K09
open PySem PySem.Spec PyProof.Rows L2 Mir
abbrev Ev := Str × Option Int
def ev1 (w : Str) (k : Int) : Ev := (w, some k)
def evOpen : Ev := ("open", none)
def evD (t : Int) (e : Ev) : Mir.D := .tup [.int t, .str e.1, match e.2 with
  | some k => .int k
  | none => .non]
def comers (p : Pt) (s : Sn) (t : Int) : List Int := (rgI p.ts.length).filter fun k => !decide (k ∈ home p s (t - 1)) && wh p k t
def enters (p : Pt) (s : Sn) (t : Int) : Bool := !decide (home p s (t - 1) = []) || (s.op || ((comers p s t).map fun k => decide (k ∈ s.hd)).any id)
structure Mid where
  ins : List Int
  wt : List Int
  hd : List Int
  hk : Int
  ev : List Ev
def mid (p : Pt) (s : Sn) (t : Int) : Mid :=
  if enters p s t = true then ⟨sortI (home p s (t - 1) ++ comers p s t), [], s.hd.filter fun k => !decide (k ∈ comers p s t), s.hk + ((comers p s t).filter fun k => decide (k ∈ s.hd)).length, (comers p s t).map fun k => ev1 "enter" k⟩
  else ⟨[], comers p s t, s.hd, s.hk, (comers p s t).map fun k => ev1 "wait" k⟩
def lvs (p : Pt) (m : Mid) (t : Int) : List Int := m.ins.filter fun k => !wh p k t
def takeGo (p : Pt) (M t hk : Int) : List Int → List Int → List Ev → List Int × List Ev
  | [], tk, ev => (tk, ev)
  | k :: ks, tk, ev => if (decide ((tk.length : Int) < hk) && tkk p M k t) = true then takeGo p M t hk ks (tk ++ [k]) (ev ++ [ev1 "leave" k] ++ [ev1 "take" k]) else takeGo p M t hk ks tk (ev ++ [ev1 "leave" k])
def lastTake (hk : Int) (l : List Int) (em : Bool) (a : List Int × List Ev) : List Int × List Ev :=
  if (!decide (l = []) && (em && (decide (a.1 = []) && decide (0 < hk)))) = true then (a.1 ++ [l.getLastD 0], a.2 ++ [ev1 "take" (l.getLastD 0)]) else a
def opens (op : Bool) (ins l : List Int) (em : Bool) (a : List Int × List Ev) : Bool × List Ev :=
  if (!decide (l = []) && em) = true then (decide (a.1 = []), if decide (a.1 = []) = true then a.2 ++ [evOpen] else a.2) else (if (!decide (ins = [])) = true then (false, a.2) else (op, a.2))
def after (p : Pt) (M : Int) (s : Sn) (t : Int) : Sn × List Ev :=
  let m := mid p s t
  let l := lvs p m t
  let em := decide ((l.length : Int) = m.ins.length)
  let b := lastTake m.hk l em (takeGo p M t m.hk l [] m.ev)
  let c := opens s.op m.ins l em b
  (⟨m.wt, sortI (m.hd ++ b.1), m.hk - b.1.length, c.1⟩, c.2)
def AE (h sc : Mir.D) (t : Int) (a3 a4 a5 a6 a7 a8 a9 a10 a11 a12 a13 a14 : Option Mir.D) : Mir.Env := [some h, some sc, some (.int t), a3, a4, a5, a6, a7, a8, a9, a10, a11, a12, a13, a14]
abbrev iD (l : List Int) : Option Mir.D := some (.lst (l.map .int))
abbrev iT (l : List Int) : Option Mir.D := some (.tup (l.map .int))
abbrev eD (t : Int) (l : List Ev) : Option Mir.D := some (.lst (l.map (evD t)))
theorem filt_len {α : Type} (p : α → Bool) (l : List α) : (l.filter p).length ≤ l.length := List.length_filter_le _ _
theorem comers_len (p : Pt) (s : Sn) (t : Int) : (comers p s t).length ≤ p.ts.length := Nat.le_trans (filt_len _ _) (by rw [len_rgI]; exact Nat.le_refl _)
theorem home_len (p : Pt) (s : Sn) (t : Int) : (home p s t).length ≤ p.ts.length := by
  unfold home
  split
  · rw [len_rgI]; exact Nat.le_refl _
  · exact Nat.le_trans (filt_len _ _) (by rw [len_rgI]; exact Nat.le_refl _)
theorem home_mem {p : Pt} {s : Sn} {t k : Int} (h : k ∈ home p s t) : 0 ≤ k ∧ k < p.ts.length := by
  unfold home at h
  split at h
  · exact mem_rgI.mp h
  · exact mem_rgI.mp (List.mem_filter.mp h).1
theorem comers_mem {p : Pt} {s : Sn} {t k : Int} (h : k ∈ comers p s t) : 0 ≤ k ∧ k < p.ts.length := mem_rgI.mp (List.mem_filter.mp h).1
theorem ins_mem {p : Pt} {s : Sn} {t k : Int} (h : k ∈ (mid p s t).ins) : 0 ≤ k ∧ k < p.ts.length := by
  unfold mid at h
  split at h
  · have h := (sortI_perm _).mem_iff.mp h
    rcases List.mem_append.mp h with h | h
    · exact home_mem h
    · exact comers_mem h
  · cases h
theorem ins_len (p : Pt) (s : Sn) (t : Int) : (mid p s t).ins.length ≤ 2 * p.ts.length := by
  unfold mid
  split
  · show (sortI _).length ≤ _
    rw [(sortI_perm _).length_eq, List.length_append]
    have := home_len p s (t - 1)
    have := comers_len p s t
    omega
  · exact Nat.zero_le _
theorem midev_len (p : Pt) (s : Sn) (t : Int) : (mid p s t).ev.length ≤ p.ts.length := by
  unfold mid
  split
  · show (List.map _ _).length ≤ _
    rw [List.length_map]; exact comers_len p s t
  · show (List.map _ _).length ≤ _
    rw [List.length_map]; exact comers_len p s t
section
variable {p : Pt} (h : p.Ok) {M : Int} (hM : M ≠ 0) {s : Sn} {t : Int}
theorem it_rg {env : Mir.Env} (h0 : env[0]? = some (some (p.H M))) (h6 : p.ts.length ≤ 6) : iRng1M (aCons (eProp 0 d_House_persons (eVar 0)) aNil) env = .ok ((rgI p.ts.length).map .int) env := by
  rw [k_rng1 (k_prop (k_var h0) (persons_spec p M)) (by omega), ← rangeL_rgI]
  rfl
theorem k_wants (h : p.Ok) {env : Mir.Env} {i : Nat} {k : Int} (h0 : env[0]? = some (some (p.H M))) (h1 : env[i]? = some (some (.int k))) (h2 : env[2]? = some (some (.int t))) (hk : 0 ≤ k ∧ k < p.ts.length) : mTest (eMeth 0 d_House_wants_home [] (eVar 0) (aCons (eVar i) (aCons (eVar 2) aNil))) env = .ok (wh p k t) env :=
  k_test (k_meth (k_var h0) (k_two (k_var h1) (k_var h2)) (wants_spec h M hk.1 hk.2))
end
end K09
namespace K09
open PySem PySem.Spec PyProof.Rows L2 Mir
section
variable {p : Pt} {M : Int} {s : Sn} {t : Int}
theorem take_loop (hM : M ≠ 0) {h sc : Mir.D} (hh : h = p.H M) {a3 a4 a6 a9 a10 a11 a13 a14 : Option Mir.D} {hk : Int} : ∀ (ls tk : List Int) (ev : List Ev) (x : Option Mir.D), tk.length + ls.length ≤ 1000 → ev.length + 2 * ls.length ≤ 1000 →
    ∃ y, forGo (gSet 8) (sSeq (sApp 5 (eTup (aCons (eVar 2) (aCons (eC c_LEAVE) (aCons (eVar 8) aNil)))))
  (sIf (mAnd (mTest (e2 oGtI (eVar 12) (eA (A1 oLen) (aCons (eVar 7) aNil)))) (mTest (eMeth 0 d_House_takes_key [] (eVar 0) (aCons (eVar 8) (aCons (eVar 2) aNil))))) (sSeq (sApp 7 (eVar 8))
  (sApp 5 (eTup (aCons (eVar 2) (aCons (eC c_TAKE) (aCons (eVar 8) aNil)))))) sNext)) (ls.map .int) (AE h sc t a3 a4 (eD t ev) a6 (iD tk) x a9 a10 a11 (some (.int hk)) a13 a14) =
      .next (AE h sc t a3 a4 (eD t (takeGo p M t hk ls tk ev).2) a6 (iD (takeGo p M t hk ls tk ev).1) y a9 a10 a11 (some (.int hk)) a13 a14)
  | [], tk, ev, x, _, _ => ⟨x, rfl⟩
  | k :: ks, tk, ev, x, h1, h2 => by
    subst hh
    rw [List.length_cons] at h1 h2
    have s1 : (sApp 5 (eTup (aCons (eVar 2) (aCons (eC c_LEAVE) (aCons (eVar 8) aNil))))) (AE (p.H M) sc t a3 a4 (eD t ev) a6 (iD tk) (some (.int k)) a9 a10 a11 (some (.int hk)) a13 a14) = .next (AE (p.H M) sc t a3 a4 (eD t (ev ++ [ev1 "leave" k])) a6 (iD tk) (some (.int k)) a9 a10 a11 (some (.int hk)) a13 a14) := by
      refine (w_app (ds := ev.map (evD t)) rfl (k_tup (k_three (k_var rfl) k_c (k_var rfl))) (by rw [List.length_map]; omega)).trans ?_
      show Fl.next _ = Fl.next (AE _ _ _ _ _ (some (.lst ((ev ++ [ev1 "leave" k]).map (evD t)))) _ _ _ _ _ _ _ _ _)
      rw [List.map_append]
      rfl
    have s2 : (mAnd (mTest (e2 oGtI (eVar 12) (eA (A1 oLen) (aCons (eVar 7) aNil)))) (mTest (eMeth 0 d_House_takes_key [] (eVar 0) (aCons (eVar 8) (aCons (eVar 2) aNil))))) (AE (p.H M) sc t a3 a4 (eD t (ev ++ [ev1 "leave" k])) a6 (iD tk) (some (.int k)) a9 a10 a11 (some (.int hk)) a13 a14) = .ok (decide ((tk.length : Int) < hk) && tkk p M k t) (AE (p.H M) sc t a3 a4 (eD t (ev ++ [ev1 "leave" k])) a6 (iD tk) (some (.int k)) a9 a10 a11 (some (.int hk)) a13 a14) :=
      k_and (k_test (k_e2 (k_var rfl) (k_A1 (k_var rfl) (oLen_lst _)) (by rw [List.length_map]; exact oGtI_int _ _))) fun _ => k_test (k_meth (k_var rfl) (k_two (k_var rfl) (k_var rfl)) (takes_spec hM))
    unfold takeGo
    by_cases c : (decide ((tk.length : Int) < hk) && tkk p M k t) = true
    · rw [if_pos c]
      obtain ⟨y, ih⟩ := take_loop hM rfl (sc := sc) (a3 := a3) (a4 := a4) (a6 := a6) (a9 := a9) (a10 := a10) (a11 := a11) (a13 := a13) (a14 := a14) (hk := hk) ks (tk ++ [k]) (ev ++ [ev1 "leave" k] ++ [ev1 "take" k]) (some (.int k)) (by rw [List.length_append, List.length_singleton]; omega) (by rw [List.length_append, List.length_append, List.length_singleton, List.length_singleton]; omega)
      refine ⟨y, ?_⟩
      rw [List.map_cons]
      unfold forGo
      rw [ap_gSet]
      dsimp only
      have s3 : (sSeq (sApp 5 (eTup (aCons (eVar 2) (aCons (eC c_LEAVE) (aCons (eVar 8) aNil)))))
  (sIf (mAnd (mTest (e2 oGtI (eVar 12) (eA (A1 oLen) (aCons (eVar 7) aNil)))) (mTest (eMeth 0 d_House_takes_key [] (eVar 0) (aCons (eVar 8) (aCons (eVar 2) aNil))))) (sSeq (sApp 7 (eVar 8))
  (sApp 5 (eTup (aCons (eVar 2) (aCons (eC c_TAKE) (aCons (eVar 8) aNil)))))) sNext)) (AE (p.H M) sc t a3 a4 (eD t ev) a6 (iD tk) (some (.int k)) a9 a10 a11 (some (.int hk)) a13 a14) = .next (AE (p.H M) sc t a3 a4 (eD t (ev ++ [ev1 "leave" k] ++ [ev1 "take" k])) a6 (iD (tk ++ [k])) (some (.int k)) a9 a10 a11 (some (.int hk)) a13 a14) := by
        refine (w_seq s1).trans ?_
        rw [w_if s2, c, if_pos rfl]
        refine (w_seq (e := AE (p.H M) sc t a3 a4 (eD t (ev ++ [ev1 "leave" k])) a6 (iD (tk ++ [k])) (some (.int k)) a9 a10 a11 (some (.int hk)) a13 a14) ?_).trans ?_
        · refine (w_app (ds := tk.map .int) rfl (k_var rfl) (by rw [List.length_map]; omega)).trans ?_
          show Fl.next _ = Fl.next (AE _ _ _ _ _ _ _ (some (.lst ((tk ++ [k]).map .int))) _ _ _ _ _ _ _)
          rw [List.map_append]
          rfl
        · refine (w_app (ds := (ev ++ [ev1 "leave" k]).map (evD t)) rfl (k_tup (k_three (k_var rfl) k_c (k_var rfl))) (by rw [List.length_map, List.length_append, List.length_singleton]; omega)).trans ?_
          show Fl.next _ = Fl.next (AE _ _ _ _ _ (some (.lst ((ev ++ [ev1 "leave" k] ++ [ev1 "take" k]).map (evD t)))) _ _ _ _ _ _ _ _ _)
          rw [List.map_append (l₁ := ev ++ [ev1 "leave" k])]
          rfl
      have s3' := s3
      rw [show List.set (AE (p.H M) sc t a3 a4 (eD t ev) a6 (iD tk) x a9 a10 a11 (some (.int hk)) a13 a14) 8 (some (D.int k)) = AE (p.H M) sc t a3 a4 (eD t ev) a6 (iD tk) (some (.int k)) a9 a10 a11 (some (.int hk)) a13 a14 from rfl, s3]
      exact ih
    · rw [if_neg c]
      obtain ⟨y, ih⟩ := take_loop hM rfl (sc := sc) (a3 := a3) (a4 := a4) (a6 := a6) (a9 := a9) (a10 := a10) (a11 := a11) (a13 := a13) (a14 := a14) (hk := hk) ks tk (ev ++ [ev1 "leave" k]) (some (.int k)) (by omega) (by rw [List.length_append, List.length_singleton]; omega)
      refine ⟨y, ?_⟩
      rw [List.map_cons]
      unfold forGo
      rw [ap_gSet]
      dsimp only
      have s3 : (sSeq (sApp 5 (eTup (aCons (eVar 2) (aCons (eC c_LEAVE) (aCons (eVar 8) aNil)))))
  (sIf (mAnd (mTest (e2 oGtI (eVar 12) (eA (A1 oLen) (aCons (eVar 7) aNil)))) (mTest (eMeth 0 d_House_takes_key [] (eVar 0) (aCons (eVar 8) (aCons (eVar 2) aNil))))) (sSeq (sApp 7 (eVar 8))
  (sApp 5 (eTup (aCons (eVar 2) (aCons (eC c_TAKE) (aCons (eVar 8) aNil)))))) sNext)) (AE (p.H M) sc t a3 a4 (eD t ev) a6 (iD tk) (some (.int k)) a9 a10 a11 (some (.int hk)) a13 a14) = .next (AE (p.H M) sc t a3 a4 (eD t (ev ++ [ev1 "leave" k])) a6 (iD tk) (some (.int k)) a9 a10 a11 (some (.int hk)) a13 a14) := by
        refine (w_seq s1).trans ?_
        rw [w_if s2, Bool.eq_false_iff.mpr c]
        rfl
      rw [show List.set (AE (p.H M) sc t a3 a4 (eD t ev) a6 (iD tk) x a9 a10 a11 (some (.int hk)) a13 a14) 8 (some (D.int k)) = AE (p.H M) sc t a3 a4 (eD t ev) a6 (iD tk) (some (.int k)) a9 a10 a11 (some (.int hk)) a13 a14 from rfl, s3]
      exact ih
end
end K09
namespace K09
open PySem PySem.Spec PyProof.Rows L2 Mir
theorem atI_last {l : List Int} (h : l ≠ []) : atI (l.map D.int) (-1) = some (.int (l.getLastD 0)) := by
  have hl : 0 < l.length := List.length_pos_iff.mpr h
  have e1 : ixN (l.map D.int).length (-1) = some (l.length - 1) := by
    unfold ixN
    rw [if_neg (by decide), List.length_map, if_pos (by omega)]
    congr 1
    omega
  unfold atI
  rw [e1]
  show (l.map D.int)[l.length - 1]? = _
  rw [List.getElem?_map, List.getElem?_eq_getElem (by omega)]
  rw [List.getLastD_eq_getLast?, List.getLast?_eq_getElem?, List.getElem?_eq_getElem (by omega)]
  rfl
section
variable {p : Pt} {M : Int} {s : Sn} {t : Int}
theorem after_run (h : p.Ok) (hM : M ≠ 0) (hh : s.hd.length ≤ 100) : ∃ e, b_after_tick (AE (p.H M) s.D t none none none none none none none none none none none none) = .ret (.tup [(after p M s t).1.D, .lst ((after p M s t).2.map (evD t))]) e := by
  have h6 := h.t6
  have hl1 := home_len p s (t - 1)
  have cl1 := comers_len p s t
  have hins : ∀ k ∈ (mid p s t).ins, 0 ≤ k ∧ k < p.ts.length := fun k m => ins_mem m
  have hil := ins_len p s t
  have hel := midev_len p s t
  unfold b_after_tick
  refine w_ex (e := AE (p.H M) s.D t none none none none none none none (iT s.wt) (iT s.hd) (some (.int s.hk)) (some (.bl s.op)) none) rfl ?_
  refine w_ex (e := AE (p.H M) s.D t (iD (home p s (t - 1))) none none none none none none (iT s.wt) (iT s.hd) (some (.int s.hk)) (some (.bl s.op)) none) ?_ ?_
  · exact w_asg (k_call0 (k_three (k_var rfl) (k_var rfl) (k_e2 (k_var rfl) k_c (oSub_int t 1))) (home_spec h M s (t - 1)))
  refine w_ex (e := AE (p.H M) s.D t (iD (home p s (t - 1))) (iD (comers p s t)) none none none none none (iT s.wt) (iT s.hd) (some (.int s.hk)) (some (.bl s.op)) none) ?_ ?_
  · refine (w_asg (k_lc D.int (fun k => !decide (k ∈ home p s (t - 1)) && wh p k t) D.int (by show 8 < 15; decide) (it_rg (M := M) rfl h6) (by rw [len_rgI]; omega) (fun k m => k_and (k_test (k_e2 (k_var rfl) (k_var rfl) (oNotIn_intsL k _))) fun _ => k_wants (M := M) h rfl rfl rfl (mem_rgI.mp m)) (fun k m _ => k_var rfl))).trans ?_
    rfl
  refine w_ex (e := AE (p.H M) s.D t (iD (home p s (t - 1))) (iD (comers p s t)) (some (.lst [])) none none none none (iT s.wt) (iT s.hd) (some (.int s.hk)) (some (.bl s.op)) none) ?_ ?_
  · exact w_own (k_lst k_nil) (by show 5 < 15; decide)
  refine w_ex (e := AE (p.H M) s.D t (iD (home p s (t - 1))) (iD (comers p s t)) (eD t (mid p s t).ev) none none none none (iT (mid p s t).wt) (iT (mid p s t).hd) (some (.int (mid p s t).hk)) (some (.bl s.op)) (iD (mid p s t).ins)) ?_ ?_
  · refine (w_if (p := enters p s t) ?_).trans ?_
    · refine k_or (k_test (k_e2 (k_var rfl) (k_lst k_nil) (oNe_ints _ []))) fun _ => k_or (k_test (k_var rfl)) fun _ => k_test (k_A1 (x := .lst (((comers p s t).map fun k => decide (k ∈ s.hd)).map D.bl)) ?_ (oAny_bls _))
      rw [List.map_map]
      exact k_lcM D.int (D.bl ∘ fun k => decide (k ∈ s.hd)) (by show 8 < 15; decide) (k_itM (k_var rfl) rfl) (by omega) fun k m => k_e2 (k_var rfl) (k_var rfl) (oIn_intsT k s.hd)
    · unfold mid
      cases c : enters p s t with
      | true =>
        rw [if_pos rfl, if_pos rfl]
        refine (w_seq (e := AE (p.H M) s.D t (iD (home p s (t - 1))) (iD (comers p s t)) (eD t ((comers p s t).map fun k => ev1 "enter" k)) none none none none (iT s.wt) (iT s.hd) (some (.int s.hk)) (some (.bl s.op)) none) ?_).trans ?_
        · refine (w_ext (ds := []) rfl (k_lcM D.int (evD t ∘ fun k => ev1 "enter" k) (by show 8 < 15; decide) (k_itM (k_var rfl) rfl) (by omega) fun k m => k_tup (k_three (k_var rfl) k_c (k_var rfl))) (by rw [List.length_map]; simp only [List.length_nil]; omega)).trans ?_
          rw [← List.map_map]
          rfl
        refine (w_seq (e := AE (p.H M) s.D t (iD (home p s (t - 1))) (iD (comers p s t)) (eD t ((comers p s t).map fun k => ev1 "enter" k)) none none none none (iT s.wt) (iT s.hd) (some (.int (s.hk + ((comers p s t).filter fun k => decide (k ∈ s.hd)).length))) (some (.bl s.op)) none) ?_).trans ?_
        · refine (w_aug (k := s.hk) rfl (k_A1 (k_lc D.int (fun k => decide (k ∈ s.hd)) D.int (by show 8 < 15; decide) (k_itM (k_var rfl) rfl) (by omega) (fun k m => k_test (k_e2 (k_var rfl) (k_var rfl) (oIn_intsT k s.hd))) (fun k m _ => k_var rfl)) (oLen_lst _))).trans ?_
          rw [List.length_map]
          rfl
        refine (w_seq (e := AE (p.H M) s.D t (iD (home p s (t - 1))) (iD (comers p s t)) (eD t ((comers p s t).map fun k => ev1 "enter" k)) none none none none (iT s.wt) (iT (s.hd.filter fun k => !decide (k ∈ comers p s t))) (some (.int (s.hk + ((comers p s t).filter fun k => decide (k ∈ s.hd)).length))) (some (.bl s.op)) none) ?_).trans ?_
        · exact w_asg (k_A1 (k_lc D.int (fun k => !decide (k ∈ comers p s t)) D.int (by show 8 < 15; decide) (k_itM (k_var rfl) rfl) (by omega) (fun k m => k_test (k_e2 (k_var rfl) (k_var rfl) (oNotIn_intsL k _))) (fun k m _ => k_var rfl)) (oTuple_lst _))
        refine (w_seq (e := AE (p.H M) s.D t (iD (home p s (t - 1))) (iD (comers p s t)) (eD t ((comers p s t).map fun k => ev1 "enter" k)) none none none none (iT []) (iT (s.hd.filter fun k => !decide (k ∈ comers p s t))) (some (.int (s.hk + ((comers p s t).filter fun k => decide (k ∈ s.hd)).length))) (some (.bl s.op)) none) ?_).trans ?_
        · exact w_asg (k_tup k_nil)
        exact w_asg (k_A1 (k_e2 (k_var rfl) (k_var rfl) (oAdd_intsL (by omega))) (oSort_ints _))
      | false =>
        rw [if_neg (by decide), if_neg (by decide)]
        refine (w_seq (e := AE (p.H M) s.D t (iD (home p s (t - 1))) (iD (comers p s t)) (some (.lst [])) none none none none (iT (comers p s t)) (iT s.hd) (some (.int s.hk)) (some (.bl s.op)) none) ?_).trans ?_
        · exact w_asg (k_A1 (k_var rfl) (oTuple_lst _))
        refine (w_seq (e := AE (p.H M) s.D t (iD (home p s (t - 1))) (iD (comers p s t)) (eD t ((comers p s t).map fun k => ev1 "wait" k)) none none none none (iT (comers p s t)) (iT s.hd) (some (.int s.hk)) (some (.bl s.op)) none) ?_).trans ?_
        · refine (w_ext (ds := []) rfl (k_lcM D.int (evD t ∘ fun k => ev1 "wait" k) (by show 8 < 15; decide) (k_itM (k_var rfl) rfl) (by omega) fun k m => k_tup (k_three (k_var rfl) k_c (k_var rfl))) (by rw [List.length_map]; simp only [List.length_nil]; omega)).trans ?_
          rw [← List.map_map]
          rfl
        exact w_asg (k_lst k_nil)
  -- leavers
  have hmd : (mid p s t).hd.length ≤ 100 := by
    unfold mid
    split
    · exact Nat.le_trans (filt_len _ _) hh
    · exact hh
  unfold after
  generalize hm : mid p s t = m at hins hil hel hmd ⊢
  dsimp only
  have hll : (lvs p m t).length ≤ m.ins.length := filt_len _ _
  refine w_ex (e := AE (p.H M) s.D t (iD (home p s (t - 1))) (iD (comers p s t)) (eD t m.ev) (iD (lvs p m t)) none none none (iT m.wt) (iT m.hd) (some (.int m.hk)) (some (.bl s.op)) (iD m.ins)) ?_ ?_
  · exact w_asg (k_lc D.int (fun k => !wh p k t) D.int (by show 8 < 15; decide) (k_itM (k_var rfl) rfl) (by omega) (fun k q => k_not (k_wants (M := M) h rfl rfl rfl (hins k q))) (fun k m _ => k_var rfl))
  generalize lvs p m t = l at hll ⊢
  refine w_ex (e := AE (p.H M) s.D t (iD (home p s (t - 1))) (iD (comers p s t)) (eD t m.ev) (iD l) (iD []) none none (iT m.wt) (iT m.hd) (some (.int m.hk)) (some (.bl s.op)) (iD m.ins)) ?_ ?_
  · exact w_own (k_lst k_nil) (by show 7 < 15; decide)
  obtain ⟨y, hy⟩ := take_loop hM (h := p.H M) (sc := s.D) (t := t) rfl (a3 := iD (home p s (t - 1))) (a4 := iD (comers p s t)) (a6 := iD l) (a9 := none) (a10 := iT m.wt) (a11 := iT m.hd) (a13 := some (.bl s.op)) (a14 := iD m.ins) (hk := m.hk) l [] m.ev none (by simp only [List.length_nil]; omega) (by omega)
  have tl : ∀ (ls tk : List Int) (ev : List Ev), (takeGo p M t m.hk ls tk ev).1.length ≤ tk.length + ls.length ∧ (takeGo p M t m.hk ls tk ev).2.length ≤ ev.length + 2 * ls.length := by
    intro ls
    induction ls with
    | nil => intro tk ev; exact ⟨Nat.le_refl _, Nat.le_refl _⟩
    | cons k ks ih =>
      intro tk ev
      unfold takeGo
      split
      · have := ih (tk ++ [k]) (ev ++ [ev1 "leave" k] ++ [ev1 "take" k])
        simp only [List.length_append, List.length_cons, List.length_nil] at this ⊢
        omega
      · have := ih tk (ev ++ [ev1 "leave" k])
        simp only [List.length_append, List.length_cons, List.length_nil] at this ⊢
        omega
  have tl := tl l [] m.ev
  simp only [List.length_nil] at tl
  generalize takeGo p M t m.hk l [] m.ev = a at hy tl ⊢
  refine w_ex (e := AE (p.H M) s.D t (iD (home p s (t - 1))) (iD (comers p s t)) (eD t a.2) (iD l) (iD a.1) y none (iT m.wt) (iT m.hd) (some (.int m.hk)) (some (.bl s.op)) (iD m.ins)) ?_ ?_
  · rw [ap_sFor, k_itM (k_var rfl) rfl]
    exact hy
  refine w_ex (e := AE (p.H M) s.D t (iD (home p s (t - 1))) (iD (comers p s t)) (eD t a.2) (iD l) (iD a.1) y (some (.bl (decide ((l.length : Int) = m.ins.length)))) (iT m.wt) (iT m.hd) (some (.int m.hk)) (some (.bl s.op)) (iD m.ins)) ?_ ?_
  · refine w_asg (k_e2 (k_A1 (k_var rfl) (oLen_lst _)) (k_A1 (k_var rfl) (oLen_lst _)) ?_)
    rw [List.length_map, List.length_map]
    exact oEq_int _ _
  generalize decide ((l.length : Int) = m.ins.length) = em
  -- the last one takes a key
  refine w_ex (e := AE (p.H M) s.D t (iD (home p s (t - 1))) (iD (comers p s t)) (eD t (lastTake m.hk l em a).2) (iD l) (iD (lastTake m.hk l em a).1) y (some (.bl em)) (iT m.wt) (iT m.hd) (some (.int m.hk)) (some (.bl s.op)) (iD m.ins)) ?_ ?_
  · refine (w_if (p := !decide (l = []) && (em && (decide (a.1 = []) && decide (0 < m.hk)))) ?_).trans ?_
    · exact k_and (k_test (k_e2 (k_var rfl) (k_lst k_nil) (oNe_ints _ []))) fun _ => k_and (k_test (k_var rfl)) fun _ => k_and (k_test (k_e2 (k_var rfl) (k_lst k_nil) (oEq_ints _ []))) fun _ => k_test (k_e2 (k_var rfl) k_c (oGtI_int _ _))
    · unfold lastTake
      by_cases c : (!decide (l = []) && (em && (decide (a.1 = []) && decide (0 < m.hk)))) = true
      · rw [if_pos c, if_pos c]
        have hne : l ≠ [] := by
          intro z
          rw [z] at c
          simp at c
        have hlast : atI (l.map D.int) (-1) = some (.int (l.getLastD 0)) := atI_last hne
        refine (w_seq (e := AE (p.H M) s.D t (iD (home p s (t - 1))) (iD (comers p s t)) (eD t a.2) (iD l) (iD (a.1 ++ [l.getLastD 0])) y (some (.bl em)) (iT m.wt) (iT m.hd) (some (.int m.hk)) (some (.bl s.op)) (iD m.ins)) ?_).trans ?_
        · refine (w_app (ds := a.1.map .int) rfl (k_e2 (k_var rfl) (k_e1 k_c (oNeg_int 1)) hlast) (by rw [List.length_map]; omega)).trans ?_
          show Fl.next _ = Fl.next (AE _ _ _ _ _ _ _ (some (.lst ((a.1 ++ [l.getLastD 0]).map .int))) _ _ _ _ _ _ _)
          rw [List.map_append]
          rfl
        · refine (w_app (ds := a.2.map (evD t)) rfl (k_tup (k_three (k_var rfl) k_c (k_e2 (k_var rfl) (k_e1 k_c (oNeg_int 1)) hlast))) (by rw [List.length_map]; omega)).trans ?_
          show Fl.next _ = Fl.next (AE _ _ _ _ _ (some (.lst ((a.2 ++ [ev1 "take" (l.getLastD 0)]).map (evD t)))) _ _ _ _ _ _ _ _ _)
          rw [List.map_append]
          rfl
      · rw [if_neg c, if_neg c]
        rfl
  have bl : (lastTake m.hk l em a).1.length ≤ a.1.length + 1 ∧ (lastTake m.hk l em a).2.length ≤ a.2.length + 1 := by
    unfold lastTake
    split
    · simp only [List.length_append, List.length_cons, List.length_nil]
      omega
    · omega
  generalize lastTake m.hk l em a = b at bl ⊢
  refine w_ex (e := AE (p.H M) s.D t (iD (home p s (t - 1))) (iD (comers p s t)) (eD t (opens s.op m.ins l em b).2) (iD l) (iD b.1) y (some (.bl em)) (iT m.wt) (iT m.hd) (some (.int m.hk)) (some (.bl (opens s.op m.ins l em b).1)) (iD m.ins)) ?_ ?_
  · refine (w_if (p := !decide (l = []) && em) ?_).trans ?_
    · exact k_and (k_test (k_e2 (k_var rfl) (k_lst k_nil) (oNe_ints _ []))) fun _ => k_test (k_var rfl)
    · unfold opens
      by_cases c : (!decide (l = []) && em) = true
      · rw [if_pos c, if_pos c]
        refine (w_seq (e := AE (p.H M) s.D t (iD (home p s (t - 1))) (iD (comers p s t)) (eD t b.2) (iD l) (iD b.1) y (some (.bl em)) (iT m.wt) (iT m.hd) (some (.int m.hk)) (some (.bl (decide (b.1 = [])))) (iD m.ins)) ?_).trans ?_
        · exact w_asg (k_up (k_e2 (k_var rfl) (k_lst k_nil) (oEq_ints _ [])) rfl)
        · refine (w_if (p := decide (b.1 = [])) (k_test (k_var rfl))).trans ?_
          dsimp only
          by_cases c2 : decide (b.1 = []) = true
          · rw [if_pos c2, if_pos c2]
            refine (w_app (ds := b.2.map (evD t)) rfl (k_tup (k_three (k_var rfl) k_c k_c)) (by rw [List.length_map]; omega)).trans ?_
            show Fl.next _ = Fl.next (AE _ _ _ _ _ (some (.lst ((b.2 ++ [evOpen]).map (evD t)))) _ _ _ _ _ _ _ _ _)
            rw [List.map_append]
            rfl
          · rw [if_neg c2, if_neg c2]
            rfl
      · rw [if_neg c, if_neg c]
        refine (w_if (p := !decide (m.ins = [])) (k_test (k_e2 (k_var rfl) (k_lst k_nil) (oNe_ints _ [])))).trans ?_
        by_cases c2 : (!decide (m.ins = [])) = true
        · rw [if_pos c2, if_pos c2]
          exact w_asg k_c
        · rw [if_neg c2, if_neg c2]
          rfl
  refine ⟨AE (p.H M) s.D t (iD (home p s (t - 1))) (iD (comers p s t)) (eD t (opens s.op m.ins l em b).2) (iD l) (iD b.1) y (some (.bl em)) (iT m.wt) (iT m.hd) (some (.int m.hk)) (some (.bl (opens s.op m.ins l em b).1)) (iD m.ins), ?_⟩
  refine w_ret (k_tup (k_two (k_tup (k_cons (k_var rfl) (k_three (k_A1 (k_A1 (k_e2 (k_A1 (k_var rfl) (oList_tup _)) (k_var rfl) (oAdd_intsL (by omega))) (oSort_ints _)) (oTuple_lst _)) (k_e2 (k_var rfl) (k_A1 (k_var rfl) (oLen_lst _)) (oSub_int _ _)) (k_var rfl)))) (k_var rfl))) |>.trans ?_
  rw [List.length_map]
  rfl
theorem after_spec (h : p.Ok) (hM : M ≠ 0) (hh : s.hd.length ≤ 100) : d_after_tick [p.H M, s.D, .int t] = .ok (.tup [(after p M s t).1.D, .lst ((after p M s t).2.map (evD t))]) := by
  obtain ⟨e, he⟩ := after_run (t := t) h hM hh
  exact runF_ret he rfl
def first (p : Pt) : Sn := ⟨[], [], p.keys, false⟩
theorem first_spec (p : Pt) (M : Int) : d_first_scene [p.H M] = .ok (first p).D := by
  refine runF_ret (e := [some (p.H M)]) ?_ rfl
  exact w_ret (k_tup (k_cons (k_tup k_nil (Nat.zero_le _)) (k_three (k_tup k_nil (Nat.zero_le _)) (k_fld (k_var rfl) rfl) k_c)))
end
end K09
namespace K09
open PySem PySem.Spec PyProof.Rows L2 Mir
structure Inv (p : Pt) (s : Sn) (u : Int) : Prop where
  w : s.wt = [] ∨ s.wt = (rgI p.ts.length).filter fun k => wh p k u
  l : s.hd.Pairwise (· < ·)
  r : ∀ k ∈ s.hd, 0 ≤ k ∧ k < p.ts.length
  k0 : 0 ≤ s.hk
  ks : s.hk + s.hd.length = p.keys
  d : ∀ k ∈ s.hd, k ∉ home p s u
theorem lt_nodup {l : List Int} (h : l.Pairwise (· < ·)) : l.Nodup := h.imp fun {a b} q => by omega
theorem rgI_lt (n : Nat) : (rgI n).Pairwise (· < ·) := by
  unfold rgI
  rw [List.pairwise_map]
  exact (List.pairwise_lt_range (n := n)).imp fun {a b} q => Int.ofNat_lt.mpr q
theorem rgI_nodup (n : Nat) : (rgI n).Nodup := lt_nodup (rgI_lt n)
theorem filter_split {α : Type} (p : α → Bool) (l : List α) : (l.filter p).length + (l.filter fun x => !p x).length = l.length := by
  induction l with
  | nil => rfl
  | cons x l ih =>
    cases q : p x with
    | true => rw [List.filter_cons_of_pos q, List.filter_cons_of_neg (by simp [q])]; simp only [List.length_cons]; omega
    | false => rw [List.filter_cons_of_neg (by simp [q]), List.filter_cons_of_pos (by simp [q])]; simp only [List.length_cons]; omega
theorem inter_len {a b : List Int} (ha : a.Nodup) (hb : b.Nodup) : (a.filter fun k => decide (k ∈ b)).length = (b.filter fun k => decide (k ∈ a)).length := by
  refine List.Perm.length_eq ((List.perm_ext_iff_of_nodup (ha.sublist List.filter_sublist) (hb.sublist List.filter_sublist)).mpr fun k => ?_)
  rw [List.mem_filter, List.mem_filter, decide_eq_true_iff, decide_eq_true_iff]
  exact And.comm
theorem sorted_lt {l : List Int} (h : l.Nodup) : (sortI l).Pairwise (· < ·) := by
  have h1 := sortI_le l
  have h2 : (sortI l).Nodup := (sortI_perm l).nodup_iff.mpr h
  exact (List.pairwise_and_iff.mpr ⟨h1, h2⟩).imp fun {a b} ⟨q1, q2⟩ => by omega
theorem takeGo_sub (p : Pt) (M t hk : Int) : ∀ (ls tk : List Int) (ev : List Ev), ∃ ws : List Int, (takeGo p M t hk ls tk ev).1 = tk ++ ws ∧ ws.Sublist ls ∧ ((tk.length : Int) ≤ hk → ((takeGo p M t hk ls tk ev).1.length : Int) ≤ hk)
  | [], tk, ev => ⟨[], (List.append_nil _).symm, List.Sublist.refl _, fun z => z⟩
  | k :: ks, tk, ev => by
    unfold takeGo
    split
    · rename_i c
      obtain ⟨ws, h1, h2, h3⟩ := takeGo_sub p M t hk ks (tk ++ [k]) (ev ++ [ev1 "leave" k] ++ [ev1 "take" k])
      refine ⟨k :: ws, by rw [h1, List.append_assoc]; rfl, h2.cons₂ k, fun _ => h3 ?_⟩
      rw [Bool.and_eq_true, decide_eq_true_iff] at c
      rw [List.length_append, List.length_singleton]
      omega
    · obtain ⟨ws, h1, h2, h3⟩ := takeGo_sub p M t hk ks tk (ev ++ [ev1 "leave" k])
      exact ⟨ws, h1, h2.cons k, h3⟩
structure Took (l tk : List Int) (hk : Int) : Prop where
  nd : tk.Nodup
  sub : ∀ k ∈ tk, k ∈ l
  le : (tk.length : Int) ≤ hk
theorem took {p : Pt} {M t hk : Int} {l : List Int} {em : Bool} {ev : List Ev} (hl : l.Nodup) (h0 : 0 ≤ hk) : Took l (lastTake hk l em (takeGo p M t hk l [] ev)).1 hk := by
  obtain ⟨ws, h1, h2, h3⟩ := takeGo_sub p M t hk l [] ev
  have h3 := h3 (by simpa using h0)
  rw [List.nil_append] at h1
  unfold lastTake
  split
  · rename_i c
    simp only [Bool.and_eq_true, Bool.not_eq_true', decide_eq_true_iff, decide_eq_false_iff_not] at c
    obtain ⟨c1, c2, c3, c4⟩ := c
    have hm : l.getLastD 0 ∈ l := by
      rw [List.getLastD_eq_getLast?, List.getLast?_eq_some_getLast c1]
      exact List.getLast_mem c1
    rw [c3]
    exact ⟨by simp, fun k m => by rw [List.nil_append] at m; rw [List.mem_singleton.mp m]; exact hm, by simp; omega⟩
  · exact ⟨by rw [h1]; exact hl.sublist h2, fun k m => h2.subset (by rw [← h1]; exact m), h3⟩
theorem home_nil {p : Pt} {s : Sn} {t : Int} (c : ¬ enters p s t = true) : home p s (t - 1) = [] ∧ s.op = false ∧ ∀ k ∈ comers p s t, k ∉ s.hd := by
  unfold enters at c
  simp only [Bool.or_eq_true, Bool.not_eq_true', decide_eq_false_iff_not, not_or, Bool.not_eq_true] at c
  obtain ⟨c1, c2, c3⟩ := c
  refine ⟨Classical.byContradiction fun z => c1 z, c2, fun k m z => ?_⟩
  rw [List.any_eq_false] at c3
  exact c3 (decide (k ∈ s.hd)) (List.mem_map.mpr ⟨k, m, rfl⟩) (by simpa using z)
theorem home_nodup (p : Pt) (s : Sn) (t : Int) : (home p s t).Nodup := by
  unfold home
  split
  · exact rgI_nodup _
  · exact (rgI_nodup _).sublist List.filter_sublist
theorem comers_nodup (p : Pt) (s : Sn) (t : Int) : (comers p s t).Nodup := (rgI_nodup _).sublist List.filter_sublist
theorem mid_ins {p : Pt} {s : Sn} {t : Int} : (mid p s t).ins.Nodup ∧ ∀ k ∈ (mid p s t).ins, k ∈ home p s (t - 1) ∨ k ∈ comers p s t := by
  unfold mid
  split
  · refine ⟨(sortI_perm _).nodup_iff.mpr (List.nodup_append.mpr ⟨home_nodup _ _ _, comers_nodup _ _ _, fun a ha b hb z => ?_⟩), fun k m => List.mem_append.mp ((sortI_perm _).mem_iff.mp m)⟩
    subst z
    have := (List.mem_filter.mp hb).2
    simp only [Bool.and_eq_true, Bool.not_eq_true', decide_eq_false_iff_not] at this
    exact this.1 ha
  · exact ⟨List.nodup_nil, fun k m => (nomatch m)⟩
theorem mid_hd {p : Pt} {s : Sn} {t : Int} (I : Inv p s (t - 1)) : (mid p s t).hd.Pairwise (· < ·) ∧ (∀ k ∈ (mid p s t).hd, k ∈ s.hd) ∧ 0 ≤ (mid p s t).hk ∧ (mid p s t).hk + (mid p s t).hd.length = p.keys ∧ (∀ k ∈ (mid p s t).hd, k ∉ (mid p s t).ins) ∧ ∀ k ∈ (mid p s t).hd, wh p k t = false := by
  have wf : ∀ k ∈ s.hd, k ∉ comers p s t → wh p k t = false := fun k m z => by
    cases q : wh p k t with
    | false => rfl
    | true =>
      refine absurd (List.mem_filter.mpr ⟨mem_rgI.mpr (I.r k m), ?_⟩) z
      simp only [Bool.and_eq_true, Bool.not_eq_true', decide_eq_false_iff_not]
      exact ⟨I.d k m, q⟩
  have hins := (mid_ins (p := p) (s := s) (t := t)).2
  by_cases c : enters p s t = true
  · have e : mid p s t = ⟨sortI (home p s (t - 1) ++ comers p s t), [], s.hd.filter fun k => !decide (k ∈ comers p s t), s.hk + ((comers p s t).filter fun k => decide (k ∈ s.hd)).length, (comers p s t).map fun k => ev1 "enter" k⟩ := by unfold mid; rw [if_pos c]
    rw [e] at hins ⊢
    dsimp only at hins ⊢
    have nc : ∀ k ∈ s.hd.filter fun k => !decide (k ∈ comers p s t), k ∈ s.hd ∧ k ∉ comers p s t := fun k m => by
      have := List.mem_filter.mp m
      simpa using this
    refine ⟨I.l.filter _, fun k m => (nc k m).1, by have := I.k0; omega, ?_, fun k m z => ?_, fun k m => wf k (nc k m).1 (nc k m).2⟩
    · have h1 := filter_split (fun k => decide (k ∈ comers p s t)) s.hd
      have h2 := inter_len (lt_nodup I.l) (comers_nodup p s t)
      have := I.ks
      omega
    · rcases hins k z with z | z
      · exact I.d k (nc k m).1 z
      · exact (nc k m).2 z
  · obtain ⟨n1, _, n3⟩ := home_nil c
    have e : mid p s t = ⟨[], comers p s t, s.hd, s.hk, (comers p s t).map fun k => ev1 "wait" k⟩ := by unfold mid; rw [if_neg c]
    rw [e]
    exact ⟨I.l, fun k m => m, I.k0, I.ks, fun k _ z => (nomatch z), fun k m => wf k m fun z => n3 k z m⟩
theorem inv_step {p : Pt} {M : Int} {s : Sn} {t : Int} (ht : 0 ≤ t) (I : Inv p s (t - 1)) : Inv p (after p M s t).1 t := by
  obtain ⟨a1, a2, a3, a4, a5, a6⟩ := mid_hd I
  obtain ⟨b1, b2⟩ := mid_ins (p := p) (s := s) (t := t)
  have hr : ∀ k ∈ (mid p s t).ins, 0 ≤ k ∧ k < p.ts.length := fun k m => ins_mem m
  have hw : (mid p s t).wt = [] ∨ (mid p s t).wt = (rgI p.ts.length).filter fun k => wh p k t := by
    by_cases c : enters p s t = true
    · exact .inl (by unfold mid; rw [if_pos c])
    · obtain ⟨n1, _, _⟩ := home_nil c
      refine .inr ?_
      unfold mid
      rw [if_neg c]
      show comers p s t = _
      unfold comers
      rw [n1]
      refine List.filter_congr fun k _ => ?_
      simp
  unfold after
  dsimp only
  generalize hm : mid p s t = m at a1 a2 a3 a4 a5 a6 b1 b2 hr hw ⊢
  have lm : ∀ k ∈ lvs p m t, k ∈ m.ins ∧ wh p k t = false := fun k q => by
    have := List.mem_filter.mp q
    simpa using this
  have T := took (p := p) (M := M) (t := t) (hk := m.hk) (l := lvs p m t) (em := decide (((lvs p m t).length : Int) = m.ins.length)) (ev := m.ev) (b1.sublist List.filter_sublist) a3
  generalize (lastTake m.hk (lvs p m t) (decide (((lvs p m t).length : Int) = m.ins.length)) (takeGo p M t m.hk (lvs p m t) [] m.ev)).1 = tk at T ⊢
  have mem : ∀ k, k ∈ sortI (m.hd ++ tk) ↔ k ∈ m.hd ∨ k ∈ tk := fun k => (sortI_perm _).mem_iff.trans List.mem_append
  have nd : (m.hd ++ tk).Nodup := List.nodup_append.mpr ⟨lt_nodup a1, T.nd, fun x hx y hy z => by
    subst z
    exact a5 x hx (lm x (T.sub x hy)).1⟩
  refine ⟨hw, sorted_lt nd, fun k q => ?_, by have := T.le; show 0 ≤ m.hk - (tk.length : Int); omega, ?_, fun k q z => ?_⟩
  · rcases (mem k).mp q with q | q
    · exact I.r k (a2 k q)
    · exact hr k (lm k (T.sub k q)).1
  · show m.hk - (tk.length : Int) + ((sortI (m.hd ++ tk)).length : Int) = p.keys
    rw [(sortI_perm _).length_eq, List.length_append]
    omega
  · have hwf : wh p k t = false := by
      rcases (mem k).mp q with q | q
      · exact a6 k q
      · exact (lm k (T.sub k q)).2
    unfold home at z
    rw [if_neg (by omega)] at z
    have := (List.mem_filter.mp z).2
    rw [hwf] at this
    simp at this
theorem inv_first {p : Pt} (h : p.Ok) : Inv p (first p) (-1) := ⟨.inl rfl, .nil, fun k m => (nomatch m), h.k0, by show p.keys + 0 = p.keys; omega, fun k m => (nomatch m)⟩
end K09
namespace K09
open PySem PySem.Spec PyProof.Rows L2 Mir
def scB (p : Pt) (M : Int) : Nat → Sn
  | 0 => first p
  | t + 1 => (after p M (scB p M t) (t : Int)).1
def scA (p : Pt) (M : Int) (t : Nat) : Sn := scB p M (t + 1)
def evA (p : Pt) (M : Int) (t : Nat) : List Ev := (after p M (scB p M t) (t : Int)).2
theorem invB {p : Pt} {M : Int} (h : p.Ok) : ∀ t : Nat, Inv p (scB p M t) ((t : Int) - 1)
  | 0 => inv_first h
  | t + 1 => by
    have := inv_step (M := M) (t := (t : Int)) (by omega) (invB (M := M) h t)
    show Inv p (after p M (scB p M t) (t : Int)).1 (((t + 1 : Nat) : Int) - 1)
    rw [show (((t + 1 : Nat) : Int) - 1) = (t : Int) by omega]
    exact this
theorem invA {p : Pt} {M : Int} (h : p.Ok) (t : Nat) : Inv p (scA p M t) (t : Int) := by
  have := invB (M := M) h (t + 1)
  rw [show (((t + 1 : Nat) : Int) - 1) = (t : Int) by omega] at this
  exact this
theorem Inv.hl {p : Pt} {s : Sn} {u : Int} (h : p.Ok) (I : Inv p s u) : s.hd.length ≤ 6 := by
  have h1 := (lt_nodup I.l).length_le_of_subset (l₂ := rgI p.ts.length) fun k m => mem_rgI.mpr (I.r k m)
  rw [len_rgI] at h1
  have := h.t6
  omega
structure Per (p : Pt) (M : Int) : Prop where
  g : Good p.ts M
  m : 1 ≤ M
  m24 : M ≤ 24
  mn : ∀ c, Good p.ts c → M ∣ c
theorem fmod_dvd {a b M n : Int} (hM : 1 ≤ M) (hn : 1 ≤ n) (hd : n ∣ M) (e : a.fmod M = b.fmod M) : a.fmod n = b.fmod n := by
  rw [Int.fmod_eq_emod_of_nonneg _ (by omega), Int.fmod_eq_emod_of_nonneg _ (by omega)] at e ⊢
  rw [← Int.emod_emod_of_dvd a hd, ← Int.emod_emod_of_dvd b hd, e]
theorem wh_per {p : Pt} {M : Int} (h : p.Ok) (P : Per p M) {k a b : Int} (e : a.fmod M = b.fmod M) : wh p k a = wh p k b := by
  unfold wh
  cases q : p.ts[k.toNat]? with
  | none => rfl
  | some z =>
    dsimp only
    have hz := List.mem_of_getElem? q
    have := (h.tt z hz).pos
    rw [fmod_dvd P.m (by omega) (P.g z hz) e]
theorem tkk_per {p : Pt} {M k a b : Int} (e : a.fmod M = b.fmod M) : tkk p M k a = tkk p M k b := by unfold tkk; rw [e]
theorem fmod_sub1 {a b M : Int} (hM : 1 ≤ M) (e : a.fmod M = b.fmod M) (c : Int) : (a + c).fmod M = (b + c).fmod M := by
  rw [Int.fmod_eq_emod_of_nonneg _ (by omega), Int.fmod_eq_emod_of_nonneg _ (by omega)] at e ⊢
  rw [Int.add_emod, e, ← Int.add_emod]
theorem home_per {p : Pt} {M : Int} (h : p.Ok) (P : Per p M) {s : Sn} {a b : Int} (ha : 0 ≤ a) (hb : 0 ≤ b) (e : a.fmod M = b.fmod M) : home p s a = home p s b := by
  unfold home
  rw [if_neg (by omega), if_neg (by omega)]
  exact List.filter_congr fun k _ => by rw [wh_per h P e]
theorem takeGo_per {p : Pt} {M hk a b : Int} (e : a.fmod M = b.fmod M) : ∀ (ls tk : List Int) (ev ev' : List Ev), (takeGo p M a hk ls tk ev).1 = (takeGo p M b hk ls tk ev').1
  | [], tk, ev, ev' => rfl
  | k :: ks, tk, ev, ev' => by
    unfold takeGo
    rw [tkk_per e]
    split
    · exact takeGo_per e ks _ _ _
    · exact takeGo_per e ks _ _ _
theorem after_fst (p : Pt) (M : Int) (s : Sn) (t : Int) : (after p M s t).1 = (let m := mid p s t
  let l := lvs p m t
  let em := decide ((l.length : Int) = m.ins.length)
  let b := (lastTake m.hk l em ((takeGo p M t m.hk l [] []).1, [])).1
  ⟨m.wt, sortI (m.hd ++ b), m.hk - b.length, (opens s.op m.ins l em (b, [])).1⟩) := by
  unfold after
  dsimp only
  have e : ∀ (hk : Int) (l : List Int) (em : Bool) (x : List Int) (ev ev' : List Ev), (lastTake hk l em (x, ev)).1 = (lastTake hk l em (x, ev')).1 := fun hk l em x ev ev' => by
    unfold lastTake
    dsimp only
    split <;> rfl
  have e2 : ∀ (op : Bool) (i l : List Int) (em : Bool) (b : List Int × List Ev), (opens op i l em b).1 = (opens op i l em (b.1, [])).1 := fun op i l em b => by
    unfold opens
    dsimp only
    split
    · rfl
    · split <;> rfl
  have e3 : (takeGo p M t (mid p s t).hk (lvs p (mid p s t) t) [] (mid p s t).ev).1 = (takeGo p M t (mid p s t).hk (lvs p (mid p s t) t) [] []).1 := takeGo_per rfl _ _ _ _
  rw [e2]
  have e4 := e (mid p s t).hk (lvs p (mid p s t) t) (decide (((lvs p (mid p s t) t).length : Int) = (mid p s t).ins.length)) (takeGo p M t (mid p s t).hk (lvs p (mid p s t) t) [] []).1 (takeGo p M t (mid p s t).hk (lvs p (mid p s t) t) [] (mid p s t).ev).2 []
  have e5 : takeGo p M t (mid p s t).hk (lvs p (mid p s t) t) [] (mid p s t).ev = ((takeGo p M t (mid p s t).hk (lvs p (mid p s t) t) [] []).1, (takeGo p M t (mid p s t).hk (lvs p (mid p s t) t) [] (mid p s t).ev).2) := by rw [← e3]
  rw [e5, e4]
theorem after_per {p : Pt} {M : Int} (h : p.Ok) (P : Per p M) {s : Sn} {a b : Int} (ha : 1 ≤ a) (hb : 1 ≤ b) (e : a.fmod M = b.fmod M) : (after p M s a).1 = (after p M s b).1 := by
  have e1 : home p s (a - 1) = home p s (b - 1) := home_per h P (by omega) (by omega) (fmod_sub1 P.m e (-1))
  have ew : (fun k => wh p k a) = fun k => wh p k b := funext fun k => wh_per h P e
  have e2 : comers p s a = comers p s b := by
    unfold comers
    rw [e1]
    exact List.filter_congr fun k _ => by rw [wh_per h P e]
  have e3 : enters p s a = enters p s b := by unfold enters; rw [e1, e2]
  have e4 : mid p s a = mid p s b := by unfold mid; rw [e3, e1, e2]
  rw [after_fst, after_fst, e4]
  have e5 : lvs p (mid p s b) a = lvs p (mid p s b) b := by
    unfold lvs
    exact List.filter_congr fun k _ => by rw [wh_per h P e]
  dsimp only
  rw [e5, takeGo_per e _ _ [] []]
def bit (b : Bool) : Nat := if b = true then 1 else 0
def mask (l : List Int) : Nat := bit (decide ((0 : Int) ∈ l)) + 2 * bit (decide ((1 : Int) ∈ l)) + 4 * bit (decide ((2 : Int) ∈ l)) + 8 * bit (decide ((3 : Int) ∈ l)) + 16 * bit (decide ((4 : Int) ∈ l)) + 32 * bit (decide ((5 : Int) ∈ l))
theorem bit_lt (b : Bool) : bit b ≤ 1 := by unfold bit; split <;> omega
theorem bit_inj {a b : Bool} (h : bit a = bit b) : a = b := by
  cases a <;> cases b <;> first | rfl | (simp [bit] at h)
def code (M : Int) (t : Nat) (s : Sn) : Nat := (((t : Int).fmod M).toNat * 4 + 2 * bit (decide (s.wt = [])) + bit s.op) * 64 + mask s.hd
theorem mask_lt (l : List Int) : mask l < 64 := by
  unfold mask
  have a0 := bit_lt (decide ((0 : Int) ∈ l)); have a1 := bit_lt (decide ((1 : Int) ∈ l)); have a2 := bit_lt (decide ((2 : Int) ∈ l)); have a3 := bit_lt (decide ((3 : Int) ∈ l)); have a4 := bit_lt (decide ((4 : Int) ∈ l)); have a5 := bit_lt (decide ((5 : Int) ∈ l))
  omega
theorem mask_inj {a b : List Int} (h : mask a = mask b) (ha : ∀ k ∈ a, 0 ≤ k ∧ k < 6) (hb : ∀ k ∈ b, 0 ≤ k ∧ k < 6) : ∀ k, k ∈ a ↔ k ∈ b := by
  unfold mask at h
  have a0 := bit_lt (decide ((0 : Int) ∈ a)); have a1 := bit_lt (decide ((1 : Int) ∈ a)); have a2 := bit_lt (decide ((2 : Int) ∈ a)); have a3 := bit_lt (decide ((3 : Int) ∈ a)); have a4 := bit_lt (decide ((4 : Int) ∈ a)); have a5 := bit_lt (decide ((5 : Int) ∈ a))
  have b0 := bit_lt (decide ((0 : Int) ∈ b)); have b1 := bit_lt (decide ((1 : Int) ∈ b)); have b2 := bit_lt (decide ((2 : Int) ∈ b)); have b3 := bit_lt (decide ((3 : Int) ∈ b)); have b4 := bit_lt (decide ((4 : Int) ∈ b)); have b5 := bit_lt (decide ((5 : Int) ∈ b))
  have c0 := bit_inj (a := decide ((0 : Int) ∈ a)) (b := decide ((0 : Int) ∈ b)) (by omega)
  have c1 := bit_inj (a := decide ((1 : Int) ∈ a)) (b := decide ((1 : Int) ∈ b)) (by omega)
  have c2 := bit_inj (a := decide ((2 : Int) ∈ a)) (b := decide ((2 : Int) ∈ b)) (by omega)
  have c3 := bit_inj (a := decide ((3 : Int) ∈ a)) (b := decide ((3 : Int) ∈ b)) (by omega)
  have c4 := bit_inj (a := decide ((4 : Int) ∈ a)) (b := decide ((4 : Int) ∈ b)) (by omega)
  have c5 := bit_inj (a := decide ((5 : Int) ∈ a)) (b := decide ((5 : Int) ∈ b)) (by omega)
  rw [decide_eq_decide] at c0 c1 c2 c3 c4 c5
  have key : ∀ k : Int, 0 ≤ k ∧ k < 6 → (k ∈ a ↔ k ∈ b) := fun k hk => by
    have : k = 0 ∨ k = 1 ∨ k = 2 ∨ k = 3 ∨ k = 4 ∨ k = 5 := by omega
    rcases this with rfl | rfl | rfl | rfl | rfl | rfl
    · exact c0
    · exact c1
    · exact c2
    · exact c3
    · exact c4
    · exact c5
  exact fun k => ⟨fun m => (key k (ha k m)).mp m, fun m => (key k (hb k m)).mpr m⟩
theorem lt_ext {a b : List Int} (ha : a.Pairwise (· < ·)) (hb : b.Pairwise (· < ·)) (h : ∀ k, k ∈ a ↔ k ∈ b) : a = b := by
  have pm : a.Perm b := (List.perm_ext_iff_of_nodup (lt_nodup ha) (lt_nodup hb)).mpr h
  rw [sortI_uniq pm (ha.imp fun {x y} q => by omega), ← sortI_uniq (List.Perm.refl b) (hb.imp fun {x y} q => by omega)]
theorem code_inj {p : Pt} {M : Int} (h : p.Ok) (P : Per p M) {a b : Nat} {s s' : Sn} (I : Inv p s a) (I' : Inv p s' b) (e : code M a s = code M b s') : (a : Int).fmod M = (b : Int).fmod M ∧ s = s' := by
  unfold code at e
  have m1 := mask_lt s.hd
  have m2 := mask_lt s'.hd
  have b1 := bit_lt (decide (s.wt = [])); have b2 := bit_lt (decide (s'.wt = [])); have b3 := bit_lt s.op; have b4 := bit_lt s'.op
  obtain ⟨f1, f2⟩ := fmod_range (a := (a : Int)) (b := M) (by have := P.m; omega)
  obtain ⟨g1, g2⟩ := fmod_range (a := (b : Int)) (b := M) (by have := P.m; omega)
  have e1 : mask s.hd = mask s'.hd := by omega
  have e2 : ((a : Int).fmod M).toNat = ((b : Int).fmod M).toNat := by omega
  have e3 : bit (decide (s.wt = [])) = bit (decide (s'.wt = [])) := by omega
  have e4 : bit s.op = bit s'.op := by omega
  have et : (a : Int).fmod M = (b : Int).fmod M := by omega
  refine ⟨et, ?_⟩
  have h6 := h.t6
  have q1 : s.hd = s'.hd := lt_ext I.l I'.l (mask_inj e1 (fun k m => by have := I.r k m; omega) (fun k m => by have := I'.r k m; omega))
  have q2 : s.op = s'.op := bit_inj e4
  have q3 : s.hk = s'.hk := by
    have z1 := I.ks
    have z2 := I'.ks
    rw [q1] at z1
    omega
  have q4 : s.wt = s'.wt := by
    have e3 := bit_inj e3
    rw [decide_eq_decide] at e3
    rcases I.w with w | w
    · rw [w, e3.mp w]
    · rcases I'.w with w' | w'
      · rw [w', e3.mpr w']
      · rw [w, w']
        exact List.filter_congr fun k _ => by rw [wh_per h P et]
  cases s
  cases s'
  simp only at q1 q2 q3 q4
  rw [q1, q2, q3, q4]
theorem code_lt {p : Pt} {M : Int} (P : Per p M) (t : Nat) (s : Sn) : code M t s < 6144 := by
  unfold code
  have m1 := mask_lt s.hd
  have b1 := bit_lt (decide (s.wt = [])); have b3 := bit_lt s.op
  obtain ⟨f1, f2⟩ := fmod_range (a := (t : Int)) (b := M) (by have := P.m; omega)
  have := P.m24
  omega
theorem scA_succ (p : Pt) (M : Int) (t : Nat) : scA p M (t + 1) = (after p M (scA p M t) ((t + 1 : Nat) : Int)).1 := rfl
def Same (p : Pt) (M : Int) (a b : Nat) : Prop := (a : Int).fmod M = (b : Int).fmod M ∧ scA p M a = scA p M b
theorem same_add {p : Pt} {M : Int} (h : p.Ok) (P : Per p M) {a b : Nat} (e : Same p M a b) : ∀ d, Same p M (a + d) (b + d)
  | 0 => e
  | d + 1 => by
    obtain ⟨e1, e2⟩ := same_add h P e d
    have e3 : ((a + (d + 1) : Nat) : Int).fmod M = ((b + (d + 1) : Nat) : Int).fmod M := by
      have := fmod_sub1 P.m e1 1
      rw [show ((a + (d + 1) : Nat) : Int) = ((a + d : Nat) : Int) + 1 by omega, show ((b + (d + 1) : Nat) : Int) = ((b + d : Nat) : Int) + 1 by omega]
      exact this
    refine ⟨e3, ?_⟩
    rw [show a + (d + 1) = (a + d) + 1 by omega, show b + (d + 1) = (b + d) + 1 by omega, scA_succ, scA_succ, e2]
    exact after_per h P (by omega) (by omega) e3
structure Cyc (p : Pt) (M : Int) (n i : Nat) : Prop where
  lt : i < n
  le : n ≤ 6144
  eq : Same p M i n
  nd : ∀ a b, a < b → b < n → ¬ Same p M a b
theorem pigeon {p : Pt} {M : Int} (h : p.Ok) (P : Per p M) {n : Nat} (nd : ∀ a b, a < b → b < n → ¬ Same p M a b) : n ≤ 6144 := by
  have h1 : ((List.range n).map fun t => code M t (scA p M t)).Nodup := by
    unfold List.Nodup
    rw [List.pairwise_map]
    refine (List.pairwise_lt_range (n := n)).imp_of_mem fun {a b} ha hb q z => ?_
    have := code_inj h P (invA h a) (invA h b) z
    exact nd a b q (List.mem_range.mp hb) this
  have h2 := h1.length_le_of_subset (l₂ := List.range 6144) fun k m => by
    obtain ⟨t, _, rfl⟩ := List.mem_map.mp m
    exact List.mem_range.mpr (code_lt P t _)
  rw [List.length_map, List.length_range, List.length_range] at h2
  exact h2
def place (n i t : Nat) : Nat := if t < n then t else i + (t - i) % (n - i)
theorem place_lt {p : Pt} {M : Int} {n i : Nat} (c : Cyc p M n i) (t : Nat) : place n i t < n := by
  unfold place
  split
  · assumption
  · have := c.lt
    have := Nat.mod_lt (t - i) (show 0 < n - i by omega)
    omega
theorem same_round {p : Pt} {M : Int} (h : p.Ok) (P : Per p M) {n i : Nat} (c : Cyc p M n i) : ∀ k t, i ≤ t → Same p M t (t + k * (n - i))
  | 0, t, _ => ⟨by simp, by simp⟩
  | k + 1, t, ht => by
    obtain ⟨e1, e2⟩ := same_round h P c k t ht
    have := same_add h P c.eq (t + k * (n - i) - i)
    have hn := c.lt
    rw [show i + (t + k * (n - i) - i) = t + k * (n - i) by omega, show n + (t + k * (n - i) - i) = t + (k + 1) * (n - i) by rw [Nat.add_mul]; omega] at this
    exact ⟨e1.trans this.1, e2.trans this.2⟩
theorem place_same {p : Pt} {M : Int} (h : p.Ok) (P : Per p M) {n i : Nat} (c : Cyc p M n i) (t : Nat) : Same p M (place n i t) t := by
  unfold place
  split
  · exact ⟨rfl, rfl⟩
  · have hn := c.lt
    have := same_round h P c ((t - i) / (n - i)) (i + (t - i) % (n - i)) (by omega)
    have e := Nat.div_add_mod (t - i) (n - i)
    rw [Nat.mul_comm] at e
    rw [show i + (t - i) % (n - i) + (t - i) / (n - i) * (n - i) = t by omega] at this
    exact this
end K09
namespace K09
open PySem PySem.Spec PyProof.Rows L2 Mir
def keyT (p : Pt) (M : Int) (t : Nat) : List Mir.D := [.int ((t : Int).fmod M), (scA p M t).D]
theorem keyL_ints : ∀ {a b : List Int}, keyL (a.map .int) = keyL (b.map .int) → a = b
  | [], [], _ => rfl
  | [], _ :: _, h => by cases h
  | _ :: _, [], h => by cases h
  | x :: a, y :: b, h => by
    have h : NestedKey.num x :: keyL (a.map .int) = NestedKey.num y :: keyL (b.map .int) := h
    injection h with h1 h2
    injection h1 with h1
    rw [h1, keyL_ints h2]
theorem bool_num {a b : Bool} (h : (if a = true then (1 : Int) else 0) = if b = true then 1 else 0) : a = b := by
  cases a <;> cases b <;> first | rfl | (simp at h)
theorem key_inj {i j : Int} {s s' : Sn} (h : keyD (.tup [.int i, s.D]) = keyD (.tup [.int j, s'.D])) : i = j ∧ s = s' := by
  have h : NestedKey.tup [.num i, .tup [.tup (keyL (s.wt.map .int)), .tup (keyL (s.hd.map .int)), .num s.hk, .num (if s.op = true then 1 else 0)]] = NestedKey.tup [.num j, .tup [.tup (keyL (s'.wt.map .int)), .tup (keyL (s'.hd.map .int)), .num s'.hk, .num (if s'.op = true then 1 else 0)]] := h
  simp only [NestedKey.tup.injEq, List.cons.injEq, NestedKey.num.injEq, and_true] at h
  obtain ⟨h1, h2, h3, h4, h5⟩ := h
  have e1 := keyL_ints h2
  have e2 := keyL_ints h3
  have e3 := bool_num h5
  cases s
  cases s'
  simp only at e1 e2 e3 h4
  rw [e1, e2, e3, h4]
  exact ⟨h1, rfl⟩
theorem depth_ints (a : List Int) : NestedKey.depthAll (keyL (a.map .int)) = 0 := by
  induction a with
  | nil => rfl
  | cons x a ih =>
    show NestedKey.depthAll (NestedKey.num x :: keyL (a.map .int)) = 0
    simp only [NestedKey.depthAll, NestedKey.depth, ih]
    rfl
theorem key_ok (i : Int) (s : Sn) : (Mir.D.tup [.int i, s.D]).pure = true ∧ (keyD (.tup [.int i, s.D])).depth ≤ 8 := by
  refine ⟨by simp [Sn.D], ?_⟩
  show (NestedKey.tup [.num i, .tup [.tup (keyL (s.wt.map .int)), .tup (keyL (s.hd.map .int)), .num s.hk, .num (if s.op = true then 1 else 0)]]).depth ≤ 8
  simp only [NestedKey.depthAll, NestedKey.depth, depth_ints]
  decide
theorem key_eq {p : Pt} {M : Int} {a b : Nat} : keyD (.tup (keyT p M a)) = keyD (.tup (keyT p M b)) ↔ Same p M a b :=
  ⟨fun z => key_inj z, fun ⟨z1, z2⟩ => by unfold keyT; rw [z1, z2]⟩
section
variable {p : Pt} {M : Int}
theorem nx_spec (h : p.Ok) (P : Per p M) (t : Nat) : st_nx (p.H M) (scB p M t).D t = some ((scA p M t).D, .lst ((evA p M t).map (evD t))) := by
  have hl := (invB (M := M) h t).hl h
  have := after_spec (t := (t : Int)) (s := scB p M t) h (show M ≠ 0 by have := P.m; omega) (by omega)
  show Mir.stN d_after_tick _ _ _ = _
  unfold Mir.stN
  rw [this]
  rfl
theorem ky_spec (P : Per p M) (sc : Mir.D) (t : Nat) : st_ky (p.H M) sc t = some [.int ((t : Int).fmod M), sc] := by
  have := period_spec p M
  show Mir.stK 0 d_House_period _ _ _ = _
  unfold Mir.stK Pt.H
  dsimp only
  rw [if_pos rfl]
  have e : d_House_period [Mir.D.ins 0 [.tup (p.ts.map .str), .int p.keys, .tup (p.cs.map .int), .tup (p.rs.map Mir.pairD), .int M]] = .ok (.int M) := this
  rw [e]
  dsimp only
  rw [if_pos (by have := P.m; omega)]
def evL (p : Pt) (M : Int) (t : Nat) : Mir.D := .lst ((evA p M t).map (evD t))
theorem go_spec (h : p.Ok) (P : Per p M) : ∀ (k t : Nat), 6145 ≤ t + k → (∀ a b, a < b → b < t → ¬ Same p M a b) → ∃ n i fuel, Cyc p M n i ∧
    storyGo (st_nx (p.H M)) (st_ky (p.H M)) fuel (scB p M t).D ((List.range t).map fun t => .tup (keyT p M t)) ((List.range t).map fun t => (scA p M t).D) ((List.range t).map fun t => evL p M t) = some ⟨(List.range n).map fun t => (scA p M t).D, (List.range n).map fun t => evL p M t, i, evL p M n⟩
  | 0, t, hk, nd => by
    have := pigeon h P nd
    omega
  | k + 1, t, hk, nd => by
    have ht := pigeon h P nd
    have hko := key_ok ((t : Int).fmod M) (scA p M t)
    have hlt : t < sizeLine := Nat.lt_of_le_of_lt ht (by decide)
    have e1 : ((List.range t).map fun t => Mir.D.tup (keyT p M t)).length = t := by rw [List.length_map, List.length_range]
    by_cases c : ∃ i, i < t ∧ Same p M i t
    · obtain ⟨i0, hi0, hs0⟩ := c
      have hf : ∃ i, i < t ∧ Same p M i t ∧ ((List.range t).map fun t => Mir.D.tup (keyT p M t)).findIdx? (fun d => decide (keyD d = keyD (.tup (keyT p M t)))) = some i := by
        cases q : ((List.range t).map fun t => Mir.D.tup (keyT p M t)).findIdx? (fun d => decide (keyD d = keyD (.tup (keyT p M t)))) with
        | none =>
          rw [List.findIdx?_eq_none_iff] at q
          have := q (.tup (keyT p M i0)) (List.mem_map.mpr ⟨i0, List.mem_range.mpr hi0, rfl⟩)
          rw [decide_eq_false_iff_not] at this
          exact absurd (key_eq.mpr hs0) this
        | some i =>
          obtain ⟨hl, hp, _⟩ := List.findIdx?_eq_some_iff_getElem.mp q
          rw [e1] at hl
          rw [List.getElem_map, List.getElem_range, decide_eq_true_iff] at hp
          exact ⟨i, hl, key_eq.mp hp, rfl⟩
      obtain ⟨i, hi, hs, hq⟩ := hf
      refine ⟨t, i, 1, ⟨hi, ht, hs, nd⟩, ?_⟩
      unfold storyGo
      rw [e1, nx_spec h P, Option.bind_some, ky_spec P, Option.bind_some, if_pos ⟨hko.1, hko.2, hlt⟩]
      have hq' : ((List.range t).map fun t => Mir.D.tup (keyT p M t)).findIdx? (fun d => decide (keyD d = keyD (.tup [.int ((t : Int).fmod M), (scA p M t).D]))) = some i := hq
      dsimp only
      rw [hq']
      rfl
    · have nd' : ∀ a b, a < b → b < t + 1 → ¬ Same p M a b := fun a b hab hb hs => by
        rcases Nat.lt_or_ge b t with q | q
        · exact nd a b hab q hs
        · have : b = t := by omega
          subst this
          exact c ⟨a, hab, hs⟩
      obtain ⟨n, i, fuel, hc, hg⟩ := go_spec h P k (t + 1) (by omega) nd'
      refine ⟨n, i, fuel + 1, hc, ?_⟩
      unfold storyGo
      rw [e1, nx_spec h P, Option.bind_some, ky_spec P, Option.bind_some, if_pos ⟨hko.1, hko.2, hlt⟩]
      have hq' : ((List.range t).map fun t => Mir.D.tup (keyT p M t)).findIdx? (fun d => decide (keyD d = keyD (.tup [.int ((t : Int).fmod M), (scA p M t).D]))) = none := by
        rw [List.findIdx?_eq_none_iff]
        intro x m
        obtain ⟨i, hi, rfl⟩ := List.mem_map.mp m
        rw [decide_eq_false_iff_not]
        exact fun z => c ⟨i, List.mem_range.mp hi, key_eq.mp z⟩
      dsimp only
      rw [hq']
      dsimp only
      rw [List.range_succ, List.map_append, List.map_append, List.map_append] at hg
      exact hg
def St (p : Pt) (M : Int) (n i : Nat) : Mir.D := .ins 1 [.lst ((List.range n).map fun t => (scA p M t).D), .lst ((List.range n).map fun t => evL p M t), .int (i : Int), evL p M n]
theorem story_spec (h : p.Ok) (P : Per p M) : ∃ n i, Cyc p M n i ∧ d_Story__init_ (.ins 1 []) [p.H M] = .ok .non (St p M n i) := by
  obtain ⟨n, i, fuel, hc, hg⟩ := go_spec h P 6145 0 (by omega) (fun a b _ hb => by omega)
  refine ⟨n, i, hc, ?_⟩
  have hr := storyRun_of (sc := (first p).D) hg
  unfold d_Story__init_ dStory
  dsimp only
  rw [if_pos rfl]
  have hf : st_fs (p.H M) = some (first p).D := by
    show Mir.stF d_first_scene _ = _
    unfold Mir.stF
    rw [first_spec]
  rw [hf, Option.bind_some, hr]
  rfl
end
end K09
namespace K09
open PySem PySem.Spec PyProof.Rows L2 Mir
section
variable {p : Pt} {M : Int} {n i : Nat}
theorem size_spec (hc : i < n) : d_Story_size [St p M n i] = .ok (.int ((n - i : Nat) : Int)) := by
  refine runF_ret (e := [some (St p M n i)]) ?_ rfl
  refine w_ret (k_e2 (k_A1 (k_fld (k_var rfl) rfl) (oLen_lst _)) (k_fld (k_var rfl) rfl) ?_)
  rw [List.length_map, List.length_range, oSub_int]
  congr 2
  omega
theorem fmod_nat (a b : Nat) : (a : Int).fmod (b : Int) = ((a % b : Nat) : Int) := by
  rw [Int.fmod_eq_emod_of_nonneg _ (by omega)]
  exact (Int.natCast_emod a b).symm
theorem place_spec (hc : i < n) (t : Nat) : d_Story_place_of [St p M n i, .int (t : Int)] = .ok (.int (place n i t : Int)) := by
  refine runF_ret (e := [some (St p M n i), some (.int (t : Int))]) ?_ rfl
  have h1 : (mTest (e2 oLtI (eVar 1) (eA (A1 oLen) (aCons (eFld 1 0 (eVar 0)) aNil)))) [some (St p M n i), some (.int (t : Int))] = .ok (decide (t < n)) [some (St p M n i), some (.int (t : Int))] := by
    refine k_test (k_e2 (k_var rfl) (k_A1 (k_fld (k_var rfl) rfl) (oLen_lst _)) ?_)
    rw [List.length_map, List.length_range, oLtI_int]
    congr 2
    rw [decide_eq_decide]
    omega
  refine w_ret ((k_if h1).trans ?_)
  unfold place
  by_cases c : t < n
  · rw [if_pos (by simpa using c), if_pos c]
    exact k_var rfl
  · rw [if_neg (by simpa using c), if_neg c]
    refine k_e2 (k_fld (k_var rfl) rfl) (k_e2 (k_e2 (k_var rfl) (k_fld (k_var rfl) rfl) (oSub_int _ _)) (k_prop (k_var rfl) (size_spec (p := p) (M := M) hc)) (oMod_int _ _ (by omega))) ?_
    rw [oAdd_int]
    congr 2
    rw [show (t : Int) - (i : Int) = ((t - i : Nat) : Int) by omega, fmod_nat]
    omega
theorem scene_at (h : p.Ok) (P : Per p M) (c : Cyc p M n i) (t : Nat) : oIx (.lst ((List.range n).map fun t => (scA p M t).D)) (.int (place n i t : Int)) = some (scA p M t).D := by
  rw [oIx_lst, atI_at (j := place n i t) (v := (scA p M (place n i t)).D) ?_ rfl, (place_same h P c t).2]
  rw [List.getElem?_map, List.getElem?_eq_getElem (by rw [List.length_range]; exact place_lt c t), List.getElem_range]
  rfl
theorem check_tick_spec {t : Int} (h0 : 0 ≤ t) (h1 : t ≤ 1000000000000000000) : d_check_tick [.int t] = .ok .non := by
  refine runF_next (e := [some (.int t)]) ?_ rfl
  refine (w_if (p := false) ?_).trans rfl
  have := k_not (k_test (k_call0 (env := [some (.int t)]) (k_three (k_var (i := 0) rfl) (k_c (d := .int 0)) (k_c (d := c_MAX_TICK))) (is_int_in_spec t 0 1000000000000000000)))
  rw [decide_eq_true h0, decide_eq_true h1] at this
  exact this
end
end K09
namespace K09
open PySem PySem.Spec PyProof.Rows L2 Mir
theorem per_init {p : Pt} (h : p.Ok) : ∃ M, Per p M := by
  obtain ⟨M, _, h1, h2, h3⟩ := init_spec h
  exact ⟨M, h2, (d24_range h1).1, (d24_range h1).2, h3⟩
theorem Per.uniq {p q : Pt} {M N : Int} (a : Per p M) (b : Per q N) (e : p.ts = q.ts) : M = N := by
  have h1 := a.mn N (by rw [e]; exact b.g)
  have h2 := b.mn M (by rw [← e]; exact a.g)
  exact Int.le_antisymm (Int.le_of_dvd (by have := b.m; omega) h1) (Int.le_of_dvd (by have := a.m; omega) h2)
theorem Per.to {p q : Pt} {M : Int} (a : Per p M) (e : q.ts = p.ts) : Per q M := ⟨by rw [e]; exact a.g, a.m, a.m24, by rw [e]; exact a.mn⟩
theorem make_spec {p : Pt} {M : Int} (h : p.Ok) (P : Per p M) : d_House__init_ (.ins 0 []) [.tup (p.ts.map .str), .int p.keys, .tup (p.cs.map .int), .tup (p.rs.map Mir.pairD)] = .ok .non (p.H M) := by
  obtain ⟨N, e, h1, h2, h3⟩ := init_spec h
  have : N = M := Per.uniq (p := p) (q := p) ⟨h2, (d24_range h1).1, (d24_range h1).2, h3⟩ P rfl
  rw [this] at e
  exact e
structure Story (p : Pt) (M : Int) (n i : Nat) : Prop where
  c : Cyc p M n i
  s : d_Story__init_ (.ins 1 []) [p.H M] = .ok .non (St p M n i)
theorem story {p : Pt} {M : Int} (h : p.Ok) (P : Per p M) : ∃ n i, Story p M n i := let ⟨n, i, a, b⟩ := story_spec h P; ⟨n, i, a, b⟩
end K09
namespace K09
open PySem PySem.Spec PyProof.Rows L2 Mir
section
variable {p : Pt} {M : Int} {n i : Nat}
theorem k_scene (h : p.Ok) (P : Per p M) (c : Cyc p M n i) {env : Mir.Env} {a b : EM} {t : Nat} (ha : a env = .ok (St p M n i) env) (hb : b env = .ok (.int (t : Int)) env) :
    e2 oIx (eFld 1 0 a) (eMeth 1 d_Story_place_of [] a (aCons b aNil)) env = .ok (scA p M t).D env :=
  k_e2 (k_fld ha rfl) (k_meth ha (k_one hb) (place_spec (p := p) (M := M) c.lt t)) (scene_at h P c t)
theorem scene_after_spec (h : p.Ok) (P : Per p M) (t : Nat) (ht : t ≤ 1000000000000000000) : d_scene_after [p.H M, .int (t : Int)] = .ok (scA p M t).D := by
  obtain ⟨n, i, c, hs⟩ := story_spec h P
  refine runF_ret (e := [some (p.H M), some (.int (t : Int)), some (St p M n i)]) ?_ rfl
  refine (w_seq (w_drop (k_call0 (k_one (k_var rfl)) (check_tick_spec (by omega) (by omega))))).trans ?_
  refine (w_seq (e := [some (p.H M), some (.int (t : Int)), some (St p M n i)]) (w_asg (k_make (k_one (k_var rfl)) hs))).trans ?_
  exact w_ret (k_scene h P c (k_var rfl) (k_var rfl))
end
end K09
namespace K09
open PySem PySem.Spec PyProof.Rows L2 Mir
section
variable {p : Pt} {M : Int}
theorem waiting_spec (h : p.Ok) (P : Per p M) (t : Nat) (ht : t ≤ 1000000000000000000) : d_waiting [p.H M, .int (t : Int)] = .ok (.tup ((scA p M t).wt.map .int)) :=
  runF_ret (e := [some (p.H M), some (.int (t : Int))]) (w_ret (k_e2 (k_call0 (k_two (k_var rfl) (k_var rfl)) (scene_after_spec h P t ht)) k_c (atI_c0 _ _))) rfl
end
end K09
namespace K09
open PySem PySem.Spec PyProof.Rows L2 Mir
theorem house_spec {p : Pt} {M : Int} (h : p.Ok) (P : Per p M) : d_law_house [p.D] = .ok (p.H M) := by
  refine runF_ret (e := [some p.D]) ?_ rfl
  exact w_ret (k_make (k_cons (k_e2 (k_var rfl) k_c (atI_c0 _ _)) (k_three (k_e2 (k_var rfl) k_c (atI_c1 _ _ _)) (k_e2 (k_var rfl) k_c (atI_c2 _ _ _ _)) (k_e2 (k_var rfl) k_c (atI_c3 _ _ _ _ _)))) (make_spec h P))
end K09
namespace Mir
open PySem PySem.Spec PyProof.Rows L2
mutual
theorem eqb_refl : ∀ d : D, d.lay = true → d.eqb d = true
  | .non, _ => rfl
  | .bl b, _ => by cases b <;> rfl
  | .int i, _ => beq_iff_eq.mpr rfl
  | .str s, _ => beq_iff_eq.mpr rfl
  | .tup ds, h => eqbL_refl ds h
  | .lst ds, h => eqbL_refl ds h
  | .ins _ _, h => by cases h
  | .dic _ _, h => by cases h
theorem eqbL_refl : ∀ ds : List D, D.layL ds = true → D.eqbL ds ds = true
  | [], _ => rfl
  | d :: ds, h => by
    have h := Bool.and_eq_true_iff.mp h
    rw [D.eqbL, eqb_refl d h.1, eqbL_refl ds h.2]
    rfl
end
section
variable {m r : SM} {env e1 e2 : Env} {Q : Fl → Prop} {a : AM} {ds : List D} {x : Exn} {c n : Nat}
end
end Mir
namespace K09
open PySem PySem.Spec PyProof.Rows L2 Mir
end K09
namespace Mir
open PySem PySem.Spec PyProof.Rows L2
theorem runF_runX {fr : Bool} {k N : Nat} {m : SM} {ds : List D} {x : Exn} (hr : Run m (ds.map some ++ List.replicate (N - ds.length) none) (fun o => ∃ e, o = .exc x e)) (hl : ds.length = k) : runF fr k N m ds = .exc x := by
  obtain ⟨e, h⟩ := hr
  unfold runF
  rw [if_pos hl, h]
end Mir
namespace K09
open PySem PySem.Spec PyProof.Rows L2 Mir
end K09
namespace Mir
open PySem PySem.Spec PyProof.Rows L2
section
variable {env e1 e2 : Env} {ds es es0 us : List D} {d d0 o : D} {x : Exn} {c j k N : Nat}
theorem a_consX {a : EM} {r : AM} (ha : a env = .exc x e1) : aCons a r env = .exc x e1 := by unfold aCons; rw [ha]; rfl
theorem a_consT {a : EM} {r : AM} (ha : a env = .ok d e1) (hr : r e1 = .exc x e2) : aCons a r env = .exc x e2 := by unfold aCons; rw [ha, Out.bind_ok, hr]; rfl
theorem t_callX {f : DM} {ar : AM} (ha : ar env = .ok ds e1) (hf : f ds = .exc x) : eCall f [] ar env = .exc x e1 := by
  unfold eCall; rw [ha, Out.bind_ok, List.append_nil, hf]; rfl
theorem r_retX {a : EM} {Q : Fl → Prop} (h : a env = .exc x e1) (k : Q (.exc x e1)) : Run (sRet a) env Q := by
  unfold Run sRet; rw [h]; exact k
theorem r_raise0 {Q : Fl → Prop} (k : Q (.exc ⟨c, []⟩ env)) : Run (sRaise0 c) env Q := k
theorem t_e2X {f : D → D → Option D} {a b : EM} (ha : a env = .exc x e1) : Mir.e2 f a b env = .exc x e1 := by
  unfold Mir.e2; rw [ha]; rfl
theorem t_cloX {hx : Exn → Option D} {m : EM} (hm : m env = .exc x e1) (h : hx x = some d) (hp : d.pure = true) : eCloX hx m env = .ok d e1 := by
  unfold eCloX; rw [hm]; dsimp only; rw [h]; dsimp only; rw [if_pos hp]
end
theorem oNe_self {ds : List D} (h : (D.tup ds).fit = true) : oNe (.tup ds) (.tup ds) = some (.bl false) := by
  have hl : (D.tup ds).lay = true := by
    unfold D.fit at h
    rw [Bool.and_eq_true] at h
    exact h.1
  have e : oEqB (.tup ds) (.tup ds) = some true := by
    show (if ((D.tup ds).fit && (D.tup ds).fit) = true then some ((D.tup ds).eqb (.tup ds)) else none) = _
    rw [h, eqb_refl _ hl]
    rfl
  unfold oNe
  rw [e]
  rfl
end Mir
namespace Mir
open PySem PySem.Spec PyProof.Rows L2
theorem go_nil {hx : Exn → Option D} {d' : D} {e : Env} : goAll hx d' [] e = .ok (.bl true) e := rfl
theorem go_cons {hx : Exn → Option D} {d d' : D} {m : EM} {ms : List EM} {e e1 e2 : Env} {x : Exn} (hm : m e = .exc x e1) (h : hx x = some d) (hp : (d.pure && neOk d d') = true) (hr : goAll hx d' ms e1 = .ok (.bl true) e2) : goAll hx d' (m :: ms) e = .ok (.bl true) e2 := by
  unfold goAll
  rw [hm]
  dsimp only
  rw [h]
  dsimp only
  rw [if_pos hp]
  exact hr
theorem t_all {hx : Exn → Option D} {ms : List EM} {me : EM} {d' : D} {env e1 e2 : Env} (he : me env = .ok d' e1) (hp : d'.pure = true) (h : goAll hx d' ms e1 = .ok (.bl true) e2) : eAll hx ms me env = .ok (.bl true) e2 := by
  unfold eAll
  rw [he, Out.bind_ok, if_pos hp, h]
theorem s_mkL {j : Nat} {m : SM} {env : Env} {Q : Fl → Prop} (hl : j < env.length) (h : Run m (env.set j none) Q) : Run (sMkL j m) env Q := by
  unfold Run sMkL
  rw [if_pos hl]
  exact h
end Mir
namespace Mir
open PySem PySem.Spec PyProof.Rows L2
section
variable {m r : SM} {env e1 e2 : Env} {Q : Fl → Prop} {a : AM} {ds : List D} {x : Exn} {c n : Nat}
theorem r_dropX {f : DM} (ha : a env = .ok ds e1) (hf : f ds = .exc x) (k : Q (.exc x e1)) : Run (sSeq (sDrop (eCall f [] a)) r) env Q := by
  unfold Run; rw [ap_sSeq, ap_sDrop, ap_eCall, ha, Out.bind_ok, List.append_nil, hf]; exact k
end
end Mir
namespace K09
open PySem PySem.Spec PyProof.Rows L2 Mir
end K09
namespace Mir
open PySem PySem.Spec PyProof.Rows L2
theorem t_callA {f : DM} {a : AM} {env e1 : Env} {x : Exn} (ha : a env = .exc x e1) : eCall f [] a env = .exc x e1 := by unfold eCall; rw [ha]; rfl
theorem t_listGX {c : Nat} {m : List D → Option Exn} {a : AM} {env e1 : Env} {ds : List D} {x : Exn} (ha : a env = .ok ds e1) (hm : m ds = some x) (hc : x.c = c) : eListGX c m a env = .exc x e1 := by
  unfold eListGX; rw [ha, Out.bind_ok, hm]; dsimp only; rw [if_pos hc]
theorem gx_here {m : SM} {env e : Env} {x : Exn} (h : m env = .exc x e) : gxHere m env = some x := by unfold gxHere; rw [h]
theorem gx_nextX {m : SM} {n : GMx} {env e : Env} {x : Exn} (h : m env = .exc x e) : gxNext m n env = some x := by unfold gxNext; rw [h]
theorem gx_next {m : SM} {n : GMx} {env e : Env} (h : m env = .next e) : gxNext m n env = n e := by unfold gxNext; rw [h]
theorem s_dropX {f : DM} {a : AM} {env e1 : Env} {ds : List D} {x : Exn} (ha : a env = .ok ds e1) (hf : f ds = .exc x) : sDrop (eCall f [] a) env = .exc x e1 := by
  unfold sDrop eCall; rw [ha, Out.bind_ok, List.append_nil, hf]; rfl
theorem r_seqExc {Q : Fl → Prop} {env : Env} {m r : SM} {x : Exn} (h : Run m env fun o => ∃ e, o = .exc x e ∧ Q (.exc x e)) : Run (sSeq m r) env Q := by
  obtain ⟨e, h1, h2⟩ := h
  unfold Run; rw [ap_sSeq, h1]; exact h2
theorem neOk_of {ds : List D} (h : (D.tup ds).fit = true) (hp : (D.tup ds).pure = true) : ((D.tup ds).pure && neOk (.tup ds) (.tup ds)) = true := by
  rw [hp]
  unfold neOk
  rw [oNe_self h]
  rfl
end Mir
namespace K09
open PySem PySem.Spec PyProof.Rows L2 Mir
def exT : Exn := ⟨2, []⟩
def exP : Exn := ⟨3, []⟩
def exL : Exn := ⟨4, []⟩
structure BadT (d : Mir.D) : Prop where
  f : d_is_int_in [d, .int 0, .int 1000000000000000000] = .ok (.bl false)
theorem tick_bad {d : Mir.D} (h : BadT d) : d_check_tick [d] = .exc exT := by
  refine runF_runX ?_ rfl
  show Mir.Run b_check_tick [some d] _
  unfold b_check_tick
  exact r_tru1 (p := true) (t_not (p := false) (t_test (t_call0 (t_cons (t_var rfl) (t_cons k_c (t_cons k_c t_nil))) h.f))) rfl (r_raise0 ⟨_, rfl⟩)
section
variable {p : Pt} {M : Int} {d z : Mir.D}
theorem person_bad (h : d_is_int_in [d, .int 0, .int ((p.ts.length : Int) - 1)] = .ok (.bl false)) : d_check_person [p.H M, d] = .exc exP := by
  refine runF_runX ?_ rfl
  show Mir.Run b_check_person [some (p.H M), some d] _
  unfold b_check_person
  exact r_tru1 (p := true) (t_not (p := false) (t_test (t_call0 (t_cons (t_var rfl) (t_cons k_c (t_cons (t_e2 (t_prop (es := [.tup (p.ts.map .str), .int p.keys, .tup (p.cs.map .int), .tup (p.rs.map Mir.pairD), .int M]) (t_var rfl) (persons_spec p M)) k_c (oSub_int _ _)) t_nil))) h))) rfl (r_raise0 ⟨_, rfl⟩)
theorem check_person_spec (M : Int) {k : Nat} (hk : k < p.ts.length) : d_check_person [p.H M, .int (k : Int)] = .ok .non := by
  refine runF_next (e := [some (p.H M), some (.int (k : Int))]) ?_ rfl
  refine (w_if (p := false) ?_).trans rfl
  have := k_not (k_test (k_call0 (env := [some (p.H M), some (.int (k : Int))]) (k_three (k_var (i := 1) rfl) (k_c (d := .int 0)) (k_e2 (k_prop (k_var (i := 0) rfl) (persons_spec p M)) (k_c (d := .int 1)) (oSub_int _ _))) (is_int_in_spec (k : Int) 0 ((p.ts.length : Int) - 1))))
  rw [decide_eq_true (show (0 : Int) ≤ (k : Int) by omega), decide_eq_true (show (k : Int) ≤ (p.ts.length : Int) - 1 by omega)] at this
  exact this
theorem scene_bad (h : BadT d) : d_scene_after [z, d] = .exc exT := by
  refine runF_runX ?_ rfl
  show Mir.Run b_scene_after [some z, some d, none] _
  unfold b_scene_after
  exact r_dropX (t_cons (t_var rfl) t_nil) (tick_bad h) ⟨_, rfl⟩
theorem waiting_bad (h : BadT d) : d_waiting [z, d] = .exc exT := by
  refine runF_runX ?_ rfl
  show Mir.Run b_waiting [some z, some d] _
  unfold b_waiting
  exact r_retX (t_e2X (t_callX (t_cons (t_var rfl) (t_cons (t_var rfl) t_nil)) (scene_bad h))) ⟨_, rfl⟩
theorem holders_bad (h : BadT d) : d_holders [z, d] = .exc exT := by
  refine runF_runX ?_ rfl
  show Mir.Run b_holders [some z, some d] _
  unfold b_holders
  exact r_retX (t_e2X (t_callX (t_cons (t_var rfl) (t_cons (t_var rfl) t_nil)) (scene_bad h))) ⟨_, rfl⟩
theorem hook_bad (h : BadT d) : d_hook [z, d] = .exc exT := by
  refine runF_runX ?_ rfl
  show Mir.Run b_hook [some z, some d] _
  unfold b_hook
  exact r_retX (t_e2X (t_callX (t_cons (t_var rfl) (t_cons (t_var rfl) t_nil)) (scene_bad h))) ⟨_, rfl⟩
theorem is_open_bad (h : BadT d) : d_is_open [z, d] = .exc exT := by
  refine runF_runX ?_ rfl
  show Mir.Run b_is_open [some z, some d] _
  unfold b_is_open
  exact r_retX (t_e2X (t_callX (t_cons (t_var rfl) (t_cons (t_var rfl) t_nil)) (scene_bad h))) ⟨_, rfl⟩
theorem at_home_bad (h : BadT d) : d_at_home [z, d] = .exc exT := by
  refine runF_runX ?_ rfl
  show Mir.Run b_at_home [some z, some d] _
  unfold b_at_home
  exact r_retX (t_callA (a_consT (t_var rfl) (a_consX (t_callX (t_cons (t_var rfl) (t_cons (t_var rfl) t_nil)) (scene_bad h))))) ⟨_, rfl⟩
theorem events_bad1 {y : Mir.D} (h : BadT d) : d_events_between [z, d, y] = some exT := by
  show gxNext _ _ [some z, some d, some y, none, none, none, none] = _
  exact gx_nextX (s_dropX (t_cons (t_var rfl) t_nil) (tick_bad h))
theorem tick_ok {t : Int} (h0 : 0 ≤ t) (h1 : t ≤ 1000000000000000000) : d_check_tick [.int t] = .ok .non := check_tick_spec h0 h1
theorem events_bad2 {t : Int} (h0 : 0 ≤ t) (h1 : t ≤ 1000000000000000000) (h : BadT d) : d_events_between [z, .int t, d] = some exT := by
  show gxNext _ _ [some z, some (.int t), some d, none, none, none, none] = _
  rw [gx_next (s_drop (t_call0 (t_cons (t_var rfl) t_nil) (tick_ok h0 h1)))]
  exact gx_here (s_dropX (t_cons (t_var rfl) t_nil) (tick_bad h))
theorem next_bad (h0 : 1 ≤ p.ts.length) (h : BadT d) : d_next_entry [p.H M, .int 0, d] = .exc exT := by
  refine runF_runX ?_ rfl
  show Mir.Run b_next_entry [some (p.H M), some (.int 0), some d, none, none] _
  unfold b_next_entry
  refine r_seq (s_drop (t_call0 (t_cons (t_var rfl) (t_cons (t_var rfl) t_nil)) (check_person_spec M (k := 0) (by omega)))) ?_
  exact r_dropX (t_cons (t_var rfl) t_nil) (tick_bad h) ⟨_, rfl⟩
theorem count_bad1 {y : Mir.D} (h0 : 1 ≤ p.ts.length) (h : BadT d) : d_count_waits [p.H M, .int 0, d, y] = .exc exT := by
  refine runF_runX ?_ rfl
  show Mir.Run b_count_waits [some (p.H M), some (.int 0), some d, some y, none, none] _
  unfold b_count_waits
  refine r_seq (s_drop (t_call0 (t_cons (t_var rfl) (t_cons (t_var rfl) t_nil)) (check_person_spec M (k := 0) (by omega)))) ?_
  exact r_dropX (t_cons (t_var rfl) t_nil) (tick_bad h) ⟨_, rfl⟩
theorem count_bad2 {t : Int} (h0 : 1 ≤ p.ts.length) (t0 : 0 ≤ t) (t1 : t ≤ 1000000000000000000) (h : BadT d) : d_count_waits [p.H M, .int 0, .int t, d] = .exc exT := by
  refine runF_runX ?_ rfl
  show Mir.Run b_count_waits [some (p.H M), some (.int 0), some (.int t), some d, none, none] _
  unfold b_count_waits
  refine r_seq (s_drop (t_call0 (t_cons (t_var rfl) (t_cons (t_var rfl) t_nil)) (check_person_spec M (k := 0) (by omega)))) ?_
  refine r_seq (s_drop (t_call0 (t_cons (t_var rfl) t_nil) (tick_ok t0 t1))) ?_
  exact r_dropX (t_cons (t_var rfl) t_nil) (tick_bad h) ⟨_, rfl⟩
theorem count_54 (h0 : 1 ≤ p.ts.length) : d_count_waits [p.H M, .int 0, .int 5, .int 4] = .ok (.int 0) := by
  refine runF_run ?_ rfl
  show Mir.Run b_count_waits [some (p.H M), some (.int 0), some (.int 5), some (.int 4), none, none] _
  unfold b_count_waits
  refine r_seq (s_drop (t_call0 (t_cons (t_var rfl) (t_cons (t_var rfl) t_nil)) (check_person_spec M (k := 0) (by omega)))) ?_
  refine r_seq (s_drop (t_call0 (t_cons (t_var rfl) t_nil) (tick_ok (by decide) (by decide)))) ?_
  refine r_seq (s_drop (t_call0 (t_cons (t_var rfl) t_nil) (tick_ok (by decide) (by decide)))) ?_
  exact r_tru (p := true) (t_test (t_e2 (t_var rfl) (t_var rfl) rfl)) rfl (r_retS k_c ⟨_, rfl⟩)
structure BadW (p : Pt) (d : Mir.D) : Prop where
  f : d_is_int_in [d, .int 0, .int ((p.ts.length : Int) - 1)] = .ok (.bl false)
theorem wait_badW (h : BadW p d) : d_wait_ticks [p.H M, d] = .exc exP := by
  refine runF_runX ?_ rfl
  show Mir.Run b_wait_ticks [some (p.H M), some d] _
  unfold b_wait_ticks
  exact r_dropX (t_cons (t_var rfl) (t_cons (t_var rfl) t_nil)) (person_bad h.f) ⟨_, rfl⟩
theorem count_badW {x y : Mir.D} (h : BadW p d) : d_count_waits [p.H M, d, x, y] = .exc exP := by
  refine runF_runX ?_ rfl
  show Mir.Run b_count_waits [some (p.H M), some d, some x, some y, none, none] _
  unfold b_count_waits
  exact r_dropX (t_cons (t_var rfl) (t_cons (t_var rfl) t_nil)) (person_bad h.f) ⟨_, rfl⟩
theorem next_badW {x : Mir.D} (h : BadW p d) : d_next_entry [p.H M, d, x] = .exc exP := by
  refine runF_runX ?_ rfl
  show Mir.Run b_next_entry [some (p.H M), some d, some x, none, none] _
  unfold b_next_entry
  exact r_dropX (t_cons (t_var rfl) (t_cons (t_var rfl) t_nil)) (person_bad h.f) ⟨_, rfl⟩
structure BadL (d : Mir.D) : Prop where
  f : d_is_int_in [d, .int 0, .int 2] = .ok (.bl false)
theorem plan_bad (h : BadL d) : d_plan_reminders [z, d] = .exc exL := by
  refine runF_runX ?_ rfl
  show Mir.Run b_plan_reminders [some z, some d, none, none, none, none, none, none, none, none] _
  unfold b_plan_reminders
  exact r_seqExc (x := exL) (r_tru1 (p := true) (t_not (p := false) (t_test (t_call0 (t_cons (t_var rfl) (t_cons k_c (t_cons k_c t_nil))) h.f))) rfl (r_raise0 ⟨_, rfl, _, rfl⟩))
end
theorem int_bad {v lo hi : Int} (h : v < lo ∨ hi < v) : d_is_int_in [.int v, .int lo, .int hi] = .ok (.bl false) := by
  rw [is_int_in_spec]
  rcases h with h | h
  · rw [decide_eq_false (show ¬ lo ≤ v by omega)]; rfl
  · rw [decide_eq_false (show ¬ v ≤ hi by omega), Bool.and_false]
theorem non_bad (lo hi : Int) : d_is_int_in [.non, .int lo, .int hi] = .ok (.bl false) := rfl
theorem bl_bad (lo hi : Int) : d_is_int_in [.bl true, .int lo, .int hi] = .ok (.bl false) := rfl
theorem str_bad (x : Str) (lo hi : Int) : d_is_int_in [.str x, .int lo, .int hi] = .ok (.bl false) := rfl
theorem tup_bad (x : List Mir.D) (lo hi : Int) : d_is_int_in [.tup x, .int lo, .int hi] = .ok (.bl false) := rfl
theorem tick_ix {r f : Int} (h1 : 0 ≤ r) (h2 : r < 6) (hf : 0 ≤ f) : ∃ d, oIx (.lst [.int (0 - 1 - f), .int (1000000000000000000 + 1 + f), .non, .bl true, .str "1", .tup [.int 1]]) (.int r) = some d ∧ BadT d := by
  have : r = 0 ∨ r = 1 ∨ r = 2 ∨ r = 3 ∨ r = 4 ∨ r = 5 := by omega
  rcases this with rfl | rfl | rfl | rfl | rfl | rfl
  · exact ⟨_, rfl, ⟨int_bad (.inl (by omega))⟩⟩
  · exact ⟨_, rfl, ⟨int_bad (.inr (by omega))⟩⟩
  · exact ⟨_, rfl, ⟨non_bad _ _⟩⟩
  · exact ⟨_, rfl, ⟨bl_bad _ _⟩⟩
  · exact ⟨_, rfl, ⟨str_bad _ _ _⟩⟩
  · exact ⟨_, rfl, ⟨tup_bad _ _ _⟩⟩
theorem who_ix {p : Pt} {r f : Int} (h1 : 0 ≤ r) (h2 : r < 6) (hf : 0 ≤ f) : ∃ d, oIx (.lst [.int (0 - 1 - f), .int ((p.ts.length : Int) + f), .non, .bl true, .str "0", .tup [.int 0]]) (.int r) = some d ∧ BadW p d := by
  have : r = 0 ∨ r = 1 ∨ r = 2 ∨ r = 3 ∨ r = 4 ∨ r = 5 := by omega
  rcases this with rfl | rfl | rfl | rfl | rfl | rfl
  · exact ⟨_, rfl, ⟨int_bad (.inl (by omega))⟩⟩
  · exact ⟨_, rfl, ⟨int_bad (.inr (by omega))⟩⟩
  · exact ⟨_, rfl, ⟨non_bad _ _⟩⟩
  · exact ⟨_, rfl, ⟨bl_bad _ _⟩⟩
  · exact ⟨_, rfl, ⟨str_bad _ _ _⟩⟩
  · exact ⟨_, rfl, ⟨tup_bad _ _ _⟩⟩
theorem lim_ix {r f : Int} (h1 : 0 ≤ r) (h2 : r < 5) (hf : 0 ≤ f) : ∃ d, oIx (.lst [.int (0 - 1 - f), .int (3 + f), .non, .bl true, .str "1"]) (.int r) = some d ∧ BadL d := by
  have : r = 0 ∨ r = 1 ∨ r = 2 ∨ r = 3 ∨ r = 4 := by omega
  rcases this with rfl | rfl | rfl | rfl | rfl
  · exact ⟨_, rfl, ⟨int_bad (.inl (by omega))⟩⟩
  · exact ⟨_, rfl, ⟨int_bad (.inr (by omega))⟩⟩
  · exact ⟨_, rfl, ⟨non_bad _ _⟩⟩
  · exact ⟨_, rfl, ⟨bl_bad _ _⟩⟩
  · exact ⟨_, rfl, ⟨str_bad _ _ _⟩⟩
theorem hx_t : hx_law_error_of exT = some (.tup [.str "tick", .int 0]) := by kernel_rfl
theorem hx_p : hx_law_error_of exP = some (.tup [.str "person", .int 0]) := by kernel_rfl
theorem hx_l : hx_law_error_of exL = some (.tup [.str "limit", .int 0]) := by kernel_rfl
theorem fit_t : (Mir.D.tup [.str "tick", .int 0]).fit = true := by kernel_rfl
theorem fit_p : (Mir.D.tup [.str "person", .int 0]).fit = true := by kernel_rfl
theorem fit_l : (Mir.D.tup [.str "limit", .int 0]).fit = true := by kernel_rfl
end K09
namespace K09
open PySem PySem.Spec PyProof.Rows L2 Mir
def LE (o : Mir.D) (x2 x3 x4 x5 x6 x7 : Option Mir.D) : Mir.Env := [none, some o, x2, x3, x4, x5, x6, x7]
theorem law_math (ns : List Int) (_ : ns.length ≤ 63) : ∃ e, b_law (env1 6 (rndL ns 9)) = .ret (.bl true) e := by
  have ho : Rnd (.lst ((rndL ns 9).map .int)) := ⟨_, rfl, by unfold rndL; simp⟩
  obtain ⟨o, hoe⟩ : ∃ o, o = Mir.D.lst ((rndL ns 9).map .int) := ⟨_, rfl⟩
  show Run b_law (LE (.lst ((rndL ns 9).map .int)) none none none none none none) fun o => ∃ e, o = .ret (.bl true) e
  rw [← hoe] at ho ⊢
  unfold b_law
  obtain ⟨p, o1, f1, h, ho1, hp3⟩ := parts_spec (mo := 4) (by decide) (by decide) ho
  obtain ⟨M, P⟩ := per_init h
  have k1 := h.t0
  refine r_seq (e1 := LE o1 (some (p.H M)) none none none none none) (s_asg (t_call0 (t_cons (t_callO rfl (t_cons k_c t_nil) rfl f1 rfl) t_nil) (house_spec h P)) rfl) ?_
  obtain ⟨r2, o2, b2, r20, r21, ho2⟩ := callO_below (env := LE o1 (some (p.H M)) none none none none none) (b := eC (.int 2)) (j := 1) rfl rfl rfl ho1 (by decide) (by decide)
  obtain ⟨r3, o3, b3, r30, r31, ho3⟩ := callO_below (env := LE o2 (some (p.H M)) none none none none none) (b := eC (.int 999)) (j := 1) rfl rfl rfl ho2 (by decide) (by decide)
  obtain ⟨f, hf⟩ : ∃ f, f = r2 * r3 := ⟨_, rfl⟩
  have f0 : 0 ≤ f := by rw [hf]; exact Int.mul_nonneg r20 r30
  have f9 : f ≤ 999 := by
    have : r2 = 0 ∨ r2 = 1 := by omega
    rcases this with rfl | rfl <;> omega
  have hm : oMul (.int r2) (.int r3) = some (.int f) := by
    unfold oMul oI
    dsimp only
    rw [if_pos (.inl ⟨by omega, by omega⟩), hf]
  refine r_seq (e1 := LE o3 (some (p.H M)) (some (.int f)) none none none none) (s_asg (t_e2 b2 b3 hm) rfl) ?_
  obtain ⟨r4, o4, b4, r40, r41, ho4⟩ := callO_below (env := LE o3 (some (p.H M)) (some (.int f)) none none none none) (b := eC (.int 6)) (j := 1) rfl rfl rfl ho3 (by decide) (by decide)
  obtain ⟨tk, htk, T⟩ := tick_ix r40 r41 f0
  have hpow : oPow (.int 10) (.int 18) = some (.int 1000000000000000000) := by kernel_rfl
  refine r_seq (e1 := LE o4 (some (p.H M)) (some (.int f)) (some tk) none none none) (s_asg (t_e2 (t_lst (t_cons (t_e2 (t_e2 k_c k_c (oSub_int _ _)) (t_var rfl) (oSub_int _ _)) (t_cons (t_e2 (t_e2 (t_e2 k_c k_c hpow) k_c rfl) (t_var rfl) rfl) (t_cons k_c (t_cons k_c (t_cons k_c (t_cons (t_tup (t_cons k_c t_nil) (len_ok rfl)) t_nil)))))) (len_ok rfl)) b4 htk) rfl) ?_
  refine s_mkL (by show 5 < 8; decide) (s_mkL (by show 5 < 8; decide) (s_mkL (by show 5 < 8; decide) (s_mkL (by show 5 < 8; decide) ?_)))
  have n1 := neOk_of fit_t rfl
  have ft : f ≤ 1000000000000000000 := by omega
  refine r_chk (p := false) (e1 := LE o4 (some (p.H M)) (some (.int f)) (some tk) none none none) (t_not (p := true) (t_test (t_all (t_tup (t_cons k_c (t_cons k_c t_nil)) (len_ok rfl)) rfl
    (go_cons (t_callX (t_cons (t_var rfl) (t_cons (t_var rfl) t_nil)) (at_home_bad T)) hx_t n1
    (go_cons (t_callX (t_cons (t_var rfl) (t_cons (t_var rfl) t_nil)) (waiting_bad T)) hx_t n1
    (go_cons (t_callX (t_cons (t_var rfl) (t_cons (t_var rfl) t_nil)) (holders_bad T)) hx_t n1
    (go_cons (t_callX (t_cons (t_var rfl) (t_cons (t_var rfl) t_nil)) (hook_bad T)) hx_t n1
    (go_cons (t_callX (t_cons (t_var rfl) (t_cons (t_var rfl) t_nil)) (is_open_bad T)) hx_t n1
    (go_cons (t_listGX (t_cons (t_var rfl) (t_cons (t_var rfl) (t_cons k_c t_nil))) (events_bad1 T) rfl) hx_t n1
    (go_cons (t_callX (t_cons (t_var rfl) (t_cons k_c (t_cons (t_var rfl) t_nil))) (next_bad k1 T)) hx_t n1
    (go_cons (t_listGX (t_cons (t_var rfl) (t_cons (t_var rfl) (t_cons (t_var rfl) t_nil))) (events_bad2 f0 ft T) rfl) hx_t n1
    (go_cons (t_callX (t_cons (t_var rfl) (t_cons k_c (t_cons (t_var rfl) (t_cons k_c t_nil)))) (count_bad1 k1 T)) hx_t n1
    (go_cons (t_callX (t_cons (t_var rfl) (t_cons k_c (t_cons (t_var rfl) (t_cons (t_var rfl) t_nil)))) (count_bad2 k1 f0 ft T)) hx_t n1 go_nil))))))))))))) rfl ?_
  obtain ⟨r5, o5, b5, r50, r51, ho5⟩ := callO_below (env := LE o4 (some (p.H M)) (some (.int f)) (some tk) none none none) (b := eC (.int 6)) (j := 1) rfl rfl rfl ho4 (by decide) (by decide)
  obtain ⟨wh, hwh, W⟩ := who_ix (p := p) r50 r51 f0
  refine r_seq (e1 := LE o5 (some (p.H M)) (some (.int f)) (some tk) none (some wh) none) (s_asg (t_e2 (t_lst (t_cons (t_e2 (t_e2 k_c k_c (oSub_int _ _)) (t_var rfl) (oSub_int _ _)) (t_cons (t_e2 (t_prop (es := [.tup (p.ts.map .str), .int p.keys, .tup (p.cs.map .int), .tup (p.rs.map Mir.pairD), .int M]) (t_var rfl) (persons_spec p M)) (t_var rfl) rfl) (t_cons k_c (t_cons k_c (t_cons k_c (t_cons (t_tup (t_cons k_c t_nil) (len_ok rfl)) t_nil)))))) (len_ok rfl)) b5 hwh) rfl) ?_
  refine s_mkL (by show 5 < 8; decide) ?_
  have n2 := neOk_of fit_p rfl
  refine r_chk (p := false) (e1 := LE o5 (some (p.H M)) (some (.int f)) (some tk) none (some wh) none) (t_not (p := true) (t_test (t_all (t_tup (t_cons k_c (t_cons k_c t_nil)) (len_ok rfl)) rfl
    (go_cons (t_callX (t_cons (t_var rfl) (t_cons (t_var rfl) t_nil)) (wait_badW W)) hx_p n2
    (go_cons (t_callX (t_cons (t_var rfl) (t_cons (t_var rfl) (t_cons (t_var rfl) (t_cons (t_var rfl) t_nil)))) (count_badW W)) hx_p n2
    (go_cons (t_callX (t_cons (t_var rfl) (t_cons (t_var rfl) (t_cons (t_var rfl) t_nil))) (next_badW W)) hx_p n2 go_nil)))))) rfl ?_
  obtain ⟨r6, o6, b6, r60, r61, ho6⟩ := callO_below (env := LE o5 (some (p.H M)) (some (.int f)) (some tk) none (some wh) none) (b := eC (.int 5)) (j := 1) rfl rfl rfl ho5 (by decide) (by decide)
  obtain ⟨li, hli, L⟩ := lim_ix r60 r61 f0
  refine r_seq (e1 := LE o6 (some (p.H M)) (some (.int f)) (some tk) none (some wh) (some li)) (s_asg (t_e2 (t_lst (t_cons (t_e2 (t_e2 k_c k_c (oSub_int _ _)) (t_var rfl) (oSub_int _ _)) (t_cons (t_e2 k_c (t_var rfl) rfl) (t_cons k_c (t_cons k_c (t_cons k_c t_nil))))) (len_ok rfl)) b6 hli) rfl) ?_
  refine r_chk (p := false) (e1 := LE o6 (some (p.H M)) (some (.int f)) (some tk) none (some wh) (some li)) (t_test (t_e2 (t_cloX (t_callX (t_cons (t_var rfl) (t_cons (t_var rfl) t_nil)) (plan_bad L)) hx_l rfl) (t_tup (t_cons k_c (t_cons k_c t_nil)) (len_ok rfl)) (oNe_self fit_l))) rfl ?_
  refine r_ret (d := .bl true) (e1 := LE o6 (some (p.H M)) (some (.int f)) (some tk) none (some wh) (some li)) ?_ ⟨_, rfl⟩
  exact t_andV (p := true) (q := true) (t_e1 (t_nx (t_call0 (t_cons (t_var rfl) (t_cons (t_e2 k_c k_c hpow) t_nil)) (waiting_spec h P 1000000000000000000 (Nat.le_refl _)))) rfl) fun _ => t_e2 (t_nx (t_call0 (t_cons (t_var rfl) (t_cons k_c (t_cons k_c (t_cons k_c t_nil)))) (count_54 k1))) k_c rfl
end K09
open PySem PySem.W PyProof.Rows
set_option maxRecDepth 100000 in
set_option maxHeartbeats 0 in
theorem PySem.Challenge.cw_doorkeys_k09_invalid_ticks_and_persons_holds : PySem.Challenge.rw_doorkeys_k09_invalid_ticks_and_persons.Holds := by
  w_on; o_law; km_head; (case hw => w_witness2)
  k_fill
  refine LamX.walk_ofTs (l := PySem.Challenge.rw_doorkeys_k09_invalid_ticks_and_persons) (n := 63) (k := 18) (x := "_law_script") (CX := fun _ => L2.CX0) rfl (by decide) rfl ⟨rfl, by decide, by decide⟩ (fun w h Y => PySem.W.km_in_of Y) ?F (fun _ _ _ _ _ h => h)
  case F =>
    intro w mg fa h Y KX G hmg
    refine K09.law_endT ?facts hmg K09.law_math
    refine' K09.all_mk (h := h) KX G ?a_House ?a_Story ?a_InvalidTick ?a_UnknownPerson ?a_InvalidLimit ?a_HouseError ?a_InvalidHouse ?a_DifferentHouses ?a_InvalidWaiting ?a_Contradiction ?a_InvalidName ?a_UnknownName ?a_TextFault ?a_InvalidCode ?a_InvalidOperation ?a_is_int_in ?l_is_int_in ?c_is_int_in ?k_is_int_in ?a_is_table ?l_is_table ?c_is_table ?k_is_table ?a_common_multiple ?l_common_multiple ?c_common_multiple ?k_common_multiple ?a_check_persons ?l_check_persons ?c_check_persons ?k_check_persons ?a_is_reminder ?l_is_reminder ?c_is_reminder ?k_is_reminder ?a_House__init_ ?i_House__init_ ?l_House__init_ ?c_House__init_ ?k_House__init_ ?pa_House_persons ?pg_House_persons ?pt_House_persons ?pc_House_persons ?l_House_persons ?c_House_persons ?k_House_persons ?pa_House_period ?pg_House_period ?pt_House_period ?pc_House_period ?l_House_period ?c_House_period ?k_House_period ?a_House_wants_home ?i_House_wants_home ?l_House_wants_home ?c_House_wants_home ?k_House_wants_home ?a_House_takes_key ?i_House_takes_key ?l_House_takes_key ?c_House_takes_key ?k_House_takes_key ?a_check_tick ?l_check_tick ?c_check_tick ?k_check_tick ?a_check_person ?l_check_person ?c_check_person ?k_check_person ?a_first_scene ?l_first_scene ?c_first_scene ?k_first_scene ?a_people_at_home ?l_people_at_home ?c_people_at_home ?k_people_at_home ?a_after_tick ?l_after_tick ?c_after_tick ?k_after_tick ?a_Story__init_ ?i_Story__init_ ?l_Story__init_ ?c_Story__init_ ?k_Story__init_ ?pa_Story_size ?pg_Story_size ?pt_Story_size ?pc_Story_size ?l_Story_size ?c_Story_size ?k_Story_size ?a_Story_place_of ?i_Story_place_of ?l_Story_place_of ?c_Story_place_of ?k_Story_place_of ?a_scene_after ?l_scene_after ?c_scene_after ?k_scene_after ?a_at_home ?l_at_home ?c_at_home ?k_at_home ?a_events_between ?l_events_between ?c_events_between ?k_events_between ?a_waiting ?l_waiting ?c_waiting ?k_waiting ?a_is_open ?l_is_open ?c_is_open ?k_is_open ?a_hook ?l_hook ?c_hook ?k_hook ?a_holders ?l_holders ?c_holders ?k_holders ?a_wait_ticks ?l_wait_ticks ?c_wait_ticks ?k_wait_ticks ?a_count_waits ?l_count_waits ?c_count_waits ?k_count_waits ?a_next_entry ?l_next_entry ?c_next_entry ?k_next_entry ?a_plan_reminders ?l_plan_reminders ?c_plan_reminders ?k_plan_reminders ?a_law_below ?l_law_below ?c_law_below ?k_law_below ?a_law_table ?l_law_table ?c_law_table ?k_law_table ?a_law_length ?l_law_length ?c_law_length ?k_law_length ?a_law_parts ?l_law_parts ?c_law_parts ?k_law_parts ?a_law_house ?l_law_house ?c_law_house ?k_law_house ?a_law_error_of ?l_law_error_of ?c_law_error_of ?k_law_error_of ?a_law_all_raise ?l_law_all_raise ?c_law_all_raise ?k_law_all_raise ?a_law_random ?l_law_random ?c_law_random ?k_law_random ?a_law ?l_law ?c_law ?k_law ?pg_House ?hd_House ?po_House ?sa_House ?mk_House ?kc_House ?na_House_tables ?na_House_key_count ?na_House_careful ?na_House_reminders ?na_House_length ?pg_Story ?hd_Story ?po_Story ?sa_Story ?mk_Story ?kc_Story ?na_Story_scenes ?na_Story_events ?na_Story_start ?na_Story_last ?xd_InvalidTick ?xy_InvalidTick ?xd_UnknownPerson ?xy_UnknownPerson ?xd_InvalidLimit ?xy_InvalidLimit ?xd_HouseError ?xy_HouseError ?xd_InvalidHouse ?xy_InvalidHouse ?xd_DifferentHouses ?xy_DifferentHouses ?xd_InvalidWaiting ?xy_InvalidWaiting ?xd_Contradiction ?xy_Contradiction ?xd_InvalidName ?xy_InvalidName ?xd_UnknownName ?xy_UnknownName ?xd_TextFault ?xy_TextFault ?xd_InvalidCode ?xy_InvalidCode ?xd_InvalidOperation ?xy_InvalidOperation ?xe_HouseError ?xr_HouseError ?xi_HouseError ?xg_HouseError ?xn_ ?xt_ ?xp_InvalidTick ?xe_InvalidTick ?xk_InvalidTick ?xa_InvalidTick ?xh_InvalidTick ?xc_InvalidTick ?xo_InvalidTick ?ss_InvalidTick ?xm_InvalidTick ?xp_UnknownPerson ?xe_UnknownPerson ?xk_UnknownPerson ?xa_UnknownPerson ?xh_UnknownPerson ?xc_UnknownPerson ?xo_UnknownPerson ?ss_UnknownPerson ?xm_UnknownPerson ?xp_InvalidLimit ?xe_InvalidLimit ?xk_InvalidLimit ?xa_InvalidLimit ?xh_InvalidLimit ?xc_InvalidLimit ?xo_InvalidLimit ?ss_InvalidLimit ?xm_InvalidLimit ?sx_InvalidTick ?kt_InvalidLimit_Contradiction ?kt_InvalidLimit_DifferentHouses ?kt_InvalidLimit_InvalidCode ?kt_InvalidLimit_InvalidHouse ?kt_InvalidLimit_InvalidLimit ?kt_InvalidLimit_InvalidName ?kt_InvalidLimit_InvalidOperation ?kt_InvalidLimit_InvalidTick ?kt_InvalidLimit_InvalidWaiting ?kt_InvalidLimit_TextFault ?kt_InvalidLimit_UnknownName ?kt_InvalidLimit_UnknownPerson ?kt_InvalidLimit_ValueError ?kt_InvalidTick_Contradiction ?kt_InvalidTick_DifferentHouses ?kt_InvalidTick_InvalidCode ?kt_InvalidTick_InvalidHouse ?kt_InvalidTick_InvalidLimit ?kt_InvalidTick_InvalidName ?kt_InvalidTick_InvalidOperation ?kt_InvalidTick_InvalidTick ?kt_InvalidTick_InvalidWaiting ?kt_InvalidTick_TextFault ?kt_InvalidTick_UnknownName ?kt_InvalidTick_UnknownPerson ?kt_InvalidTick_ValueError ?kt_UnknownPerson_Contradiction ?kt_UnknownPerson_DifferentHouses ?kt_UnknownPerson_InvalidCode ?kt_UnknownPerson_InvalidHouse ?kt_UnknownPerson_InvalidLimit ?kt_UnknownPerson_InvalidName ?kt_UnknownPerson_InvalidOperation ?kt_UnknownPerson_InvalidTick ?kt_UnknownPerson_InvalidWaiting ?kt_UnknownPerson_TextFault ?kt_UnknownPerson_UnknownName ?kt_UnknownPerson_UnknownPerson ?kt_UnknownPerson_ValueError ?z_ValueError ?z_abs ?z_all ?z_any ?z_bool ?z_enumerate ?z_int ?z_isinstance ?z_len ?z_list ?z_range ?z_sorted ?z_str ?z_sum ?z_tuple ?u_MAX_PERSONS ?u_LENGTHS ?l_LENGTHS ?u_MAX_KEYS ?u_MAX_REMINDERS ?u_MAX_TICK ?u_HOME ?u_OUT ?u_ENTER ?u_WAIT ?u_LEAVE ?u_TAKE ?u_OPEN ?u_MAX_ADDED ?lT_House__init_ ?v_law ?le0_House__init_ ?le1_House__init_ ?p_law ?h_law ?n_law ?t_law ?uT
    (case a_House => k_is); (case a_Story => k_is); (case a_InvalidTick => k_is); (case a_UnknownPerson => k_is); (case a_InvalidLimit => k_is); (case a_HouseError => k_is)
    (case a_InvalidHouse => k_is); (case a_DifferentHouses => k_is); (case a_InvalidWaiting => k_is); (case a_Contradiction => k_is); (case a_InvalidName => k_is); (case a_UnknownName => k_is)
    (case a_TextFault => k_is); (case a_InvalidCode => k_is); (case a_InvalidOperation => k_is); (case a_is_int_in => k_is); (case l_is_int_in => k_is); (case c_is_int_in => k_is)
    (case k_is_int_in => k_is); (case a_is_table => k_is); (case l_is_table => k_is); (case c_is_table => k_is); (case k_is_table => k_is); (case a_common_multiple => k_is)
    (case l_common_multiple => k_is); (case c_common_multiple => k_is); (case k_common_multiple => k_is); (case a_check_persons => k_is); (case l_check_persons => k_is); (case c_check_persons => k_is)
    (case k_check_persons => k_is); (case a_is_reminder => k_is); (case l_is_reminder => k_is); (case c_is_reminder => k_is); (case k_is_reminder => k_is); (case a_House__init_ => k_is)
    (case i_House__init_ => k_is); (case l_House__init_ => k_is); (case c_House__init_ => k_is); (case k_House__init_ => k_is); (case pa_House_persons => k_is); (case pg_House_persons => k_is)
    (case pt_House_persons => k_is); (case pc_House_persons => k_is); (case l_House_persons => k_is); (case c_House_persons => k_is); (case k_House_persons => k_is); (case pa_House_period => k_is)
    (case pg_House_period => k_is); (case pt_House_period => k_is); (case pc_House_period => k_is); (case l_House_period => k_is); (case c_House_period => k_is); (case k_House_period => k_is)
    (case a_House_wants_home => k_is); (case i_House_wants_home => k_is); (case l_House_wants_home => k_is); (case c_House_wants_home => k_is); (case k_House_wants_home => k_is); (case a_House_takes_key => k_is)
    (case i_House_takes_key => k_is); (case l_House_takes_key => k_is); (case c_House_takes_key => k_is); (case k_House_takes_key => k_is); (case a_check_tick => k_is); (case l_check_tick => k_is)
    (case c_check_tick => k_is); (case k_check_tick => k_is); (case a_check_person => k_is); (case l_check_person => k_is); (case c_check_person => k_is); (case k_check_person => k_is)
    (case a_first_scene => k_is); (case l_first_scene => k_is); (case c_first_scene => k_is); (case k_first_scene => k_is); (case a_people_at_home => k_is); (case l_people_at_home => k_is)
    (case c_people_at_home => k_is); (case k_people_at_home => k_is); (case a_after_tick => k_is); (case l_after_tick => k_is); (case c_after_tick => k_is); (case k_after_tick => k_is)
    (case a_Story__init_ => k_is); (case i_Story__init_ => k_is); (case l_Story__init_ => k_is); (case c_Story__init_ => k_is); (case k_Story__init_ => k_is); (case pa_Story_size => k_is)
    (case pg_Story_size => k_is); (case pt_Story_size => k_is); (case pc_Story_size => k_is); (case l_Story_size => k_is); (case c_Story_size => k_is); (case k_Story_size => k_is)
    (case a_Story_place_of => k_is); (case i_Story_place_of => k_is); (case l_Story_place_of => k_is); (case c_Story_place_of => k_is); (case k_Story_place_of => k_is); (case a_scene_after => k_is)
    (case l_scene_after => k_is); (case c_scene_after => k_is); (case k_scene_after => k_is); (case a_at_home => k_is); (case l_at_home => k_is); (case c_at_home => k_is)
    (case k_at_home => k_is); (case a_events_between => k_is); (case l_events_between => k_is); (case c_events_between => k_is); (case k_events_between => k_is); (case a_waiting => k_is)
    (case l_waiting => k_is); (case c_waiting => k_is); (case k_waiting => k_is); (case a_is_open => k_is); (case l_is_open => k_is); (case c_is_open => k_is)
    (case k_is_open => k_is); (case a_hook => k_is); (case l_hook => k_is); (case c_hook => k_is); (case k_hook => k_is); (case a_holders => k_is)
    (case l_holders => k_is); (case c_holders => k_is); (case k_holders => k_is); (case a_wait_ticks => k_is); (case l_wait_ticks => k_is); (case c_wait_ticks => k_is)
    (case k_wait_ticks => k_is); (case a_count_waits => k_is); (case l_count_waits => k_is); (case c_count_waits => k_is); (case k_count_waits => k_is); (case a_next_entry => k_is)
    (case l_next_entry => k_is); (case c_next_entry => k_is); (case k_next_entry => k_is); (case a_plan_reminders => k_is); (case l_plan_reminders => k_is); (case c_plan_reminders => k_is)
    (case k_plan_reminders => k_is); (case a_law_below => k_is); (case l_law_below => k_is); (case c_law_below => k_is); (case k_law_below => k_is); (case a_law_table => k_is)
    (case l_law_table => k_is); (case c_law_table => k_is); (case k_law_table => k_is); (case a_law_length => k_is); (case l_law_length => k_is); (case c_law_length => k_is)
    (case k_law_length => k_is); (case a_law_parts => k_is); (case l_law_parts => k_is); (case c_law_parts => k_is); (case k_law_parts => k_is); (case a_law_house => k_is)
    (case l_law_house => k_is); (case c_law_house => k_is); (case k_law_house => k_is); (case a_law_error_of => k_is); (case l_law_error_of => k_is); (case c_law_error_of => k_is)
    (case k_law_error_of => k_is); (case a_law_all_raise => k_is); (case l_law_all_raise => k_is); (case c_law_all_raise => k_is); (case k_law_all_raise => k_is); (case a_law_random => k_is)
    (case l_law_random => k_is); (case c_law_random => k_is); (case k_law_random => k_is); (case a_law => k_is); (case l_law => k_is); (case c_law => k_is)
    (case k_law => k_is); (case pg_House => k_is); (case hd_House => k_is); (case po_House => k_is); (case sa_House => k_is); (case mk_House => k_is)
    (case kc_House => k_is); (case na_House_tables => k_is); (case na_House_key_count => k_is); (case na_House_careful => k_is); (case na_House_reminders => k_is); (case na_House_length => k_is)
    (case pg_Story => k_is); (case hd_Story => k_is); (case po_Story => k_is); (case sa_Story => k_is); (case mk_Story => k_is); (case kc_Story => k_is)
    (case na_Story_scenes => k_is); (case na_Story_events => k_is); (case na_Story_start => k_is); (case na_Story_last => k_is); (case xd_InvalidTick => k_is); (case xy_InvalidTick => k_is)
    (case xd_UnknownPerson => k_is); (case xy_UnknownPerson => k_is); (case xd_InvalidLimit => k_is); (case xy_InvalidLimit => k_is); (case xd_HouseError => k_is); (case xy_HouseError => k_is)
    (case xd_InvalidHouse => k_is); (case xy_InvalidHouse => k_is); (case xd_DifferentHouses => k_is); (case xy_DifferentHouses => k_is); (case xd_InvalidWaiting => k_is); (case xy_InvalidWaiting => k_is)
    (case xd_Contradiction => k_is); (case xy_Contradiction => k_is); (case xd_InvalidName => k_is); (case xy_InvalidName => k_is); (case xd_UnknownName => k_is); (case xy_UnknownName => k_is)
    (case xd_TextFault => k_is); (case xy_TextFault => k_is); (case xd_InvalidCode => k_is); (case xy_InvalidCode => k_is); (case xd_InvalidOperation => k_is); (case xy_InvalidOperation => k_is)
    (case xe_HouseError => k_is); (case xr_HouseError => k_is); (case xi_HouseError => k_is); (case xg_HouseError => k_is); (case xn_ => k_is); (case xt_ => k_is)
    (case xp_InvalidTick => k_exc); (case xe_InvalidTick => k_is); (case xk_InvalidTick => k_is); (case xa_InvalidTick => k_is); (case xh_InvalidTick => k_is); (case xc_InvalidTick => k_is)
    (case xo_InvalidTick => k_is); (case ss_InvalidTick => k_is); (case xm_InvalidTick => k_is); (case xp_UnknownPerson => k_exc); (case xe_UnknownPerson => k_is); (case xk_UnknownPerson => k_is)
    (case xa_UnknownPerson => k_is); (case xh_UnknownPerson => k_is); (case xc_UnknownPerson => k_is); (case xo_UnknownPerson => k_is); (case ss_UnknownPerson => k_is); (case xm_UnknownPerson => k_is)
    (case xp_InvalidLimit => k_exc); (case xe_InvalidLimit => k_is); (case xk_InvalidLimit => k_is); (case xa_InvalidLimit => k_is); (case xh_InvalidLimit => k_is); (case xc_InvalidLimit => k_is)
    (case xo_InvalidLimit => k_is); (case ss_InvalidLimit => k_is); (case xm_InvalidLimit => k_is); (case sx_InvalidTick => k_is); (case kt_InvalidLimit_Contradiction => k_is); (case kt_InvalidLimit_DifferentHouses => k_is)
    (case kt_InvalidLimit_InvalidCode => k_is); (case kt_InvalidLimit_InvalidHouse => k_is); (case kt_InvalidLimit_InvalidLimit => k_is); (case kt_InvalidLimit_InvalidName => k_is); (case kt_InvalidLimit_InvalidOperation => k_is); (case kt_InvalidLimit_InvalidTick => k_is)
    (case kt_InvalidLimit_InvalidWaiting => k_is); (case kt_InvalidLimit_TextFault => k_is); (case kt_InvalidLimit_UnknownName => k_is); (case kt_InvalidLimit_UnknownPerson => k_is); (case kt_InvalidLimit_ValueError => k_is); (case kt_InvalidTick_Contradiction => k_is)
    (case kt_InvalidTick_DifferentHouses => k_is); (case kt_InvalidTick_InvalidCode => k_is); (case kt_InvalidTick_InvalidHouse => k_is); (case kt_InvalidTick_InvalidLimit => k_is); (case kt_InvalidTick_InvalidName => k_is); (case kt_InvalidTick_InvalidOperation => k_is)
    (case kt_InvalidTick_InvalidTick => k_is); (case kt_InvalidTick_InvalidWaiting => k_is); (case kt_InvalidTick_TextFault => k_is); (case kt_InvalidTick_UnknownName => k_is); (case kt_InvalidTick_UnknownPerson => k_is); (case kt_InvalidTick_ValueError => k_is)
    (case kt_UnknownPerson_Contradiction => k_is); (case kt_UnknownPerson_DifferentHouses => k_is); (case kt_UnknownPerson_InvalidCode => k_is); (case kt_UnknownPerson_InvalidHouse => k_is); (case kt_UnknownPerson_InvalidLimit => k_is); (case kt_UnknownPerson_InvalidName => k_is)
    (case kt_UnknownPerson_InvalidOperation => k_is); (case kt_UnknownPerson_InvalidTick => k_is); (case kt_UnknownPerson_InvalidWaiting => k_is); (case kt_UnknownPerson_TextFault => k_is); (case kt_UnknownPerson_UnknownName => k_is); (case kt_UnknownPerson_UnknownPerson => k_is)
    (case kt_UnknownPerson_ValueError => k_is); (case z_ValueError => k_is); (case z_abs => k_is); (case z_all => k_is); (case z_any => k_is); (case z_bool => k_is)
    (case z_enumerate => k_is); (case z_int => k_is); (case z_isinstance => k_is); (case z_len => k_is); (case z_list => k_is); (case z_range => k_is)
    (case z_sorted => k_is); (case z_str => k_is); (case z_sum => k_is); (case z_tuple => k_is); (case u_MAX_PERSONS => k_is); (case u_LENGTHS => k_is)
    (case l_LENGTHS => k_is); (case u_MAX_KEYS => k_is); (case u_MAX_REMINDERS => k_is); (case u_MAX_TICK => k_is); (case u_HOME => k_is); (case u_OUT => k_is)
    (case u_ENTER => k_is); (case u_WAIT => k_is); (case u_LEAVE => k_is); (case u_TAKE => k_is); (case u_OPEN => k_is); (case u_MAX_ADDED => k_is)
    (case lT_House__init_ => k_is); (case v_law => k_is); (case le0_House__init_ => k_is); (case le1_House__init_ => k_is); (case p_law => rfl); (case h_law => kernel_rfl)
    (case n_law => kernel_rfl); (case t_law => exact PySem.W.km_tabs_of Y _ (by k_mem)); (case uT => decide +kernel)

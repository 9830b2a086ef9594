import PyProof.Rows.All
import Wide.All
import OpenK.AllK
import Wide.FinOn
import HandS.ForMost
import HandS.ForExc
import HandS.Property
import HandS.ClsMeth
import HandS.Star
import HandS.Defaults
import HandS.IsInst
import HandS.Deep
import HandS.Sort
import HandS.SortRule
import HandS.Conv
import HandS.Flow
import HandS.TupAny
import HandS.TupLe
import HandS.SortInts
import KE.GoesEnum
import KE.GoesMore
import HandS.Codes
import PySem.Challenge.RW_doorkeys_k14_texts_of_houses
set_option Elab.async false
set_option autoImplicit false
set_option linter.all false
set_option maxRecDepth 100000
set_option maxHeartbeats 4000000
/-! MirA -/
/-! Mir: values as plain data, what represents them on the abstract heap, and judgements "this reading does what this mirror says". -/
namespace Mir
open PySem PySem.Spec PyProof.Rows L2
inductive D where
  | non | bl (b : Bool) | int (i : Int) | str (x : Str) | tup (ds : List D) | lst (ds : List D) | ins (c : Nat) (ds : List D) | dic (ks vs : List D)
abbrev Env := List (Option D)
structure Exn where
  c : Nat
  ds : List D
inductive Out (α : Type) where
  | ok (a : α) (e : Env) | exc (x : Exn) (e : Env) | bad
def Out.bind {α β : Type} (o : Out α) (f : α → Env → Out β) : Out β := match o with
  | .ok a e => f a e
  | .exc x e => .exc x e
  | .bad => .bad
@[simp] theorem Out.bind_ok {α β : Type} (a : α) (e : Env) (f : α → Env → Out β) : (Out.ok a e).bind f = f a e := rfl
@[simp] theorem Out.bind_exc {α β : Type} (x : Exn) (e : Env) (f : α → Env → Out β) : (Out.exc x e : Out α).bind f = .exc x e := rfl
@[simp] theorem Out.bind_bad {α β : Type} (f : α → Env → Out β) : (Out.bad : Out α).bind f = .bad := rfl
/-- what a pure partial function gives -/
def Out.opt {α : Type} (o : Option α) (e : Env) : Out α := match o with
  | some a => .ok a e
  | none => .bad
@[simp] theorem Out.opt_some {α : Type} (a : α) (e : Env) : Out.opt (some a) e = .ok a e := rfl
@[simp] theorem Out.opt_none {α : Type} (e : Env) : (Out.opt none e : Out α) = .bad := rfl
inductive Fl where
  | next (e : Env) | brk (e : Env) | cont (e : Env) | ret (d : D) (e : Env) | exc (x : Exn) (e : Env) | bad
abbrev EM := Env → Out D
abbrev TM := Env → Out Bool
abbrev AM := Env → Out (List D)
abbrev SM := Env → Fl
/-! ### what represents a value -/
structure Sc where
  K : PySem.W.Frag
  ca : Nat → Addr
  fn : Nat → List Str
def Ext (M : Addr → Prop) (H H' : Hp) : Prop := ∀ a o, H a = some o → (¬ M a ∨ ¬ Mut (some o)) → H' a = some o
def Nil : Addr → Prop := fun _ => False
def Fwd (F : Addr → Prop) (H : Hp) (F' : Addr → Prop) (H' : Hp) : Prop := Ext F H H' ∧ (∀ a, F' a → F a ∨ H a = none) ∧ (∀ a, H a ≠ none → H' a ≠ none)
mutual
def Rep (S : Sc) (F : Addr → Prop) (H : Hp) : D → V → Prop
  | .non, v => v = .non
  | .bl b, v => v = .bl b
  | .int i, v => v = .int i
  | .str x, v => v = .str x
  | .tup ds, v => ∃ a vs, v = .ref a ∧ SqT S.K H a vs ∧ RepL S F H ds vs
  | .lst ds, v => ∃ a vs, v = .ref a ∧ ¬ F a ∧ H a = some (.lst vs) ∧ RepL S F H ds vs
  | .ins c ds, v => ∃ a dx fs, v = .ref a ∧ ¬ F a ∧ H a = some (.ins (S.ca c) dx fs) ∧ fs.map (·.1) = (S.fn c).take ds.length ∧ RepL S F H ds (fs.map (·.2))
  | .dic ks _, v => ∃ c : Nat, ks = [.int (c : Int)] ∧ v = .ref (S.ca c)
def RepL (S : Sc) (F : Addr → Prop) (H : Hp) : List D → List V → Prop
  | [], vs => vs = []
  | d :: ds, vs => ∃ v r, vs = v :: r ∧ Rep S F H d v ∧ RepL S F H ds r
end
theorem Ext.refl (M : Addr → Prop) (H : Hp) : Ext M H H := fun _ _ h _ => h
theorem Ext.trans {M : Addr → Prop} {H H1 H2 : Hp} (a : Ext M H H1) (b : Ext M H1 H2) : Ext M H H2 := fun x o h c => b x o (a x o h c) c
theorem Ext.mono {M M' : Addr → Prop} {H H' : Hp} (e : Ext M H H') (h : ∀ a, M a → M' a) : Ext M' H H' := fun x o q c => e x o q (c.imp (fun z y => z (h _ y)) id)
theorem Ext.nil {H H' : Hp} (e : Ext Nil H H') : ∀ a o, H a = some o → H' a = some o := fun a o h => e a o h (.inl fun z => z)
theorem Ext.of {M : Addr → Prop} {H H' : Hp} (e : ∀ a o, H a = some o → H' a = some o) : Ext M H H' := fun a o h _ => e a o h
theorem Ext.new {M : Addr → Prop} {H : Hp} {p : Addr} {o : HO} (h : H p = none) : Ext M H (upd H p o) := fun a u e _ => by
  rw [upd_ne (ne_of_none e h)]; exact e
theorem Ext.dom {H H' : Hp} (e : Ext Nil H H') {a : Addr} (h : H a ≠ none) : H' a ≠ none := by
  cases q : H a with
  | none => exact absurd q h
  | some o => rw [e.nil a o q]; exact fun z => nomatch z
theorem Fwd.refl (F : Addr → Prop) (H : Hp) : Fwd F H F H := ⟨Ext.refl _ _, fun _ h => .inl h, fun _ h => h⟩
theorem Fwd.grow {F : Addr → Prop} {H H' : Hp} (e : Ext Nil H H') : Fwd F H F H' := ⟨e.mono fun _ z => z.elim, fun _ h => .inl h, fun _ h => e.dom h⟩
theorem Fwd.trans {F F1 F2 : Addr → Prop} {H H1 H2 : Hp} (x : Fwd F H F1 H1) (y : Fwd F1 H1 F2 H2) : Fwd F H F2 H2 := by
  obtain ⟨x1, x2, x3⟩ := x
  obtain ⟨y1, y2, y3⟩ := y
  have key : ∀ a, F2 a → F a ∨ H a = none := fun a h => by
    rcases y2 a h with h | h
    · exact x2 a h
    · cases q : H a with
      | none => exact .inr rfl
      | some o => exact absurd h (x3 a (by rw [q]; exact fun z => nomatch z))
  refine ⟨fun a o h c => ?_, key, fun a h => y3 a (x3 a h)⟩
  have h1 := x1 a o h c
  refine y1 a o h1 (c.imp (fun z y => ?_) id)
  rcases x2 a y with w | w
  · exact z w
  · rw [h] at w; cases w
theorem rd_ext {F : Addr → Prop} {H H' : Hp} {a : Addr} {u : HO} (e : Ext F H H') (n : ¬ F a) (h : Rd H a u) : Rd H' a u := by
  rcases h with h | ⟨o, h⟩
  · exact .inl (e a _ h (.inl n))
  · exact .inr ⟨o, e a _ h (.inl n)⟩
theorem rd_some {H : Hp} {a : Addr} {u : HO} (h : Rd H a u) : H a ≠ none := by
  rcases h with h | ⟨o, h⟩ <;> (rw [h]; exact fun z => nomatch z)
theorem sqt_ext {K : PySem.W.Frag} {F : Addr → Prop} {H H' : Hp} {a : Addr} {xs : List V} (e : Ext F H H') (h : SqT K H a xs) : SqT K H' a xs := by
  rcases h with (h | ⟨o, h⟩) | h
  · exact .inl (.inl (e a _ h (.inr fun z => z)))
  · exact .inl (.inr ⟨o, e a _ h (.inr fun z => z)⟩)
  · exact .inr h
mutual
theorem Rep.fwd {S : Sc} {F F' : Addr → Prop} {H H' : Hp} (e : Fwd F H F' H') : ∀ (d : D) (v : V), Rep S F H d v → Rep S F' H' d v
  | .non, _, h => h
  | .bl _, _, h => h
  | .int _, _, h => h
  | .str _, _, h => h
  | .tup ds, v, h => by
    obtain ⟨a, vs, rfl, h1, h2⟩ := h
    exact ⟨a, vs, rfl, sqt_ext e.1 h1, RepL.fwd e ds vs h2⟩
  | .lst ds, v, h => by
    obtain ⟨a, vs, rfl, n, h1, h2⟩ := h
    exact ⟨a, vs, rfl, fun z => (e.2.1 a z).elim n (by rw [h1]; exact fun z => nomatch z), e.1 a _ h1 (.inl n), RepL.fwd e ds vs h2⟩
  | .ins c ds, v, h => by
    obtain ⟨a, dx, fs, rfl, n, h1, h2, h3⟩ := h
    exact ⟨a, dx, fs, rfl, fun z => (e.2.1 a z).elim n (by rw [h1]; exact fun z => nomatch z), e.1 a _ h1 (.inl n), h2, RepL.fwd e ds _ h3⟩
  | .dic _ _, _, h => h
theorem RepL.fwd {S : Sc} {F F' : Addr → Prop} {H H' : Hp} (e : Fwd F H F' H') : ∀ (ds : List D) (vs : List V), RepL S F H ds vs → RepL S F' H' ds vs
  | [], _, h => h
  | d :: ds, vs, h => by
    obtain ⟨v, r, rfl, h1, h2⟩ := h
    exact ⟨v, r, rfl, Rep.fwd e d v h1, RepL.fwd e ds r h2⟩
end
theorem Rep.grow {S : Sc} {F : Addr → Prop} {H H' : Hp} {d : D} {v : V} (h : Rep S F H d v) (e : Ext Nil H H') : Rep S F H' d v := Rep.fwd (.grow e) d v h
theorem RepL.grow {S : Sc} {F : Addr → Prop} {H H' : Hp} {d : List D} {v : List V} (h : RepL S F H d v) (e : Ext Nil H H') : RepL S F H' d v := RepL.fwd (.grow e) d v h
/-- fewer are forbidden, or such as are not there -/
theorem Rep.less {S : Sc} {F F' : Addr → Prop} {H : Hp} {d : D} {v : V} (h : Rep S F H d v) (m : ∀ a, F' a → F a ∨ H a = none) : Rep S F' H d v := Rep.fwd ⟨.refl _ _, m, fun _ h => h⟩ d v h
theorem RepL.less {S : Sc} {F F' : Addr → Prop} {H : Hp} {d : List D} {v : List V} (h : RepL S F H d v) (m : ∀ a, F' a → F a ∨ H a = none) : RepL S F' H d v := RepL.fwd ⟨.refl _ _, m, fun _ h => h⟩ d v h
section
variable {S : Sc} {F : Addr → Prop} {H : Hp}
theorem RepL.nil : RepL S F H [] [] := rfl
theorem RepL.cons {d : D} {ds : List D} {v : V} {vs : List V} (a : Rep S F H d v) (b : RepL S F H ds vs) : RepL S F H (d :: ds) (v :: vs) := ⟨v, vs, rfl, a, b⟩
theorem RepL.length : ∀ {ds : List D} {vs : List V}, RepL S F H ds vs → vs.length = ds.length
  | [], _, h => by cases (show _ = [] from h); rfl
  | d :: ds, vs, h => by
    obtain ⟨v, r, rfl, _, h2⟩ := h
    rw [List.length_cons, List.length_cons, RepL.length h2]
theorem RepL.get : ∀ {ds : List D} {vs : List V} {i : Nat} {d : D}, RepL S F H ds vs → ds[i]? = some d → ∃ v, vs[i]? = some v ∧ Rep S F H d v
  | [], _, _, _, _, e => by simp at e
  | d :: ds, _, 0, _, h, e => by
    obtain ⟨v, r, rfl, h1, _⟩ := h
    cases (show d = _ from by simpa using e)
    exact ⟨v, rfl, h1⟩
  | d :: ds, _, i + 1, _, h, e => by
    obtain ⟨v, r, rfl, _, h2⟩ := h
    obtain ⟨u, e1, e2⟩ := RepL.get h2 (show ds[i]? = some _ by simpa using e)
    exact ⟨u, by simpa using e1, e2⟩
theorem RepL.getV {ds : List D} {vs : List V} {i : Nat} {v : V} (h : RepL S F H ds vs) (e : vs[i]? = some v) : ∃ d, ds[i]? = some d ∧ Rep S F H d v := by
  have hi : i < ds.length := by
    rw [← h.length]
    exact (List.getElem?_eq_some_iff.mp e).1
  obtain ⟨u, e1, e2⟩ := h.get (List.getElem?_eq_getElem hi)
  rw [e] at e1
  cases e1
  exact ⟨_, List.getElem?_eq_getElem hi, e2⟩
theorem RepL.append : ∀ {ds es : List D} {vs us : List V}, RepL S F H ds vs → RepL S F H es us → RepL S F H (ds ++ es) (vs ++ us)
  | [], _, _, _, h, k => by cases (show _ = [] from h); exact k
  | d :: ds, _, _, _, h, k => by
    obtain ⟨v, r, rfl, h1, h2⟩ := h
    exact ⟨v, _, rfl, h1, RepL.append h2 k⟩
theorem RepL.snoc {ds : List D} {vs : List V} {d : D} {v : V} (h : RepL S F H ds vs) (k : Rep S F H d v) : RepL S F H (ds ++ [d]) (vs ++ [v]) := h.append (.cons k .nil)
theorem RepL.take : ∀ {ds : List D} {vs : List V} (n : Nat), RepL S F H ds vs → RepL S F H (ds.take n) (vs.take n)
  | _, _, 0, _ => rfl
  | [], _, n + 1, h => by cases (show _ = [] from h); exact rfl
  | d :: ds, _, n + 1, h => by
    obtain ⟨v, r, rfl, h1, h2⟩ := h
    exact ⟨v, _, rfl, h1, RepL.take n h2⟩
theorem RepL.drop : ∀ {ds : List D} {vs : List V} (n : Nat), RepL S F H ds vs → RepL S F H (ds.drop n) (vs.drop n)
  | _, _, 0, h => h
  | [], _, n + 1, h => by cases (show _ = [] from h); exact rfl
  | d :: ds, _, n + 1, h => by
    obtain ⟨v, r, rfl, h1, h2⟩ := h
    exact RepL.drop n h2
theorem RepL.set : ∀ {ds : List D} {vs : List V} {d : D} {v : V} (n : Nat), RepL S F H ds vs → Rep S F H d v → RepL S F H (ds.set n d) (vs.set n v)
  | [], _, _, _, n, h, _ => by cases (show _ = [] from h); exact rfl
  | d :: ds, _, _, _, 0, h, k => by
    obtain ⟨v, r, rfl, h1, h2⟩ := h
    exact ⟨_, _, rfl, k, h2⟩
  | d :: ds, _, _, _, n + 1, h, k => by
    obtain ⟨v, r, rfl, h1, h2⟩ := h
    exact ⟨_, _, rfl, h1, RepL.set n h2 k⟩
theorem RepL.erase : ∀ {ds : List D} {vs : List V} (n : Nat), RepL S F H ds vs → RepL S F H (ds.eraseIdx n) (vs.eraseIdx n)
  | [], _, n, h => by cases (show _ = [] from h); exact rfl
  | d :: ds, _, 0, h => by
    obtain ⟨v, r, rfl, h1, h2⟩ := h
    exact h2
  | d :: ds, _, n + 1, h => by
    obtain ⟨v, r, rfl, h1, h2⟩ := h
    exact ⟨_, _, rfl, h1, RepL.erase n h2⟩
theorem RepL.ints : ∀ {ns : List Int} {vs : List V}, RepL S F H (ns.map D.int) vs → vs = ns.map V.int
  | [], _, h => h
  | n :: ns, _, h => by
    obtain ⟨v, r, rfl, h1, h2⟩ := h
    cases (show v = _ from h1)
    rw [RepL.ints h2]; rfl
theorem RepL.ofInts : ∀ {ns : List Int}, RepL S F H (ns.map D.int) (ns.map V.int)
  | [] => rfl
  | n :: ns => ⟨_, _, rfl, rfl, RepL.ofInts⟩
theorem RepL.strs : ∀ {ns : List Str} {vs : List V}, RepL S F H (ns.map D.str) vs → vs = ns.map V.str
  | [], _, h => h
  | n :: ns, _, h => by
    obtain ⟨v, r, rfl, h1, h2⟩ := h
    cases (show v = _ from h1)
    rw [RepL.strs h2]; rfl
theorem RepL.ofStrs : ∀ {ns : List Str}, RepL S F H (ns.map D.str) (ns.map V.str)
  | [] => rfl
  | n :: ns => ⟨_, _, rfl, rfl, RepL.ofStrs⟩
theorem RepL.bls : ∀ {ns : List Bool} {vs : List V}, RepL S F H (ns.map D.bl) vs → vs = ns.map V.bl
  | [], _, h => h
  | n :: ns, _, h => by
    obtain ⟨v, r, rfl, h1, h2⟩ := h
    cases (show v = _ from h1)
    rw [RepL.bls h2]; rfl
end
/-! ### states -/
structure Rx where
  G : Addr → Prop
  M : Addr → Prop
  H0 : Hp
abbrev Fp := Nat → List Addr
abbrev Rx.plus (R : Rx) (a : Addr) : Rx := { R with G := fun x => R.G x ∨ x = a }
def Fs (R : Rx) (fp : Fp) : Addr → Prop := fun a => R.G a ∨ ∃ i, a ∈ fp i
def Lv (fp : Fp) : Addr → Prop := fun a => ∃ i, a ∈ fp i
/-- what may not be met: strong, or weak (the slots in U may be met) -/
abbrev Mo := Option (List Nat)
def FM (R : Rx) (fp : Fp) : Mo → Addr → Prop
  | none => Fs R fp
  | some U => fun a => Fs R fp a ∧ ¬ ∃ i, i ∈ U ∧ a ∈ fp i
def Own (S : Sc) (F : Addr → Prop) (H : Hp) (d : D) (a : Addr) (fp : List Addr) : Prop := match d with
  | .lst ds => fp = [a] ∧ ∃ vs, H a = some (.lst vs) ∧ RepL S F H ds vs
  | .ins c ds => fp = [a] ∧ ∃ dx fs, H a = some (.ins (S.ca c) dx fs) ∧ fs.map (·.1) = (S.fn c).take ds.length ∧ RepL S F H ds (fs.map (·.2))
  | _ => False
structure Rel (S : Sc) (O P : List Nat) (R : Rx) (σ : L2.St) (H : Hp) (fp : Fp) (env : Env) : Prop where
  len : env.length = σ.length
  val : ∀ i d, env[i]? = some (some d) → i ∉ O → ∃ v, σ[i]? = some (some v) ∧ Rep S (Fs R fp) H d v
  own : ∀ i d, env[i]? = some (some d) → i ∈ O → ∃ a, σ[i]? = some (some (.ref a)) ∧ Own S (Fs R fp) H d a (fp i)
  non : ∀ i, (i ∉ O ∨ ∀ d, env[i]? ≠ some (some d)) → fp i = []
  dist : ∀ i j a, a ∈ fp i → a ∈ fp j → i = j
  nd : ∀ i, (fp i).Nodup
  src : ∀ i a, a ∈ fp i → (i ∈ P → R.M a) ∧ (i ∉ P → R.H0 a = none ∧ ¬ R.G a)
  ext : Ext R.M R.H0 H
  gl : ∀ a, R.G a → H a ≠ none
  live : ∀ i a, a ∈ fp i → H a ≠ none
  dom : ∀ a, R.H0 a ≠ none → H a ≠ none
  mh : ∀ a, R.M a → R.H0 a ≠ none
section
variable {S : Sc} {O P : List Nat} {R : Rx} {σ : L2.St} {H H' : Hp} {fp : Fp} {env : Env}
theorem Own.fwd {F F' : Addr → Prop} {d : D} {a : Addr} {l : List Addr} (e : Ext Nil H H') (m : ∀ a, F' a → F a ∨ H a = none) (h : Own S F H d a l) : Own S F' H' d a l := by
  have w : Fwd F H F' H' := ⟨e.mono fun _ z => z.elim, m, fun _ h => e.dom h⟩
  cases d with
  | lst ds =>
    obtain ⟨e1, vs, h1, h2⟩ := h
    exact ⟨e1, vs, e.nil _ _ h1, RepL.fwd w _ _ h2⟩
  | ins c ds =>
    obtain ⟨e1, dx, fs, h1, h2, h3⟩ := h
    exact ⟨e1, dx, fs, e.nil _ _ h1, h2, RepL.fwd w _ _ h3⟩
  | _ => exact h.elim
theorem Rel.grow (I : Rel S O P R σ H fp env) (e : Ext Nil H H') : Rel S O P R σ H' fp env where
  len := I.len
  val := fun i d h1 h2 => let ⟨v, a, b⟩ := I.val i d h1 h2; ⟨v, a, b.grow e⟩
  own := fun i d h1 h2 => let ⟨v, a, b⟩ := I.own i d h1 h2; ⟨v, a, b.fwd e fun _ z => .inl z⟩
  non := I.non
  dist := I.dist
  nd := I.nd
  src := I.src
  ext := I.ext.trans (e.mono fun _ z => z.elim)
  gl := fun a h => e.dom (I.gl a h)
  live := fun i a h => e.dom (I.live i a h)
  dom := fun a h => e.dom (I.dom a h)
  mh := I.mh
theorem Rel.fs (I : Rel S O P R σ H fp env) {a : Addr} (h : Fs R fp a) : H a ≠ none := by
  rcases h with h | ⟨i, h⟩
  · exact I.gl a h
  · exact I.live i a h
theorem FM.sub {μ : Mo} {a : Addr} (h : FM R fp μ a) : Fs R fp a := by
  cases μ with
  | none => exact h
  | some U => exact h.1
theorem Rel.fm (I : Rel S O P R σ H fp env) {μ : Mo} {a : Addr} (h : FM R fp μ a) : H a ≠ none := I.fs h.sub
def Stp (μ : Mo) (R : Rx) (H : Hp) (fp : Fp) (env : Env) (H' : Hp) (fp' : Fp) (env' : Env) : Prop := match μ with
  | none => Fwd (Lv fp) H (Lv fp') H'
  | some _ => Ext Nil H H' ∧ fp' = fp ∧ env' = env
theorem adv_fs {f1 : Fp} (w : Fwd (Lv fp) H (Lv f1) H') : Fwd (Fs R fp) H (Fs R f1) H' :=
  ⟨w.1.mono fun _ z => .inr z, fun a z => z.elim (fun z => .inl (.inl z)) fun z => (w.2.1 a z).imp .inr id, w.2.2⟩
theorem Stp.refl {μ : Mo} : Stp μ R H fp env H fp env := by
  cases μ with
  | none => exact Fwd.refl _ _
  | some U => exact ⟨Ext.refl _ _, rfl, rfl⟩
theorem Stp.grow {μ : Mo} (e : Ext Nil H H') : Stp μ R H fp env H' fp env := by
  cases μ with
  | none => exact Fwd.grow e
  | some U => exact ⟨e, rfl, rfl⟩
theorem Stp.trans {μ : Mo} {H1 H2 : Hp} {f1 f2 : Fp} {e1 e2 : Env} (a : Stp μ R H fp env H1 f1 e1) (b : Stp μ R H1 f1 e1 H2 f2 e2) : Stp μ R H fp env H2 f2 e2 := by
  cases μ with
  | none => exact Fwd.trans a b
  | some U =>
    obtain ⟨a1, a2, a3⟩ := a
    obtain ⟨b1, b2, b3⟩ := b
    exact ⟨a1.trans b1, b2.trans a2, b3.trans a3⟩
theorem Stp.fwd {μ : Mo} {H1 : Hp} {f1 : Fp} {e1 : Env} (a : Stp μ R H fp env H1 f1 e1) : Fwd (FM R fp μ) H (FM R f1 μ) H1 := by
  cases μ with
  | none => exact adv_fs a
  | some U =>
    obtain ⟨a1, rfl, _⟩ := a
    exact Fwd.grow a1
theorem Stp.strong {μ : Mo} {H1 : Hp} {f1 : Fp} {e1 : Env} (a : Stp μ R H fp env H1 f1 e1) : Fwd (Lv fp) H (Lv f1) H1 := by
  cases μ with
  | none => exact a
  | some U =>
    obtain ⟨a1, rfl, _⟩ := a
    exact Fwd.grow a1
theorem Stp.dom {μ : Mo} {H1 : Hp} {f1 : Fp} {e1 : Env} (s : Stp μ R H fp env H1 f1 e1) {a : Addr} (h : H1 a = none) : H a = none := by
  cases q : H a with
  | none => rfl
  | some o => exact absurd h (s.strong.2.2 a (by rw [q]; exact fun z => nomatch z))
end
/-- a value's representation; fresh: a new list, met by nobody -/
def RepK (S : Sc) (F : Addr → Prop) (fr : Bool) (H H' : Hp) (d : D) (v : V) : Prop := match fr with
  | false => Rep S F H' d v
  | true => ∃ a vs ds, v = .ref a ∧ H a = none ∧ d = .lst ds ∧ H' a = some (.lst vs) ∧ ¬ F a ∧ RepL S (fun x => F x ∨ x = a) H' ds vs
theorem RepK.rep {S : Sc} {F : Addr → Prop} {fr : Bool} {H H' : Hp} {d : D} {v : V} (h : RepK S F fr H H' d v) : Rep S F H' d v := by
  cases fr with
  | false => exact h
  | true =>
    obtain ⟨a, vs, ds, rfl, _, rfl, h1, h2, h3⟩ := h
    exact ⟨a, vs, rfl, h2, h1, h3.less fun _ z => .inl (.inl z)⟩
/-- how an exception lies: its class, its own dict with the attributes -/
def ExcR (S : Sc) (H : Hp) (x : Exn) (cls : Value) (dd : Option Addr) : Prop :=
  cls = .ref (S.ca x.c) ∧ (x.ds = [] ∨ ∃ b fs, dd = some b ∧ H b = some (.xd fs) ∧ fs.map (·.1) = S.fn x.c ∧ RepL S Nil H x.ds (fs.map (·.2)))
/-- what is wanted behind a mirror's outcome -/
def Want (S : Sc) (O P : List Nat) (E : XK) (μ : Mo) (R : Rx) (σ : L2.St) (H : Hp) (fp : Fp) (env : Env) {α : Type} (o : Out α) (Post : α → Env → Hp → Fp → Prop) : Prop := match o with
  | .ok a env' => ∀ H' fp', Rel S O P R σ H' fp' env' → Stp μ R H fp env H' fp' env' → Post a env' H' fp'
  | .exc x env' => ∀ cls dd H' fp', Rel S O P R σ H' fp' env' → Stp μ R H fp env H' fp' env' → ExcR S H' x cls dd → E cls dd H'
  | .bad => False
section
variable {S : Sc} {O P : List Nat} {R : Rx} {σ : L2.St} {H H' : Hp} {fp : Fp} {env : Env} {E : XK} {μ : Mo}
theorem Want.bind {α β : Type} {o : Out α} {f : α → Env → Out β} {Post : β → Env → Hp → Fp → Prop} (h : Want S O P E μ R σ H fp env (o.bind f) Post) :
    Want S O P E μ R σ H fp env o (fun a e1 H1 f1 => Want S O P E μ R σ H1 f1 e1 (f a e1) Post) := by
  cases o with
  | bad => exact h
  | exc x e => exact h
  | ok a e1 =>
    intro H1 f1 I1 s1
    have h : Want S O P E μ R σ H fp env (f a e1) Post := h
    cases q : f a e1 with
    | bad => rw [q] at h; exact h
    | exc x e =>
      rw [q] at h
      exact fun cls dd H2 f2 I2 s2 x2 => h cls dd H2 f2 I2 (s1.trans s2) x2
    | ok b e2 =>
      rw [q] at h
      exact fun H2 f2 I2 s2 => h H2 f2 I2 (s1.trans s2)
theorem Want.mono {α : Type} {o : Out α} {Po Po' : α → Env → Hp → Fp → Prop} (h : Want S O P E μ R σ H fp env o Po) (k : ∀ a e H1 f1, Rel S O P R σ H1 f1 e → Stp μ R H fp env H1 f1 e → Po a e H1 f1 → Po' a e H1 f1) : Want S O P E μ R σ H fp env o Po' := by
  cases o with
  | bad => exact h
  | exc x e => exact h
  | ok a e1 => exact fun H1 f1 I1 s1 => k a e1 H1 f1 I1 s1 (h H1 f1 I1 s1)
end
/-! ### the judgements -/
theorem fs_plus {R : Rx} {fp : Fp} {a x : Addr} : Fs (R.plus a) fp x ↔ (Fs R fp x ∨ x = a) :=
  ⟨fun z => z.elim (fun z => z.elim (fun z => .inl (.inl z)) .inr) fun z => .inl (.inr z), fun z => z.elim (fun z => z.elim (fun z => .inl (.inl z)) .inr) fun z => .inl (.inr z)⟩
/-- one more address is forbidden, one that is not there yet -/
theorem Rel.plus {S : Sc} {O P : List Nat} {R : Rx} {σ : L2.St} {H H' : Hp} {fp : Fp} {env : Env} {a : Addr} (I : Rel S O P R σ H fp env) (n : H a = none) (e : Ext Nil H H') (h : H' a ≠ none) : Rel S O P (R.plus a) σ H' fp env := by
  have w : Fwd (Fs R fp) H (Fs (R.plus a) fp) H' := ⟨e.mono fun _ z => z.elim, fun x z => (fs_plus.mp z).elim .inl fun q => .inr (by rw [q]; exact n), fun x z => e.dom z⟩
  exact ⟨I.len, fun i d h1 h2 => let ⟨v, q, r⟩ := I.val i d h1 h2; ⟨v, q, Rep.fwd w _ _ r⟩, fun i d h1 h2 => let ⟨v, q, r⟩ := I.own i d h1 h2; ⟨v, q, r.fwd e fun x z => (fs_plus.mp z).elim .inl fun q => .inr (by rw [q]; exact n)⟩, I.non, I.dist, I.nd,
    fun i b hb => ⟨(I.src i b hb).1, fun hp => ⟨((I.src i b hb).2 hp).1, fun z => z.elim ((I.src i b hb).2 hp).2 fun q => absurd n (by rw [← q]; exact I.live i b hb)⟩⟩,
    I.ext.trans (e.mono fun _ z => z.elim), fun b z => z.elim (fun z => e.dom (I.gl b z)) fun q => by rw [q]; exact h, fun i b hb => e.dom (I.live i b hb), fun b hb => e.dom (I.dom b hb), I.mh⟩
/-- a new list is met by no slot -/
def Sep (S : Sc) (O P : List Nat) (R : Rx) (σ : L2.St) (fr : Bool) (fp' : Fp) (env' : Env) (H' : Hp) (v : V) : Prop := fr = true → ∀ a, v = .ref a → Rel S O P (R.plus a) σ H' fp' env'
theorem sep0 {S : Sc} {O P : List Nat} {R : Rx} {σ : L2.St} {fp' : Fp} {env' : Env} {H' : Hp} {v : V} : Sep S O P R σ false fp' env' H' v := fun z => nomatch z
def PostE (S : Sc) (O P : List Nat) (R : Rx) (σ : L2.St) (μ : Mo) (fr : Bool) (H : Hp) (Q : VK) : D → Env → Hp → Fp → Prop := fun d env' H' fp' => ∀ v, RepK S (FM R fp' μ) fr H H' d v → Sep S O P R σ fr fp' env' H' v → Q v H'
def RefE (S : Sc) (O P : List Nat) (E : XK) (μ : Mo) (fr : Bool) (t : TE) (m : EM) : Prop :=
  ∀ (R : Rx) (σ : L2.St) (H : Hp) (fp : Fp) (env : Env), Rel S O P R σ H fp env → ∀ Q : VK, Want S O P E μ R σ H fp env (m env) (PostE S O P R σ μ fr H Q) → t σ H Q
def RefT (S : Sc) (O P : List Nat) (E : XK) (μ : Mo) (t : TT) (m : TM) : Prop :=
  ∀ (R : Rx) (σ : L2.St) (H : Hp) (fp : Fp) (env : Env), Rel S O P R σ H fp env → ∀ Q : Bool → Hp → Prop, Want S O P E μ R σ H fp env (m env) (fun b _ H' _ => Q b H') → t σ H Q
def RefA (S : Sc) (O P : List Nat) (E : XK) (μ : Mo) (t : TA) (m : AM) : Prop :=
  ∀ (R : Rx) (σ : L2.St) (H : Hp) (fp : Fp) (env : Env), Rel S O P R σ H fp env → ∀ Q : List V → Hp → Prop, Want S O P E μ R σ H fp env (m env) (fun ds _ H' fp' => ∀ vs, RepL S (FM R fp' μ) H' ds vs → Q vs H') → t σ H Q
end Mir
/-! MirB -/
namespace Mir
open PySem PySem.Spec PyProof.Rows L2
/-! ### mirrors of expressions -/
def eVar (i : Nat) : EM := fun env => match env[i]? with
  | some (some d) => .ok d env
  | _ => .bad
def eC (d : D) : EM := fun env => .ok d env
def e1 (f : D → Option D) (a : EM) : EM := fun env => (a env).bind fun x e => .opt (f x) e
def e2 (f : D → D → Option D) (a b : EM) : EM := fun env => (a env).bind fun x e => (b e).bind fun y e' => .opt (f x y) e'
def eA (f : List D → Option D) (a : AM) : EM := fun env => (a env).bind fun xs e => .opt (f xs) e
def D.boo : D → Option Bool
  | .bl b => some b
  | _ => none
def mTest (a : EM) : TM := fun env => (a env).bind fun x e => .opt x.boo e
def mAnd (a b : TM) : TM := fun env => (a env).bind fun c e => if c then b e else .ok false e
def mOr (a b : TM) : TM := fun env => (a env).bind fun c e => if c then .ok true e else b e
def mNot (a : TM) : TM := fun env => (a env).bind fun c e => .ok (!c) e
def eAndV (a b : EM) : EM := fun env => (a env).bind fun x e => (Out.opt x.boo e).bind fun c e' => if c then b e' else .ok (.bl false) e'
def eOrV (a b : EM) : EM := fun env => (a env).bind fun x e => (Out.opt x.boo e).bind fun c e' => if c then .ok (.bl true) e' else b e'
def eNotV (a : EM) : EM := fun env => (a env).bind fun x e => (Out.opt x.boo e).bind fun c e' => .ok (.bl (!c)) e'
def eIf (t : TM) (a b : EM) : EM := fun env => (t env).bind fun c e => if c then a e else b e
def aNil : AM := fun env => .ok [] env
def aCons (a : EM) (r : AM) : AM := fun env => (a env).bind fun x e => (r e).bind fun xs e' => .ok (x :: xs) e'
def D.seq : D → Option (List D)
  | .tup ds => some ds
  | .lst ds => some ds
  | _ => none
def aStar (a : EM) (r : AM) : AM := fun env => (a env).bind fun x e => (Out.opt x.seq e).bind fun ys e1 => (r e1).bind fun xs e' => .ok (ys ++ xs) e'
def eTup (a : AM) : EM := eA (fun xs => if xs.length ≤ 100000 then some (.tup xs) else none) a
def eLst (a : AM) : EM := eA (fun xs => if xs.length ≤ 100000 then some (.lst xs) else none) a
mutual
/-- no list, no object in it -/
def D.pure : D → Bool
  | .non => true
  | .bl _ => true
  | .int _ => true
  | .str _ => true
  | .tup ds => D.pureL ds
  | _ => false
def D.pureL : List D → Bool
  | [] => true
  | d :: ds => d.pure && D.pureL ds
end
def eUp (a : EM) : EM := fun env => (a env).bind fun x e => if x.pure then .ok x e else .bad
/-! ### rules of values -/
def Op1 (S : Sc) (fr : Bool) (r : V → Hp → VK → Prop) (f : D → Option D) : Prop :=
  ∀ (F : Addr → Prop) (H : Hp) (x : D) (v : V) (z : D) (Q : VK), (∀ a, F a → H a ≠ none) → Rep S F H x v → f x = some z → (∀ w H', Ext Nil H H' → RepK S F fr H H' z w → Q w H') → r v H Q
def Op2 (S : Sc) (fr : Bool) (r : V → V → Hp → VK → Prop) (f : D → D → Option D) : Prop :=
  ∀ (F : Addr → Prop) (H : Hp) (x y : D) (v u : V) (z : D) (Q : VK), (∀ a, F a → H a ≠ none) → Rep S F H x v → Rep S F H y u → f x y = some z → (∀ w H', Ext Nil H H' → RepK S F fr H H' z w → Q w H') → r v u H Q
def OpA (S : Sc) (fr : Bool) (r : List V → Hp → VK → Prop) (f : List D → Option D) : Prop :=
  ∀ (F : Addr → Prop) (H : Hp) (xs : List D) (vs : List V) (z : D) (Q : VK), (∀ a, F a → H a ≠ none) → RepL S F H xs vs → f xs = some z → (∀ w H', Ext Nil H H' → RepK S F fr H H' z w → Q w H') → r vs H Q
section
variable {S : Sc} {O P : List Nat} {E : XK} {μ : Mo} {fr fa fb : Bool} {ta tb te : TE} {ma mb : EM} {t u : TT} {m n : TM}
theorem RepK.back {F : Addr → Prop} {H H1 H' : Hp} {d : D} {v : V} (h : RepK S F fr H1 H' d v) (k : ∀ a, H1 a = none → H a = none) : RepK S F fr H H' d v := by
  cases fr with
  | false => exact h
  | true =>
    obtain ⟨a, vs, ds, e1, e2, e3⟩ := h
    exact ⟨a, vs, ds, e1, k a e2, e3⟩
theorem RefE.loose (h : RefE S O P E μ fr te ma) : RefE S O P E μ false te ma := fun R σ H fp env I Q w =>
  h R σ H fp env I Q (w.mono fun d e H1 f1 _ _ p v hv _ => p v hv.rep sep0)
theorem ref_var {i : Nat} (hO : i ∉ O) : RefE S O P E μ false (tVar i) (eVar i) := by
  intro R σ H fp env I Q h
  unfold eVar at h
  split at h
  · rename_i d e
    obtain ⟨v, h1, h2⟩ := I.val i d e hO
    exact ⟨v, h1, h H fp I Stp.refl v (h2.less fun a z => .inl z.sub) sep0⟩
  · exact h.elim
/-- an own list (object) read where it is only looked at -/
theorem ref_own {i : Nat} {U : List Nat} (hO : i ∈ O) (hU : i ∈ U) : RefE S O P E (some U) false (tVar i) (eVar i) := by
  intro R σ H fp env I Q h
  unfold eVar at h
  split at h
  · rename_i d e
    obtain ⟨a, h1, h2⟩ := I.own i d e hO
    refine ⟨_, h1, h H fp I Stp.refl _ ?_ sep0⟩
    cases d with
    | lst ds =>
      obtain ⟨e1, vs, e2, e3⟩ := h2
      exact ⟨a, vs, rfl, fun z => z.2 ⟨i, hU, by rw [e1]; exact List.mem_cons_self⟩, e2, e3.less fun _ z => .inl z.sub⟩
    | ins c ds =>
      obtain ⟨e1, dx, fs, e2, e3, e4⟩ := h2
      exact ⟨a, dx, fs, rfl, fun z => z.2 ⟨i, hU, by rw [e1]; exact List.mem_cons_self⟩, e2, e3, e4.less fun _ z => .inl z.sub⟩
    | _ => exact h2.elim
  · exact h.elim
theorem ref_c {d : D} {v : V} (h : ∀ F H, Rep S F H d v) : RefE S O P E μ false (tC v) (eC d) := by
  intro R σ H fp env I Q w
  exact w H fp I Stp.refl v (h _ _) sep0
theorem ref_int {i : Int} : RefE S O P E μ false (tC (.int i)) (eC (.int i)) := ref_c fun _ _ => rfl
theorem ref_str {i : Str} : RefE S O P E μ false (tC (.str i)) (eC (.str i)) := ref_c fun _ _ => rfl
theorem ref_bl {i : Bool} : RefE S O P E μ false (tC (.bl i)) (eC (.bl i)) := ref_c fun _ _ => rfl
theorem ref_non : RefE S O P E μ false (tC .non) (eC .non) := ref_c fun _ _ => rfl
theorem want_opt {R : Rx} {σ : L2.St} {H H1 : Hp} {f1 : Fp} {e1 : Env} {o : Option D} {Q : VK} {z : D} {w : V} {H2 : Hp} (h : Want S O P E μ R σ H1 f1 e1 (Out.opt o e1) (PostE S O P R σ μ fr H Q))
    (e : o = some z) (I : Rel S O P R σ H1 f1 e1) (k : ∀ a, H1 a = none → H a = none) (x : Ext Nil H1 H2) (r : RepK S (FM R f1 μ) fr H1 H2 z w) : Q w H2 := by
  subst e
  refine h H2 f1 (I.grow x) (Stp.grow x) w (r.back k) fun hf a ea => ?_
  subst hf
  obtain ⟨a', vs, ds, e1, e2, _, e3, _⟩ := r
  rw [ea] at e1
  cases e1
  exact I.plus e2 x (by rw [e3]; exact fun z => nomatch z)
theorem want_some {R : Rx} {σ : L2.St} {H1 : Hp} {f1 : Fp} {e1 : Env} {α : Type} {o : Option α} {Po : α → Env → Hp → Fp → Prop} (h : Want S O P E μ R σ H1 f1 e1 (Out.opt o e1) Po) : ∃ z, o = some z := by
  cases o with
  | none => exact h.elim
  | some z => exact ⟨z, rfl⟩
theorem ref_op2 {r : R2} {f : D → D → Option D} (hr : Op2 S fr r f) (ha : RefE S O P E μ fa ta ma) (hb : RefE S O P E μ fb tb mb) : RefE S O P E μ fr (tOp r ta tb) (e2 f ma mb) := by
  intro R σ H fp env I Q h
  refine ha R σ H fp env I _ ((Want.bind h).mono fun x e1 H1 f1 I1 s1 h1 v hv _ => ?_)
  refine hb R σ H1 f1 e1 I1 _ ((Want.bind h1).mono fun y e2 H2 f2 I2 s2 h2 u hu _ => ?_)
  obtain ⟨z, hz⟩ := want_some h2
  exact hr (FM R f2 μ) H2 x y v u z Q (fun a q => I2.fm q) (Rep.fwd s2.fwd _ _ hv.rep) hu.rep hz fun w H' ex hk => want_opt h2 hz I2 (fun a q => (s1.trans s2).dom q) ex hk
theorem ref_op1 {r : V → Hp → VK → Prop} {f : D → Option D} (hr : Op1 S fr r f) (ha : RefE S O P E μ fa ta ma) : RefE S O P E μ fr (tUn r ta) (e1 f ma) := by
  intro R σ H fp env I Q h
  refine ha R σ H fp env I _ ((Want.bind h).mono fun x e1 H1 f1 I1 s1 h1 v hv _ => ?_)
  obtain ⟨z, hz⟩ := want_some h1
  exact hr (FM R f1 μ) H1 x v z Q (fun a q => I1.fm q) hv.rep hz fun w H' ex hk => want_opt h1 hz I1 (fun a q => s1.dom q) ex hk
/-! arguments -/
theorem ref_anil : RefA S O P E μ tNil aNil := fun R σ H fp env I Q h => h H fp I Stp.refl [] .nil
theorem ref_acons {tr : TA} {mr : AM} (ha : RefE S O P E μ fa ta ma) (hr : RefA S O P E μ tr mr) : RefA S O P E μ (tCons ta tr) (aCons ma mr) := by
  intro R σ H fp env I Q h
  refine ha R σ H fp env I _ ((Want.bind h).mono fun x e1 H1 f1 I1 s1 h1 v hv _ => ?_)
  refine hr R σ H1 f1 e1 I1 _ ((Want.bind h1).mono fun xs e2 H2 f2 I2 s2 h2 vs hvs => ?_)
  exact h2 H2 f2 I2 Stp.refl _ (.cons (Rep.fwd s2.fwd _ _ hv.rep) hvs)
theorem ref_astar {tr : TA} {mr : AM} (ha : RefE S O P E μ fa ta ma) (hr : RefA S O P E μ tr mr) : RefA S O P E μ (StX.tStar S.K ta tr) (aStar ma mr) := by
  intro R σ H fp env I Q h
  refine ha R σ H fp env I _ ((Want.bind h).mono fun x e1 H1 f1 I1 s1 h1 v hv _ => ?_)
  have h5 := Want.bind h1
  obtain ⟨ys, hy⟩ := want_some h5
  rw [hy] at h5
  have h6 := h5 H1 f1 I1 Stp.refl
  have hv := hv.rep
  cases x with
  | tup ds =>
    cases hy
    obtain ⟨a, us, rfl, q1, q2⟩ := hv
    refine ⟨a, us, rfl, .inl q1, ?_⟩
    refine hr R σ H1 f1 e1 I1 _ ((Want.bind h6).mono fun xs e2 H2 f2 I2 s2 h2 vs hvs => ?_)
    exact h2 H2 f2 I2 Stp.refl _ ((RepL.fwd s2.fwd _ _ q2).append hvs)
  | lst ds =>
    cases hy
    obtain ⟨a, us, rfl, _, q1, q2⟩ := hv
    refine ⟨a, us, rfl, .inr (.inl (.inl q1)), ?_⟩
    refine hr R σ H1 f1 e1 I1 _ ((Want.bind h6).mono fun xs e2 H2 f2 I2 s2 h2 vs hvs => ?_)
    exact h2 H2 f2 I2 Stp.refl _ ((RepL.fwd s2.fwd _ _ q2).append hvs)
  | _ => cases hy
theorem ref_opA {tA : TA} {mA : AM} {r : List V → Hp → VK → Prop} {f : List D → Option D} (hr : OpA S fr r f) (ha : RefA S O P E μ tA mA) : RefE S O P E μ fr (tCB r tA) (eA f mA) := by
  intro R σ H fp env I Q h
  refine ha R σ H fp env I _ ((Want.bind h).mono fun xs e1 H1 f1 I1 s1 h1 vs hv => ?_)
  obtain ⟨z, hz⟩ := want_some h1
  exact hr (FM R f1 μ) H1 xs vs z Q (fun a q => I1.fm q) hv hz fun w H' ex hk => want_opt h1 hz I1 (fun a q => s1.dom q) ex hk
theorem sz_of {n : Nat} (h : n ≤ 100000) : n ≤ sizeLine := Nat.le_trans h (by decide)
theorem ref_tup {tA : TA} {mA : AM} (ha : RefA S O P E μ tA mA) : RefE S O P E μ false (tTup tA) (eTup mA) := by
  refine ref_opA (r := fun xs H1 Q => xs.length ≤ sizeLine ∧ ∀ p, H1 p = none → Q (.ref p) (upd H1 p (.tup xs))) (fun F H xs vs z Q hF hx hz k => ?_) ha
  split at hz
  · cases hz
    refine ⟨by rw [hx.length]; exact sz_of (by assumption), fun p hp => k _ _ (Ext.new hp) ?_⟩
    exact ⟨p, vs, rfl, .inl (.inl upd_same), hx.grow (Ext.new hp)⟩
  · cases hz
theorem ref_lst {tA : TA} {mA : AM} (ha : RefA S O P E μ tA mA) : RefE S O P E μ true (tLst tA) (eLst mA) := by
  refine ref_opA (r := fun xs H1 Q => xs.length ≤ sizeLine ∧ ∀ p, H1 p = none → Q (.ref p) (upd H1 p (.lst xs))) (fun F H xs vs z Q hF hx hz k => ?_) ha
  split at hz
  · cases hz
    refine ⟨by rw [hx.length]; exact sz_of (by assumption), fun p hp => k _ _ (Ext.new hp) ?_⟩
    refine ⟨p, vs, xs, rfl, hp, rfl, upd_same, fun z => hF p z hp, ?_⟩
    exact (hx.less (F' := fun x => F x ∨ x = p) fun a z => z.elim .inl fun e => .inr (by rw [e]; exact hp)).grow (Ext.new hp)
  · cases hz
/-! tests -/
theorem ref_test (ha : RefE S O P E μ fa ta ma) : RefT S O P E μ (tTest ta) (mTest ma) := by
  intro R σ H fp env I Q h
  refine ha R σ H fp env I _ ((Want.bind h).mono fun x e1 H1 f1 I1 s1 h1 v hv _ => ?_)
  obtain ⟨b, hb⟩ := want_some h1
  rw [hb] at h1
  have hv := hv.rep
  cases x with
  | bl c =>
    cases hb
    exact ⟨_, hv, h1 H1 f1 I1 Stp.refl⟩
  | _ => cases hb
theorem ref_testB (ha : RefE S O P E μ fa ta ma) : RefT S O P E μ (tB ta) (mTest ma) := ref_test ha
theorem ref_and (h1 : RefT S O P E μ t m) (h2 : RefT S O P E μ u n) : RefT S O P E μ (tAnd t u) (mAnd m n) := by
  intro R σ H fp env I Q h
  refine h1 R σ H fp env I _ ((Want.bind h).mono fun c e1 H1 f1 I1 s1 hp => ?_)
  cases c with
  | true => exact h2 R σ H1 f1 e1 I1 Q hp
  | false => exact hp H1 f1 I1 Stp.refl
theorem ref_or (h1 : RefT S O P E μ t m) (h2 : RefT S O P E μ u n) : RefT S O P E μ (tOr t u) (mOr m n) := by
  intro R σ H fp env I Q h
  refine h1 R σ H fp env I _ ((Want.bind h).mono fun c e1 H1 f1 I1 s1 hp => ?_)
  cases c with
  | false => exact h2 R σ H1 f1 e1 I1 Q hp
  | true => exact hp H1 f1 I1 Stp.refl
theorem ref_not (h1 : RefT S O P E μ t m) : RefT S O P E μ (tNot t) (mNot m) := by
  intro R σ H fp env I Q h
  exact h1 R σ H fp env I _ ((Want.bind h).mono fun c e1 H1 f1 I1 s1 hp => hp H1 f1 I1 Stp.refl)
theorem ref_andV (ha : RefE S O P E μ fa ta ma) (hb : RefE S O P E μ fb tb mb) : RefE S O P E μ false (tAndV ta tb) (eAndV ma mb) := by
  intro R σ H fp env I Q h
  refine ha R σ H fp env I _ ((Want.bind h).mono fun x e1 H1 f1 I1 s1 h1 v hv _ => ?_)
  have h5 := Want.bind h1
  obtain ⟨b, hb'⟩ := want_some h5
  rw [hb'] at h5
  have hw := hv.rep
  cases x with
  | bl c =>
    cases hb'
    refine ⟨_, hw, ?_⟩
    have h6 := h5 H1 f1 I1 Stp.refl
    cases b with
    | true => exact hb R σ H1 f1 e1 I1 Q (Want.mono h6 fun d e H2 f2 I2 s2 q v hv _ => q v hv.rep sep0)
    | false => exact h6 H1 f1 I1 Stp.refl _ rfl sep0
  | _ => cases hb'
theorem ref_orV (ha : RefE S O P E μ fa ta ma) (hb : RefE S O P E μ fb tb mb) : RefE S O P E μ false (tOrV ta tb) (eOrV ma mb) := by
  intro R σ H fp env I Q h
  refine ha R σ H fp env I _ ((Want.bind h).mono fun x e1 H1 f1 I1 s1 h1 v hv _ => ?_)
  have h5 := Want.bind h1
  obtain ⟨b, hb'⟩ := want_some h5
  rw [hb'] at h5
  have hw := hv.rep
  cases x with
  | bl c =>
    cases hb'
    refine ⟨_, hw, ?_⟩
    have h6 := h5 H1 f1 I1 Stp.refl
    cases b with
    | false => exact hb R σ H1 f1 e1 I1 Q (Want.mono h6 fun d e H2 f2 I2 s2 q v hv _ => q v hv.rep sep0)
    | true => exact h6 H1 f1 I1 Stp.refl _ rfl sep0
  | _ => cases hb'
theorem ref_notV (ha : RefE S O P E μ fa ta ma) : RefE S O P E μ false (tNotV ta) (eNotV ma) := by
  intro R σ H fp env I Q h
  refine ha R σ H fp env I _ ((Want.bind h).mono fun x e1 H1 f1 I1 s1 h1 v hv _ => ?_)
  have h5 := Want.bind h1
  obtain ⟨b, hb'⟩ := want_some h5
  rw [hb'] at h5
  have hw := hv.rep
  cases x with
  | bl c =>
    cases hb'
    exact ⟨_, hw, (h5 H1 f1 I1 Stp.refl) H1 f1 I1 Stp.refl _ rfl sep0⟩
  | _ => cases hb'
theorem ref_if (ht : RefT S O P E μ t m) (ha : RefE S O P E μ fr ta ma) (hb : RefE S O P E μ fr tb mb) : RefE S O P E μ fr (tIf t ta tb) (eIf m ma mb) := by
  intro R σ H fp env I Q h
  refine ht R σ H fp env I _ ((Want.bind h).mono fun c e1 H1 f1 I1 s1 hp => ?_)
  cases c with
  | true => exact ha R σ H1 f1 e1 I1 Q (Want.mono hp fun d e H2 f2 I2 s2 q v hv sp => q v (hv.back fun a z => s1.dom z) sp)
  | false => exact hb R σ H1 f1 e1 I1 Q (Want.mono hp fun d e H2 f2 I2 s2 q v hv sp => q v (hv.back fun a z => s1.dom z) sp)
/-! pure data need no care -/
mutual
theorem rep_pure {F F' : Addr → Prop} {H : Hp} : ∀ (d : D) (v : V), d.pure = true → Rep S F H d v → Rep S F' H d v
  | .non, _, _, h => h
  | .bl _, _, _, h => h
  | .int _, _, _, h => h
  | .str _, _, _, h => h
  | .tup ds, v, p, h => by
    obtain ⟨a, vs, rfl, h1, h2⟩ := h
    exact ⟨a, vs, rfl, h1, repL_pure ds vs p h2⟩
  | .lst _, _, p, _ => by cases p
  | .ins _ _, _, p, _ => by cases p
  | .dic _ _, _, p, _ => by cases p
theorem repL_pure {F F' : Addr → Prop} {H : Hp} : ∀ (ds : List D) (vs : List V), D.pureL ds = true → RepL S F H ds vs → RepL S F' H ds vs
  | [], _, _, h => h
  | d :: ds, vs, p, h => by
    obtain ⟨v, r, rfl, h1, h2⟩ := h
    have p := (Bool.and_eq_true_iff.mp p)
    exact ⟨v, r, rfl, rep_pure d v p.1 h1, repL_pure ds r p.2 h2⟩
end
theorem Rel.stp {R : Rx} {σ : L2.St} {H H' : Hp} {fp fp' : Fp} {env env' : Env} {U : List Nat} (s : Stp (some U) R H fp env H' fp' env') : Stp none R H fp env H' fp' env' := s.strong
theorem ref_up {U : List Nat} (ha : RefE S O P E (some U) fa ta ma) : RefE S O P E none false ta (eUp ma) := by
  intro R σ H fp env I Q h
  have key : Want S O P E (some U) R σ H fp env (ma env) (PostE S O P R σ (some U) fa H Q) := by
    have h : Want S O P E none R σ H fp env ((ma env).bind _) _ := h
    cases q : ma env with
    | bad => rw [q] at h; exact h
    | exc x e => rw [q] at h; exact fun cls dd H' fp' I' s' => h cls dd H' fp' I' s'.strong
    | ok d e =>
      rw [q] at h
      intro H' fp' I' s' v hv _
      have h : Want S O P E none R σ H fp env (if d.pure then Out.ok d e else Out.bad) _ := h
      by_cases c : d.pure = true
      · rw [if_pos c] at h
        exact h H' fp' I' s'.strong v (rep_pure d v c hv.rep) sep0
      · rw [if_neg c] at h
        exact h.elim
  exact ha R σ H fp env I Q key
theorem ref_upT {U : List Nat} (ha : RefT S O P E (some U) t m) : RefT S O P E none t m := by
  intro R σ H fp env I Q h
  refine ha R σ H fp env I Q ?_
  cases q : m env with
  | bad => rw [q] at h; exact h
  | exc x e => rw [q] at h; exact fun cls dd H' fp' I' s' => h cls dd H' fp' I' s'.strong
  | ok d e => rw [q] at h; exact fun H' fp' I' s' => h H' fp' I' s'.strong
end
end Mir
/-! MirC -/
namespace Mir
open PySem PySem.Spec PyProof.Rows L2
/-! ### statements -/
/-- how a def's value lies for its caller -/
def RetR (S : Sc) (fr : Bool) (R : Rx) (H' : Hp) (d : D) (v : V) : Prop := RepK S R.G fr R.H0 H' d v
def WantS (S : Sc) (O P : List Nat) (E : XK) (fr : Bool) (R : Rx) (H : Hp) (fp : Fp) (o : Fl) (D : Ends) (σ : L2.St) : Prop := match o with
  | .next env' => ∀ σ' H' fp', Rel S O P R σ' H' fp' env' → Fwd (Lv fp) H (Lv fp') H' → D.nx σ' H'
  | .brk env' => ∀ σ' H' fp', Rel S O P R σ' H' fp' env' → Fwd (Lv fp) H (Lv fp') H' → D.bk σ' H'
  | .cont env' => ∀ σ' H' fp', Rel S O P R σ' H' fp' env' → Fwd (Lv fp) H (Lv fp') H' → D.ct σ' H'
  | .ret d env' => ∀ σ' v H' fp', Rel S O P R σ' H' fp' env' → Fwd (Lv fp) H (Lv fp') H' → RetR S fr R H' d v → D.rt v H'
  | .exc x env' => ∀ cls dd σ' H' fp', Rel S O P R σ' H' fp' env' → Fwd (Lv fp) H (Lv fp') H' → ExcR S H' x cls dd → E cls dd H'
  | .bad => False
def RefS (S : Sc) (O P : List Nat) (E : XK) (fr : Bool) (t : TS) (m : SM) : Prop :=
  ∀ (R : Rx) (σ : L2.St) (H : Hp) (fp : Fp) (env : Env), Rel S O P R σ H fp env → ∀ D : Ends, WantS S O P E fr R H fp (m env) D σ → t D σ H
/-- the mirrors of statements -/
def Fl.bind (o : Fl) (f : SM) : Fl := match o with
  | .next e => f e
  | o => o
@[simp] theorem Fl.bind_next (e : Env) (f : SM) : (Fl.next e).bind f = f e := rfl
@[simp] theorem Fl.bind_ret (d : D) (e : Env) (f : SM) : (Fl.ret d e).bind f = .ret d e := rfl
@[simp] theorem Fl.bind_brk (e : Env) (f : SM) : (Fl.brk e).bind f = .brk e := rfl
@[simp] theorem Fl.bind_cont (e : Env) (f : SM) : (Fl.cont e).bind f = .cont e := rfl
@[simp] theorem Fl.bind_exc (d : Exn) (e : Env) (f : SM) : (Fl.exc d e).bind f = .exc d e := rfl
@[simp] theorem Fl.bind_bad (f : SM) : Fl.bad.bind f = .bad := rfl
def sNext : SM := fun e => .next e
def sSeq (a b : SM) : SM := fun env => (a env).bind b
def Out.fl {α : Type} (o : Out α) (f : α → Env → Fl) : Fl := match o with
  | .ok a e => f a e
  | .exc x e => .exc x e
  | .bad => .bad
@[simp] theorem Out.fl_ok {α : Type} (a : α) (e : Env) (f : α → Env → Fl) : (Out.ok a e).fl f = f a e := rfl
@[simp] theorem Out.fl_exc {α : Type} (x : Exn) (e : Env) (f : α → Env → Fl) : (Out.exc x e : Out α).fl f = .exc x e := rfl
@[simp] theorem Out.fl_bad {α : Type} (f : α → Env → Fl) : (Out.bad : Out α).fl f = .bad := rfl
def sIf (t : TM) (a b : SM) : SM := fun env => (t env).fl fun c e => if c then a e else b e
abbrev GM := D → Env → Option Env
def gSet (i : Nat) : GM := fun d env => some (env.set i (some d))
def gTupM : List GM → List D → Env → Option Env
  | [], [], env => some env
  | g :: gs, d :: ds, env => (g d env).bind (gTupM gs ds)
  | _, _, _ => none
def gTupleM (gs : List GM) : GM := fun d env => match d with
  | .tup ds => gTupM gs ds env
  | _ => none
def gListM (gs : List GM) : GM := fun d env => match d with
  | .lst ds => gTupM gs ds env
  | _ => none
def sAsg (a : EM) (g : GM) : SM := fun env => (a env).fl fun d e => match g d e with
  | some e' => .next e'
  | none => .bad
def sDrop (a : EM) : SM := fun env => (a env).fl fun _ e => .next e
def sRet (a : EM) : SM := fun env => (a env).fl fun d e => .ret d e
def sRetN : SM := fun env => .ret .non env
def sBrk : SM := fun env => .brk env
def sCont : SM := fun env => .cont env
def sBad : SM := fun _ => .bad
section
variable {S : Sc} {O P : List Nat} {E : XK} {μ : Mo} {fr fa : Bool} {ta : TE} {ma : EM} {t u : TS} {m n : SM} {tt : TT} {mt : TM}
theorem WantS.bind {R : Rx} {H : Hp} {fp : Fp} {o : Fl} {f : SM} {D : Ends} {σ : L2.St} {tu : TS} (h : WantS S O P E fr R H fp (o.bind f) D σ) (k : RefS S O P E fr tu f) : WantS S O P E fr R H fp o { D with nx := tu D } σ := by
  cases o with
  | next e1 =>
    intro σ1 H1 f1 I1 w1
    refine k R σ1 H1 f1 e1 I1 D ?_
    have h : WantS S O P E fr R H fp (f e1) D σ := h
    cases q : f e1 with
    | next e => rw [q] at h; exact fun σ2 H2 f2 I2 w2 => h σ2 H2 f2 I2 (w1.trans w2)
    | brk e => rw [q] at h; exact fun σ2 H2 f2 I2 w2 => h σ2 H2 f2 I2 (w1.trans w2)
    | cont e => rw [q] at h; exact fun σ2 H2 f2 I2 w2 => h σ2 H2 f2 I2 (w1.trans w2)
    | ret d e => rw [q] at h; exact fun σ2 v H2 f2 I2 w2 r => h σ2 v H2 f2 I2 (w1.trans w2) r
    | exc d e => rw [q] at h; exact fun cls dd σ2 H2 f2 I2 w2 r => h cls dd σ2 H2 f2 I2 (w1.trans w2) r
    | bad => rw [q] at h; exact h
  | brk e => exact h
  | cont e => exact h
  | ret d e => exact h
  | exc d e => exact h
  | bad => exact h
theorem rs_seq (h1 : RefS S O P E fr t m) (h2 : RefS S O P E fr u n) : RefS S O P E fr (tSeq t u) (sSeq m n) := fun R σ H fp env I D h => h1 R σ H fp env I _ (WantS.bind h h2)
theorem rs_next : RefS S O P E fr tNext sNext := fun R σ H fp env I D h => h σ H fp I (Fwd.refl _ _)
theorem rs_brk : RefS S O P E fr tBreak sBrk := fun R σ H fp env I D h => h σ H fp I (Fwd.refl _ _)
theorem rs_cont : RefS S O P E fr tCont sCont := fun R σ H fp env I D h => h σ H fp I (Fwd.refl _ _)
theorem rs_bad : RefS S O P E fr tNever sBad := fun R σ H fp env I D h => h
/-- from an expression's outcome to a statement's -/
theorem want_fl {R : Rx} {σ : L2.St} {H : Hp} {fp : Fp} {env : Env} {α : Type} {o : Out α} {f : α → Env → Fl} {D : Ends} (h : WantS S O P E fr R H fp (o.fl f) D σ) :
    Want S O P E μ R σ H fp env o (fun a e1 H1 f1 => WantS S O P E fr R H1 f1 (f a e1) D σ) := by
  cases o with
  | bad => exact h
  | exc x e => exact fun cls dd H' fp' I' s' r => h cls dd σ H' fp' I' s'.strong r
  | ok a e1 =>
    intro H1 f1 I1 s1
    have h : WantS S O P E fr R H fp (f a e1) D σ := h
    have w1 := s1.strong
    cases q : f a e1 with
    | next e => rw [q] at h; exact fun σ2 H2 f2 I2 w2 => h σ2 H2 f2 I2 (w1.trans w2)
    | brk e => rw [q] at h; exact fun σ2 H2 f2 I2 w2 => h σ2 H2 f2 I2 (w1.trans w2)
    | cont e => rw [q] at h; exact fun σ2 H2 f2 I2 w2 => h σ2 H2 f2 I2 (w1.trans w2)
    | ret d e => rw [q] at h; exact fun σ2 v H2 f2 I2 w2 r => h σ2 v H2 f2 I2 (w1.trans w2) r
    | exc d e => rw [q] at h; exact fun cls dd σ2 H2 f2 I2 w2 r => h cls dd σ2 H2 f2 I2 (w1.trans w2) r
    | bad => rw [q] at h; exact h
theorem rs_if (ht : RefT S O P E μ tt mt) (h1 : RefS S O P E fr t m) (h2 : RefS S O P E fr u n) : RefS S O P E fr (tIfS tt t u) (sIf mt m n) := by
  intro R σ H fp env I D h
  refine ht R σ H fp env I _ ((want_fl h).mono fun c e1 H1 f1 I1 s1 hp => ?_)
  cases c with
  | true => exact h1 R σ H1 f1 e1 I1 D hp
  | false => exact h2 R σ H1 f1 e1 I1 D hp
theorem rs_drop (ha : RefE S O P E μ fa ta ma) : RefS S O P E fr (tDrop ta) (sDrop ma) := by
  intro R σ H fp env I D h
  exact ha R σ H fp env I _ ((want_fl h).mono fun d e1 H1 f1 I1 s1 hp v hv _ => hp σ H1 f1 I1 (Fwd.refl _ _))
/-! targets -/
structure RefG (S : Sc) (O P : List Nat) (ws : List Nat) (tg : TG) (g : GM) : Prop where
  loc : ∀ d env e, g d env = some e → e.length = env.length ∧ ∀ i, i ∉ ws → e[i]? = env[i]?
  run : ∀ (R : Rx) (σ : L2.St) (H : Hp) (fp : Fp) (env : Env) (d : D) (v : V) (e : Env), Rel S O P R σ H fp env → Rep S (Fs R fp) H d v → g d env = some e → ∀ Q : L2.St → Hp → Prop, (∀ σ', Rel S O P R σ' H fp e → (∀ i, i ∉ ws → σ'[i]? = σ[i]?) → Q σ' H) → tg v σ H Q
theorem Rel.set {R : Rx} {σ : L2.St} {H : Hp} {fp : Fp} {env : Env} {i : Nat} {d : D} {v : V} (I : Rel S O P R σ H fp env) (hO : i ∉ O) (r : Rep S (Fs R fp) H d v) : Rel S O P R (σ.set i (some v)) H fp (env.set i (some d)) where
  len := by rw [List.length_set, List.length_set, I.len]
  val := fun j d' h1 h2 => by
    by_cases e : i = j
    · subst e
      have hl : i < env.length := by
        have q := (List.getElem?_eq_some_iff.mp h1).1
        rwa [List.length_set] at q
      rw [List.getElem?_set_self hl] at h1
      cases h1
      exact ⟨v, List.getElem?_set_self (by rw [← I.len]; exact hl), r⟩
    · rw [List.getElem?_set_ne e] at h1 ⊢
      exact I.val j d' h1 h2
  own := fun j d' h1 h2 => by
    have e : i ≠ j := fun z => hO (z ▸ h2)
    rw [List.getElem?_set_ne e] at h1 ⊢
    exact I.own j d' h1 h2
  non := fun j h => I.non j (by
    rcases h with h | h
    · exact .inl h
    · by_cases e : i = j
      · exact .inl (e ▸ hO)
      · exact .inr fun d' q => h d' (by rw [List.getElem?_set_ne e]; exact q))
  dist := I.dist
  nd := I.nd
  src := I.src
  ext := I.ext
  gl := I.gl
  live := I.live
  dom := I.dom
  mh := I.mh
theorem rg_set {i : Nat} (hO : i ∉ O) : RefG S O P [i] (gName i) (gSet i) := ⟨fun d env e h => by
  cases h
  exact ⟨List.length_set, fun j hj => List.getElem?_set_ne fun z => hj (by rw [z]; exact List.mem_cons_self)⟩, fun R σ H fp env d v e I r h Q k => by
  cases h
  exact k _ (I.set hO r) fun j hj => List.getElem?_set_ne fun z => hj (by rw [z]; exact List.mem_cons_self)⟩
structure RefGs (S : Sc) (O P : List Nat) (ws : List Nat) (tg : TGs) (gs : List GM) : Prop where
  loc : ∀ ds env e, gTupM gs ds env = some e → e.length = env.length ∧ ∀ i, i ∉ ws → e[i]? = env[i]?
  run : ∀ (R : Rx) (σ : L2.St) (H : Hp) (fp : Fp) (env : Env) (ds : List D) (vs : List V) (e : Env), Rel S O P R σ H fp env → RepL S (Fs R fp) H ds vs → gTupM gs ds env = some e → ∀ Q : L2.St → Hp → Prop, (∀ σ', Rel S O P R σ' H fp e → (∀ i, i ∉ ws → σ'[i]? = σ[i]?) → Q σ' H) → tg vs σ H Q
theorem rgs_nil : RefGs S O P [] gNil [] := ⟨fun ds env e h => by
  cases ds with
  | nil => cases h; exact ⟨rfl, fun _ _ => rfl⟩
  | cons d ds => (cases h), fun R σ H fp env ds vs e I r h Q k => by
  cases ds with
  | nil =>
    cases h
    exact ⟨r, k _ I fun _ _ => rfl⟩
  | cons d ds => cases h⟩
theorem rgs_cons {w1 w2 : List Nat} {tg : TG} {g : GM} {ts : TGs} {gs : List GM} (h1 : RefG S O P w1 tg g) (h2 : RefGs S O P w2 ts gs) : RefGs S O P (w1 ++ w2) (gCons tg ts) (g :: gs) := ⟨fun ds env e h => by
  cases ds with
  | nil => cases h
  | cons d ds =>
    have h : (g d env).bind (gTupM gs ds) = some e := h
    cases q : g d env with
    | none => rw [q] at h; cases h
    | some e1 =>
      rw [q] at h
      obtain ⟨a1, a2⟩ := h1.loc d env e1 q
      obtain ⟨b1, b2⟩ := h2.loc ds e1 e h
      exact ⟨b1.trans a1, fun i hi => (b2 i fun z => hi (List.mem_append_right _ z)).trans (a2 i fun z => hi (List.mem_append_left _ z))⟩, fun R σ H fp env ds vs e I r h Q k => by
  cases ds with
  | nil => cases h
  | cons d ds =>
    obtain ⟨v, us, rfl, r1, r2⟩ := r
    have h : (g d env).bind (gTupM gs ds) = some e := h
    cases q : g d env with
    | none => rw [q] at h; cases h
    | some e1 =>
      rw [q] at h
      exact ⟨v, us, rfl, h1.run R σ H fp env d v e1 I r1 q _ fun σ1 I1 s1 => h2.run R σ1 H fp e1 ds us e I1 r2 h Q fun σ2 I2 s2 => k σ2 I2 fun i hi => (s2 i fun z => hi (List.mem_append_right _ z)).trans (s1 i fun z => hi (List.mem_append_left _ z))⟩⟩
theorem gTupM_len : ∀ {gs : List GM} {ds : List D} {env e : Env}, gTupM gs ds env = some e → ds.length = gs.length
  | [], [], _, _, _ => rfl
  | [], _ :: _, _, _, h => by cases h
  | _ :: _, [], _, _, h => by cases h
  | g :: gs, d :: ds, env, e, h => by
    have h : (g d env).bind (gTupM gs ds) = some e := h
    cases q : g d env with
    | none => rw [q] at h; cases h
    | some e1 =>
      rw [q] at h
      rw [List.length_cons, List.length_cons, gTupM_len (gs := gs) h]
theorem rg_tup {ws : List Nat} {n : Nat} {ts : TGs} {gs : List GM} (h : RefGs S O P ws ts gs) (hn : gs.length = n) : RefG S O P ws (gTup S.K n ts) (gTupleM gs) := ⟨fun d env e q => by
  cases d with
  | tup ds => exact h.loc ds env e q
  | _ => (cases q), fun R σ H fp env d v e I r hg Q k => by
  cases d with
  | tup ds =>
    obtain ⟨a, vs, rfl, r1, r2⟩ := r
    exact ⟨a, vs, rfl, r1, by rw [r2.length, gTupM_len hg, hn], h.run R σ H fp env ds vs e I r2 hg Q k⟩
  | _ => cases hg⟩
theorem rg_lst {ws : List Nat} {n : Nat} {ts : TGs} {gs : List GM} (h : RefGs S O P ws ts gs) (hn : gs.length = n) : RefG S O P ws (gLst S.K n ts) (gListM gs) := ⟨fun d env e q => by
  cases d with
  | lst ds => exact h.loc ds env e q
  | _ => (cases q), fun R σ H fp env d v e I r hg Q k => by
  cases d with
  | lst ds =>
    obtain ⟨a, vs, rfl, _, r1, r2⟩ := r
    exact ⟨a, vs, rfl, .inl (.inl r1), by rw [r2.length, gTupM_len hg, hn], h.run R σ H fp env ds vs e I r2 hg Q k⟩
  | _ => cases hg⟩
theorem rs_asg {ws : List Nat} {tg : TG} {g : GM} (ha : RefE S O P E none fa ta ma) (hg : RefG S O P ws tg g) : RefS S O P E fr (tAsg ta tg) (sAsg ma g) := by
  intro R σ H fp env I D h
  refine ha R σ H fp env I _ ((want_fl h).mono fun d e1 H1 f1 I1 s1 hp v hv _ => ?_)
  cases q : g d e1 with
  | none => rw [q] at hp; exact hp.elim
  | some e2 =>
    rw [q] at hp
    exact hg.run R σ H1 f1 e1 d v e2 I1 hv.rep q _ fun σ' I' _ => hp σ' H1 f1 I' (Fwd.refl _ _)
theorem rs_set {i : Nat} (hO : i ∉ O) (ha : RefE S O P E none fa ta ma) : RefS S O P E fr (tAsg ta (gName i)) (sAsg ma (gSet i)) := rs_asg ha (rg_set hO)
/-- an own slot gets a new list -/
def fpSet (fp : Fp) (i : Nat) (l : List Addr) : Fp := fun j => if j = i then l else fp j
theorem Rel.setOwn {R : Rx} {σ : L2.St} {H : Hp} {fp : Fp} {env : Env} {i : Nat} {ds : List D} {vs : List V} {a : Addr} (I : Rel S O P R σ H fp env) (hO : i ∈ O) (hP : i ∉ P) (hi : i < env.length) (new : R.H0 a = none) (nf : ¬ Fs R fp a) (ha : H a = some (.lst vs))
    (r : RepL S (fun x => Fs R fp x ∨ x = a) H ds vs) (old : ∀ j d, env[j]? = some (some d) → j ≠ i → (j ∉ O → ∃ v, σ[j]? = some (some v) ∧ Rep S (fun x => Fs R fp x ∨ x = a) H d v) ∧ (j ∈ O → ∃ b, σ[j]? = some (some (.ref b)) ∧ Own S (fun x => Fs R fp x ∨ x = a) H d b (fp j))) :
    Rel S O P R (σ.set i (some (.ref a))) H (fpSet fp i [a]) (env.set i (some (.lst ds))) := by
  have sub : ∀ x, Fs R (fpSet fp i [a]) x → (Fs R fp x ∨ x = a) := fun x h => by
    rcases h with h | ⟨j, h⟩
    · exact .inl (.inl h)
    · unfold fpSet at h
      split at h
      · exact .inr (List.mem_singleton.mp h)
      · exact .inl (.inr ⟨j, h⟩)
  refine ⟨by rw [List.length_set, List.length_set, I.len], fun j d h1 h2 => ?_, fun j d h1 h2 => ?_, fun j h => ?_, fun j k b h1 h2 => ?_, fun j => ?_, fun j b h => ?_, I.ext, I.gl, fun j b h => ?_, I.dom, I.mh⟩
  · have e : i ≠ j := fun z => h2 (z ▸ hO)
    rw [List.getElem?_set_ne e] at h1 ⊢
    obtain ⟨v, q1, q2⟩ := (old j d h1 (Ne.symm e)).1 h2
    exact ⟨v, q1, q2.less fun x z => .inl (sub x z)⟩
  · by_cases e : i = j
    · subst e
      rw [List.getElem?_set_self hi] at h1
      cases h1
      refine ⟨a, List.getElem?_set_self (by rw [← I.len]; exact hi), ?_, vs, ha, r.less fun x z => .inl (sub x z)⟩
      unfold fpSet
      rw [if_pos rfl]
    · rw [List.getElem?_set_ne e] at h1 ⊢
      obtain ⟨b, q1, q2⟩ := (old j d h1 (Ne.symm e)).2 h2
      refine ⟨b, q1, ?_⟩
      unfold fpSet
      rw [if_neg (Ne.symm e)]
      exact q2.fwd (Ext.refl _ _) fun x z => .inl (sub x z)
  · unfold fpSet
    by_cases e : j = i
    · subst e
      rcases h with h | h
      · exact absurd hO h
      · exact absurd (List.getElem?_set_self hi) (h _)
    · rw [if_neg e]
      refine I.non j (h.imp id fun h d q => h d ?_)
      rw [List.getElem?_set_ne (Ne.symm e)]
      exact q
  · unfold fpSet at h1 h2
    split at h1
    · rename_i e1
      split at h2
      · rename_i e2
        rw [e1, e2]
      · exact absurd (.inr ⟨k, by rw [← List.mem_singleton.mp h1]; exact h2⟩) nf
    · split at h2
      · exact absurd (.inr ⟨j, by rw [← List.mem_singleton.mp h2]; exact h1⟩) nf
      · exact I.dist j k b h1 h2
  · unfold fpSet
    split
    · simp
    · exact I.nd j
  · unfold fpSet at h
    split at h
    · rename_i e
      cases List.mem_singleton.mp h
      exact ⟨fun z => absurd (e ▸ z) hP, fun _ => ⟨new, fun z => nf (.inl z)⟩⟩
    · exact I.src j b h
  · unfold fpSet at h
    split at h
    · cases List.mem_singleton.mp h
      rw [ha]
      exact fun z => nomatch z
    · exact I.live j b h
end
end Mir
/-! MirD -/
namespace Mir
open PySem PySem.Spec PyProof.Rows L2
/-! ### own lists -/
def sOwn (a : EM) (i : Nat) : SM := fun env => (a env).fl fun d e => if i < e.length then .next (e.set i (some d)) else .bad
def sApp (i : Nat) (a : EM) : SM := fun env => match env[i]? with
  | some (some (.lst _)) => (a env).fl fun d e => match e[i]? with
    | some (some (.lst ds)) => if ds.length < 100000 then .next (e.set i (some (.lst (ds ++ [d])))) else .bad
    | _ => .bad
  | _ => .bad
def sExt (i : Nat) (a : EM) : SM := fun env => match env[i]? with
  | some (some (.lst _)) => (a env).fl fun d e => match e[i]?, d with
    | some (some (.lst ds)), .lst xs => if ds.length + xs.length ≤ 100000 then .next (e.set i (some (.lst (ds ++ xs)))) else .bad
    | _, _ => .bad
  | _ => .bad
def sRetOwn (i : Nat) : SM := fun env => match env[i]? with
  | some (some (.lst ds)) => .ret (.lst ds) env
  | _ => .bad
section
variable {S : Sc} {O P : List Nat} {E : XK} {μ : Mo} {fr fa : Bool} {ta : TE} {ma : EM} {t u : TS} {m n : SM} {tt : TT} {mt : TM}
/-- the outcome told from where the statement began -/
theorem want_fl0 {R : Rx} {σ : L2.St} {H : Hp} {fp : Fp} {env : Env} {α : Type} {o : Out α} {f : α → Env → Fl} {D : Ends} (h : WantS S O P E fr R H fp (o.fl f) D σ) :
    Want S O P E μ R σ H fp env o (fun a e1 H1 f1 => WantS S O P E fr R H fp (f a e1) D σ) := by
  cases o with
  | bad => exact h
  | exc x e => exact fun cls dd H' fp' I' s' r => h cls dd σ H' fp' I' s'.strong r
  | ok a e1 => exact fun H1 f1 I1 s1 => h
theorem rs_setOwn {i : Nat} (hO : i ∈ O) (hP : i ∉ P) (ha : RefE S O P E none true ta ma) : RefS S O P E fr (tAsg ta (gName i)) (sOwn ma i) := by
  intro R σ H fp env I D h
  refine ha R σ H fp env I _ ((want_fl0 h).mono fun d e1 H1 f1 I1 s1 hp v hv sp => ?_)
  by_cases c : i < e1.length
  · rw [if_pos c] at hp
    obtain ⟨a, vs, ds, rfl, new, rfl, ha1, nf, r⟩ := hv
    have Ib := sp rfl a rfl
    have w : ∀ x, (Fs R f1 x ∨ x = a) → Fs (R.plus a) f1 x ∨ H1 x = none := fun x z => .inl (fs_plus.mpr z)
    have n0 : R.H0 a = none := by
      cases q : R.H0 a with
      | none => rfl
      | some o => exact absurd new (I.dom a (by rw [q]; exact fun z => nomatch z))
    have I2 : Rel S O P R (σ.set i (some (.ref a))) H1 (fpSet f1 i [a]) (e1.set i (some (.lst ds))) := I1.setOwn hO hP c n0 nf ha1 r fun j d h1 hj =>
      ⟨fun h2 => let ⟨v, q1, q2⟩ := Ib.val j d h1 h2; ⟨v, q1, q2.less w⟩,
       fun h2 => let ⟨v, q1, q2⟩ := Ib.own j d h1 h2; ⟨v, q1, q2.fwd (Ext.refl _ _) w⟩⟩
    refine hp _ H1 _ I2 ⟨s1.strong.1, fun x z => ?_, s1.strong.2.2⟩
    obtain ⟨j, z⟩ := z
    unfold fpSet at z
    split at z
    · cases List.mem_singleton.mp z
      exact .inr new
    · exact s1.strong.2.1 x ⟨j, z⟩
  · rw [if_neg c] at hp
    exact hp.elim
/-- an own thing is changed in place -/
theorem Rel.updO {R : Rx} {σ : L2.St} {H : Hp} {fp : Fp} {env : Env} {i : Nat} {d d' : D} {a : Addr} {o o' : HO} (I : Rel S O P R σ H fp env) (hO : i ∈ O) (hi : env[i]? = some (some d)) (hs : σ[i]? = some (some (.ref a))) (h2 : fp i = [a]) (h3 : H a = some o) (mu : Mut (some o))
    (nw : Fwd (Fs R fp) H (Fs R fp) (L2.upd H a o') → Own S (Fs R fp) (L2.upd H a o') d' a [a]) : Rel S O P R σ (upd H a o') fp (env.set i (some d')) ∧ Fwd (Lv fp) H (Lv fp) (upd H a o') := by
  have hl : i < env.length := (List.getElem?_eq_some_iff.mp hi).1
  have fa : Lv fp a := ⟨i, by rw [h2]; exact List.mem_cons_self⟩
  have dm : ∀ b, H b ≠ none → L2.upd H a o' b ≠ none := fun b hb => by
    unfold L2.upd
    split
    · exact fun z => nomatch z
    · exact hb
  have w0 : Fwd (Lv fp) H (Lv fp) (L2.upd H a o') := ⟨fun b u q c => by
    rw [upd_ne (show b ≠ a from fun z => by
      subst z
      rw [h3] at q
      cases q
      exact c.elim (fun z => z fa) fun z => z mu)]
    exact q, fun _ z => .inl z, dm⟩
  have w : Fwd (Fs R fp) H (Fs R fp) (L2.upd H a o') := adv_fs w0
  refine ⟨⟨by rw [List.length_set, I.len], fun j e q1 q2 => ?_, fun j e q1 q2 => ?_, fun j q => ?_, I.dist, I.nd, I.src, fun b u q c => ?_, fun b q => dm b (I.gl b q), fun j b q => dm b (I.live j b q), fun b q => dm b (I.dom b q), I.mh⟩, w0⟩
  · have ne : i ≠ j := fun z => q2 (z ▸ hO)
    rw [List.getElem?_set_ne ne] at q1
    obtain ⟨v, x1, x2⟩ := I.val j e q1 q2
    exact ⟨v, x1, Rep.fwd w _ _ x2⟩
  · by_cases ne : i = j
    · subst ne
      rw [List.getElem?_set_self hl] at q1
      cases q1
      exact ⟨a, hs, by rw [h2]; exact nw w⟩
    · rw [List.getElem?_set_ne ne] at q1
      obtain ⟨b, x1, x2⟩ := I.own j e q1 q2
      refine ⟨b, x1, ?_⟩
      have nb : ∀ c, c ∈ fp j → c ≠ a := fun c hc z => ne (I.dist i j a (by rw [h2]; exact List.mem_cons_self) (z ▸ hc))
      cases e with
      | lst es =>
        obtain ⟨y1, us, y2, y3⟩ := x2
        exact ⟨y1, us, by rw [upd_ne (nb b (by rw [y1]; exact List.mem_cons_self))]; exact y2, RepL.fwd w _ _ y3⟩
      | ins k es =>
        obtain ⟨y1, dx, us, y2, y3, y4⟩ := x2
        exact ⟨y1, dx, us, by rw [upd_ne (nb b (by rw [y1]; exact List.mem_cons_self))]; exact y2, y3, RepL.fwd w _ _ y4⟩
      | _ => exact x2.elim
  · refine I.non j (q.imp id fun q e z => ?_)
    by_cases ne : i = j
    · subst ne
      exact q _ (List.getElem?_set_self hl)
    · exact q e (by rw [List.getElem?_set_ne ne]; exact z)
  · have ob := I.ext b u q c
    by_cases e : b = a
    · subst e
      by_cases hp : i ∈ P
      · have hm := (I.src i b (by rw [h2]; exact List.mem_cons_self)).1 hp
        rw [h3] at ob
        cases ob
        exact (c.elim (fun z => z hm) fun z => z mu).elim
      · rw [((I.src i b (by rw [h2]; exact List.mem_cons_self)).2 hp).1] at q
        cases q
    · rw [upd_ne e]
      exact ob
theorem Rel.upd {R : Rx} {σ : L2.St} {H : Hp} {fp : Fp} {env : Env} {i : Nat} {ds ds' : List D} {a : Addr} {vs' : List V} (I : Rel S O P R σ H fp env) (hO : i ∈ O) (hi : env[i]? = some (some (.lst ds))) (hs : σ[i]? = some (some (.ref a)))
    (r : RepL S (Fs R fp) H ds' vs') : Rel S O P R σ (upd H a (.lst vs')) fp (env.set i (some (.lst ds'))) ∧ Fwd (Lv fp) H (Lv fp) (upd H a (.lst vs')) := by
  obtain ⟨a', h1, h2, vs, h3, h4⟩ := I.own i _ hi hO
  rw [hs] at h1
  cases h1
  exact I.updO hO hi hs h2 h3 trivial fun w => ⟨rfl, vs', upd_same, RepL.fwd w _ _ r⟩
theorem own_lst {R : Rx} {σ : L2.St} {H : Hp} {fp : Fp} {env : Env} {i : Nat} {ds : List D} (I : Rel S O P R σ H fp env) (hO : i ∈ O) (h : env[i]? = some (some (.lst ds))) : ∃ a vs, σ[i]? = some (some (.ref a)) ∧ fp i = [a] ∧ H a = some (.lst vs) ∧ RepL S (Fs R fp) H ds vs := by
  obtain ⟨a, h1, h2, vs, h3, h4⟩ := I.own i _ h hO
  exact ⟨a, vs, h1, h2, h3, h4⟩
theorem lt_line {n : Nat} (h : n < 100000) : n < sizeLine := Nat.lt_of_lt_of_le h (by decide)
/-- x.append(e) -/
theorem rs_app {i : Nat} (hO : i ∈ O) (ha : RefE S O P E none fa ta ma) : RefS S O P E fr (tDrop (tBM S.K "list" rAppend (tVar i) (tCons ta tNil))) (sApp i ma) := by
  intro R σ H fp env I D h
  unfold sApp at h
  split at h
  · rename_i ds0 e0
    obtain ⟨a, vs0, q1, q2, q3, q4⟩ := own_lst I hO e0
    refine ⟨_, q1, .inl ⟨rfl, vs0, .inl (.inl q3)⟩, ?_⟩
    refine ha R σ H fp env I _ ((want_fl h).mono fun d e1 H1 f1 I1 s1 hp v hv _ => ?_)
    split at hp
    · rename_i ds e2
      obtain ⟨b, vs, x1, x2, x3, x4⟩ := own_lst I1 hO e2
      rw [q1] at x1
      cases x1
      split at hp
      · rename_i hz
        obtain ⟨I2, w2⟩ := I1.upd hO e2 q1 (x4.snoc hv.rep)
        exact ⟨a, vs, v, rfl, rfl, x3, by rw [x4.length]; exact lt_line hz, hp _ _ _ I2 w2⟩
      · exact hp.elim
    · exact hp.elim
  · exact h.elim
/-- x.extend(e), e another list -/
theorem rs_ext {i : Nat} (hO : i ∈ O) (ha : RefE S O P E none true ta ma) : RefS S O P E fr (tDrop (tBM S.K "list" rExtend (tVar i) (tCons ta tNil))) (sExt i ma) := by
  intro R σ H fp env I D h
  unfold sExt at h
  split at h
  · rename_i ds0 e0
    obtain ⟨a, vs0, q1, q2, q3, q4⟩ := own_lst I hO e0
    refine ⟨_, q1, .inl ⟨rfl, vs0, .inl (.inl q3)⟩, ?_⟩
    refine ha R σ H fp env I _ ((want_fl h).mono fun d e1 H1 f1 I1 s1 hp v hv _ => ?_)
    split at hp
    · rename_i ds xs e2
      obtain ⟨b, vs, x1, x2, x3, x4⟩ := own_lst I1 hO e2
      rw [q1] at x1
      cases x1
      split at hp
      · rename_i hz
        obtain ⟨c, us, xs', rfl, _, ex, y1, _, y2⟩ := hv
        cases ex
        have y2 := y2.less (F' := Fs R f1) fun _ z => .inl (.inl z)
        obtain ⟨I2, w2⟩ := I1.upd hO e2 q1 (x4.append y2)
        exact ⟨a, c, vs, us, rfl, rfl, x3, y1, by rw [x4.length, y2.length]; exact sz_of hz, hp _ _ _ I2 w2⟩
      · exact hp.elim
    · exact hp.elim
  · exact h.elim
/-! returns -/
theorem rs_ret (hf : fr = true → fa = true) (hU : ∀ U, μ = some U → ∀ i ∈ U, i ∉ P) (ha : RefE S O P E μ fa ta ma) : RefS S O P E fr (tRet ta) (sRet ma) := by
  intro R σ H fp env I D h
  refine ha R σ H fp env I _ ((want_fl h).mono fun d e1 H1 f1 I1 s1 hp v hv _ => ?_)
  refine hp σ v H1 f1 I1 (Fwd.refl _ _) ?_
  have sub : ∀ a, R.G a → FM R f1 μ a := fun a z => by
    cases μ with
    | none => exact .inl z
    | some U => exact ⟨.inl z, fun ⟨i, y1, y2⟩ => ((I1.src i a y2).2 (hU U rfl i y1)).2 z⟩
  cases fr with
  | false => exact hv.rep.less fun a z => .inl (sub a z)
  | true =>
    have hf := hf rfl
    subst hf
    obtain ⟨a, vs, ds, rfl, new, rfl, x1, x2, x3⟩ := hv
    refine ⟨a, vs, ds, rfl, ?_, rfl, x1, fun z => x2 (sub a z), x3.less fun b z => .inl (z.imp (sub b) id)⟩
    cases q : R.H0 a with
    | none => rfl
    | some o => exact absurd new (I.dom a (by rw [q]; exact fun z => nomatch z))
theorem rs_retN : RefS S O P E false tRetN sRetN := fun R σ H fp env I D h => h σ _ H fp I (Fwd.refl _ _) rfl
/-- return x, x an own list: new for the caller -/
theorem rs_retOwn {i : Nat} (hO : i ∈ O) (hP : i ∉ P) : RefS S O P E fr (tRet (tVar i)) (sRetOwn i) := by
  intro R σ H fp env I D h
  unfold sRetOwn at h
  split at h
  · rename_i ds e
    obtain ⟨a, vs, h1, e1, e2, e3⟩ := own_lst I hO e
    refine ⟨_, h1, h σ _ H fp I (Fwd.refl _ _) ?_⟩
    have hs := (I.src i a (by rw [e1]; exact List.mem_cons_self)).2 hP
    cases fr with
    | false => exact ⟨a, vs, rfl, hs.2, e2, e3.less fun _ z => .inl (.inl z)⟩
    | true => exact ⟨a, vs, ds, rfl, hs.1, rfl, e2, hs.2, e3.less fun b z => .inl (z.elim .inl fun e => .inr ⟨i, by rw [e1, e]; exact List.mem_cons_self⟩)⟩
  · exact h.elim
end
end Mir
/-! MirE -/
namespace Mir
open PySem PySem.Spec PyProof.Rows L2
/-! ### what is walked -/
abbrev IM := Env → Out (List D)
/-- the iterator J yields what ds says, whatever may have happened meanwhile to what may change -/
def Stq (μ : Mo) (F : Addr → Prop) (H : Hp) (F' : Addr → Prop) (H' : Hp) : Prop := match μ with
  | none => Fwd F H F' H'
  | some _ => Ext Nil H H' ∧ ∀ x, F' x → F x ∨ H x = none
theorem Stq.fwd {μ : Mo} {F F' : Addr → Prop} {H H' : Hp} (s : Stq μ F H F' H') : Fwd F H F' H' := by
  cases μ with
  | none => exact s
  | some U => exact ⟨s.1.mono fun _ z => z.elim, s.2, fun _ z => s.1.dom z⟩
def ItOk (S : Sc) (μ : Mo) (F : Addr → Prop) (H : Hp) (J : It) (ds : List D) : Prop := ∀ (F' : Addr → Prop) (H' : Hp), Stq μ F H F' H' → (∀ a, F' a → H' a ≠ none) →
  (∀ n, n < ds.length → J.go n H') ∧ (∀ n x H3 d, J.yld n H' x H3 → ds[n]? = some d → Ext Nil H' H3 ∧ Rep S F' H3 d x) ∧ (∀ n, ds.length ≤ n → J.stop n H')
def RefI (S : Sc) (O P : List Nat) (E : XK) (μ : Mo) (wi : TI) (m : IM) : Prop :=
  ∀ (R : Rx) (σ : L2.St) (H : Hp) (fp : Fp) (env : Env), Rel S O P R σ H fp env → ∀ Q : It → Hp → Prop, Want S O P E μ R σ H fp env (m env) (fun ds _ H' fp' => ∀ J, ItOk S μ (Fs R fp') H' J ds → Q J H') → wi σ H Q
def D.isL : D → Option (List D)
  | .lst ds => some ds
  | _ => none
def D.isT : D → Option (List D)
  | .tup ds => some ds
  | _ => none
def iLst (a : EM) : IM := fun env => (a env).bind fun x e => .opt x.isL e
def iTupM (a : EM) : IM := fun env => (a env).bind fun x e => .opt x.isT e
def rangeL (lo : Int) (n : Nat) : List D := (List.range n).map fun i => D.int (lo + (i : Nat))
def rng1 : List D → Option (List D)
  | [.int j] => if -(2 ^ 62) ≤ j ∧ j < 2 ^ 62 then some (rangeL 0 j.toNat) else none
  | _ => none
def rng2 : List D → Option (List D)
  | [.int i, .int j] => if -(2 ^ 62) ≤ i ∧ i < 2 ^ 62 ∧ -(2 ^ 62) ≤ j ∧ j < 2 ^ 62 then some (rangeL i (j - i).toNat) else none
  | _ => none
def iRng1M (a : AM) : IM := fun env => (a env).bind fun xs e => .opt (rng1 xs) e
def iRng2M (a : AM) : IM := fun env => (a env).bind fun xs e => .opt (rng2 xs) e
def enumL (i : Nat) : List D → List D
  | [] => []
  | d :: ds => .tup [.int (i : Nat), d] :: enumL (i + 1) ds
theorem enumL_get : ∀ {ds : List D} {i n : Nat} {d : D}, (enumL i ds)[n]? = some d → ∃ x, ds[n]? = some x ∧ d = .tup [.int ((i + n : Nat)), x]
  | [], _, _, _, h => by simp [enumL] at h
  | x :: ds, i, 0, d, h => by
    cases (show some _ = some d from h)
    exact ⟨x, rfl, rfl⟩
  | x :: ds, i, n + 1, d, h => by
    obtain ⟨y, h1, h2⟩ := enumL_get (show (enumL (i + 1) ds)[n]? = some d from h)
    exact ⟨y, h1, by rw [h2, show i + 1 + n = i + (n + 1) by omega]⟩
theorem enumL_len : ∀ (ds : List D) (i : Nat), (enumL i ds).length = ds.length
  | [], _ => rfl
  | _ :: ds, i => by show (enumL (i + 1) ds).length + 1 = _; rw [enumL_len ds]; rfl
def iEnumL (a : EM) : IM := fun env => (a env).bind fun x e => (Out.opt x.isL e).bind fun ds e => .ok (enumL 0 ds) e
def iEnumT (a : EM) : IM := fun env => (a env).bind fun x e => (Out.opt x.isT e).bind fun ds e => .ok (enumL 0 ds) e
section
variable {S : Sc} {O P : List Nat} {E : XK} {μ : Mo} {fr fa : Bool} {ta : TE} {ma : EM} {t u : TS} {m n : SM} {tt : TT} {mt : TM}
theorem stq_rd {F F' : Addr → Prop} {H H' : Hp} {a : Addr} {u : HO} (nf : μ = none → ¬ F a) (w : Stq μ F H F' H') (h : Rd H a u) : Rd H' a u := by
  cases μ with
  | none => exact rd_ext w.1 (nf rfl) h
  | some U => exact rd_ext w.1 (fun z => z) h
theorem itok_list {F : Addr → Prop} {H : Hp} {a : Addr} {vs : List V} {ds : List D} (nf : μ = none → ¬ F a) (h1 : Rd H a (.lst vs)) (h2 : RepL S F H ds vs) : ItOk S μ F H (Itl S.K a) ds := fun F' H' w al => by
  have r := stq_rd nf w h1
  have w := w.fwd
  refine ⟨fun n hn => ?_, fun n x H3 d y hd => ?_, fun n hn => ⟨vs, .inl r, by rw [h2.length]; exact hn⟩⟩
  · obtain ⟨v, e, _⟩ := h2.get (List.getElem?_eq_getElem hn)
    exact ⟨vs, v, .inl r, e⟩
  · obtain ⟨rfl, k⟩ := y
    obtain ⟨v, e, q⟩ := h2.get hd
    have := (k vs (.inl r)).symm.trans e
    cases this
    exact ⟨Ext.refl _ _, Rep.fwd w _ _ q⟩
theorem itok_tup {F : Addr → Prop} {H : Hp} {a : Addr} {vs : List V} {ds : List D} (h1 : SqT S.K H a vs) (h2 : RepL S F H ds vs) : ItOk S μ F H (Itt S.K a) ds := fun F' H' w al => by
  have w := w.fwd
  have r := sqt_ext w.1 h1
  refine ⟨fun n hn => ?_, fun n x H3 d y hd => ?_, fun n hn => ⟨vs, r, by rw [h2.length]; exact hn⟩⟩
  · obtain ⟨v, e, _⟩ := h2.get (List.getElem?_eq_getElem hn)
    exact ⟨vs, v, r, e⟩
  · obtain ⟨rfl, k⟩ := y
    obtain ⟨v, e, q⟩ := h2.get hd
    have := (k vs r).symm.trans e
    cases this
    exact ⟨Ext.refl _ _, Rep.fwd w _ _ q⟩
theorem itok_range {F : Addr → Prop} {H : Hp} {lo : Int} {n : Nat} : ItOk S μ F H (Itr lo n) (rangeL lo n) := fun F' H' w al => by
  refine ⟨fun k hk => ?_, fun k x H3 d y hd => ?_, fun k hk => ?_⟩
  · unfold rangeL at hk
    rw [List.length_map, List.length_range] at hk
    exact hk
  · obtain ⟨rfl, rfl⟩ := y
    unfold rangeL at hd
    rw [List.getElem?_map] at hd
    cases q : (List.range n)[k]? with
    | none => rw [q] at hd; cases hd
    | some j =>
      rw [q] at hd
      cases hd
      obtain ⟨h1, h2⟩ := List.getElem?_eq_some_iff.mp q
      rw [List.getElem_range] at h2
      subst h2
      exact ⟨Ext.refl _ _, rfl⟩
  · unfold rangeL at hk
    rw [List.length_map, List.length_range] at hk
    exact hk
theorem itok_enum {F : Addr → Prop} {H : Hp} {a : Addr} {vs : List V} {ds : List D} (nf : μ = none → ¬ F a) (h1 : Rd H a (.lst vs)) (h2 : RepL S F H ds vs) : ItOk S μ F H (Ite S.K a) (enumL 0 ds) := fun F' H' w al => by
  have r := stq_rd nf w h1
  have w := w.fwd
  refine ⟨fun n hn => ?_, fun n x H3 d y hd => ?_, fun n hn => ⟨vs, .inl r, by rw [h2.length]; rw [enumL_len] at hn; exact hn⟩⟩
  · rw [enumL_len] at hn
    obtain ⟨v, e, _⟩ := h2.get (List.getElem?_eq_getElem hn)
    exact ⟨vs, v, .inl r, e⟩
  · obtain ⟨T, z, rfl, nT, rfl, k⟩ := y
    obtain ⟨d0, e0, rfl⟩ := enumL_get hd
    obtain ⟨v, e, q⟩ := h2.get e0
    have := (k vs (.inl r)).symm.trans e
    cases this
    refine ⟨Ext.new nT, T, _, rfl, .inl (.inl upd_same), ?_⟩
    rw [Nat.zero_add]
    exact .cons rfl (.cons ((Rep.fwd w _ _ q).grow (Ext.new nT)) .nil)
theorem ri_list (ha : RefE S O P E none fa ta ma) : RefI S O P E none (iList S.K ta) (iLst ma) := by
  intro R σ H fp env I Q h
  refine ha R σ H fp env I _ ((Want.bind h).mono fun x e1 H1 f1 I1 s1 h1 v hv _ => ?_)
  obtain ⟨ds, hd⟩ := want_some h1
  rw [hd] at h1
  have hv := hv.rep
  cases x with
  | lst es =>
    cases hd
    obtain ⟨a, vs, rfl, nf, r1, r2⟩ := hv
    exact ⟨a, rfl, ⟨vs, .inl (.inl r1)⟩, h1 H1 f1 I1 Stp.refl _ (itok_list (fun _ => nf) (.inl r1) r2)⟩
  | _ => cases hd
theorem ri_tup (ha : RefE S O P E none fa ta ma) : RefI S O P E none (iTup S.K ta) (iTupM ma) := by
  intro R σ H fp env I Q h
  refine ha R σ H fp env I _ ((Want.bind h).mono fun x e1 H1 f1 I1 s1 h1 v hv _ => ?_)
  obtain ⟨ds, hd⟩ := want_some h1
  rw [hd] at h1
  have hv := hv.rep
  cases x with
  | tup es =>
    cases hd
    obtain ⟨a, vs, rfl, r1, r2⟩ := hv
    exact ⟨a, rfl, ⟨vs, r1⟩, h1 H1 f1 I1 Stp.refl _ (itok_tup r1 r2)⟩
  | _ => cases hd
theorem ri_range1 {tA : TA} {mA : AM} (ha : RefA S O P E μ tA mA) : RefI S O P E μ (iRng1 tA) (iRng1M mA) := by
  intro R σ H fp env I Q h
  refine ha R σ H fp env I _ ((Want.bind h).mono fun xs e1 H1 f1 I1 s1 h1 vs hv => ?_)
  obtain ⟨ds, hd⟩ := want_some h1
  rw [hd] at h1
  unfold rng1 at hd
  split at hd
  · rename_i j
    split at hd
    · rename_i c
      cases hd
      obtain ⟨v, r, rfl, e1, e2⟩ := hv
      cases (show v = _ from e1)
      cases (show r = _ from e2)
      exact ⟨j, rfl, c.1, c.2, h1 H1 f1 I1 Stp.refl _ itok_range⟩
    · cases hd
  · cases hd
theorem ri_range2 {tA : TA} {mA : AM} (ha : RefA S O P E μ tA mA) : RefI S O P E μ (iRng2 tA) (iRng2M mA) := by
  intro R σ H fp env I Q h
  refine ha R σ H fp env I _ ((Want.bind h).mono fun xs e1 H1 f1 I1 s1 h1 vs hv => ?_)
  obtain ⟨ds, hd⟩ := want_some h1
  rw [hd] at h1
  unfold rng2 at hd
  split at hd
  · rename_i i j
    split at hd
    · rename_i c
      cases hd
      obtain ⟨v, r, rfl, e1, v2, r2, rfl, e2, e3⟩ := hv
      cases (show v = _ from e1)
      cases (show v2 = _ from e2)
      cases (show r2 = _ from e3)
      exact ⟨i, j, rfl, c, h1 H1 f1 I1 Stp.refl _ itok_range⟩
    · cases hd
  · cases hd
theorem ri_enum (ha : RefE S O P E none fa ta ma) : RefI S O P E none (iEnum S.K (tCons ta tNil)) (iEnumL ma) := by
  intro R σ H fp env I Q h
  refine ha R σ H fp env I _ ((Want.bind h).mono fun x e1 H1 f1 I1 s1 h1 v hv _ => ?_)
  have h5 := Want.bind h1
  obtain ⟨ds, hd⟩ := want_some h5
  rw [hd] at h5
  have hw := hv.rep
  cases x with
  | lst es =>
    cases hd
    obtain ⟨a, vs, rfl, nf, r1, r2⟩ := hw
    exact ⟨a, vs, rfl, .inl (.inl r1), (h5 H1 f1 I1 Stp.refl) H1 f1 I1 Stp.refl _ (itok_enum (fun _ => nf) (.inl r1) r2)⟩
  | _ => cases hd
/-- weak: what is walked are pure data -/
def iLstP (a : EM) : IM := fun env => (a env).bind fun x e => (Out.opt x.isL e).bind fun ds e => if D.pureL ds then .ok ds e else .bad
def iTupP (a : EM) : IM := fun env => (a env).bind fun x e => (Out.opt x.isT e).bind fun ds e => if D.pureL ds then .ok ds e else .bad
theorem ri_listP {U : List Nat} (ha : RefE S O P E (some U) fa ta ma) : RefI S O P E (some U) (iList S.K ta) (iLstP ma) := by
  intro R σ H fp env I Q h
  refine ha R σ H fp env I _ ((Want.bind h).mono fun x e1 H1 f1 I1 s1 h1 v hv _ => ?_)
  have h5 := Want.bind h1
  obtain ⟨ds, hd⟩ := want_some h5
  rw [hd] at h5
  have hw := hv.rep
  cases x with
  | lst es =>
    cases hd
    have h6 := h5 H1 f1 I1 Stp.refl
    dsimp only at h6
    obtain ⟨a, vs, rfl, nf, r1, r2⟩ := hw
    by_cases c : D.pureL ds = true
    · rw [if_pos c] at h6
      exact ⟨a, rfl, ⟨vs, .inl (.inl r1)⟩, h6 H1 f1 I1 Stp.refl _ (itok_list (fun z => nomatch z) (.inl r1) (repL_pure _ _ c r2))⟩
    · rw [if_neg c] at h6
      exact h6.elim
  | _ => cases hd
theorem ri_tupP {U : List Nat} (ha : RefE S O P E (some U) fa ta ma) : RefI S O P E (some U) (iTup S.K ta) (iTupP ma) := by
  intro R σ H fp env I Q h
  refine ha R σ H fp env I _ ((Want.bind h).mono fun x e1 H1 f1 I1 s1 h1 v hv _ => ?_)
  have h5 := Want.bind h1
  obtain ⟨ds, hd⟩ := want_some h5
  rw [hd] at h5
  have hw := hv.rep
  cases x with
  | tup es =>
    cases hd
    have h6 := h5 H1 f1 I1 Stp.refl
    dsimp only at h6
    obtain ⟨a, vs, rfl, r1, r2⟩ := hw
    by_cases c : D.pureL ds = true
    · rw [if_pos c] at h6
      exact ⟨a, rfl, ⟨vs, r1⟩, h6 H1 f1 I1 Stp.refl _ (itok_tup r1 (repL_pure _ _ c r2))⟩
    · rw [if_neg c] at h6
      exact h6.elim
  | _ => cases hd
/-- weak: an own list is walked -/
theorem ri_own {U : List Nat} {i : Nat} (hO : i ∈ O) : RefI S O P E (some U) (iList S.K (tVar i)) (iLst (eVar i)) := by
  intro R σ H fp env I Q h
  have h1 := Want.bind h
  unfold eVar at h1
  split at h1
  · rename_i d e
    have h2 := h1 H fp I Stp.refl
    dsimp only at h2
    obtain ⟨ds, hd⟩ := want_some h2
    rw [hd] at h2
    cases d with
    | lst es =>
      cases hd
      obtain ⟨a, vs, q1, q2, q3, q4⟩ := own_lst I hO e
      exact ⟨_, q1, a, rfl, ⟨vs, .inl (.inl q3)⟩, h2 H fp I Stp.refl _ (itok_list (fun z => nomatch z) (.inl q3) q4)⟩
    | _ => cases hd
  · exact h1.elim
/-! ### for -/
def forGo (g : GM) (b : SM) : List D → Env → Fl
  | [], env => .next env
  | d :: ds, env => match g d env with
    | none => .bad
    | some e => match b e with
      | .next e' => forGo g b ds e'
      | .cont e' => forGo g b ds e'
      | .brk e' => .next e'
      | .ret x e' => .ret x e'
      | .exc x e' => .exc x e'
      | .bad => .bad
def sFor (it : IM) (g : GM) (b : SM) : SM := fun env => (it env).fl fun ds e => forGo g b ds e
theorem WantS.at {R : Rx} {H H1 : Hp} {fp f1 : Fp} {o : Fl} {D : Ends} {σ σ1 : L2.St} (h : WantS S O P E fr R H fp o D σ) (w1 : Fwd (Lv fp) H (Lv f1) H1) : WantS S O P E fr R H1 f1 o D σ1 := by
  cases o with
  | next e => exact fun σ2 H2 f2 I2 w2 => h σ2 H2 f2 I2 (w1.trans w2)
  | brk e => exact fun σ2 H2 f2 I2 w2 => h σ2 H2 f2 I2 (w1.trans w2)
  | cont e => exact fun σ2 H2 f2 I2 w2 => h σ2 H2 f2 I2 (w1.trans w2)
  | ret d e => exact fun σ2 v H2 f2 I2 w2 r => h σ2 v H2 f2 I2 (w1.trans w2) r
  | exc d e => exact fun cls dd σ2 H2 f2 I2 w2 r => h cls dd σ2 H2 f2 I2 (w1.trans w2) r
  | bad => exact h
theorem rs_for {ws : List Nat} {wi : TI} {it : IM} {tg : TG} {g : GM} (hi : RefI S O P E none wi it) (hg : RefG S O P ws tg g) (hb : RefS S O P E fr t m) : RefS S O P E fr (tFor wi tg t) (sFor it g m) := by
  intro R σ H fp env I D h
  refine hi R σ H fp env I _ ((want_fl h).mono fun ds e1 H1 f1 I1 s1 hp J hJ => ?_)
  refine ⟨fun i k σ' H' => i + k = ds.length ∧ ∃ fp' env', Rel S O P R σ' H' fp' env' ∧ Fwd (Lv f1) H1 (Lv fp') H' ∧ WantS S O P E fr R H' fp' (forGo g m (ds.drop i) env') D σ',
    ⟨ds.length, by omega, f1, e1, I1, Fwd.refl _ _, hp⟩, fun i k σ' H' hW => ?_⟩
  obtain ⟨hk, f2, e2, I2, w2, hp2⟩ := hW
  obtain ⟨j1, j2, j3⟩ := hJ (Fs R f2) H' (adv_fs w2) fun a q => I2.fs q
  by_cases c : i < ds.length
  · refine .inr ⟨j1 i c, fun σ3 H3 => ∃ k', k' < k ∧ (i + 1 + k' = ds.length ∧ ∃ fp' env', Rel S O P R σ3 H3 fp' env' ∧ Fwd (Lv f1) H1 (Lv fp') H3 ∧ WantS S O P E fr R H3 fp' (forGo g m (ds.drop (i + 1)) env') D σ3), fun _ _ z => z, fun x H3 hy => ?_⟩
    have hd : ds[i]? = some ds[i] := List.getElem?_eq_getElem c
    obtain ⟨x3, r3⟩ := j2 i x H3 _ hy hd
    have I3 := I2.grow x3
    have w3 : Fwd (Lv f1) H1 (Lv f2) H3 := w2.trans (Fwd.grow x3)
    rw [List.drop_eq_getElem_cons c] at hp2
    unfold forGo at hp2
    split at hp2
    · exact hp2.elim
    · rename_i e3 q3
      refine hg.run R σ' H3 f2 e2 _ x e3 I3 r3 q3 _ fun σ4 I4 _ => hb R σ4 H3 f2 e3 I4 _ ?_
      have hp3 : WantS S O P E fr R H3 f2 _ D σ' := hp2.at (f1 := f2) (Fwd.grow x3)
      cases q : m e3 with
      | next e =>
        rw [q] at hp3
        exact fun σ5 H5 f5 I5 w5 => ⟨k - 1, by omega, by omega, f5, e, I5, w3.trans w5, hp3.at w5⟩
      | cont e =>
        rw [q] at hp3
        exact fun σ5 H5 f5 I5 w5 => ⟨k - 1, by omega, by omega, f5, e, I5, w3.trans w5, hp3.at w5⟩
      | brk e => rw [q] at hp3; exact hp3
      | ret d e => rw [q] at hp3; exact hp3
      | exc d e => rw [q] at hp3; exact hp3
      | bad => rw [q] at hp3; exact hp3
  · refine .inl ⟨j3 i (by omega), ?_⟩
    rw [List.drop_eq_nil_of_le (by omega)] at hp2
    exact hp2 σ' H' f2 I2 (Fwd.refl _ _)
/-! ### while -/
/-- one more turn at most n times; none: not yet through -/
def whileN (c : TM) (b : SM) : Nat → Env → Option Fl
  | 0, _ => none
  | n + 1, env => match c env with
    | .bad => some .bad
    | .exc x e => some (.exc x e)
    | .ok false e => some (.next e)
    | .ok true e => match b e with
      | .next e' => whileN c b n e'
      | .cont e' => whileN c b n e'
      | .brk e' => some (.next e')
      | .ret x e' => some (.ret x e')
      | .exc x e' => some (.exc x e')
      | .bad => some .bad
open Classical in
noncomputable def sWhile (c : TM) (b : SM) : SM := fun env => if h : ∃ n r, whileN c b n env = some r then (Classical.choose (Classical.choose_spec h)) else .bad
theorem whileN_mono {c : TM} {b : SM} : ∀ {n k : Nat} {env : Env} {r : Fl}, whileN c b n env = some r → n ≤ k → whileN c b k env = some r
  | 0, _, _, _, h, _ => by cases h
  | n + 1, 0, _, _, _, hk => by omega
  | n + 1, k + 1, env, r, h, hk => by
    unfold whileN at h ⊢
    split at h
    · exact h
    · exact h
    · exact h
    · split at h
      · exact whileN_mono h (by omega)
      · exact whileN_mono h (by omega)
      · exact h
      · exact h
      · exact h
      · exact h
theorem sWhile_of {c : TM} {b : SM} {n : Nat} {env : Env} {r : Fl} (h : whileN c b n env = some r) : sWhile c b env = r := by
  have e : ∃ n r, whileN c b n env = some r := ⟨n, r, h⟩
  unfold sWhile
  rw [dif_pos e]
  have q := Classical.choose_spec (Classical.choose_spec e)
  rcases Nat.le_total n (Classical.choose e) with z | z
  · exact Option.some.inj (q.symm.trans (whileN_mono h z))
  · exact Option.some.inj ((whileN_mono q z).symm.trans h)
theorem sWhile_bad {c : TM} {b : SM} {env : Env} (h : ∀ n, whileN c b n env = none) : sWhile c b env = .bad := by
  unfold sWhile
  rw [dif_neg]
  intro ⟨n, r, q⟩
  rw [h n] at q
  cases q
theorem rs_while (hc : RefT S O P E none tt mt) (hb : RefS S O P E fr t m) : RefS S O P E fr (tWhile tt t) (sWhile mt m) := by
  intro R σ H fp env I D h
  have hx : ∃ n r, whileN mt m n env = some r := by
    apply Classical.byContradiction
    intro z
    have q : sWhile mt m env = .bad := by
      unfold sWhile
      rw [dif_neg z]
    rw [q] at h
    exact h
  obtain ⟨n0, r0, h0⟩ := hx
  rw [sWhile_of h0] at h
  refine ⟨fun k σ' H' => ∃ fp' env' r, Rel S O P R σ' H' fp' env' ∧ whileN mt m k env' = some r ∧ WantS S O P E fr R H' fp' r D σ', ⟨n0, fp, env, r0, I, h0, h⟩, fun k σ' H' hW => ?_⟩
  obtain ⟨f1, e1, r, I1, hr, h1⟩ := hW
  cases k with
  | zero => cases hr
  | succ k =>
    refine hc R σ' H' f1 e1 I1 _ ?_
    unfold whileN at hr
    cases q : mt e1 with
    | bad => rw [q] at hr; cases hr; exact h1
    | exc x e => rw [q] at hr; cases hr; exact fun cls dd H2 f2 I2 s2 x2 => h1 cls dd σ' H2 f2 I2 s2 x2
    | ok b e =>
      rw [q] at hr
      intro H2 f2 I2 s2
      cases b with
      | false =>
        cases hr
        exact h1 σ' H2 f2 I2 s2
      | true =>
        show ∃ N : L2.St → Hp → Prop, (∀ σ' H', N σ' H' → ∃ m', m' < k + 1 ∧ _) ∧ _
        refine ⟨fun σ5 H5 => ∃ fp' env' r, Rel S O P R σ5 H5 fp' env' ∧ whileN mt m k env' = some r ∧ WantS S O P E fr R H5 fp' r D σ5, fun σ5 H5 z => ⟨k, Nat.lt_succ_self _, z⟩, hb R σ' H2 f2 e I2 _ ?_⟩
        have s2 : Fwd (Lv f1) H' (Lv f2) H2 := s2
        dsimp only at hr
        cases q2 : m e with
        | next e' => rw [q2] at hr; exact fun σ5 H5 f5 I5 w5 => ⟨f5, e', r, I5, hr, h1.at (s2.trans w5)⟩
        | cont e' => rw [q2] at hr; exact fun σ5 H5 f5 I5 w5 => ⟨f5, e', r, I5, hr, h1.at (s2.trans w5)⟩
        | brk e' => rw [q2] at hr; cases hr; exact h1.at (σ1 := σ') s2
        | ret d e' => rw [q2] at hr; cases hr; exact h1.at (σ1 := σ') s2
        | exc d e' => rw [q2] at hr; cases hr; exact h1.at (σ1 := σ') s2
        | bad => rw [q2] at hr; cases hr; exact h1
/-! ### comprehensions -/
def wipeE (env : Env) : List Nat → Env
  | [] => env
  | v :: vs => (wipeE env vs).set v none
/-- behind a comprehension: its own names as they were -/
def resE (env env0 : Env) : List Nat → Env
  | [] => env
  | v :: vs => (resE env env0 vs).set v (env0.getD v none)
def Out.noX {α : Type} (o : Out α) : Out α := match o with
  | .exc _ _ => .bad
  | o => o
@[simp] theorem Out.noX_ok {α : Type} (a : α) (e : Env) : (Out.ok a e).noX = .ok a e := rfl
@[simp] theorem Out.noX_bad {α : Type} : (Out.bad : Out α).noX = .bad := rfl
@[simp] theorem Out.noX_exc {α : Type} (x : Exn) (e : Env) : (Out.exc x e : Out α).noX = .bad := rfl
def lcGo (vs : List Nat) (g : GM) (c : TM) (e : EM) : List D → List D → Env → Out (List D)
  | [], acc, env => .ok acc env
  | d :: ds, acc, env => match g d env with
    | none => .bad
    | some e1 => (c e1).noX.bind fun b e2 => if b then (e e2).noX.bind fun x e3 => if acc.length < 100000 then lcGo vs g c e ds (acc ++ [x]) (wipeE e3 vs) else .bad else lcGo vs g c e ds acc (wipeE e2 vs)
def eLc (vs : List Nat) (it : IM) (g : GM) (c : TM) (e : EM) : EM := fun env => (it env).bind fun ds e0 => (lcGo vs g c e ds [] (wipeE e0 vs)).bind fun xs e1 => .ok (.lst xs) (resE e1 e0 vs)
def mYes : TM := fun env => .ok true env
theorem rt_yes : RefT S O P E μ tYes mYes := fun R σ H fp env I Q h => h H fp I Stp.refl
theorem wipeE_get (env : Env) : ∀ (vs : List Nat) (i : Nat), i ∉ vs → (wipeE env vs)[i]? = env[i]?
  | [], _, _ => rfl
  | v :: vs, i, h => by
    unfold wipeE
    rw [List.getElem?_set_ne (fun z => h (by rw [z]; exact List.mem_cons_self)), wipeE_get env vs i fun z => h (List.mem_cons_of_mem _ z)]
theorem wipeE_no (env : Env) : ∀ (vs : List Nat) (i : Nat) (d : D), i ∈ vs → (wipeE env vs)[i]? ≠ some (some d)
  | v :: vs, i, d, h => by
    unfold wipeE
    by_cases e : v = i
    · subst e
      intro q
      have hl := (List.getElem?_eq_some_iff.mp q).1
      rw [List.length_set] at hl
      rw [List.getElem?_set_self hl] at q
      cases q
    · rw [List.getElem?_set_ne e]
      rcases List.mem_cons.mp h with z | z
      · exact absurd z.symm e
      · exact wipeE_no env vs i d z
theorem wipeE_len (env : Env) : ∀ vs : List Nat, (wipeE env vs).length = env.length
  | [] => rfl
  | v :: vs => by unfold wipeE; rw [List.length_set, wipeE_len env vs]
theorem resE_len (env env0 : Env) : ∀ vs : List Nat, (resE env env0 vs).length = env.length
  | [] => rfl
  | v :: vs => by unfold resE; rw [List.length_set, resE_len env env0 vs]
theorem resE_get (env env0 : Env) : ∀ (vs : List Nat) (i : Nat), i ∉ vs → (resE env env0 vs)[i]? = env[i]?
  | [], _, _ => rfl
  | v :: vs, i, h => by
    unfold resE
    rw [List.getElem?_set_ne (fun z => h (by rw [z]; exact List.mem_cons_self)), resE_get env env0 vs i fun z => h (List.mem_cons_of_mem _ z)]
theorem resE_in (env env0 : Env) : ∀ (vs : List Nat) (i : Nat) (d : D), i ∈ vs → (resE env env0 vs)[i]? = some (some d) → env0[i]? = some (some d)
  | v :: vs, i, d, h, q => by
    unfold resE at q
    by_cases e : v = i
    · subst e
      have hl := (List.getElem?_eq_some_iff.mp q).1
      rw [List.length_set] at hl
      rw [List.getElem?_set_self hl] at q
      have q := Option.some.inj q
      unfold List.getD at q
      cases z : env0[v]? with
      | none => rw [z] at q; cases q
      | some o => rw [z] at q; exact congrArg some q
    · rw [List.getElem?_set_ne e] at q
      rcases List.mem_cons.mp h with z | z
      · exact absurd z.symm e
      · exact resE_in env env0 vs i d z q
theorem wipe_get (σ : L2.St) : ∀ (vs : List Nat) (i : Nat), i ∉ vs → (wipe σ vs)[i]? = σ[i]?
  | [], _, _ => rfl
  | v :: vs, i, h => by
    unfold wipe
    rw [List.getElem?_set_ne (fun z => h (by rw [z]; exact List.mem_cons_self)), wipe_get σ vs i fun z => h (List.mem_cons_of_mem _ z)]
theorem wipe_in (σ : L2.St) : ∀ (vs : List Nat) (i : Nat), i ∈ vs → i < σ.length → (wipe σ vs)[i]? = some none
  | v :: vs, i, h, hl => by
    unfold wipe
    by_cases e : v = i
    · subst e
      exact List.getElem?_set_self (by rw [wipe_length]; exact hl)
    · rw [List.getElem?_set_ne e]
      rcases List.mem_cons.mp h with z | z
      · exact absurd z.symm e
      · exact wipe_in σ vs i z hl
theorem wipe_same {σ τ : L2.St} {vs : List Nat} (hl : σ.length = τ.length) (h : ∀ i, i ∉ vs → σ[i]? = τ[i]?) : wipe σ vs = wipe τ vs := by
  apply List.ext_getElem?
  intro i
  by_cases c : i ∈ vs
  · by_cases d : i < σ.length
    · rw [wipe_in σ vs i c d, wipe_in τ vs i c (by omega)]
    · rw [List.getElem?_eq_none (by rw [wipe_length]; omega), List.getElem?_eq_none (by rw [wipe_length]; omega)]
  · rw [wipe_get σ vs i c, wipe_get τ vs i c, h i c]
theorem wipe_wipe (σ : L2.St) (vs : List Nat) : wipe (wipe σ vs) vs = wipe σ vs := wipe_same (wipe_length σ vs) fun i hi => wipe_get σ vs i hi
theorem Rel.wipe {R : Rx} {σ : L2.St} {H : Hp} {fp : Fp} {env : Env} {vs : List Nat} (I : Rel S O P R σ H fp env) (hv : ∀ v ∈ vs, v ∉ O) : Rel S O P R (L2.wipe σ vs) H fp (wipeE env vs) where
  len := by rw [wipe_length, wipeE_len, I.len]
  val := fun i d h1 h2 => by
    by_cases c : i ∈ vs
    · exact absurd h1 (wipeE_no env vs i d c)
    · rw [wipeE_get env vs i c] at h1
      rw [wipe_get σ vs i c]
      exact I.val i d h1 h2
  own := fun i d h1 h2 => by
    have c : i ∉ vs := fun z => hv i z h2
    rw [wipeE_get env vs i c] at h1
    rw [wipe_get σ vs i c]
    exact I.own i d h1 h2
  non := fun i h => I.non i (by
    rcases h with h | h
    · exact .inl h
    · by_cases c : i ∈ O
      · exact .inr fun d q => h d (by rw [wipeE_get env vs i fun z => hv i z c]; exact q)
      · exact .inl c)
  dist := I.dist
  nd := I.nd
  src := I.src
  ext := I.ext
  gl := I.gl
  live := I.live
  dom := I.dom
  mh := I.mh
theorem Rel.unplus {R : Rx} {σ : L2.St} {H : Hp} {fp : Fp} {env : Env} {a : Addr} (I : Rel S O P (R.plus a) σ H fp env) : Rel S O P R σ H fp env := by
  have m : ∀ x, Fs R fp x → Fs (R.plus a) fp x ∨ H x = none := fun x z => .inl (fs_plus.mpr (.inl z))
  exact ⟨I.len, fun i d h1 h2 => let ⟨v, q, r⟩ := I.val i d h1 h2; ⟨v, q, r.less m⟩, fun i d h1 h2 => let ⟨v, q, r⟩ := I.own i d h1 h2; ⟨v, q, r.fwd (Ext.refl _ _) m⟩, I.non, I.dist, I.nd,
    fun i b hb => ⟨(I.src i b hb).1, fun hp => ⟨((I.src i b hb).2 hp).1, fun z => ((I.src i b hb).2 hp).2 (.inl z)⟩⟩, I.ext, fun b z => I.gl b (.inl z), I.live, I.dom, I.mh⟩
/-- behind a comprehension: the frame's own names again -/
theorem Rel.res {R : Rx} {σ : L2.St} {H H0 : Hp} {fp f0 : Fp} {env env0 : Env} {vs : List Nat} (I : Rel S O P R (L2.wipe σ vs) H fp env) (I0 : Rel S O P R σ H0 f0 env0) (w : Fwd (Fs R f0) H0 (Fs R fp) H) (hv : ∀ v ∈ vs, v ∉ O) : Rel S O P R σ H fp (resE env env0 vs) where
  len := by rw [resE_len, I.len, wipe_length]
  val := fun i d h1 h2 => by
    by_cases c : i ∈ vs
    · obtain ⟨v, q, r⟩ := I0.val i d (resE_in env env0 vs i d c h1) h2
      exact ⟨v, q, Rep.fwd w _ _ r⟩
    · rw [resE_get env env0 vs i c] at h1
      obtain ⟨v, q, r⟩ := I.val i d h1 h2
      rw [wipe_get σ vs i c] at q
      exact ⟨v, q, r⟩
  own := fun i d h1 h2 => by
    have c : i ∉ vs := fun z => hv i z h2
    rw [resE_get env env0 vs i c] at h1
    obtain ⟨v, q, r⟩ := I.own i d h1 h2
    rw [wipe_get σ vs i c] at q
    exact ⟨v, q, r⟩
  non := fun i h => I.non i (by
    rcases h with h | h
    · exact .inl h
    · by_cases c : i ∈ O
      · exact .inr fun d q => h d (by rw [resE_get env env0 vs i fun z => hv i z c]; exact q)
      · exact .inl c)
  dist := I.dist
  nd := I.nd
  src := I.src
  ext := I.ext
  gl := I.gl
  live := I.live
  dom := I.dom
  mh := I.mh
theorem FM.plus {R : Rx} {fp : Fp} {a x : Addr} (nl : ∀ i, a ∉ fp i) : FM (R.plus a) fp μ x ↔ (FM R fp μ x ∨ x = a) := by
  cases μ with
  | none => exact fs_plus
  | some U =>
    constructor
    · rintro ⟨z1, z2⟩
      rcases fs_plus.mp z1 with z | z
      · exact .inl ⟨z, z2⟩
      · exact .inr z
    · rintro (⟨z1, z2⟩ | z)
      · exact ⟨fs_plus.mpr (.inl z1), z2⟩
      · exact ⟨fs_plus.mpr (.inr z), fun ⟨i, _, hi⟩ => nl i (z ▸ hi)⟩
theorem upd_dom {H : Hp} {a b : Addr} {o : HO} (h : H b ≠ none) : upd H a o b ≠ none := by
  unfold L2.upd
  split
  · exact fun z => nomatch z
  · exact h
/-- a list that is forbidden, but nobody's, is changed -/
theorem Rel.updG {R : Rx} {σ : L2.St} {H : Hp} {fp : Fp} {env : Env} {a : Addr} {vs vs' : List V} (I : Rel S O P R σ H fp env) (g : R.G a) (nl : ∀ i, a ∉ fp i) (h0 : R.H0 a = none) (h : H a = some (.lst vs)) :
    Rel S O P R σ (L2.upd H a (.lst vs')) fp env ∧ ∀ F : Addr → Prop, F a → Fwd F H F (L2.upd H a (.lst vs')) := by
  have w : ∀ F : Addr → Prop, F a → Fwd F H F (L2.upd H a (.lst vs')) := fun F fa => ⟨fun b o q c => by
    rw [upd_ne (show b ≠ a from fun z => by
      subst z
      rw [h] at q
      cases q
      exact c.elim (fun z => z fa) fun z => z trivial)]
    exact q, fun _ z => .inl z, fun _ z => upd_dom z⟩
  refine ⟨⟨I.len, fun i d q1 q2 => let ⟨v, x1, x2⟩ := I.val i d q1 q2; ⟨v, x1, Rep.fwd (w _ (.inl g)) _ _ x2⟩, fun i d q1 q2 => ?_, I.non, I.dist, I.nd, I.src, fun b o q c => ?_, fun b q => upd_dom (I.gl b q), fun i b q => upd_dom (I.live i b q), fun b q => upd_dom (I.dom b q), I.mh⟩, w⟩
  · obtain ⟨b, x1, x2⟩ := I.own i d q1 q2
    refine ⟨b, x1, ?_⟩
    have nb : ∀ c, c ∈ fp i → c ≠ a := fun c hc z => nl i (z ▸ hc)
    cases d with
    | lst es =>
      obtain ⟨y1, us, y2, y3⟩ := x2
      exact ⟨y1, us, by rw [upd_ne (nb b (by rw [y1]; exact List.mem_cons_self))]; exact y2, RepL.fwd (w _ (.inl g)) _ _ y3⟩
    | ins k es =>
      obtain ⟨y1, dx, us, y2, y3, y4⟩ := x2
      exact ⟨y1, dx, us, by rw [upd_ne (nb b (by rw [y1]; exact List.mem_cons_self))]; exact y2, y3, RepL.fwd (w _ (.inl g)) _ _ y4⟩
    | _ => exact x2.elim
  · rw [upd_ne (ne_of_none q h0)]
    exact I.ext b o q c
theorem want_noX {E' : XK} {R : Rx} {σ : L2.St} {H : Hp} {fp : Fp} {env : Env} {α : Type} {o : Out α} {Po : α → Env → Hp → Fp → Prop} (h : Want S O P E μ R σ H fp env o.noX Po) : Want S O P E' μ R σ H fp env o Po := by
  cases o with
  | ok a e => exact h
  | exc x e => exact h.elim
  | bad => exact h
theorem resE_wipe {env : Env} {vs : List Nat} : resE (wipeE env vs) env vs = env := by
  apply List.ext_getElem?
  intro i
  by_cases c : i ∈ vs
  · by_cases d : i < env.length
    · have key : ∀ ws : List Nat, i ∈ ws → ∀ e : Env, e.length = env.length → (resE e env ws)[i]? = env[i]? := by
        intro ws
        induction ws with
        | nil => intro z; cases z
        | cons v ws ih =>
          intro z e he
          unfold resE
          by_cases q : v = i
          · subst q
            rw [List.getElem?_set_self (by rw [resE_len, he]; exact d), List.getElem?_eq_getElem d]
            show some (env.getD v none) = _
            unfold List.getD
            rw [List.getElem?_eq_getElem d]
            rfl
          · rw [List.getElem?_set_ne q]
            exact ih ((List.mem_cons.mp z).resolve_left fun w => q w.symm) e he
      exact key vs c _ (wipeE_len env vs)
    · rw [List.getElem?_eq_none (by rw [resE_len, wipeE_len]; omega), List.getElem?_eq_none (by omega)]
  · rw [resE_get _ _ vs i c, wipeE_get env vs i c]
theorem wipeE_same {e f : Env} {vs : List Nat} (hl : e.length = f.length) (h : ∀ i, i ∉ vs → e[i]? = f[i]?) : wipeE e vs = wipeE f vs := by
  have key : ∀ (ws : List Nat) (g : Env) (i : Nat), i ∈ ws → i < g.length → (wipeE g ws)[i]? = some none := by
    intro ws
    induction ws with
    | nil => intro g i z; cases z
    | cons v ws ih =>
      intro g i z hg
      unfold wipeE
      by_cases q : v = i
      · subst q
        exact List.getElem?_set_self (by rw [wipeE_len]; exact hg)
      · rw [List.getElem?_set_ne q]
        exact ih g i ((List.mem_cons.mp z).resolve_left fun w => q w.symm) hg
  apply List.ext_getElem?
  intro i
  by_cases c : i ∈ vs
  · by_cases d : i < e.length
    · rw [key vs e i c d, key vs f i c (by omega)]
    · rw [List.getElem?_eq_none (by rw [wipeE_len]; omega), List.getElem?_eq_none (by rw [wipeE_len]; omega)]
  · rw [wipeE_get e vs i c, wipeE_get f vs i c, h i c]
theorem lcGo_ok {vs : List Nat} {g : GM} {c : TM} {e : EM} : ∀ {ds acc : List D} {env : Env}, (∃ xs e', lcGo vs g c e ds acc env = .ok xs e') ∨ lcGo vs g c e ds acc env = .bad
  | [], acc, env => .inl ⟨_, _, rfl⟩
  | d :: ds, acc, env => by
    unfold lcGo
    split
    · exact .inr rfl
    · rename_i e1 _
      cases c e1 with
      | bad => exact .inr rfl
      | exc x e => exact .inr rfl
      | ok b e2 =>
        simp only [Out.noX_ok, Out.bind_ok]
        split
        · cases e e2 with
          | bad => exact .inr rfl
          | exc x e => exact .inr rfl
          | ok x e3 =>
            simp only [Out.noX_ok, Out.bind_ok]
            split
            · exact lcGo_ok
            · exact .inr rfl
        · exact lcGo_ok
theorem stq_of {R : Rx} {H1 H' : Hp} {f1 f2 : Fp} {a : Addr} (hD : H1 a = none) (w : Fwd (Lv f1) H1 (Lv f2) H') (p : μ ≠ none → Ext Nil H1 H' ∧ f2 = f1) : Stq μ (Fs R f1) H1 (Fs (R.plus a) f2) H' := by
  have z : ∀ x, Fs (R.plus a) f2 x → Fs R f1 x ∨ H1 x = none := fun x z => by
    rcases fs_plus.mp z with (z | z) | z
    · exact .inl (.inl z)
    · exact (w.2.1 x z).imp .inr id
    · exact .inr (by rw [z]; exact hD)
  cases μ with
  | none => exact ⟨w.1.mono fun _ z => .inr z, z, w.2.2⟩
  | some U => exact ⟨(p fun z => nomatch z).1, z⟩
theorem ref_lc {E1 E2 : XK} {fe : Bool} {vs ws : List Nat} {wi : TI} {it : IM} {tg : TG} {g : GM} {te : TE} {me : EM} (hi : RefI S O P E μ wi it) (hg : RefG S O P ws tg g) (ht : RefT S O P E1 μ tt mt) (he : RefE S O P E2 μ fe te me) (hw : ∀ i ∈ ws, i ∈ vs) (hv : ∀ v ∈ vs, v ∉ O) :
    RefE S O P E μ true (tLc wi tg tt te vs) (eLc vs it g mt me) := by
  intro R σ H fp env I Q h
  refine hi R σ H fp env I _ ((Want.bind h).mono fun ds e1 H1 f1 I1 s1 hp J hJ => ?_)
  intro Dl hD
  have I2 : Rel S O P (R.plus Dl) σ (upd H1 Dl (.lst [])) f1 e1 := I1.plus hD (Ext.new hD) (by rw [upd_same]; exact fun z => nomatch z)
  have I3 := I2.wipe hv
  have h0D : R.H0 Dl = none := by
    cases q : R.H0 Dl with
    | none => rfl
    | some o => exact absurd hD (I1.dom Dl (by rw [q]; exact fun z => nomatch z))
  obtain ⟨xs, e3, hx⟩ : ∃ xs e3, lcGo vs g mt me ds [] (wipeE e1 vs) = .ok xs e3 := by
    rcases lcGo_ok (vs := vs) (g := g) (c := mt) (e := me) (ds := ds) (acc := []) (env := wipeE e1 vs) with z | z
    · exact z
    · rw [z] at hp
      exact hp.elim
  rw [hx] at hp
  have hp : ∀ H' fp', Rel S O P R σ H' fp' (resE e3 e1 vs) → Stp μ R H1 f1 e1 H' fp' (resE e3 e1 vs) → PostE S O P R σ μ true H Q (.lst xs) (resE e3 e1 vs) H' fp' := hp
  have nlv : ∀ {τ : L2.St} {H' : Hp} {f2 : Fp} {env2 : Env}, Rel S O P (R.plus Dl) τ H' f2 env2 → ¬ Lv f2 Dl := fun J2 ⟨i, z⟩ => by
    have q := J2.src i Dl z
    by_cases c : i ∈ P
    · exact J2.mh Dl (q.1 c) h0D
    · exact (q.2 c).2 (.inr rfl)
  refine ⟨fun i k H' => i + k = ds.length ∧ ∃ f2 env2 acc vacc, Rel S O P (R.plus Dl) (wipe σ vs) H' f2 env2 ∧ H' Dl = some (.lst vacc) ∧ RepL S (FM (R.plus Dl) f2 μ) H' acc vacc ∧ lcGo vs g mt me (ds.drop i) acc env2 = .ok xs e3 ∧
      Fwd (Lv f1) H1 (Lv f2) H' ∧ (μ ≠ none → (Ext Nil H1 H' ∧ f2 = f1) ∧ env2 = wipeE e1 vs),
    ⟨ds.length, by omega, f1, wipeE e1 vs, [], [], I3, upd_same, .nil, hx, Fwd.grow (Ext.new hD), fun _ => ⟨⟨Ext.new hD, rfl⟩, rfl⟩⟩, fun i k H' hW => ?_⟩
  obtain ⟨hk, f2, env2, acc, vacc, J2, a2, r2, l2, w2, p2⟩ := hW
  have nl2 := nlv J2
  obtain ⟨j1, j2, j3⟩ := hJ (Fs (R.plus Dl) f2) H' (stq_of hD w2 fun z => (p2 z).1) fun a q => J2.fs q
  by_cases c : i < ds.length
  · refine .inr ⟨j1 i c, fun H3 => ∃ k', k' < k ∧ (i + 1 + k' = ds.length ∧ ∃ f2 env2 acc vacc, Rel S O P (R.plus Dl) (wipe σ vs) H3 f2 env2 ∧ H3 Dl = some (.lst vacc) ∧ RepL S (FM (R.plus Dl) f2 μ) H3 acc vacc ∧ lcGo vs g mt me (ds.drop (i + 1)) acc env2 = .ok xs e3 ∧
      Fwd (Lv f1) H1 (Lv f2) H3 ∧ (μ ≠ none → (Ext Nil H1 H3 ∧ f2 = f1) ∧ env2 = wipeE e1 vs)), fun _ z => z, fun x H3 hy => ?_⟩
    have hd : ds[i]? = some ds[i] := List.getElem?_eq_getElem c
    obtain ⟨x3, r3⟩ := j2 i x H3 _ hy hd
    have I4 := J2.grow x3
    rw [List.drop_eq_getElem_cons c] at l2
    unfold lcGo at l2
    split at l2
    · cases l2
    · rename_i e4 q4
      obtain ⟨lo1, lo2⟩ := hg.loc _ _ _ q4
      refine hg.run (R.plus Dl) (wipe σ vs) H3 f2 env2 _ x e4 I4 r3 q4 _ fun σ5 I5 s5 => ?_
      have sg : wipe σ5 vs = wipe σ vs := by
        rw [wipe_same (σ := σ5) (τ := wipe σ vs) (by rw [← I5.len, ← I4.len, lo1]) (fun j hj => s5 j fun z => hj (hw j z)), wipe_wipe]
      refine ⟨sg, ?_⟩
      have a3 : H3 Dl = some (.lst vacc) := x3.nil _ _ a2
      have r4 := r2.grow x3
      have w3 : Fwd (Lv f1) H1 (Lv f2) H3 := w2.trans (Fwd.grow x3)
      have fin : ∀ (H6 : Hp) (f6 : Fp) (e6 : Env), Rel S O P (R.plus Dl) σ5 H6 f6 e6 → Stp μ (R.plus Dl) H3 f2 e4 H6 f6 e6 → Rel S O P (R.plus Dl) (wipe σ vs) H6 f6 (wipeE e6 vs) ∧ Fwd (Lv f1) H1 (Lv f6) H6 ∧ (μ ≠ none → (Ext Nil H1 H6 ∧ f6 = f1) ∧ wipeE e6 vs = wipeE e1 vs) := fun H6 f6 e6 I6 s6 => by
        refine ⟨by rw [← sg]; exact I6.wipe hv, w3.trans s6.strong, fun nm => ?_⟩
        cases μ with
        | none => exact absurd rfl nm
        | some U =>
          obtain ⟨y1, rfl, rfl⟩ := s6
          obtain ⟨⟨z0, z1⟩, z2⟩ := p2 nm
          refine ⟨⟨(z0.trans x3).trans y1, z1⟩, ?_⟩
          rw [wipeE_same (f := env2) lo1 (fun j hj => lo2 j fun z => hj (hw j z)), z2, wipeE_same (e := wipeE e1 vs) (f := e1) (wipeE_len _ _) (fun j hj => wipeE_get e1 vs j hj)]
      refine ht (R.plus Dl) σ5 H3 f2 e4 I5 _ ?_
      cases qc : mt e4 with
      | bad => rw [qc] at l2; cases l2
      | exc y e => rw [qc] at l2; cases l2
      | ok b e5 =>
        rw [qc] at l2
        simp only [Out.noX_ok, Out.bind_ok] at l2
        intro H5 f5 I6 s6
        cases b with
        | false =>
          obtain ⟨y1, y2, y3⟩ := fin H5 f5 e5 I6 s6
          exact ⟨k - 1, by omega, by omega, f5, wipeE e5 vs, acc, vacc, y1, s6.strong.1 Dl _ a3 (.inl nl2), RepL.fwd s6.fwd _ _ r4, l2, y2, y3⟩
        | true =>
          show te σ5 H5 _
          refine he (R.plus Dl) σ5 H5 f5 e5 I6 _ ?_
          cases qe : me e5 with
          | bad => rw [qe] at l2; simp only [if_true, Out.noX_bad, Out.bind_bad] at l2; cases l2
          | exc y e => rw [qe] at l2; simp only [if_true, Out.noX_exc, Out.bind_bad] at l2; cases l2
          | ok y e6 =>
            rw [qe] at l2
            simp only [if_true, Out.noX_ok, Out.bind_ok] at l2
            intro H6 f6 I7 s7 v hv7 _
            have s67 := s6.trans s7
            obtain ⟨y1, y2, y3⟩ := fin H6 f6 e6 I7 s67
            split at l2
            · rename_i hz
              have a6 : H6 Dl = some (.lst vacc) := s67.strong.1 Dl _ a3 (.inl nl2)
              have r6 := RepL.fwd s67.fwd _ _ r4
              have nl6 := nlv I7
              obtain ⟨u1, u2⟩ := y1.updG (a := Dl) (vs' := vacc ++ [v]) (.inr rfl) (fun i z => nl6 ⟨i, z⟩) h0D a6
              refine ⟨vacc, a6, by rw [r6.length]; exact lt_line hz, k - 1, by omega, by omega, f6, wipeE e6 vs, acc ++ [y], vacc ++ [v], u1, upd_same, RepL.fwd (u2 (FM (R.plus Dl) f6 μ) ((FM.plus fun i z => nl6 ⟨i, z⟩).mpr (.inr rfl))) _ _ (r6.snoc hv7.rep), l2, ?_, fun nm => ?_⟩
              · exact ⟨fun b o q c => by rw [upd_ne (ne_of_none q hD)]; exact y2.1 b o q c, y2.2.1, fun b q => upd_dom (y2.2.2 b q)⟩
              · obtain ⟨⟨g1, g2⟩, g3⟩ := y3 nm
                exact ⟨⟨fun b o q c => by rw [upd_ne (ne_of_none q hD)]; exact g1 b o q c, g2⟩, g3⟩
            · cases l2
  · refine .inl ⟨j3 i (by omega), ?_⟩
    rw [List.drop_eq_nil_of_le (by omega)] at l2
    cases l2
    have I8 := J2.unplus.res I1 (adv_fs w2) hv
    have I9 : Rel S O P (R.plus Dl) σ H' f2 (resE e3 e1 vs) := J2.res I2 (by
      refine ⟨fun b o q c => ?_, fun x z => ?_, fun b q => ?_⟩
      · by_cases e : b = Dl
        · subst e
          exact (c.elim (fun z => z (fs_plus.mpr (.inr rfl))) fun z => by rw [upd_same] at q; cases q; exact z trivial).elim
        · rw [upd_ne e] at q
          exact w2.1 b o q (c.imp (fun z y => z (fs_plus.mpr (.inl (.inr y)))) id)
      · rcases fs_plus.mp z with (z | z) | z
        · exact .inl (fs_plus.mpr (.inl (.inl z)))
        · rcases w2.2.1 x z with z | z
          · exact .inl (fs_plus.mpr (.inl (.inr z)))
          · by_cases e : x = Dl
            · exact .inl (fs_plus.mpr (.inr e))
            · exact .inr (by rw [upd_ne e]; exact z)
        · exact .inl (fs_plus.mpr (.inr z))
      · by_cases e : b = Dl
        · rw [e, a2]
          exact fun z => nomatch z
        · rw [upd_ne e] at q
          exact w2.2.2 b q) hv
    refine hp H' f2 I8 ?_ _ ⟨Dl, vacc, _, rfl, s1.dom hD, rfl, a2, fun z => ?_, r2.less fun x z => ?_⟩ fun _ a ea => ?_
    · cases μ with
      | none => exact w2
      | some U =>
        obtain ⟨⟨g1, g2⟩, g3⟩ := p2 fun z => nomatch z
        exact ⟨g1, g2, by rw [g3]; exact resE_wipe⟩
    · rcases z.sub with q | ⟨j, q⟩
      · exact I1.gl Dl q hD
      · exact nl2 ⟨j, q⟩
    · exact .inl ((FM.plus fun j q => nl2 ⟨j, q⟩).mpr z)
    · cases ea
      exact I9
end
end Mir
/-! MirF -/
namespace Mir
open PySem PySem.Spec PyProof.Rows L2
/-! ### defs -/
inductive FO where
  | ok (d : D) | exc (x : Exn) | bad
abbrev DM := List D → FO
def FO.out (o : FO) (e : Env) : Out D := match o with
  | .ok d => .ok d e
  | .exc x => .exc x e
  | .bad => .bad
@[simp] theorem FO.out_ok (d : D) (e : Env) : (FO.ok d).out e = .ok d e := rfl
@[simp] theorem FO.out_exc (d : Exn) (e : Env) : (FO.exc d).out e = .exc d e := rfl
@[simp] theorem FO.out_bad (e : Env) : FO.bad.out e = .bad := rfl
/-- of a def whose parameter 0 is an own thing of the caller's: what it is behind the call -/
inductive FO0 where
  | ok (d : D) (o : D) | exc (x : Exn) (o : D) | bad
abbrev DM0 := D → List D → FO0
def runF (fr : Bool) (k n : Nat) (m : SM) : DM := fun ds => if ds.length = k then match m (ds.map some ++ List.replicate (n - ds.length) none) with
  | .ret d _ => .ok d
  | .next _ => if fr then .bad else .ok .non
  | .exc x _ => .exc x
  | _ => .bad
  else .bad
def runF0 (k n : Nat) (m : SM) : DM0 := fun d0 ds => if ds.length + 1 = k then match m ((d0 :: ds).map some ++ List.replicate (n - (ds.length + 1)) none) with
  | .ret d e => match e[0]? with
    | some (some o) => .ok d o
    | _ => .bad
  | .next e => match e[0]? with
    | some (some o) => .ok .non o
    | _ => .bad
  | .exc x e => match e[0]? with
    | some (some o) => .exc x o
    | _ => .bad
  | _ => .bad
  else .bad
theorem runF_ar {fr : Bool} {k n : Nat} {m : SM} {ds : List D} (h : runF fr k n m ds ≠ .bad) : ds.length = k := by
  unfold runF at h
  split at h
  · assumption
  · exact absurd rfl h
theorem runF0_ar {k n : Nat} {m : SM} {d : D} {ds : List D} (h : runF0 k n m d ds ≠ .bad) : ds.length + 1 = k := by
  unfold runF0 at h
  split at h
  · assumption
  · exact absurd rfl h
/-- what is wanted of a def's outcome -/
def WantF (S : Sc) (E : XK) (fr : Bool) (G : Addr → Prop) (H : Hp) (Q : VK) : FO → Prop
  | .ok d => ∀ v H', Ext Nil H H' → RepK S G fr H H' d v → Q v H'
  | .exc x => ∀ cls dd H', Ext Nil H H' → ExcR S H' x cls dd → E cls dd H'
  | .bad => False
def Ls (l : List Addr) : Addr → Prop := fun a => a ∈ l
def WantF0 (S : Sc) (E : XK) (G : Addr → Prop) (H : Hp) (a : Addr) (l : List Addr) (Q : VK) : FO0 → Prop
  | .ok d o => ∀ v H' l', Fwd (Ls l) H (Ls l') H' → Own S (fun x => G x ∨ x ∈ l') H' o a l' → l'.Nodup → (∀ a ∈ l', H' a ≠ none) → Rep S (fun x => G x ∨ x ∈ l') H' d v → Q v H'
  | .exc x o => ∀ cls dd H' l', Fwd (Ls l) H (Ls l') H' → Own S (fun x => G x ∨ x ∈ l') H' o a l' → l'.Nodup → (∀ a ∈ l', H' a ≠ none) → ExcR S H' x cls dd → E cls dd H'
  | .bad => False
/-- the promise of a def that changes nothing that stood -/
def spM (S : Sc) (fr : Bool) (n : Nat) (m : DM) : Sp := fun vs H Q E => ∃ (G : Addr → Prop) (ds : List D), vs.length = n ∧ (∀ a, G a → H a ≠ none) ∧ RepL S G H ds vs ∧ WantF S E fr G H Q (m ds)
def spM0 (S : Sc) (n : Nat) (m : DM0) : Sp := fun vs H Q E => ∃ (G : Addr → Prop) (d0 : D) (ds : List D) (a : Addr) (us : List V) (l : List Addr), vs = .ref a :: us ∧ vs.length = n ∧ (∀ a, G a → H a ≠ none) ∧ (∀ a ∈ l, H a ≠ none) ∧ l.Nodup ∧ Own S (fun x => G x ∨ x ∈ l) H d0 a l ∧ RepL S (fun x => G x ∨ x ∈ l) H ds us ∧ WantF0 S E G H a l Q (m d0 ds)
section
variable {S : Sc}
theorem start_get {N : List Str} {vs : List V} {i : Nat} {v : V} (h : vs[i]? = some v) : (L2.start N vs)[i]? = some (some v) := by
  unfold L2.start
  rw [List.getElem?_append_left (by rw [List.length_map]; exact (List.getElem?_eq_some_iff.mp h).1), List.getElem?_map, h]
  rfl
theorem env_get {ds : List D} {k i : Nat} {d : D} (h : (ds.map some ++ List.replicate k none)[i]? = some (some d)) : ds[i]? = some d := by
  rcases Nat.lt_or_ge i ds.length with c | c
  · rw [List.getElem?_append_left (by rw [List.length_map]; exact c), List.getElem?_map] at h
    cases q : ds[i]? with
    | none => rw [q] at h; cases h
    | some x => rw [q] at h; cases h; rfl
  · rw [List.getElem?_append_right (by rw [List.length_map]; exact c), List.getElem?_replicate] at h
    split at h <;> cases h
/-- a def's body from its entry -/
theorem body_ok {O : List Nat} {E : XK} {fr : Bool} {N : List Str} {t : TS} {m : SM} {k : Nat} (hr : RefS S O [] E fr t m) (hN : k ≤ N.length) (hO : ∀ i ∈ O, k ≤ i) {vs : List V} {H : Hp} {Q : VK} (h : spM S fr k (runF fr k N.length m) vs H Q E) : t { nx := fun _ H' => Q .non H', rt := Q } (L2.start N vs) H := by
  obtain ⟨G, ds, hl, hG, hR, hw⟩ := h
  have hl2 := hR.length
  refine hr ⟨G, Nil, H⟩ (L2.start N vs) H (fun _ => []) (ds.map some ++ List.replicate (N.length - ds.length) none) ?_ _ ?_
  · refine ⟨?_, fun i d h1 h2 => ?_, fun i d h1 h2 => ?_, fun _ _ => rfl, fun i j a h => (by cases h), fun i => List.nodup_nil, fun i a h => (by cases h), Ext.refl _ _, hG, fun i a h => (by cases h), fun _ h => h, fun a h => h.elim⟩
    · unfold L2.start
      rw [List.length_append, List.length_append, List.length_map, List.length_map, List.length_replicate, List.length_replicate]
      omega
    · obtain ⟨v, e1, e2⟩ := hR.get (env_get h1)
      exact ⟨v, start_get e1, e2.less fun a z => z.elim .inl fun ⟨j, q⟩ => by cases q⟩
    · have := env_get h1
      have := (List.getElem?_eq_some_iff.mp this).1
      have := hO i h2
      omega
  · have e0 : ∀ {H' : Hp} {fp' : Fp}, Fwd (Lv fun _ => []) H (Lv fp') H' → Ext Nil H H' := fun w => w.1.mono fun a ⟨i, z⟩ => by cases z
    unfold runF at hw
    rw [if_pos (show ds.length = k by omega)] at hw
    cases q : m (ds.map some ++ List.replicate (N.length - ds.length) none) with
    | next e =>
      rw [q] at hw
      intro σ' H' fp' I' w
      cases fr with
      | false => exact hw _ H' (e0 w) rfl
      | true => exact hw.elim
    | ret d e =>
      rw [q] at hw
      intro σ' v H' fp' I' w r
      exact hw v H' (e0 w) r
    | exc x e =>
      rw [q] at hw
      intro cls dd σ' H' fp' I' w r
      exact hw cls dd H' (e0 w) r
    | brk e => rw [q] at hw; exact hw.elim
    | cont e => rw [q] at hw; exact hw.elim
    | bad => rw [q] at hw; exact hw.elim
theorem own_self {F : Addr → Prop} {H : Hp} {d : D} {a : Addr} {l : List Addr} (h : Own S F H d a l) : ∀ b ∈ l, H b ≠ none := fun b hb => by
  cases d with
  | lst ds =>
    obtain ⟨e, vs, q, _⟩ := h
    rw [e] at hb
    rw [List.mem_singleton.mp hb, q]
    exact fun z => nomatch z
  | ins c ds =>
    obtain ⟨e, dx, fs, q, _⟩ := h
    rw [e] at hb
    rw [List.mem_singleton.mp hb, q]
    exact fun z => nomatch z
  | _ => exact h.elim
def fp0 (l : List Addr) : Fp := fun i => if i = 0 then l else []
theorem fp0_mem {l : List Addr} {i : Nat} {a : Addr} (h : a ∈ fp0 l i) : i = 0 ∧ a ∈ l := by
  unfold fp0 at h
  split at h
  · rename_i z
    exact ⟨z, h⟩
  · cases h
theorem fp0_0 (l : List Addr) : fp0 l 0 = l := rfl
/-- the same where parameter 0 is an own thing of the caller's -/
theorem body_ok0 {O : List Nat} {E : XK} {N : List Str} {t : TS} {m : SM} {k : Nat} (hr : RefS S (0 :: O) [0] E false t m) (hN : k ≤ N.length) (hO : ∀ i ∈ O, k ≤ i) {vs : List V} {H : Hp} {Q : VK} (h : spM0 S k (runF0 k N.length m) vs H Q E) : t { nx := fun _ H' => Q .non H', rt := Q } (L2.start N vs) H := by
  obtain ⟨G, d0, ds, a, us, l, rfl, hl, hG, hL, hnd, hOw, hR, hw⟩ := h
  have hl2 := hR.length
  have hl : us.length + 1 = k := hl
  have e1 : ((d0 :: ds).map some ++ List.replicate (N.length - (ds.length + 1)) none : Env)[0]? = some (some d0) := rfl
  have e2 : (L2.start N (V.ref a :: us))[0]? = some (some (.ref a)) := rfl
  have hb : ∀ {i : Nat} {d : D}, i ∈ O → ((d0 :: ds).map some ++ List.replicate (N.length - (ds.length + 1)) none : Env)[i]? = some (some d) → False := fun {i d} h1 h2 => by
    have q := (List.getElem?_eq_some_iff.mp (env_get h2)).1
    have := hO i h1
    rw [List.length_cons] at q
    omega
  refine hr ⟨fun x => G x ∨ x ∈ l, Ls l, H⟩ (L2.start N (V.ref a :: us)) H (fp0 l) ((d0 :: ds).map some ++ List.replicate (N.length - (ds.length + 1)) none) ?_ _ ?_
  · have hF : ∀ x, Fs ⟨fun x => G x ∨ x ∈ l, Ls l, H⟩ (fp0 l) x → (G x ∨ x ∈ l) ∨ H x = none := fun x z => z.elim .inl fun ⟨i, z⟩ => .inl (.inr (fp0_mem z).2)
    refine ⟨?_, fun i d h1 h2 => ?_, fun i d h1 h2 => ?_, fun i h => ?_, fun i j b h1 h2 => (fp0_mem h1).1.trans (fp0_mem h2).1.symm, fun i => ?_, fun i b h => ?_, Ext.refl _ _, fun b z => z.elim (hG b) (hL b), fun i b h => hL b (fp0_mem h).2, fun _ h => h, fun b h => hL b h⟩
    · unfold L2.start
      rw [List.length_append, List.length_append, List.length_map, List.length_map, List.length_replicate, List.length_replicate, List.length_cons, List.length_cons, hl2]
    · have q := env_get h1
      cases i with
      | zero => exact absurd List.mem_cons_self h2
      | succ i =>
        obtain ⟨v, x1, x2⟩ := hR.get (show ds[i]? = some d from q)
        exact ⟨v, start_get (i := i + 1) x1, x2.less hF⟩
    · rcases List.mem_cons.mp h2 with z | z
      · subst z
        rw [e1] at h1
        cases h1
        exact ⟨a, e2, by rw [fp0_0]; exact hOw.fwd (Ext.refl _ _) hF⟩
      · exact (hb z h1).elim
    · unfold fp0
      split
      · rename_i z
        subst z
        rcases h with h | h
        · exact absurd List.mem_cons_self h
        · exact absurd e1 (h d0)
      · rfl
    · unfold fp0
      split
      · exact hnd
      · exact List.nodup_nil
    · obtain ⟨z, h⟩ := fp0_mem h
      exact ⟨fun _ => h, fun q => absurd (by rw [z]; exact List.mem_cons_self) q⟩
  · have l1 : l = [a] := by
      cases d0 with
      | lst ds => exact hOw.1
      | ins c ds => exact hOw.1
      | _ => exact hOw.elim
    subst l1
    have key : ∀ {σ' : L2.St} {H' : Hp} {fp' : Fp} {e : Env} {o : D}, Rel S (0 :: O) [0] ⟨fun x => G x ∨ x ∈ [a], Ls [a], H⟩ σ' H' fp' e → Fwd (Lv (fp0 [a])) H (Lv fp') H' → e[0]? = some (some o) →
        Fwd (Ls [a]) H (Ls [a]) H' ∧ Own S (fun x => G x ∨ x ∈ [a]) H' o a [a] := fun {σ' H' fp' e o} I' w q => by
      obtain ⟨a', y1, y2⟩ := I'.own 0 o q List.mem_cons_self
      have l2 : fp' 0 = [a'] := by
        cases o with
        | lst ds => exact y2.1
        | ins c ds => exact y2.1
        | _ => exact y2.elim
      have ea : a' = a := List.mem_singleton.mp ((I'.src 0 a' (by rw [l2]; exact List.mem_cons_self)).1 List.mem_cons_self)
      subst ea
      rw [l2] at y2
      exact ⟨⟨w.1.mono fun b ⟨i, z⟩ => (fp0_mem z).2, fun b z => .inl z, w.2.2⟩, y2.fwd (Ext.refl _ _) fun x z => .inl (.inl z)⟩
    unfold runF0 at hw
    rw [if_pos (show ds.length + 1 = k by omega)] at hw
    cases q : m ((d0 :: ds).map some ++ List.replicate (N.length - (ds.length + 1)) none) with
    | next e =>
      rw [q] at hw
      dsimp only at hw
      intro σ' H' fp' I' w
      cases q0 : e[0]? with
      | none => rw [q0] at hw; exact hw.elim
      | some o =>
        cases o with
        | none => rw [q0] at hw; exact hw.elim
        | some o =>
          rw [q0] at hw
          obtain ⟨k1, k2⟩ := key I' w q0
          exact hw _ H' [a] k1 k2 hnd (own_self k2) rfl
    | ret d e =>
      rw [q] at hw
      dsimp only at hw
      intro σ' v H' fp' I' w r
      cases q0 : e[0]? with
      | none => rw [q0] at hw; exact hw.elim
      | some o =>
        cases o with
        | none => rw [q0] at hw; exact hw.elim
        | some o =>
          rw [q0] at hw
          obtain ⟨k1, k2⟩ := key I' w q0
          exact hw v H' [a] k1 k2 hnd (own_self k2) r
    | exc x e =>
      rw [q] at hw
      dsimp only at hw
      intro cls dd σ' H' fp' I' w r
      cases q0 : e[0]? with
      | none => rw [q0] at hw; exact hw.elim
      | some o =>
        cases o with
        | none => rw [q0] at hw; exact hw.elim
        | some o =>
          rw [q0] at hw
          obtain ⟨k1, k2⟩ := key I' w q0
          exact hw cls dd H' [a] k1 k2 hnd (own_self k2) r
    | brk e => rw [q] at hw; exact hw.elim
    | cont e => rw [q] at hw; exact hw.elim
    | bad => rw [q] at hw; exact hw.elim
end
end Mir
/-! MirG -/
namespace Mir
open PySem PySem.Spec PyProof.Rows L2
/-! ### a def keeps its promise -/
section
variable {P : Program} {w : World} {K : PySem.W.Frag} {mg : Str → Option Value} {base : Heap} {S : Sc}
theorem fn_ok {x qual : Str} {st : Stmt} {f : Addr} {fd : FuncData} {N ps : List Str} {k : Nat} {fr : Bool} {O : List Nat} {m : SM} (F : Fun K x qual st f fd) (sc : FnScope N ps (defScope st)) (hN : ps.length ≤ N.length) (hO : ∀ i ∈ O, ps.length ≤ i)
    (hb : ∀ (cdv : Value) (A : Around) (outer : List PySem.Env) (s : Shared) (H : Hp) (E : XK), Room k (A.deeper (envOfC qual (defScope st) s.heap.objs.size f cdv)) →
      ∃ t, PSs (cxOf (L2.CX P w) P w K mg base N qual (defScope st) f cdv A outer s H E) (defBody st) t ∧ RefS S O [] E fr t m) :
    FnOk P w K mg base (L2.CX P w) (k + 1) f fd ps (spM S fr ps.length (runF fr ps.length N.length m)) :=
  F.okX sc (fun vs H Q E h => h.choose_spec.choose_spec.1) (fun cdv A outer s H vs Q E hr h => let ⟨t, h1, h2⟩ := hb cdv A outer s H E hr; ⟨t, h1, body_ok h2 hN hO h⟩)
theorem fn_ok0 {x qual : Str} {st : Stmt} {f : Addr} {fd : FuncData} {N ps : List Str} {k : Nat} {O : List Nat} {m : SM} (F : Fun K x qual st f fd) (sc : FnScope N ps (defScope st)) (hN : ps.length ≤ N.length) (hO : ∀ i ∈ O, ps.length ≤ i)
    (hb : ∀ (cdv : Value) (A : Around) (outer : List PySem.Env) (s : Shared) (H : Hp) (E : XK), Room k (A.deeper (envOfC qual (defScope st) s.heap.objs.size f cdv)) →
      ∃ t, PSs (cxOf (L2.CX P w) P w K mg base N qual (defScope st) f cdv A outer s H E) (defBody st) t ∧ RefS S (0 :: O) [0] E false t m) :
    FnOk P w K mg base (L2.CX P w) (k + 1) f fd ps (spM0 S ps.length (runF0 ps.length N.length m)) :=
  F.okX sc (fun vs H Q E h => by
    obtain ⟨G, d0, ds, a, us, l, _, h, _⟩ := h
    exact h) (fun cdv A outer s H vs Q E hr h => let ⟨t, h1, h2⟩ := hb cdv A outer s H E hr; ⟨t, h1, body_ok0 h2 hN hO h⟩)
end
/-! ### calls -/
def eCall (f : DM) (dds : List D) (a : AM) : EM := fun env => (a env).bind fun ds e => (f (ds ++ dds)).out e
def eMeth (c : Nat) (f : DM) (dds : List D) (o : EM) (a : AM) : EM := fun env => (o env).bind fun x e => match x with
  | .ins c' _ => if c' = c then (a e).bind fun ds e' => (f (x :: (ds ++ dds))).out e' else .bad
  | _ => .bad
def D.fld (c i : Nat) : D → Option D
  | .ins c' ds => if c' = c then ds[i]? else none
  | _ => none
def eFld (c i : Nat) (a : EM) : EM := e1 (D.fld c i) a
def eMake (c : Nat) (f : DM0) (dds : List D) (a : AM) : EM := fun env => (a env).bind fun ds e => match f (.ins c []) (ds ++ dds) with
  | .ok d o => match d, o with
    | .non, .ins c' es => if c' = c then .ok (.ins c es) e else .bad
    | _, _ => .bad
  | .exc x _ => .exc x e
  | .bad => .bad
/-- f(x, ..), x an own thing -/
def eCallO (f : DM0) (j : Nat) (a : AM) : EM := fun env => match env[j]? with
  | some (some _) => (a env).bind fun ds e => match e[j]? with
    | some (some d0) => match f d0 ds with
      | .ok d o => .ok d (e.set j (some o))
      | .exc x o => .exc x (e.set j (some o))
      | .bad => .bad
    | _ => .bad
  | _ => .bad
section
variable {S : Sc} {O P : List Nat} {E : XK} {μ : Mo} {fr fa fb : Bool} {ta tb te : TE} {ma mb : EM} {t u : TT} {m n : TM} {tA : TA} {mA : AM}
theorem want_fo {R : Rx} {σ : L2.St} {H H1 : Hp} {f1 : Fp} {e1 : Env} {o : FO} {Q : VK} (h : Want S O P E μ R σ H1 f1 e1 (o.out e1) (PostE S O P R σ μ fr H Q)) (I : Rel S O P R σ H1 f1 e1) (k : ∀ a, H1 a = none → H a = none) : WantF S E fr (FM R f1 μ) H1 Q o := by
  cases o with
  | ok d => exact fun v H' x r => want_opt (o := some d) h rfl I k x r
  | exc x => exact fun cls dd H' x r => h cls dd H' f1 (I.grow x) (Stp.grow x) r
  | bad => exact h
theorem ref_call {n : Nat} {f : DM} {dds : List D} {dvs : List V} (hd : ∀ F H, RepL S F H dds dvs) (har : ∀ ds, f ds ≠ .bad → ds.length = n) (ha : RefA S O P E μ tA mA) : RefE S O P E μ fr (tCall (spM S fr n f) dvs E tA) (eCall f dds mA) := by
  intro R σ H fp env I Q h
  refine ha R σ H fp env I _ ((Want.bind h).mono fun ds e1 H1 f1 I1 s1 h1 vs hv => ?_)
  refine ⟨FM R f1 μ, ds ++ dds, ?_, fun a q => I1.fm q, hv.append (hd _ _), want_fo h1 I1 fun a q => s1.dom q⟩
  have nb : f (ds ++ dds) ≠ .bad := fun z => by rw [z] at h1; exact h1
  rw [(hv.append (hd _ _)).length, har _ nb]
theorem lookup_none {fs : List (Str × V)} {f : Str} (h : f ∉ fs.map (·.1)) : fs.lookup f = none := by
  induction fs with
  | nil => rfl
  | cons p r ih =>
    obtain ⟨g, v⟩ := p
    rw [List.map_cons] at h
    have h1 : (f == g) = false := beq_eq_false_iff_ne.mpr fun z => h (by rw [z]; exact List.mem_cons_self)
    rw [List.lookup_cons, h1]
    exact ih fun z => h (List.mem_cons_of_mem _ z)
theorem lookup_at : ∀ {fs : List (Str × V)} {f : Str} {i : Nat} {v : V}, (fs.map (·.1)).Nodup → (fs.map (·.1))[i]? = some f → (fs.map (·.2))[i]? = some v → fs.lookup f = some v
  | [], _, _, _, _, h, _ => by simp at h
  | (g, x) :: r, f, 0, v, nd, h1, h2 => by
    cases (show g = f from by simpa using h1)
    cases (show x = v from by simpa using h2)
    rw [List.lookup_cons, beq_self_eq_true]
  | (g, x) :: r, f, i + 1, v, nd, h1, h2 => by
    have nd : ((g :: r.map (·.1)) : List Str).Nodup := nd
    have h1 : (r.map (·.1))[i]? = some f := h1
    have h2 : (r.map (·.2))[i]? = some v := h2
    have ne : (f == g) = false := beq_eq_false_iff_ne.mpr fun z => (List.nodup_cons.mp nd).1 (by rw [← z]; exact List.mem_of_getElem? h1)
    rw [List.lookup_cons, ne]
    exact lookup_at (List.nodup_cons.mp nd).2 h1 h2
theorem ref_fld {c i : Nat} {f : Str} (hC : Cls S.K (S.ca c)) (hN : NoAttr S.K (S.ca c) f) (hf : (S.fn c)[i]? = some f) (nd : (S.fn c).Nodup) (ha : RefE S O P E μ fa ta ma) : RefE S O P E μ false (tFld S.K ta f) (eFld c i ma) := by
  refine ref_op1 (r := fun x H1 Q => ∃ a C dx fs v, x = .ref a ∧ H1 a = some (.ins C dx fs) ∧ Cls S.K C ∧ NoAttr S.K C f ∧ fs.lookup f = some v ∧ Q v H1) (f := D.fld c i) (fun F H x v z Q hF hx hz k => ?_) ha
  cases x with
  | ins c' ds =>
    unfold D.fld at hz
    dsimp only at hz
    split at hz
    · rename_i ec
      subst ec
      obtain ⟨a, dx, fs, rfl, nf, h1, h2, h3⟩ := hx
      obtain ⟨u, q1, q2⟩ := h3.get hz
      refine ⟨a, _, dx, fs, u, rfl, h1, hC, hN, lookup_at ?_ ?_ q1, k u H (Ext.refl _ _) q2⟩
      · rw [h2]
        exact nd.sublist (List.take_sublist _ _)
      · rw [h2, List.getElem?_take_of_lt (List.getElem?_eq_some_iff.mp hz).1]
        exact hf
    · cases hz
  | _ => cases hz
theorem ref_meth {c n : Nat} {mth : Str} {f : DM} {dds : List D} {dvs : List V} (hd : ∀ F H, RepL S F H dds dvs) (har : ∀ ds, f ds ≠ .bad → ds.length = n) (hm : mth ∉ S.fn c) (ho : RefE S O P E μ fa ta ma) (ha : RefA S O P E μ tA mA) :
    RefE S O P E μ fr (tMeth (S.ca c) mth (spM S fr n f) dvs E ta tA) (eMeth c f dds ma mA) := by
  intro R σ H fp env I Q h
  refine ho R σ H fp env I _ ((Want.bind h).mono fun x e1 H1 f1 I1 s1 h1 v hv _ => ?_)
  have hw := hv.rep
  cases x with
  | ins c' es =>
    dsimp only at h1
    split at h1
    · rename_i ec
      subst ec
      obtain ⟨a, dx, fs, rfl, nf, q1, q2, q3⟩ := hw
      refine ⟨a, dx, fs, rfl, q1, lookup_none (by rw [q2]; exact fun z => hm (List.mem_of_mem_take z)), ?_⟩
      refine ha R σ H1 f1 e1 I1 _ ((Want.bind h1).mono fun ds e2 H2 f2 I2 s2 h2 vs hvs => ?_)
      have hx : Rep S (FM R f2 μ) H2 (.ins c' es) (.ref a) := Rep.fwd s2.fwd _ _ ⟨a, dx, fs, rfl, nf, q1, q2, q3⟩
      have hall : RepL S (FM R f2 μ) H2 (.ins c' es :: (ds ++ dds)) (.ref a :: (vs ++ dvs)) := .cons hx (hvs.append (hd _ _))
      refine ⟨FM R f2 μ, _, ?_, fun a q => I2.fm q, hall, want_fo h2 I2 fun a q => (s1.trans s2).dom q⟩
      have nb : f (.ins c' es :: (ds ++ dds)) ≠ .bad := fun z => by rw [z] at h2; exact h2
      rw [hall.length, har _ nb]
    · exact h1.elim
  | _ => exact h1.elim
/-- a property -/
def eProp (c : Nat) (f : DM) (o : EM) : EM := fun env => (o env).bind fun x e => match x with
  | .ins c' _ => if c' = c then (match f [x] with
    | .ok d => .ok d e
    | _ => .bad) else .bad
  | _ => .bad
theorem ref_prop {E' : XK} {c n : Nat} {f : DM} (har : ∀ ds, f ds ≠ .bad → ds.length = n) (ho : RefE S O P E μ fa ta ma) : RefE S O P E μ fr (tProp (S.ca c) (spM S fr n f) [] E' ta) (eProp c f ma) := by
  intro R σ H fp env I Q h
  refine ho R σ H fp env I _ ((Want.bind h).mono fun x e1 H1 f1 I1 s1 h1 v hv _ => ?_)
  have hw := hv.rep
  cases x with
  | ins c' es =>
    dsimp only at h1
    split at h1
    · rename_i ec
      subst ec
      have hw' := hw
      obtain ⟨a, dx, fs, rfl, nf, q1, q2, q3⟩ := hw
      refine ⟨a, dx, fs, rfl, q1, FM R f1 μ, [.ins c' es], ?_, fun a q => I1.fm q, .cons hw' .nil, ?_⟩
      · have nb : f [.ins c' es] ≠ .bad := fun z => by rw [z] at h1; exact h1
        have := har _ nb
        exact this
      · cases q : f [.ins c' es] with
        | ok d => rw [q] at h1; exact fun v H' x r => want_opt (o := some d) h1 rfl I1 (fun a q => s1.dom q) x r
        | exc x => rw [q] at h1; exact h1.elim
        | bad => rw [q] at h1; exact h1.elim
    · exact h1.elim
  | _ => exact h1.elim
theorem ref_make {c n : Nat} {f : DM0} {dds : List D} {dvs : List V} (hd : ∀ F H, RepL S F H dds dvs) (har : ∀ d ds, f d ds ≠ .bad → ds.length + 1 = n) (ha : RefA S O P E μ tA mA) : RefE S O P E μ false (tMake (S.ca c) (spM0 S n f) dvs E tA) (eMake c f dds mA) := by
  intro R σ H fp env I Q h
  refine ha R σ H fp env I _ ((Want.bind h).mono fun ds e1 H1 f1 I1 s1 h1 vs hv => ?_)
  intro x dx hx hdx ne
  have g1 : Ext Nil H1 (upd H1 dx (.own x)) := Ext.new hdx
  have g2 : Ext Nil (upd H1 dx (.own x)) (upd (upd H1 dx (.own x)) x (.ins (S.ca c) dx [])) := Ext.new (by rw [upd_ne (Ne.symm ne)]; exact hx)
  have g := g1.trans g2
  have hn : vs.length + dvs.length + 1 = n := by
    have nb : f (.ins c []) (ds ++ dds) ≠ .bad := fun z => by rw [z] at h1; exact h1
    have q := har _ _ nb
    rw [List.length_append] at q
    rw [hv.length, (hd (fun _ => False) H1).length]
    exact q
  refine ⟨FM R f1 μ, .ins c [], ds ++ dds, x, vs ++ dvs, [x], rfl, by rw [List.length_cons, List.length_append]; omega, fun a q => g.dom (I1.fm q), fun a q => ?_, by simp, ⟨rfl, dx, [], upd_same, rfl, rfl⟩, ?_, ?_⟩
  · rw [List.mem_singleton.mp q, upd_same]
    exact fun z => nomatch z
  · exact (((hv.append (hd _ _)).less (F' := fun y => FM R f1 μ y ∨ y ∈ [x]) fun a z => z.imp id fun q => by rw [List.mem_singleton.mp q]; exact hx)).grow g
  · have ex : ∀ {H' : Hp} {l' : List Addr}, Fwd (Ls [x]) (upd (upd H1 dx (.own x)) x (.ins (S.ca c) dx [])) (Ls l') H' → Ext Nil H1 H' := fun w b o q _ =>
      w.1 b o (g.nil b o q) (.inl fun z => absurd hx (by rw [← List.mem_singleton.mp z, q]; exact fun z => nomatch z))
    cases q : f (.ins c []) (ds ++ dds) with
    | bad => rw [q] at h1; exact h1
    | exc y o => rw [q] at h1; exact fun cls dd H' l' w _ _ _ r => h1 cls dd H' f1 (I1.grow (ex w)) (Stp.grow (ex w)) r
    | ok d o =>
      rw [q] at h1
      dsimp only at h1
      intro v H' l' w hO hnd hal hr
      split at h1
      · rename_i c' es
        split at h1
        · rename_i ec
          subst ec
          obtain ⟨el, dx', fs, q1, q2, q3⟩ := hO
          have hl : (Out.ok (D.ins c' es) e1 : Out D) = Out.opt (some (D.ins c' es)) e1 := rfl
          rw [hl] at h1
          refine ⟨hr, want_opt (o := some (.ins c' es)) h1 rfl I1 (fun a q => s1.dom q) (ex w) ⟨x, dx', fs, rfl, fun z => I1.fm z hx, q1, q2, q3.less fun a z => .inl (.inl z)⟩⟩
        · exact h1.elim
      · exact h1.elim
theorem fpSet_mem {fp : Fp} {i j : Nat} {l : List Addr} {x : Addr} (z : x ∈ fpSet fp j l i) : (i = j ∧ x ∈ l) ∨ (i ≠ j ∧ x ∈ fp i) := by
  unfold fpSet at z
  split at z
  · rename_i e
    exact .inl ⟨e, z⟩
  · rename_i e
    exact .inr ⟨e, z⟩
/-- own things at two slots stand apart; after a call with one of them handed over -/
theorem Rel.called {R : Rx} {σ : L2.St} {H H' : Hp} {fp : Fp} {env : Env} {j : Nat} {a : Addr} {d0 o : D} {l' : List Addr} (I : Rel S O P R σ H fp env) (hO : j ∈ O) (hj : env[j]? = some (some d0)) (hs : σ[j]? = some (some (.ref a)))
    (w : Fwd (Ls (fp j)) H (Ls l') H') (ho : Own S (fun x => (Fs R fp x ∧ x ∉ fp j) ∨ x ∈ l') H' o a l') (nd : l'.Nodup) (hl' : ∀ x ∈ l', x = a) (ha : a ∈ fp j) :
    Rel S O P R σ H' (fpSet fp j l') (env.set j (some o)) ∧ Fwd (Lv fp) H (Lv (fpSet fp j l')) H' := by
  have hjl : j < env.length := (List.getElem?_eq_some_iff.mp hj).1
  have sub : ∀ x, Lv (fpSet fp j l') x → Lv fp x := fun x ⟨i, z⟩ => by
    unfold fpSet at z
    split at z
    · exact ⟨j, by rw [hl' x z]; exact ha⟩
    · exact ⟨i, z⟩
  have w0 : Fwd (Lv fp) H (Lv (fpSet fp j l')) H' := ⟨w.1.mono fun x z => ⟨j, z⟩, fun x z => .inl (sub x z), w.2.2⟩
  have wf := adv_fs (R := R) w0
  have oth : ∀ i, i ≠ j → ∀ x, x ∈ fp i → x ∉ fp j := fun i ne x z1 z2 => ne (I.dist i j x z1 z2)
  refine ⟨⟨by rw [List.length_set, I.len], fun i d q1 q2 => ?_, fun i d q1 q2 => ?_, fun i q => ?_, fun i k b h1 h2 => ?_, fun i => ?_, fun i b h => ?_, fun b u q c => ?_, fun b q => w.2.2 b (I.gl b q), fun i b h => ?_, fun b q => w.2.2 b (I.dom b q), I.mh⟩, w0⟩
  · have ne : j ≠ i := fun z => q2 (z ▸ hO)
    rw [List.getElem?_set_ne ne] at q1
    obtain ⟨v, x1, x2⟩ := I.val i d q1 q2
    exact ⟨v, x1, Rep.fwd wf _ _ x2⟩
  · by_cases ne : j = i
    · subst ne
      rw [List.getElem?_set_self hjl] at q1
      cases q1
      refine ⟨a, hs, ?_⟩
      unfold fpSet
      rw [if_pos rfl]
      refine ho.fwd (Ext.refl _ _) fun x z => .inl ?_
      rcases z with z | ⟨i, z⟩
      · by_cases c : x ∈ fp j
        · have hne : Own S (fun x => (Fs R fp x ∧ x ∉ fp j) ∨ x ∈ l') H' o a l' := ho
          have el : x = a := by
            have h1 := I.own j d0 hj hO
            obtain ⟨a', y1, y2⟩ := h1
            rw [hs] at y1
            cases y1
            cases d0 with
            | lst ds => rw [y2.1] at c; exact List.mem_singleton.mp c
            | ins k ds => rw [y2.1] at c; exact List.mem_singleton.mp c
            | _ => exact y2.elim
          have al : a ∈ l' := by
            cases o with
            | lst ds => rw [ho.1]; exact List.mem_cons_self
            | ins k ds => rw [ho.1]; exact List.mem_cons_self
            | _ => exact ho.elim
          exact .inr (by rw [el]; exact al)
        · exact .inl ⟨.inl z, c⟩
      · rcases fpSet_mem (show x ∈ fpSet fp j l' i from z) with ⟨_, z⟩ | ⟨ne, z⟩
        · exact .inr z
        · exact .inl ⟨.inr ⟨i, z⟩, oth i ne x z⟩
    · rw [List.getElem?_set_ne ne] at q1
      obtain ⟨b, x1, x2⟩ := I.own i d q1 q2
      refine ⟨b, x1, ?_⟩
      unfold fpSet
      rw [if_neg (Ne.symm ne)]
      have kp : ∀ c u, c ∈ fp i → H c = some u → H' c = some u := fun c u hc q => w.1 c u q (.inl fun z => oth i (Ne.symm ne) c hc z)
      cases d with
      | lst es =>
        obtain ⟨y1, us, y2, y3⟩ := x2
        exact ⟨y1, us, kp b _ (by rw [y1]; exact List.mem_cons_self) y2, RepL.fwd wf _ _ y3⟩
      | ins k es =>
        obtain ⟨y1, dx, us, y2, y3, y4⟩ := x2
        exact ⟨y1, dx, us, kp b _ (by rw [y1]; exact List.mem_cons_self) y2, y3, RepL.fwd wf _ _ y4⟩
      | _ => exact x2.elim
  · unfold fpSet
    by_cases ne : i = j
    · subst ne
      rcases q with q | q
      · exact absurd hO q
      · exact absurd (List.getElem?_set_self hjl) (q _)
    · rw [if_neg ne]
      exact I.non i (q.imp id fun q d z => q d (by rw [List.getElem?_set_ne (Ne.symm ne)]; exact z))
  · have h1' : b ∈ fp i := by
      unfold fpSet at h1
      split at h1
      · rename_i z
        rw [hl' b h1, z]
        exact ha
      · exact h1
    have h2' : b ∈ fp k := by
      unfold fpSet at h2
      split at h2
      · rename_i z
        rw [hl' b h2, z]
        exact ha
      · exact h2
    exact I.dist i k b h1' h2'
  · unfold fpSet
    split
    · exact nd
    · exact I.nd i
  · unfold fpSet at h
    split at h
    · rename_i z
      rw [hl' b h, z]
      exact I.src j a ha
    · exact I.src i b h
  · have ob := I.ext b u q c
    by_cases e : b ∈ fp j
    · by_cases hp : j ∈ P
      · have hm := (I.src j b e).1 hp
        rcases c with c | c
        · exact absurd hm c
        · exact w.1 b u ob (.inr c)
      · rw [((I.src j b e).2 hp).1] at q
        cases q
    · exact w.1 b u ob (.inl e)
  · unfold fpSet at h
    split at h
    · rw [hl' b h]
      exact w.2.2 a (I.live j a ha)
    · exact w.2.2 b (I.live i b h)
/-- f(x, e, ..), x an own thing that f may change -/
theorem ref_callO {n j : Nat} {f : DM0} (hO : j ∈ O) (har : ∀ d ds, f d ds ≠ .bad → ds.length + 1 = n) (ha : RefA S O P E none tA mA) : RefE S O P E none false (tCall (spM0 S n f) [] E (tCons (tVar j) tA)) (eCallO f j mA) := by
  intro R σ H fp env I Q h
  unfold eCallO at h
  split at h
  · rename_i dj ej
    obtain ⟨a, q1, q2⟩ := I.own j dj ej hO
    refine ⟨.ref a, q1, ?_⟩
    refine ha R σ H fp env I _ ((Want.bind h).mono fun ds e1 H1 f1 I1 s1 h1 vs hv => ?_)
    cases e0 : e1[j]? with
    | none => rw [e0] at h1; exact h1.elim
    | some o0 =>
      cases o0 with
      | none => rw [e0] at h1; exact h1.elim
      | some d0 =>
        rw [e0] at h1
        dsimp only at h1
        obtain ⟨b, x1, x2⟩ := I1.own j d0 e0 hO
        rw [q1] at x1
        cases x1
        have fj : f1 j = [a] := by
          cases d0 with
          | lst ds => exact x2.1
          | ins c ds => exact x2.1
          | _ => exact x2.elim
        have nb : f d0 ds ≠ .bad := fun z => by rw [z] at h1; exact h1
        have eqF : ∀ x, ((fun x => Fs R f1 x ∧ x ∉ f1 j) x ∨ x ∈ f1 j) → Fs R f1 x ∨ H1 x = none := fun x z => z.elim (fun z => .inl z.1) fun z => .inl (.inr ⟨j, z⟩)
        refine ⟨fun x => Fs R f1 x ∧ x ∉ f1 j, d0, ds, a, vs, f1 j, by rw [List.append_nil], ?_, fun x z => I1.fs z.1, fun x z => I1.live j x z, I1.nd j, x2.fwd (Ext.refl _ _) eqF, hv.less eqF, ?_⟩
        · rw [List.append_nil, List.length_cons, hv.length]
          exact har _ _ nb
        · have one : ∀ {o : D} {H' : Hp} {l' : List Addr} {F : Addr → Prop}, Own S F H' o a l' → ∀ x ∈ l', x = a := fun {o H' l' F} hh x hx => by
            cases o with
            | lst ds => rw [hh.1] at hx; exact List.mem_singleton.mp hx
            | ins c ds => rw [hh.1] at hx; exact List.mem_singleton.mp hx
            | _ => exact hh.elim
          have aj : a ∈ f1 j := by rw [fj]; exact List.mem_cons_self
          cases q : f d0 ds with
          | bad => exact absurd q nb
          | exc y o =>
            rw [q] at h1
            intro cls dd H' l' w hO' hnd hal r
            obtain ⟨I2, w2⟩ := I1.called hO e0 q1 w hO' hnd (one hO') aj
            exact h1 cls dd H' _ I2 w2 r
          | ok d o =>
            rw [q] at h1
            intro v H' l' w hO' hnd hal hr
            obtain ⟨I2, w2⟩ := I1.called hO e0 q1 w hO' hnd (one hO') aj
            refine h1 H' _ I2 w2 v (hr.less fun x z => .inl ?_) sep0
            have z : Fs R (fpSet f1 j l') x := z
            rcases z with z | ⟨i, z⟩
            · by_cases c : x ∈ f1 j
              · rw [fj] at c
                refine .inr ?_
                have al : a ∈ l' := by
                  cases o with
                  | lst ds => rw [hO'.1]; exact List.mem_cons_self
                  | ins k ds => rw [hO'.1]; exact List.mem_cons_self
                  | _ => exact hO'.elim
                rw [List.mem_singleton.mp c]
                exact al
              · exact .inl ⟨.inl z, c⟩
            · rcases fpSet_mem z with ⟨_, z⟩ | ⟨ne, z⟩
              · exact .inr z
              · exact .inl ⟨.inr ⟨i, z⟩, fun z2 => ne (I1.dist i j x z z2)⟩
  · exact h.elim
end
end Mir
/-! MirH -/
namespace Mir
open PySem PySem.Spec PyProof.Rows L2
/-! ### operators, told by data -/
/-- either rule -/
theorem opr_or {X : Cx} {f : Value → Value → Sem Value} {r1 r2 : R2} (h1 : OpR X f r1) (h2 : OpR X f r2) : OpR X f (fun x y H Q => r1 x y H Q ∨ r2 x y H Q) := by
  intro pins s σ H x y v u Q I rx ry h
  rcases h with h | h
  · exact h1 pins s σ H x y v u Q I rx ry h
  · exact h2 pins s σ H x y v u Q I rx ry h
section
variable {S : Sc}
theorem Op2.or {r1 r2 : R2} {f g h : D → D → Option D} (h1 : Op2 S false r1 f) (h2 : Op2 S false r2 g) (hh : ∀ x y z, h x y = some z → f x y = some z ∨ g x y = some z) : Op2 S false (fun x y H Q => r1 x y H Q ∨ r2 x y H Q) h := fun F H x y v u z Q hF hx hy hz k => by
  rcases hh x y z hz with e | e
  · exact .inl (h1 F H x y v u z Q hF hx hy e k)
  · exact .inr (h2 F H x y v u z Q hF hx hy e k)
/-! ints -/
def oI (f : Int → Int → Option D) : D → D → Option D
  | .int i, .int j => f i j
  | _, _ => none
theorem op_I0 {g : Int → Int → V} {f : Int → Int → Option D} (h : ∀ i j z, f i j = some z → ∀ F H, Rep S F H z (g i j)) : Op2 S false (rI0 g) (oI f) := fun F H x y v u z Q hF hx hy hz k => by
  cases x with
  | int i =>
    cases y with
    | int j =>
      cases (show v = _ from hx)
      cases (show u = _ from hy)
      exact ⟨i, j, rfl, rfl, k _ H (Ext.refl _ _) (h i j z hz F H)⟩
    | _ => cases hz
  | _ => cases hz
theorem op_I {C : Int → Int → Prop} {g : Int → Int → V} {f : Int → Int → Option D} (h : ∀ i j z, f i j = some z → C i j ∧ ∀ F H, Rep S F H z (g i j)) : Op2 S false (rI C g) (oI f) := fun F H x y v u z Q hF hx hy hz k => by
  cases x with
  | int i =>
    cases y with
    | int j =>
      cases (show v = _ from hx)
      cases (show u = _ from hy)
      exact ⟨i, j, rfl, rfl, (h i j z hz).1, k _ H (Ext.refl _ _) ((h i j z hz).2 F H)⟩
    | _ => cases hz
  | _ => cases hz
def oSub := oI fun i j => some (.int (i - j))
def oMul := oI fun i j => if (-(2 ^ 64) < i ∧ i < 2 ^ 64) ∨ (-(2 ^ 64) < j ∧ j < 2 ^ 64) then some (.int (i * j)) else none
def oFdiv := oI fun i j => if j ≠ 0 ∧ j.natAbs < 1073741824 then some (.int (i.fdiv j)) else none
def oMod := oI fun i j => if j ≠ 0 then some (.int (i.fmod j)) else none
def oPow := oI fun i j => if 0 ≤ j ∧ j ≤ 1000000 ∧ i.natAbs < 2 ^ 64 then some (.int (i ^ j.toNat)) else none
def oNeg : D → Option D
  | .int i => some (.int (-i))
  | _ => none
def rSubX : R2 := rI0 fun i j => .int (i - j)
def rMulX : R2 := rI CMul fun i j => .int (i * j)
def rFdivX : R2 := rI CDivN fun i j => .int (i.fdiv j)
def rModX : R2 := rI (fun _ j => j ≠ 0) fun i j => .int (i.fmod j)
def rPowX : R2 := rI CPow fun i j => .int (i ^ j.toNat)
def rNegX : V → Hp → VK → Prop := rU fun i => .int (-i)
theorem o2_sub : Op2 S false rSubX oSub := op_I0 fun i j z h F H => by cases h; rfl
theorem o2_mul : Op2 S false rMulX oMul := op_I fun i j z h => by
  split at h
  · cases h
    exact ⟨by assumption, fun _ _ => rfl⟩
  · cases h
theorem o2_fdiv : Op2 S false rFdivX oFdiv := op_I fun i j z h => by
  split at h
  · cases h
    exact ⟨by assumption, fun _ _ => rfl⟩
  · cases h
theorem o2_mod : Op2 S false rModX oMod := op_I fun i j z h => by
  split at h
  · cases h
    exact ⟨by assumption, fun _ _ => rfl⟩
  · cases h
theorem o2_pow : Op2 S false rPowX oPow := op_I fun i j z h => by
  split at h
  · cases h
    exact ⟨by assumption, fun _ _ => rfl⟩
  · cases h
theorem o1_neg : Op1 S false rNegX oNeg := fun F H x v z Q hF hx hz k => by
  cases x with
  | int i =>
    cases (show v = _ from hx)
    cases hz
    exact ⟨i, rfl, k _ H (Ext.refl _ _) rfl⟩
  | _ => cases hz
/-! + -/
def oAdd : D → D → Option D
  | .int i, .int j => some (.int (i + j))
  | .str a, .str b => if a.length + b.length ≤ 100000 then some (.str (a ++ b)) else none
  | .lst xs, .lst ys => if xs.length + ys.length ≤ 100000 then some (.lst (xs ++ ys)) else none
  | .tup xs, .tup ys => if xs.length + ys.length ≤ 100000 then some (.tup (xs ++ ys)) else none
  | _, _ => none
def rAddS : R2 := fun x y H Q => ∃ i j, x = .str i ∧ y = .str j ∧ i.length + j.length ≤ sizeLine ∧ Q (.str (i ++ j)) H
def rAddX (K : PySem.W.Frag) : R2 := fun x y H Q => (rI0 fun i j => .int (i + j)) x y H Q ∨ (rAddS x y H Q ∨ (rCat x y H Q ∨ rCatA K x y H Q))
theorem op_addX {X : Cx} : OpR X (binaryOp .Add) (rAddX X.K) := opr_or op_add (opr_or op_add_str (opr_or op_cat op_catA))
theorem RepL.nil_iff {F : Addr → Prop} {H : Hp} {vs : List V} (h : RepL S F H [] vs) : vs = [] := h
theorem o2_add : Op2 S false (rAddX S.K) oAdd := fun F H x y v u z Q hF hx hy hz k => by
  unfold oAdd at hz
  split at hz
  · cases hz
    cases (show v = _ from hx)
    cases (show u = _ from hy)
    exact .inl ⟨_, _, rfl, rfl, k _ H (Ext.refl _ _) rfl⟩
  · split at hz
    · cases hz
      cases (show v = _ from hx)
      cases (show u = _ from hy)
      exact .inr (.inl ⟨_, _, rfl, rfl, sz_of (by assumption), k _ H (Ext.refl _ _) rfl⟩)
    · cases hz
  · split at hz
    · rename_i hl
      cases hz
      obtain ⟨a, vs, rfl, n1, h1, h2⟩ := hx
      obtain ⟨b, us, rfl, n2, h3, h4⟩ := hy
      refine .inr (.inr (.inl ⟨a, b, vs, us, rfl, rfl, h1, h3, by rw [h2.length, h4.length]; exact sz_of hl, fun p hp => k _ _ (Ext.new hp) ?_⟩))
      exact ⟨p, _, rfl, fun z => hF p z hp, upd_same, (h2.append h4).grow (Ext.new hp)⟩
    · cases hz
  · split at hz
    · rename_i xs ys hl
      cases hz
      obtain ⟨a, vs, rfl, h1, h2⟩ := hx
      obtain ⟨b, us, rfl, h3, h4⟩ := hy
      refine .inr (.inr (.inr ⟨a, b, vs, us, rfl, rfl, h1, h3, by rw [h2.length, h4.length]; exact sz_of hl, fun e => ?_, fun _ e => ?_, fun _ _ p hp => k _ _ (Ext.new hp) ?_⟩))
      · subst e
        have : xs = [] := List.eq_nil_of_length_eq_zero h2.length.symm
        subst this
        exact k _ H (Ext.refl _ _) ⟨b, us, rfl, h3, h4⟩
      · subst e
        have : ys = [] := List.eq_nil_of_length_eq_zero h4.length.symm
        subst this
        exact k _ H (Ext.refl _ _) ⟨a, vs, rfl, h1, by rw [List.append_nil]; exact h2⟩
      · exact ⟨p, _, rfl, .inl (.inl upd_same), (h2.append h4).grow (Ext.new hp)⟩
    · cases hz
  · cases hz
/-- a new list: [..] + [..] -/
def oCat : D → D → Option D
  | .lst xs, .lst ys => if xs.length + ys.length ≤ 100000 then some (.lst (xs ++ ys)) else none
  | _, _ => none
theorem o2_cat : Op2 S true rCat oCat := fun F H x y v u z Q hF hx hy hz k => by
  unfold oCat at hz
  split at hz
  · split at hz
    · rename_i hl
      cases hz
      obtain ⟨a, vs, rfl, n1, h1, h2⟩ := hx
      obtain ⟨b, us, rfl, n2, h3, h4⟩ := hy
      refine ⟨a, b, vs, us, rfl, rfl, h1, h3, by rw [h2.length, h4.length]; exact sz_of hl, fun p hp => k _ _ (Ext.new hp) ?_⟩
      refine ⟨p, _, _, rfl, hp, rfl, upd_same, fun z => hF p z hp, ?_⟩
      exact ((h2.append h4).less fun x z => z.imp id fun e => by rw [e]; exact hp).grow (Ext.new hp)
    · cases hz
  · cases hz
/-! * of a list or a tuple of.. (lists by an int): only where the laws use it -/
/-! comparisons of ints -/
def oLtI := oI fun i j => some (.bl (decide (i < j)))
def oLeI := oI fun i j => some (.bl (decide (i ≤ j)))
def oGtI := oI fun i j => some (.bl (decide (j < i)))
def oGeI := oI fun i j => some (.bl (decide (j ≤ i)))
def rLtI : R2 := rI0 fun i j => .bl (decide (i < j))
def rLeI : R2 := rI0 fun i j => .bl (decide (i ≤ j))
def rGtI : R2 := rI0 fun i j => .bl (decide (j < i))
def rGeI : R2 := rI0 fun i j => .bl (decide (j ≤ i))
theorem o2_ltI : Op2 S false rLtI oLtI := op_I0 fun i j z h F H => by cases h; rfl
theorem o2_leI : Op2 S false rLeI oLeI := op_I0 fun i j z h F H => by cases h; rfl
theorem o2_gtI : Op2 S false rGtI oGtI := op_I0 fun i j z h F H => by cases h; rfl
theorem o2_geI : Op2 S false rGeI oGeI := op_I0 fun i j z h F H => by cases h; rfl
def intsOf : List D → Option (List Int)
  | [] => some []
  | .int i :: r => (intsOf r).map (i :: ·)
  | _ :: _ => none
theorem intsOf_some : ∀ {ds : List D} {ns : List Int}, intsOf ds = some ns → ds = ns.map D.int
  | [], ns, h => by cases h; rfl
  | d :: ds, ns, h => by
    cases d with
    | int i =>
      have h : (intsOf ds).map (i :: ·) = some ns := h
      cases q : intsOf ds with
      | none => rw [q] at h; cases h
      | some ms =>
        rw [q] at h
        cases h
        rw [intsOf_some q]
        rfl
    | _ => cases h
@[simp] theorem intsOf_map (ns : List Int) : intsOf (ns.map D.int) = some ns := by
  induction ns with
  | nil => rfl
  | cons n ns ih =>
    show (intsOf (ns.map D.int)).map (n :: ·) = _
    rw [ih]; rfl
def strsOf : List D → Option (List Str)
  | [] => some []
  | .str i :: r => (strsOf r).map (i :: ·)
  | _ :: _ => none
theorem strsOf_some : ∀ {ds : List D} {ns : List Str}, strsOf ds = some ns → ds = ns.map D.str
  | [], ns, h => by cases h; rfl
  | d :: ds, ns, h => by
    cases d with
    | str i =>
      have h : (strsOf ds).map (i :: ·) = some ns := h
      cases q : strsOf ds with
      | none => rw [q] at h; cases h
      | some ms =>
        rw [q] at h
        cases h
        rw [strsOf_some q]
        rfl
    | _ => cases h
@[simp] theorem strsOf_map (ns : List Str) : strsOf (ns.map D.str) = some ns := by
  induction ns with
  | nil => rfl
  | cons n ns ih =>
    show (strsOf (ns.map D.str)).map (n :: ·) = _
    rw [ih]; rfl
def blsOf : List D → Option (List Bool)
  | [] => some []
  | .bl i :: r => (blsOf r).map (i :: ·)
  | _ :: _ => none
theorem blsOf_some : ∀ {ds : List D} {ns : List Bool}, blsOf ds = some ns → ds = ns.map D.bl
  | [], ns, h => by cases h; rfl
  | d :: ds, ns, h => by
    cases d with
    | bl i =>
      have h : (blsOf ds).map (i :: ·) = some ns := h
      cases q : blsOf ds with
      | none => rw [q] at h; cases h
      | some ms =>
        rw [q] at h
        cases h
        rw [blsOf_some q]
        rfl
    | _ => cases h
@[simp] theorem blsOf_map (ns : List Bool) : blsOf (ns.map D.bl) = some ns := by
  induction ns with
  | nil => rfl
  | cons n ns ih =>
    show (blsOf (ns.map D.bl)).map (n :: ·) = _
    rw [ih]; rfl
/-- ≤ of tuples of ints -/
def leInts (ns ms : List Int) : Bool := Ob.lexAt (fun j => decide (ns.getD j 0 = ms.getD j 0)) (fun j => decide (ns.getD j 0 ≤ ms.getD j 0)) (decide (ns.length ≤ ms.length)) 0 (min ns.length ms.length)
def oLe : D → D → Option D
  | .int i, .int j => some (.bl (decide (i ≤ j)))
  | .tup xs, .tup ys => (intsOf xs).bind fun ns => (intsOf ys).bind fun ms => some (.bl (leInts ns ms))
  | _, _ => none
def rLeX (K : PySem.W.Frag) : R2 := fun x y H Q => rLeI x y H Q ∨ rLeT K x y H Q
theorem op_leX {X : Cx} (hu : X.A.units < cLine) : OpR X (compareOp .LtE) (rLeX X.K) := opr_or op_le (op_leT hu)
theorem o2_le : Op2 S false (rLeX S.K) oLe := fun F H x y v u z Q hF hx hy hz k => by
  unfold oLe at hz
  split at hz
  · cases hz
    cases (show v = _ from hx)
    cases (show u = _ from hy)
    exact .inl ⟨_, _, rfl, rfl, k _ H (Ext.refl _ _) rfl⟩
  · rename_i xs ys
    obtain ⟨ns, e1, e2⟩ := Option.bind_eq_some_iff.mp hz
    obtain ⟨ms, e3, e4⟩ := Option.bind_eq_some_iff.mp e2
    cases e4
    obtain ⟨a, vs, rfl, h1, h2⟩ := hx
    obtain ⟨b, us, rfl, h3, h4⟩ := hy
    have f1 := intsOf_some e1
    have f2 := intsOf_some e3
    subst f1 f2
    rw [h2.ints] at h1
    rw [h4.ints] at h3
    exact .inr ⟨a, b, ns, ms, rfl, rfl, h1, h3, k _ H (Ext.refl _ _) rfl⟩
  · cases hz
/-! is None -/
def D.isN : D → Bool
  | .non => true
  | _ => false
def oIsN : D → D → Option D
  | x, .non => some (.bl x.isN)
  | _, _ => none
def oNotN : D → D → Option D
  | x, .non => some (.bl (!x.isN))
  | _, _ => none
def rIsNX : R2 := fun x y H Q => y = .non ∧ Q (.bl (decide (x = .non))) H
def rNotNX : R2 := fun x y H Q => y = .non ∧ Q (.bl (!decide (x = .non))) H
theorem rep_isN {F : Addr → Prop} {H : Hp} {d : D} {v : V} (h : Rep S F H d v) : decide (v = .non) = d.isN := by
  cases d with
  | non => cases (show v = _ from h); rfl
  | bl b => cases (show v = _ from h); rfl
  | int b => cases (show v = _ from h); rfl
  | str b => cases (show v = _ from h); rfl
  | tup ds => obtain ⟨a, vs, rfl, _⟩ := h; rfl
  | lst ds => obtain ⟨a, vs, rfl, _⟩ := h; rfl
  | ins c ds => obtain ⟨a, dx, vs, rfl, _⟩ := h; rfl
  | dic ks vs => obtain ⟨c, _, rfl⟩ := h; rfl
theorem o2_isN : Op2 S false rIsNX oIsN := fun F H x y v u z Q hF hx hy hz k => by
  cases y with
  | non =>
    cases (show u = _ from hy)
    cases hz
    exact ⟨rfl, k _ H (Ext.refl _ _) (by rw [rep_isN hx]; exact rfl)⟩
  | _ => cases hz
theorem o2_notN : Op2 S false rNotNX oNotN := fun F H x y v u z Q hF hx hy hz k => by
  cases y with
  | non =>
    cases (show u = _ from hy)
    cases hz
    exact ⟨rfl, k _ H (Ext.refl _ _) (by rw [rep_isN hx]; exact rfl)⟩
  | _ => cases hz
/-! == -/
mutual
def D.py : D → Option PyData
  | .non => some .none
  | .bl b => some (.bool b)
  | .int i => some (.int i)
  | .str x => some (.str x)
  | .tup ds => (D.pyL ds).map .tuple
  | .lst ds => (D.pyL ds).map .list
  | _ => none
def D.pyL : List D → Option (List PyData)
  | [] => some []
  | d :: ds => d.py.bind fun p => (D.pyL ds).map (p :: ·)
end
mutual
theorem rep_dp {F : Addr → Prop} {H : Hp} : ∀ {d : D} {v : V} {p : PyData}, Rep S F H d v → d.py = some p → Dp S.K H v p
  | .non, _, _, h, e => by cases (show _ = _ from h); cases e; exact .non
  | .bl b, _, _, h, e => by cases (show _ = _ from h); cases e; exact .bl b
  | .int b, _, _, h, e => by cases (show _ = _ from h); cases e; exact .int b
  | .str b, _, _, h, e => by cases (show _ = _ from h); cases e; exact .str b
  | .tup ds, _, p, h, e => by
    obtain ⟨a, vs, rfl, h1, h2⟩ := h
    have e : (D.pyL ds).map PyData.tuple = some p := e
    cases q : D.pyL ds with
    | none => rw [q] at e; cases e
    | some ps =>
      rw [q] at e
      cases e
      exact .tup h1 (repL_dp h2 q)
  | .lst ds, _, p, h, e => by
    obtain ⟨a, vs, rfl, _, h1, h2⟩ := h
    have e : (D.pyL ds).map PyData.list = some p := e
    cases q : D.pyL ds with
    | none => rw [q] at e; cases e
    | some ps =>
      rw [q] at e
      cases e
      exact .lst (.inl (.inl h1)) (repL_dp h2 q)
  | .ins _ _, _, _, _, e => by cases e
  | .dic _ _, _, _, _, e => by cases e
theorem repL_dp {F : Addr → Prop} {H : Hp} : ∀ {ds : List D} {vs : List V} {ps : List PyData}, RepL S F H ds vs → D.pyL ds = some ps → DpAll S.K H vs ps
  | [], _, _, h, e => by cases (show _ = _ from h); cases e; exact .nil
  | d :: ds, _, ps, h, e => by
    obtain ⟨v, r, rfl, h1, h2⟩ := h
    have e : (d.py.bind fun p => (D.pyL ds).map (p :: ·)) = some ps := e
    obtain ⟨p, e1, e2⟩ := Option.bind_eq_some_iff.mp e
    cases q : D.pyL ds with
    | none => rw [q] at e2; cases e2
    | some qs =>
      rw [q] at e2
      cases e2
      exact .cons (rep_dp h1 e1) (repL_dp h2 q)
end
mutual
/-- == of data -/
def D.eqb : D → D → Bool
  | .non, .non => true
  | .bl a, .bl b => a == b
  | .bl a, .int j => (if a then 1 else 0) == j
  | .int i, .bl b => i == (if b then 1 else 0)
  | .int i, .int j => i == j
  | .str a, .str b => a == b
  | .lst xs, .lst ys => D.eqbL xs ys
  | .tup xs, .tup ys => D.eqbL xs ys
  | _, _ => false
def D.eqbL : List D → List D → Bool
  | [], [] => true
  | x :: xs, y :: ys => x.eqb y && D.eqbL xs ys
  | _, _ => false
/-- what == may be asked of: its texts are texts -/
def D.lay : D → Bool
  | .non => true
  | .bl _ => true
  | .int _ => true
  | .str x => PyData.strOk x
  | .tup ds => D.layL ds
  | .lst ds => D.layL ds
  | _ => false
def D.layL : List D → Bool
  | [] => true
  | d :: ds => d.lay && D.layL ds
def D.dep : D → Nat
  | .tup ds => D.depL ds + 1
  | .lst ds => D.depL ds + 1
  | _ => 0
def D.depL : List D → Nat
  | [] => 0
  | d :: ds => max d.dep (D.depL ds)
end
def D.fit (d : D) : Bool := d.lay && decide (d.dep ≤ 64)
mutual
theorem py_some : ∀ d : D, d.lay = true → ∃ p, d.py = some p ∧ p.canLay0 = true ∧ p.depth = d.dep
  | .non, _ => ⟨_, rfl, rfl, rfl⟩
  | .bl _, _ => ⟨_, rfl, rfl, rfl⟩
  | .int _, _ => ⟨_, rfl, rfl, rfl⟩
  | .str x, h => ⟨_, rfl, by simp only [PyData.canLay0]; exact h, by simp only [PyData.depth]; rfl⟩
  | .tup ds, h => by
    obtain ⟨ps, e, l, d⟩ := pyL_some ds h
    exact ⟨.tuple ps, by show (D.pyL ds).map _ = _; rw [e]; rfl, by simp only [PyData.canLay0]; exact l, by simp only [PyData.depth]; rw [d]; rfl⟩
  | .lst ds, h => by
    obtain ⟨ps, e, l, d⟩ := pyL_some ds h
    exact ⟨.list ps, by show (D.pyL ds).map _ = _; rw [e]; rfl, by simp only [PyData.canLay0]; exact l, by simp only [PyData.depth]; rw [d]; rfl⟩
  | .ins _ _, h => by cases h
  | .dic _ _, h => by cases h
theorem pyL_some : ∀ ds : List D, D.layL ds = true → ∃ ps, D.pyL ds = some ps ∧ PyData.canLayAll0 ps = true ∧ PyData.depthAll ps = D.depL ds
  | [], _ => ⟨[], rfl, by simp only [PyData.canLayAll0], by simp only [PyData.depthAll]; rfl⟩
  | d :: ds, h => by
    have h := Bool.and_eq_true_iff.mp (show (d.lay && D.layL ds) = true from h)
    obtain ⟨p, e1, l1, d1⟩ := py_some d h.1
    obtain ⟨ps, e2, l2, d2⟩ := pyL_some ds h.2
    refine ⟨p :: ps, ?_, by simp only [PyData.canLayAll0]; rw [l1, l2]; rfl, by simp only [PyData.depthAll]; rw [d1, d2]; rfl⟩
    show (d.py.bind fun p => (D.pyL ds).map (p :: ·)) = _
    rw [e1, e2]; rfl
end
theorem fit_py {d : D} (h : d.fit = true) : ∃ p, d.py = some p ∧ SeqAt.shaped p = true := by
  have h := Bool.and_eq_true_iff.mp h
  obtain ⟨p, e, l, d⟩ := py_some d h.1
  refine ⟨p, e, ?_⟩
  show (p.canLay0 && decide (p.depth ≤ 64)) = true
  rw [l, d, h.2]; rfl
mutual
theorem eqv_py : ∀ (x y : D) (p q : PyData), x.py = some p → y.py = some q → PyData.eqv p q = x.eqb y
  | .non, y, p, q, e1, e2 => by
    cases e1
    cases y with
    | tup ds =>
      have e2 : (D.pyL ds).map PyData.tuple = some q := e2
      cases z : D.pyL ds with
      | none => rw [z] at e2; cases e2
      | some ps => rw [z] at e2; cases e2; simp only [PyData.eqv, D.eqb]
    | lst ds =>
      have e2 : (D.pyL ds).map PyData.list = some q := e2
      cases z : D.pyL ds with
      | none => rw [z] at e2; cases e2
      | some ps => rw [z] at e2; cases e2; simp only [PyData.eqv, D.eqb]
    | _ => cases e2 <;> simp only [PyData.eqv, D.eqb]
  | .bl a, y, p, q, e1, e2 => by
    cases e1
    cases y with
    | tup ds =>
      have e2 : (D.pyL ds).map PyData.tuple = some q := e2
      cases z : D.pyL ds with
      | none => rw [z] at e2; cases e2
      | some ps => rw [z] at e2; cases e2; simp only [PyData.eqv, D.eqb]
    | lst ds =>
      have e2 : (D.pyL ds).map PyData.list = some q := e2
      cases z : D.pyL ds with
      | none => rw [z] at e2; cases e2
      | some ps => rw [z] at e2; cases e2; simp only [PyData.eqv, D.eqb]
    | _ => cases e2 <;> simp only [PyData.eqv, D.eqb]
  | .int a, y, p, q, e1, e2 => by
    cases e1
    cases y with
    | tup ds =>
      have e2 : (D.pyL ds).map PyData.tuple = some q := e2
      cases z : D.pyL ds with
      | none => rw [z] at e2; cases e2
      | some ps => rw [z] at e2; cases e2; simp only [PyData.eqv, D.eqb]
    | lst ds =>
      have e2 : (D.pyL ds).map PyData.list = some q := e2
      cases z : D.pyL ds with
      | none => rw [z] at e2; cases e2
      | some ps => rw [z] at e2; cases e2; simp only [PyData.eqv, D.eqb]
    | _ => cases e2 <;> simp only [PyData.eqv, D.eqb]
  | .str a, y, p, q, e1, e2 => by
    cases e1
    cases y with
    | tup ds =>
      have e2 : (D.pyL ds).map PyData.tuple = some q := e2
      cases z : D.pyL ds with
      | none => rw [z] at e2; cases e2
      | some ps => rw [z] at e2; cases e2; simp only [PyData.eqv, D.eqb]
    | lst ds =>
      have e2 : (D.pyL ds).map PyData.list = some q := e2
      cases z : D.pyL ds with
      | none => rw [z] at e2; cases e2
      | some ps => rw [z] at e2; cases e2; simp only [PyData.eqv, D.eqb]
    | _ => cases e2 <;> simp only [PyData.eqv, D.eqb]
  | .tup xs, y, p, q, e1, e2 => by
    have e1 : (D.pyL xs).map PyData.tuple = some p := e1
    cases z1 : D.pyL xs with
    | none => rw [z1] at e1; cases e1
    | some ps =>
      rw [z1] at e1
      cases e1
      cases y with
      | tup ds =>
        have e2 : (D.pyL ds).map PyData.tuple = some q := e2
        cases z : D.pyL ds with
        | none => rw [z] at e2; cases e2
        | some qs => rw [z] at e2; cases e2; simp only [PyData.eqv, D.eqb]; exact eqvL_py xs ds ps qs z1 z
      | lst ds =>
        have e2 : (D.pyL ds).map PyData.list = some q := e2
        cases z : D.pyL ds with
        | none => rw [z] at e2; cases e2
        | some ps => rw [z] at e2; cases e2; simp only [PyData.eqv, D.eqb]
      | _ => cases e2 <;> simp only [PyData.eqv, D.eqb]
  | .lst xs, y, p, q, e1, e2 => by
    have e1 : (D.pyL xs).map PyData.list = some p := e1
    cases z1 : D.pyL xs with
    | none => rw [z1] at e1; cases e1
    | some ps =>
      rw [z1] at e1
      cases e1
      cases y with
      | lst ds =>
        have e2 : (D.pyL ds).map PyData.list = some q := e2
        cases z : D.pyL ds with
        | none => rw [z] at e2; cases e2
        | some qs => rw [z] at e2; cases e2; simp only [PyData.eqv, D.eqb]; exact eqvL_py xs ds ps qs z1 z
      | tup ds =>
        have e2 : (D.pyL ds).map PyData.tuple = some q := e2
        cases z : D.pyL ds with
        | none => rw [z] at e2; cases e2
        | some ps => rw [z] at e2; cases e2; simp only [PyData.eqv, D.eqb]
      | _ => cases e2 <;> simp only [PyData.eqv, D.eqb]
  | .ins _ _, _, _, _, e, _ => by cases e
  | .dic _ _, _, _, _, e, _ => by cases e
theorem eqvL_py : ∀ (xs ys : List D) (ps qs : List PyData), D.pyL xs = some ps → D.pyL ys = some qs → PyData.eqvAll ps qs = D.eqbL xs ys
  | [], ys, ps, qs, e1, e2 => by
    cases e1
    cases ys with
    | nil => cases e2; simp only [PyData.eqvAll, D.eqbL]
    | cons y ys =>
      have e2 : (y.py.bind fun p => (D.pyL ys).map (p :: ·)) = some qs := e2
      obtain ⟨p, z1, z2⟩ := Option.bind_eq_some_iff.mp e2
      cases z : D.pyL ys with
      | none => rw [z] at z2; cases z2
      | some rs => rw [z] at z2; cases z2; simp only [PyData.eqvAll, D.eqbL]
  | x :: xs, ys, ps, qs, e1, e2 => by
    have e1 : (x.py.bind fun p => (D.pyL xs).map (p :: ·)) = some ps := e1
    obtain ⟨p, w1, w2⟩ := Option.bind_eq_some_iff.mp e1
    cases w : D.pyL xs with
    | none => rw [w] at w2; cases w2
    | some ts =>
      rw [w] at w2
      cases w2
      cases ys with
      | nil => cases e2; simp only [PyData.eqvAll, D.eqbL]
      | cons y ys =>
        have e2 : (y.py.bind fun p => (D.pyL ys).map (p :: ·)) = some qs := e2
        obtain ⟨p, z1, z2⟩ := Option.bind_eq_some_iff.mp e2
        cases z : D.pyL ys with
        | none => rw [z] at z2; cases z2
        | some rs =>
          rw [z] at z2
          cases z2
          simp only [PyData.eqvAll, D.eqbL]
          rw [eqv_py x y _ _ w1 z1, eqvL_py xs ys _ _ w z]
end
/-- two texts are compared as they are; else what may be asked of -/
def oEqB (x y : D) : Option Bool := match x, y with
  | .str a, .str b => some (decide (a = b))
  | .str a, .non => some false
  | .non, .str b => some false
  | x, y => if x.fit && y.fit then some (x.eqb y) else none
def oEq (x y : D) : Option D := (oEqB x y).map .bl
def oNe (x y : D) : Option D := (oEqB x y).map fun b => .bl (!b)
def rEqX (K : PySem.W.Frag) : R2 := fun x y H Q => rEq x y H Q ∨ rEqD K x y H Q
def rNeX (K : PySem.W.Frag) : R2 := fun x y H Q => rNe x y H Q ∨ rNeD K x y H Q
theorem op_eqX {X : Cx} (hu : X.A.units + 64 < cLine) : OpR X (compareOp .Eq) (rEqX X.K) := opr_or op_eq (op_eqD hu)
theorem op_neX {X : Cx} (hu : X.A.units + 64 < cLine) : OpR X (compareOp .NotEq) (rNeX X.K) := opr_or op_ne (op_neD hu)
theorem eqB_cases {F : Addr → Prop} {H : Hp} {x y : D} {v u : V} {b : Bool} (hx : Rep S F H x v) (hy : Rep S F H y u) (h : oEqB x y = some b) :
    (scal v u = true ∧ decide (v = u) = b) ∨ ∃ d e, Dp S.K H v d ∧ Dp S.K H u e ∧ SeqAt.shaped d = true ∧ SeqAt.shaped e = true ∧ PyData.eqv d e = b := by
  unfold oEqB at h
  split at h
  · cases (show v = _ from hx)
    cases (show u = _ from hy)
    cases h
    rename_i a b
    refine .inl ⟨rfl, ?_⟩
    by_cases e : a = b
    · exact (decide_eq_true (congrArg V.str e)).trans (decide_eq_true e).symm
    · exact (decide_eq_false fun z => e (V.str.inj z)).trans (decide_eq_false e).symm
  · cases (show v = _ from hx)
    cases (show u = _ from hy)
    cases h
    exact .inl ⟨rfl, rfl⟩
  · cases (show v = _ from hx)
    cases (show u = _ from hy)
    cases h
    exact .inl ⟨rfl, rfl⟩
  · split at h
    · rename_i c
      cases h
      have c := Bool.and_eq_true_iff.mp c
      obtain ⟨p, e1, s1⟩ := fit_py c.1
      obtain ⟨q, e2, s2⟩ := fit_py c.2
      exact .inr ⟨p, q, rep_dp hx e1, rep_dp hy e2, s1, s2, eqv_py _ _ _ _ e1 e2⟩
    · cases h
theorem o2_eq : Op2 S false (rEqX S.K) oEq := fun F H x y v u z Q hF hx hy hz k => by
  unfold oEq at hz
  cases q : oEqB x y with
  | none => rw [q] at hz; cases hz
  | some b =>
    rw [q] at hz
    cases hz
    rcases eqB_cases hx hy q with ⟨h1, h2⟩ | ⟨d, e, h1, h2, h3, h4, h5⟩
    · exact .inl ⟨h1, by rw [h2]; exact k _ H (Ext.refl _ _) rfl⟩
    · exact .inr ⟨d, e, h1, h2, h3, h4, by rw [h5]; exact k _ H (Ext.refl _ _) rfl⟩
theorem o2_ne : Op2 S false (rNeX S.K) oNe := fun F H x y v u z Q hF hx hy hz k => by
  unfold oNe at hz
  cases q : oEqB x y with
  | none => rw [q] at hz; cases hz
  | some b =>
    rw [q] at hz
    cases hz
    rcases eqB_cases hx hy q with ⟨h1, h2⟩ | ⟨d, e, h1, h2, h3, h4, h5⟩
    · exact .inl ⟨h1, by rw [h2]; exact k _ H (Ext.refl _ _) rfl⟩
    · exact .inr ⟨d, e, h1, h2, h3, h4, by rw [h5]; exact k _ H (Ext.refl _ _) rfl⟩
end
end Mir
/-! MirI -/
namespace Mir
open PySem PySem.Spec PyProof.Rows L2
section
variable {S : Sc}
/-! ### in, not in -/
def rInT (K : PySem.W.Frag) : R2 := fun x y H Q => ∃ d ds, Dp K H x d ∧ Dp K H y (.tuple ds) ∧ SeqAt.shaped d = true ∧ SeqAt.shaped (.tuple ds) = true ∧ Q (.bl (ds.any fun z => PyData.eqv z d)) H
def rNotInT (K : PySem.W.Frag) : R2 := fun x y H Q => ∃ d ds, Dp K H x d ∧ Dp K H y (.tuple ds) ∧ SeqAt.shaped d = true ∧ SeqAt.shaped (.tuple ds) = true ∧ Q (.bl (!ds.any fun z => PyData.eqv z d)) H
theorem room_tup {A : Around} {d : PyData} {ds : List PyData} (h : SeqAt.shaped d = true) (hu : A.units + 65 < cLine) : A.units + 1 + min (PyData.depthAll ds) d.depth < cLine := by
  have h1 := SeqAt.depth_of_shaped h
  have h2 : min (PyData.depthAll ds) d.depth ≤ d.depth := Nat.min_le_right _ _
  omega
theorem op_inT {X : Cx} (hu : X.A.units + 65 < cLine) : OpR X (compareOp .In) (rInT X.K) := by
  intro pins s σ H x y v u Q I rx ry h
  obtain ⟨d, ds, hd, he, sd, se, q⟩ := h
  obtain ⟨as, r1⟩ := Dp.reads I d x v hd rx
  obtain ⟨bs, r2⟩ := Dp.reads I (.tuple ds) y u he ry
  exact SeqAt.in_tuple_reads r2 r1 (by have := SeqAt.canLay_of_shaped se; simpa only [PyData.canLay0] using this) (SeqAt.canLay_of_shaped sd) (room_tup sd hu) ⟨.bl _, H, I, rfl, q⟩
theorem op_notInT {X : Cx} (hu : X.A.units + 65 < cLine) : OpR X (compareOp .NotIn) (rNotInT X.K) := by
  intro pins s σ H x y v u Q I rx ry h
  obtain ⟨d, ds, hd, he, sd, se, q⟩ := h
  obtain ⟨as, r1⟩ := Dp.reads I d x v hd rx
  obtain ⟨bs, r2⟩ := Dp.reads I (.tuple ds) y u he ry
  exact SeqAt.notIn_tuple_reads r2 r1 (by have := SeqAt.canLay_of_shaped se; simpa only [PyData.canLay0] using this) (SeqAt.canLay_of_shaped sd) (room_tup sd hu) ⟨.bl _, H, I, rfl, q⟩
def rInSg : R2 := fun x y H Q => ∃ (c : Nat) (z : Str), x = .str ⟨#[c]⟩ ∧ y = .str z ∧ Q (.bl (decide (c ∈ z.cps.toList))) H
def rNotInSg : R2 := fun x y H Q => ∃ (c : Nat) (z : Str), x = .str ⟨#[c]⟩ ∧ y = .str z ∧ Q (.bl (!decide (c ∈ z.cps.toList))) H
def rInX (K : PySem.W.Frag) : R2 := fun x y H Q => rInSg x y H Q ∨ (rInD K x y H Q ∨ rInT K x y H Q)
def rNotInX (K : PySem.W.Frag) : R2 := fun x y H Q => rNotInSg x y H Q ∨ (rNotInD K x y H Q ∨ rNotInT K x y H Q)
theorem op_inX {X : Cx} (hu : X.A.units + 65 < cLine) : OpR X (compareOp .In) (rInX X.K) := opr_or op_in_sign (opr_or (op_inD hu) (op_inT hu))
theorem op_notInX {X : Cx} (hu : X.A.units + 65 < cLine) : OpR X (compareOp .NotIn) (rNotInX X.K) := opr_or op_notIn_sign (opr_or (op_notInD hu) (op_notInT hu))
def oInB (x y : D) : Option Bool := match x, y with
  | .str ⟨⟨[c]⟩⟩, .str z => some (decide (c ∈ z.cps.toList))
  | x, .lst ds => if x.fit && (D.lst ds).fit then some (ds.any fun z => z.eqb x) else none
  | x, .tup ds => if x.fit && (D.tup ds).fit then some (ds.any fun z => z.eqb x) else none
  | _, _ => none
def oIn (x y : D) : Option D := (oInB x y).map .bl
def oNotIn (x y : D) : Option D := (oInB x y).map fun b => .bl (!b)
theorem any_py {x : D} {p : PyData} (hp : x.py = some p) : ∀ {ds : List D} {ps : List PyData}, D.pyL ds = some ps → (ps.any fun z => PyData.eqv z p) = ds.any fun z => z.eqb x
  | [], ps, h => by cases h; rfl
  | d :: ds, ps, h => by
    have h : (d.py.bind fun p => (D.pyL ds).map (p :: ·)) = some ps := h
    obtain ⟨q, z1, z2⟩ := Option.bind_eq_some_iff.mp h
    cases z : D.pyL ds with
    | none => rw [z] at z2; cases z2
    | some rs =>
      rw [z] at z2
      cases z2
      rw [List.any_cons, List.any_cons, any_py hp z, eqv_py _ _ _ _ z1 hp]
theorem inB_cases {F : Addr → Prop} {H : Hp} {x y : D} {v u : V} {b : Bool} (hx : Rep S F H x v) (hy : Rep S F H y u) (h : oInB x y = some b) :
    (∃ (c : Nat) (z : Str), v = .str ⟨#[c]⟩ ∧ u = .str z ∧ decide (c ∈ z.cps.toList) = b) ∨
    (∃ d ds, Dp S.K H v d ∧ Dp S.K H u (.list ds) ∧ SeqAt.shaped d = true ∧ SeqAt.shaped (.list ds) = true ∧ (ds.any fun z => PyData.eqv z d) = b) ∨
    (∃ d ds, Dp S.K H v d ∧ Dp S.K H u (.tuple ds) ∧ SeqAt.shaped d = true ∧ SeqAt.shaped (.tuple ds) = true ∧ (ds.any fun z => PyData.eqv z d) = b) := by
  unfold oInB at h
  split at h
  · cases (show v = _ from hx)
    cases (show u = _ from hy)
    cases h
    exact .inl ⟨_, _, rfl, rfl, rfl⟩
  · rename_i ds
    split at h
    · rename_i c
      cases h
      have c := Bool.and_eq_true_iff.mp c
      obtain ⟨p, e1, s1⟩ := fit_py c.1
      obtain ⟨q, e2, s2⟩ := fit_py c.2
      have e3 := e2
      have e2 : (D.pyL ds).map PyData.list = some q := e2
      cases z : D.pyL ds with
      | none => rw [z] at e2; cases e2
      | some ps =>
        rw [z] at e2
        cases e2
        exact .inr (.inl ⟨p, ps, rep_dp hx e1, rep_dp hy e3, s1, s2, any_py e1 z⟩)
    · cases h
  · rename_i ds
    split at h
    · rename_i c
      cases h
      have c := Bool.and_eq_true_iff.mp c
      obtain ⟨p, e1, s1⟩ := fit_py c.1
      obtain ⟨q, e2, s2⟩ := fit_py c.2
      have e3 := e2
      have e2 : (D.pyL ds).map PyData.tuple = some q := e2
      cases z : D.pyL ds with
      | none => rw [z] at e2; cases e2
      | some ps =>
        rw [z] at e2
        cases e2
        exact .inr (.inr ⟨p, ps, rep_dp hx e1, rep_dp hy e3, s1, s2, any_py e1 z⟩)
    · cases h
  · cases h
theorem o2_in : Op2 S false (rInX S.K) oIn := fun F H x y v u z Q hF hx hy hz k => by
  unfold oIn at hz
  cases q : oInB x y with
  | none => rw [q] at hz; cases hz
  | some b =>
    rw [q] at hz
    cases hz
    have kb := k (.bl b) H (Ext.refl _ _) rfl
    rcases inB_cases hx hy q with ⟨c, w, h1, h2, h3⟩ | ⟨d, e, h1, h2, h3, h4, h5⟩ | ⟨d, e, h1, h2, h3, h4, h5⟩
    · exact .inl ⟨c, w, h1, h2, by rw [h3]; exact kb⟩
    · exact .inr (.inl ⟨d, e, h1, h2, h3, h4, by rw [h5]; exact kb⟩)
    · exact .inr (.inr ⟨d, e, h1, h2, h3, h4, by rw [h5]; exact kb⟩)
theorem o2_notIn : Op2 S false (rNotInX S.K) oNotIn := fun F H x y v u z Q hF hx hy hz k => by
  unfold oNotIn at hz
  cases q : oInB x y with
  | none => rw [q] at hz; cases hz
  | some b =>
    rw [q] at hz
    cases hz
    have kb := k (.bl (!b)) H (Ext.refl _ _) rfl
    rcases inB_cases hx hy q with ⟨c, w, h1, h2, h3⟩ | ⟨d, e, h1, h2, h3, h4, h5⟩ | ⟨d, e, h1, h2, h3, h4, h5⟩
    · exact .inl ⟨c, w, h1, h2, by rw [h3]; exact kb⟩
    · exact .inr (.inl ⟨d, e, h1, h2, h3, h4, by rw [h5]; exact kb⟩)
    · exact .inr (.inr ⟨d, e, h1, h2, h3, h4, by rw [h5]; exact kb⟩)
/-! ### places and slices -/
theorem ixN_len {α β : Type} {xs : List α} {ys : List β} (h : xs.length = ys.length) (i : Int) : ixN xs.length i = ixN ys.length i := by rw [h]
theorem atI_rep {F : Addr → Prop} {H : Hp} {ds : List D} {vs : List V} {i : Int} {d : D} (h : RepL S F H ds vs) (e : atI ds i = some d) : ∃ v, atI vs i = some v ∧ Rep S F H d v := by
  unfold atI at e ⊢
  rw [h.length]
  obtain ⟨j, e1, e2⟩ := Option.bind_eq_some_iff.mp e
  obtain ⟨v, q1, q2⟩ := h.get e2
  exact ⟨v, by rw [e1]; exact q1, q2⟩
def oIx : D → D → Option D
  | .lst ds, .int i => atI ds i
  | .tup ds, .int i => atI ds i
  | .str z, .int i => if z.length ≤ 100000 then (atI z.cps.toList i).map fun c => .str ⟨#[c]⟩ else none
  | _, _ => none
theorem o2_ix : Op2 S false (rIx S.K) oIx := fun F H x y v u z Q hF hx hy hz k => by
  unfold oIx at hz
  split at hz
  · obtain ⟨a, vs, rfl, n, h1, h2⟩ := hx
    cases (show u = _ from hy)
    obtain ⟨w, e, r⟩ := atI_rep h2 hz
    exact .inl ⟨a, vs, _, w, rfl, rfl, .inl (.inl h1), e, k w H (Ext.refl _ _) r⟩
  · obtain ⟨a, vs, rfl, h1, h2⟩ := hx
    cases (show u = _ from hy)
    obtain ⟨w, e, r⟩ := atI_rep h2 hz
    exact .inr (.inl ⟨a, vs, _, w, rfl, rfl, h1, e, k w H (Ext.refl _ _) r⟩)
  · split at hz
    · rename_i hl
      cases (show v = _ from hx)
      cases (show u = _ from hy)
      rename_i s i
      cases q : atI s.cps.toList i with
      | none => rw [q] at hz; cases hz
      | some c =>
        rw [q] at hz
        cases hz
        exact .inr (.inr ⟨s, i, c, rfl, rfl, sz_of hl, q, k _ H (Ext.refl _ _) rfl⟩)
    · cases hz
  · cases hz
abbrev PM := Env → Out (Option Int)
def pNone : PM := fun e => .ok none e
def D.toI : D → Option Int
  | .int i => some i
  | _ => none
def pSome (a : EM) : PM := fun env => (a env).bind fun x e => (Out.opt x.toI e).bind fun i e => .ok (some i) e
def RefO (S : Sc) (O P : List Nat) (E : XK) (μ : Mo) (t : TO) (m : PM) : Prop :=
  ∀ (R : Rx) (σ : L2.St) (H : Hp) (fp : Fp) (env : Env), Rel S O P R σ H fp env → ∀ Q : Option Int → Hp → Prop, Want S O P E μ R σ H fp env (m env) (fun o _ H' _ => Q o H') → t σ H Q
def cutD (xs : List D) (lo hi : Option Int) : List D := (xs.drop (HT.sIx xs.length 0 lo)).take (HT.sIx xs.length xs.length hi - HT.sIx xs.length 0 lo)
def oSl (x : D) (lo hi : Option Int) : Option D := match x with
  | .lst ds => some (.lst (cutD ds lo hi))
  | .tup ds => some (.tup (cutD ds lo hi))
  | .str z => if z.length ≤ 100000 then some (.str (cutS z lo hi)) else none
  | _ => none
def oSlL (x : D) (lo hi : Option Int) : Option D := match x with
  | .lst ds => some (.lst (cutD ds lo hi))
  | _ => none
def rSlX (K : PySem.W.Frag) : V → Option Int → Option Int → Hp → VK → Prop := fun x lo hi H Q => rSlL K x lo hi H Q ∨ (rSlA K x lo hi H Q ∨ rSlS x lo hi H Q)
theorem sl_X {X : Cx} : SlR X (rSlX X.K) := sl_list.or (sl_tupA.or sl_str)
def Op3 (S : Sc) (fr : Bool) (r : V → Option Int → Option Int → Hp → VK → Prop) (f : D → Option Int → Option Int → Option D) : Prop :=
  ∀ (F : Addr → Prop) (H : Hp) (x : D) (lo hi : Option Int) (v : V) (z : D) (Q : VK), (∀ a, F a → H a ≠ none) → Rep S F H x v → f x lo hi = some z → (∀ w H', Ext Nil H H' → RepK S F fr H H' z w → Q w H') → r v lo hi H Q
theorem cut_rep {F : Addr → Prop} {H : Hp} {ds : List D} {vs : List V} {lo hi : Option Int} (h : RepL S F H ds vs) : RepL S F H (cutD ds lo hi) (cutV vs lo hi) := by
  unfold cutD cutV
  rw [h.length]
  exact (h.drop _).take _
theorem o3_slL : Op3 S true (rSlL S.K) oSlL := fun F H x lo hi v z Q hF hx hz k => by
  cases x with
  | lst ds =>
    cases hz
    obtain ⟨a, vs, rfl, n, h1, h2⟩ := hx
    refine ⟨a, vs, rfl, .inl (.inl h1), fun p hp => k _ _ (Ext.new hp) ⟨p, _, _, rfl, hp, rfl, upd_same, fun z => hF p z hp, ?_⟩⟩
    exact ((cut_rep h2).less fun x z => z.imp id fun e => by rw [e]; exact hp).grow (Ext.new hp)
  | _ => cases hz
theorem o3_sl : Op3 S false (rSlX S.K) oSl := fun F H x lo hi v z Q hF hx hz k => by
  cases x with
  | lst ds => exact .inl (o3_slL F H (.lst ds) lo hi v z Q hF hx hz fun w H' e r => k w H' e r.rep)
  | tup ds =>
    cases hz
    obtain ⟨a, vs, rfl, h1, h2⟩ := hx
    refine .inr (.inl ⟨a, vs, rfl, h1, fun e => ?_, fun _ p hp => k _ _ (Ext.new hp) ⟨p, _, rfl, .inl (.inl upd_same), (cut_rep h2).grow (Ext.new hp)⟩⟩)
    refine k _ H (Ext.refl _ _) ⟨a, vs, rfl, h1, ?_⟩
    have e2 : cutD ds lo hi = ds := by
      unfold cutD
      rw [← h2.length, e.1, e.2, List.drop_zero, Nat.sub_zero]
      exact List.take_of_length_le (by rw [h2.length]; exact Nat.le_refl _)
    rw [e2]
    exact h2
  | str s =>
    unfold oSl at hz
    dsimp only at hz
    split at hz
    · rename_i hl
      cases hz
      cases (show v = _ from hx)
      exact .inr (.inr ⟨s, rfl, sz_of hl, k _ H (Ext.refl _ _) rfl⟩)
    · cases hz
  | _ => cases hz
def eSl (f : D → Option Int → Option Int → Option D) (a : EM) (lo hi : PM) : EM := fun env => (a env).bind fun x e => (lo e).bind fun l e1 => (hi e1).bind fun u e2 => .opt (f x l u) e2
section
variable {O P : List Nat} {E : XK} {μ : Mo} {fr fa fb : Bool} {ta tb te : TE} {ma mb : EM} {t u : TT} {m n : TM} {tA : TA} {mA : AM} {tl th : TO} {pl ph : PM}
theorem ro_none : RefO S O P E μ tNoPart pNone := fun R σ H fp env I Q h => h H fp I Stp.refl
theorem ro_some (ha : RefE S O P E μ fa ta ma) : RefO S O P E μ (tPart ta) (pSome ma) := by
  intro R σ H fp env I Q h
  refine ha R σ H fp env I _ ((Want.bind h).mono fun x e1 H1 f1 I1 s1 h1 v hv _ => ?_)
  have h5 := Want.bind h1
  obtain ⟨i, hi⟩ := want_some h5
  rw [hi] at h5
  have hw := hv.rep
  cases x with
  | int j =>
    cases hi
    exact ⟨_, hw, (h5 H1 f1 I1 Stp.refl) H1 f1 I1 Stp.refl⟩
  | _ => cases hi
theorem ref_sl {r : V → Option Int → Option Int → Hp → VK → Prop} {f : D → Option Int → Option Int → Option D} (hr : Op3 S fr r f) (ha : RefE S O P E μ fa ta ma) (hl : RefO S O P E μ tl pl) (hh : RefO S O P E μ th ph) : RefE S O P E μ fr (tSl r ta tl th) (eSl f ma pl ph) := by
  intro R σ H fp env I Q h
  refine ha R σ H fp env I _ ((Want.bind h).mono fun x e1 H1 f1 I1 s1 h1 v hv _ => ?_)
  refine hl R σ H1 f1 e1 I1 _ ((Want.bind h1).mono fun l e2 H2 f2 I2 s2 h2 => ?_)
  refine hh R σ H2 f2 e2 I2 _ ((Want.bind h2).mono fun u e3 H3 f3 I3 s3 h3 => ?_)
  obtain ⟨z, hz⟩ := want_some h3
  exact hr (FM R f3 μ) H3 x l u v z Q (fun a q => I3.fm q) (Rep.fwd s3.fwd _ _ (Rep.fwd s2.fwd _ _ hv.rep)) hz fun w H' ex hk => want_opt h3 hz I3 (fun a q => ((s1.trans s2).trans s3).dom q) ex hk
/-! a text's method of one argument -/
def D.isS : D → Bool
  | .str _ => true
  | _ => false
def eM1 (f : D → D → Option D) (a b : EM) : EM := fun env => (a env).bind fun x e => if x.isS then (b e).bind fun y e' => .opt (f x y) e' else .bad
theorem ref_m1 {r : V → List V → Hp → VK → Prop} {f : D → D → Option D} (hr : Op2 S fr (fun x y H Q => r x [y] H Q) f) (ha : RefE S O P E μ fa ta ma) (hb : RefE S O P E μ fb tb mb) : RefE S O P E μ fr (tM1 r ta tb) (eM1 f ma mb) := by
  intro R σ H fp env I Q h
  refine ha R σ H fp env I _ ((Want.bind h).mono fun x e1 H1 f1 I1 s1 h1 v hv _ => ?_)
  by_cases c : x.isS = true
  · rw [if_pos c] at h1
    refine ⟨?_, ?_⟩
    · cases x with
      | str z => exact ⟨z, hv.rep⟩
      | _ => cases c
    · refine hb R σ H1 f1 e1 I1 _ ((Want.bind h1).mono fun y e2 H2 f2 I2 s2 h2 u hu _ => ?_)
      obtain ⟨z, hz⟩ := want_some h2
      exact hr (FM R f2 μ) H2 x y v u z Q (fun a q => I2.fm q) (Rep.fwd s2.fwd _ _ hv.rep) hu.rep hz fun w H' ex hk => want_opt h2 hz I2 (fun a q => (s1.trans s2).dom q) ex hk
  · rw [if_neg c] at h1
    exact h1.elim
end
def oJoin : D → D → Option D
  | .str a, .lst ds => (strsOf ds).bind fun ys => if (ys.map (·.length)).sum + ys.length * a.length ≤ 100000 then some (.str (Txt.join a ys)) else none
  | .str a, .tup ds => (strsOf ds).bind fun ys => if (ys.map (·.length)).sum + ys.length * a.length ≤ 100000 then some (.str (Txt.join a ys)) else none
  | _, _ => none
def rJoinX (K : PySem.W.Frag) : V → List V → Hp → VK → Prop := fun x xs H Q => ∃ a p, ∃ ys : List Str, x = .str a ∧ xs = [.ref p] ∧ (SqL K H p (ys.map V.str) ∨ SqT K H p (ys.map V.str)) ∧
      (ys.map (·.length)).sum + ys.length * a.length ≤ 16777216 ∧ Q (.str (Txt.join a ys)) H
theorem o2_join : Op2 S false (fun x y H Q => rJoinX S.K x [y] H Q) oJoin := fun F H x y v u z Q hF hx hy hz k => by
  unfold oJoin at hz
  split at hz
  · obtain ⟨ys, e1, e2⟩ := Option.bind_eq_some_iff.mp hz
    split at e2
    · rename_i hl
      cases e2
      have e1 := strsOf_some e1
      subst e1
      cases (show v = _ from hx)
      obtain ⟨p, vs, rfl, _, h1, h2⟩ := hy
      rw [h2.strs] at h1
      exact ⟨_, p, ys, rfl, rfl, .inl (.inl (.inl h1)), by omega, k _ H (Ext.refl _ _) rfl⟩
    · cases e2
  · obtain ⟨ys, e1, e2⟩ := Option.bind_eq_some_iff.mp hz
    split at e2
    · rename_i hl
      cases e2
      have e1 := strsOf_some e1
      subst e1
      cases (show v = _ from hx)
      obtain ⟨p, vs, rfl, h1, h2⟩ := hy
      rw [h2.strs] at h1
      exact ⟨_, p, ys, rfl, rfl, .inr h1, by omega, k _ H (Ext.refl _ _) rfl⟩
    · cases e2
  · cases hz
def oSplit : D → D → Option D
  | .str a, .str b => if (b.length == 0) = false ∧ a.length ≤ 100000 then some (.lst ((Txt.split a b).map .str)) else none
  | _, _ => none
def rSplitX : V → List V → Hp → VK → Prop := fun x xs H Q => ∃ a b, x = .str a ∧ xs = [.str b] ∧ (b.length == 0) = false ∧ a.length + 2 ≤ sizeLine ∧ rNewStrs (Txt.split a b) H Q
theorem o2_split : Op2 S true (fun x y H Q => rSplitX x [y] H Q) oSplit := fun F H x y v u z Q hF hx hy hz k => by
  unfold oSplit at hz
  split at hz
  · split at hz
    · rename_i hl
      cases hz
      cases (show v = _ from hx)
      cases (show u = _ from hy)
      refine ⟨_, _, rfl, rfl, hl.1, by have := sizeLine_eq; omega, fun p hp => k _ _ (Ext.new hp) ⟨p, _, _, rfl, hp, rfl, upd_same, fun z => hF p z hp, RepL.ofStrs⟩⟩
    · cases hz
  · cases hz
/-! ### built-ins of one argument -/
def A1 (f : D → Option D) : List D → Option D
  | [d] => f d
  | _ => none
theorem opA1 {fr : Bool} {r : List V → Hp → VK → Prop} {f : D → Option D} (h : Op1 S fr (fun v H Q => r [v] H Q) f) : OpA S fr r (A1 f) := fun F H xs vs z Q hF hx hz k => by
  match xs, hz with
  | [d], hz =>
    obtain ⟨v, r', rfl, h1, h2⟩ := hx
    cases (show r' = _ from h2)
    exact h F H d v z Q hF h1 hz k
def oLen : D → Option D
  | .str z => if z.length ≤ 100000 then some (.int z.length) else none
  | .lst ds => some (.int ds.length)
  | .tup ds => some (.int ds.length)
  | _ => none
def rLenX (K : PySem.W.Frag) : List V → Hp → VK → Prop := fun xs H Q => ∃ x n, xs = [x] ∧ LenV K x H n ∧ Q (.int n) H
theorem oA_len : OpA S false (rLenX S.K) (A1 oLen) := opA1 fun F H x v z Q hF hx hz k => by
  cases x with
  | str s =>
    unfold oLen at hz
    dsimp only at hz
    split at hz
    · cases hz
      cases (show v = _ from hx)
      exact ⟨_, s.length, rfl, ⟨sz_of (by assumption), rfl⟩, k _ H (Ext.refl _ _) rfl⟩
    · cases hz
  | lst ds =>
    cases hz
    obtain ⟨a, vs, rfl, _, h1, h2⟩ := hx
    exact ⟨_, ds.length, rfl, .inl ⟨vs, .inl (.inl h1), h2.length.symm⟩, k _ H (Ext.refl _ _) rfl⟩
  | tup ds =>
    cases hz
    obtain ⟨a, vs, rfl, h1, h2⟩ := hx
    exact ⟨_, ds.length, rfl, .inr ⟨vs, h1, h2.length.symm⟩, k _ H (Ext.refl _ _) rfl⟩
  | _ => cases hz
def oList : D → Option D
  | .lst ds => some (.lst ds)
  | .tup ds => some (.lst ds)
  | _ => none
def rListX (K : PySem.W.Frag) : List V → Hp → VK → Prop := fun xs H Q => ∃ p ys, xs = [.ref p] ∧ (SqL K H p ys ∨ SqT K H p ys) ∧ ∀ l, H l = none → Q (.ref l) (upd H l (.lst ys))
theorem oA_list : OpA S true (rListX S.K) (A1 oList) := opA1 fun F H x v z Q hF hx hz k => by
  cases x with
  | lst ds =>
    cases hz
    obtain ⟨a, vs, rfl, _, h1, h2⟩ := hx
    exact ⟨a, vs, rfl, .inl (.inl (.inl h1)), fun p hp => k _ _ (Ext.new hp) ⟨p, vs, ds, rfl, hp, rfl, upd_same, fun z => hF p z hp, (h2.less fun x z => z.imp id fun e => by rw [e]; exact hp).grow (Ext.new hp)⟩⟩
  | tup ds =>
    cases hz
    obtain ⟨a, vs, rfl, h1, h2⟩ := hx
    exact ⟨a, vs, rfl, .inr h1, fun p hp => k _ _ (Ext.new hp) ⟨p, vs, ds, rfl, hp, rfl, upd_same, fun z => hF p z hp, (h2.less fun x z => z.imp id fun e => by rw [e]; exact hp).grow (Ext.new hp)⟩⟩
  | _ => cases hz
def oTuple : D → Option D
  | .lst ds => some (.tup ds)
  | .tup ds => some (.tup ds)
  | _ => none
def rTupleX (K : PySem.W.Frag) : List V → Hp → VK → Prop := fun xs H Q => ∃ p ys, xs = [.ref p] ∧ ((SqL K H p ys ∧ ∀ l, H l = none → Q (.ref l) (upd H l (.tup ys))) ∨ (SqT K H p ys ∧ Q (.ref p) H))
theorem oA_tuple : OpA S false (rTupleX S.K) (A1 oTuple) := opA1 fun F H x v z Q hF hx hz k => by
  cases x with
  | lst ds =>
    cases hz
    obtain ⟨a, vs, rfl, _, h1, h2⟩ := hx
    exact ⟨a, vs, rfl, .inl ⟨.inl (.inl h1), fun p hp => k _ _ (Ext.new hp) ⟨p, vs, rfl, .inl (.inl upd_same), h2.grow (Ext.new hp)⟩⟩⟩
  | tup ds =>
    cases hz
    obtain ⟨a, vs, rfl, h1, h2⟩ := hx
    exact ⟨a, vs, rfl, .inr ⟨h1, k _ H (Ext.refl _ _) ⟨a, vs, rfl, h1, h2⟩⟩⟩
  | _ => cases hz
def oSum : D → Option D
  | .lst ds => (intsOf ds).map fun ns => .int ns.sum
  | _ => none
theorem oA_sum : OpA S false (rSum S.K) (A1 oSum) := opA1 fun F H x v z Q hF hx hz k => by
  cases x with
  | lst ds =>
    have hz : (intsOf ds).map (fun ns => D.int ns.sum) = some z := hz
    cases e : intsOf ds with
    | none => rw [e] at hz; cases hz
    | some ns =>
      rw [e] at hz
      cases hz
      have e := intsOf_some e
      subst e
      obtain ⟨a, vs, rfl, _, h1, h2⟩ := hx
      rw [h2.ints] at h1
      exact ⟨a, ns, rfl, .inl (.inl h1), k _ H (Ext.refl _ _) rfl⟩
  | _ => cases hz
def oAll : D → Option D
  | .lst ds => (blsOf ds).map fun ns => .bl (ns.all id)
  | _ => none
def oAny : D → Option D
  | .lst ds => (blsOf ds).map fun ns => .bl (ns.any id)
  | _ => none
theorem oA_all : OpA S false (rAll S.K) (A1 oAll) := opA1 fun F H x v z Q hF hx hz k => by
  cases x with
  | lst ds =>
    have hz : (blsOf ds).map (fun ns => D.bl (ns.all id)) = some z := hz
    cases e : blsOf ds with
    | none => rw [e] at hz; cases hz
    | some ns =>
      rw [e] at hz
      cases hz
      have e := blsOf_some e
      subst e
      obtain ⟨a, vs, rfl, _, h1, h2⟩ := hx
      rw [h2.bls] at h1
      exact ⟨a, ns, rfl, .inl (.inl h1), k _ H (Ext.refl _ _) rfl⟩
  | _ => cases hz
theorem oA_any : OpA S false (rAny S.K) (A1 oAny) := opA1 fun F H x v z Q hF hx hz k => by
  cases x with
  | lst ds =>
    have hz : (blsOf ds).map (fun ns => D.bl (ns.any id)) = some z := hz
    cases e : blsOf ds with
    | none => rw [e] at hz; cases hz
    | some ns =>
      rw [e] at hz
      cases hz
      have e := blsOf_some e
      subst e
      obtain ⟨a, vs, rfl, _, h1, h2⟩ := hx
      rw [h2.bls] at h1
      exact ⟨a, ns, rfl, .inl (.inl h1), k _ H (Ext.refl _ _) rfl⟩
  | _ => cases hz
def oAbs : D → Option D
  | .int i => some (.int (if i < 0 then -i else i))
  | _ => none
def rAbsX : List V → Hp → VK → Prop := fun xs H Q => ∃ i, xs = [.int i] ∧ Q (.int (if i < 0 then -i else i)) H
theorem oA_abs : OpA S false rAbsX (A1 oAbs) := opA1 fun F H x v z Q hF hx hz k => by
  cases x with
  | int i => cases hz; cases (show v = _ from hx); exact ⟨i, rfl, k _ H (Ext.refl _ _) rfl⟩
  | _ => cases hz
def oStr : D → Option D
  | .int i => if i.natAbs.log2 < 1920 then some (.str (toString i : String)) else none
  | _ => none
def rStrX : List V → Hp → VK → Prop := fun xs H Q => ∃ i : Int, xs = [.int i] ∧ i.natAbs.log2 < 1920 ∧ Q (.str (toString i : String)) H
theorem oA_str : OpA S false rStrX (A1 oStr) := opA1 fun F H x v z Q hF hx hz k => by
  cases x with
  | int i =>
    unfold oStr at hz
    dsimp only at hz
    split at hz
    · cases hz; cases (show v = _ from hx); exact ⟨i, rfl, by assumption, k _ H (Ext.refl _ _) rfl⟩
    · cases hz
  | _ => cases hz
def oInt : D → Option D
  | .int i => some (.int i)
  | .bl b => some (.int (if b then 1 else 0))
  | .str a => if a.length ≤ 640 then (PySem.intText? a).map .int else none
  | _ => none
def rIntB : List V → Hp → VK → Prop := fun xs H Q => (∃ i, xs = [.int i] ∧ Q (.int i) H) ∨ ∃ k, xs = [.bl k] ∧ Q (.int (if k then 1 else 0)) H
def rIntS : List V → Hp → VK → Prop := fun xs H Q => ∃ a n, xs = [.str a] ∧ PySem.intText? a = some n ∧ a.length ≤ 640 ∧ Q (.int n) H
def rIntX : List V → Hp → VK → Prop := fun xs H Q => rIntB xs H Q ∨ rIntS xs H Q
theorem callR_or {X : Cx} {f : Value} {r1 r2 : List V → Hp → VK → Prop} (h1 : CallR X f r1) (h2 : CallR X f r2) : CallR X f (fun xs H Q => r1 xs H Q ∨ r2 xs H Q) := by
  intro pins s σ H xs us Q I r h
  rcases h with h | h
  · exact h1 pins s σ H xs us Q I r h
  · exact h2 pins s σ H xs us Q I r h
theorem call_intX {X : Cx} : CallR X (.type "int") rIntX := callR_or call_int1 call_int_str
theorem oA_int : OpA S false rIntX (A1 oInt) := opA1 fun F H x v z Q hF hx hz k => by
  cases x with
  | int i => cases hz; cases (show v = _ from hx); exact .inl (.inl ⟨i, rfl, k _ H (Ext.refl _ _) rfl⟩)
  | bl i => cases hz; cases (show v = _ from hx); exact .inl (.inr ⟨i, rfl, k _ H (Ext.refl _ _) rfl⟩)
  | str a =>
    unfold oInt at hz
    dsimp only at hz
    split at hz
    · rename_i hl
      cases e : PySem.intText? a with
      | none => rw [e] at hz; cases hz
      | some n =>
        rw [e] at hz
        cases hz; cases (show v = _ from hx); exact .inr ⟨a, n, rfl, e, hl, k _ H (Ext.refl _ _) rfl⟩
    · cases hz
  | _ => cases hz
/-! isinstance of a built-in class -/
def D.tyN : D → Option String
  | .non => some "NoneType"
  | .bl _ => some "bool"
  | .int _ => some "int"
  | .str _ => some "str"
  | .tup _ => some "tuple"
  | .lst _ => some "list"
  | _ => none
def oIsi (T : String) (d : D) : Option D := d.tyN.bind fun n => (kitB n T).map .bl
theorem rep_ty {F : Addr → Prop} {H : Hp} {d : D} {v : V} {n : String} (h : Rep S F H d v) (e : d.tyN = some n) : TyX S.K H v (.type n) := by
  cases d with
  | non => cases e; cases (show v = _ from h); exact .base .non
  | bl b => cases e; cases (show v = _ from h); exact .base (.bl b)
  | int b => cases e; cases (show v = _ from h); exact .base (.int b)
  | str b => cases e; cases (show v = _ from h); exact .base (.str b)
  | tup ds =>
    cases e
    obtain ⟨a, vs, rfl, (h1 | ⟨o, h1⟩) | ⟨o, its, k, h1, h2, _⟩, _⟩ := h
    · exact .base (.tup h1)
    · exact .fTuple h1
    · exact .kTuple h1 h2
  | lst ds =>
    cases e
    obtain ⟨a, vs, rfl, _, h1, _⟩ := h
    exact .base (.lst h1)
  | _ => cases e
theorem ref_isi {O P : List Nat} {E : XK} {μ : Mo} {fa : Bool} {ta : TE} {ma : EM} {T : String} (ha : RefE S O P E μ fa ta ma) : RefE S O P E μ false (tCB (rIsi S.K) (tCons ta (tCons (tC (.ty T)) tNil))) (e1 (oIsi T) ma) := by
  refine ref_op1 (r := fun x H1 Q => ∃ (y c : V) (t u : Value) (b : Bool), [x, V.ty T] = [y, c] ∧ ClsV c u ∧ TyX S.K H1 y t ∧ PySem.W.kitOne S.K t u = some b ∧ Q (.bl b) H1) (f := oIsi T) (fun F H x v z Q hF hx hz k => ?_) ha
  obtain ⟨n, e1, e2⟩ := Option.bind_eq_some_iff.mp hz
  cases e : kitB n T with
  | none => rw [e] at e2; cases e2
  | some b =>
    rw [e] at e2
    cases e2
    exact ⟨v, _, _, _, b, rfl, .ty T, rep_ty hx e1, kit_ty e, k _ H (Ext.refl _ _) rfl⟩
end
end Mir
/-! MirJ -/
namespace PySem
open Sem (wp)
set_option maxHeartbeats 1000000 in
theorem meets_enumerate_newB1 {v : Value} {o : Obj} {H : Heap → Prop} (B : Begins v o H) :
    Meets (Builtin.«enumerate.__new__» ⟨[.type "enumerate", v], []⟩) (fun _ R s => H s.heap ∧
      R (.ok (.ret (.ref (s.heap.push o).objs.size))) { s with heap := (s.heap.push o).push { cls := .type "enumerate", data := .fields #[.none, .bool false, .ref s.heap.objs.size, rawInt 0, .none, .none] } }) :=
  .of_wp fun prog w A R s h => by
    obtain ⟨hp, g, d, tk, os⟩ := s; obtain ⟨h1, h⟩ := h
    have hsub := sub_enumerate
    have q1 : ∀ {A' : Around} {E : Value → Shared → Prop} {Q : Value → Shared → Prop}, Q (.ref hp.objs.size) ⟨hp.push o, g, d, tk, os⟩ → wpAny (model prog w) A' (pyIter v) Q E ⟨hp, g, d, tk, os⟩ :=
      fun q => B.iter prog w _ _ ⟨hp, g, d, tk, os⟩ _ h1 q
    wp_walk using q1
    refine wpAny_stack_any fun st => wpAny_pure ?_
    split
    · rename_i c _ _ _ _ _
      cases (c == Value.type "enumerate")
      · wp_walk using q1
        exact ⟨_, rfl, h⟩
      · wp_walk using q1
        exact ⟨_, rfl, h⟩
    · wp_walk using q1
      exact ⟨_, rfl, h⟩
section
variable {prog : Program} {w : World} {A : Around} {E : Value → Shared → Prop} {s : Shared}
theorem enum_begins1 {v : Value} {o : Obj} {H : Heap → Prop} {Q : Value → Shared → Prop} (B : Begins v o H) (h1 : H s.heap)
    (h : ∀ h', IsEnum h' (s.heap.objs.size + 1) s.heap.objs.size 0 .none → h'.get? s.heap.objs.size = some o → h'.objs.size = s.heap.objs.size + 2 →
      (∀ b o, s.heap.get? b = some o → h'.get? b = some o) → Q (.ref (s.heap.objs.size + 1)) { s with heap := h' }) :
    wpAny (model prog w) A (call (.type "enumerate") [v]) Q E s := by
  refine callType_new F.called_enumerate (by decide) (F.typeCall_enumerate_1 _) (F.newCall_enumerate_1 _) (fun obj => F.args_object_init_2 obj _) F.entry_enumerate_new
    (meets_enumerate_newB1 B) ⟨h1, ?_⟩
  have hz : (s.heap.push o).objs.size = s.heap.objs.size + 1 := Heap.size_push ..
  show _ ∧ _
  rw [hz]
  have he : IsEnum ((s.heap.push o).push { cls := .type "enumerate", data := .fields #[.none, .bool false, .ref s.heap.objs.size, rawInt 0, .none, .none] }) (s.heap.objs.size + 1) s.heap.objs.size 0 .none := by
    have := Heap.get?_push_size (s.heap.push o) (o := { cls := .type "enumerate", data := .fields #[.none, .bool false, .ref s.heap.objs.size, rawInt 0, .none, .none] }) rfl
    rw [hz] at this; exact this
  refine ⟨⟨_, he, rfl⟩, h _ he (Heap.get?_push_of_some _ (Heap.get?_push_size _ B.free)) (by rw [Heap.size_push, hz]) fun b o x => Heap.get?_push_of_some _ (Heap.get?_push_of_some _ x)⟩
end
end PySem
namespace L2
open PySem PySem.Spec PyProof.Rows
/-! ### what is walked: a list or a tuple -/
section
variable {X : Cx} {tg : Expr}
def iSeqX (K : PySem.W.Frag) (tl : TE) : TI := fun σ H R => tl σ H fun x H1 => (∃ a, x = .ref a ∧ (∃ xs, SqL K H1 a xs) ∧ R (Itl K a) H1) ∨ ((∃ a, x = .ref a ∧ (∃ xs, SqT K H1 a xs) ∧ R (Itt K a) H1) ∨ ∃ z, x = .str z ∧ R (Its z) H1)
theorem pi_seqX {l : Expr} {tl : TE} (hl : PE X l tl) : PI X tg l (iSeqX X.K tl) := by
  refine ⟨fun pins s σ H R I h => ?_⟩
  refine thn (hl.run pins s σ H _ I h) fun v s1 ⟨x, H1, I1, r1, q1⟩ => ?_
  rcases q1 with ⟨a, e, ⟨xs, hq⟩, q⟩ | ⟨a, e, ⟨xs, hq⟩, q⟩ | ⟨x, ex, q⟩
  · subst e
    cases r1
    obtain ⟨its, rv, p, hz⟩ := I1.list hq
    refine wpAny_pyIter_list p.isList ?_
    refine ⟨s1.heap.objs.size, [s1.heap.objs.size], _, _, H1, rfl, I1.kept (t' := s1.toks) fun b o e => Heap.get?_push_of_some _ e, turn_list a _, ⟨_, Heap.get?_push_size _ rfl, rfl, rfl⟩, fun b hb => ?_, q⟩
    have e : b = s1.heap.objs.size := by simpa using hb
    subst e
    exact I1.fpOk (Nat.le_refl _) (I1.hok.fresh (Nat.le_refl _))
  · subst e
    cases r1
    obtain ⟨its, rv, p, hz⟩ := I1.tuple hq
    refine wpAny_pyIter_tuple (show s1.heap.IsTuple a its.toArray from p) ?_
    refine ⟨s1.heap.objs.size, [s1.heap.objs.size], _, _, H1, rfl, I1.kept (t' := s1.toks) fun b o e => Heap.get?_push_of_some _ e, turn_tuple a _, ⟨_, Heap.get?_push_size _ rfl, rfl, rfl⟩, fun b hb => ?_, q⟩
    have e : b = s1.heap.objs.size := by simpa using hb
    subst e
    exact I1.fpOk (Nat.le_refl _) (I1.hok.fresh (Nat.le_refl _))
  · subst ex
    obtain ⟨t, rfl⟩ := r1
    cases ha : x.cps.all (· < 128)
    · exact wpAny_pyIter_wide ha (pi_one (tk := s1.toks) I1 _ (turn_str _ x t "str_iterator" (.inr rfl)) ⟨_, Heap.get?_push_size _ rfl, rfl, rfl⟩ q)
    · exact wpAny_pyIter_ascii ha (pi_one (tk := s1.toks) I1 _ (turn_str _ x t "str_ascii_iterator" (.inl rfl)) ⟨_, Heap.get?_push_size _ rfl, rfl, rfl⟩ q)
/-! enumerate of a tuple -/
def IteT (K : PySem.W.Frag) (a : Addr) : It :=
  ⟨fun i H => ∃ (xs : List V) (x : V), SqT K H a xs ∧ xs[i]? = some x, fun i H v H' => ∃ T x, v = .ref T ∧ H T = none ∧ H' = upd H T (.tup [.int (i : Nat), x]) ∧ ∀ xs, SqT K H a xs → xs[i]? = some x, fun i H => ∃ xs : List V, SqT K H a xs ∧ xs.length ≤ i⟩
theorem turn_enumT {P : Program} {w : World} {K : PySem.W.Frag} {elts : List Expr} {kk : Nat} {tpos : Pos} (a e it : Addr) :
    Turn P w K (.Tuple elts kk tpos) (IteT K a) [e, it] e (fun i h => (∃ old, IsEnum h e it ((i : Nat) : Int) old) ∧ h.IsTupleIter it a i ∧ e ≠ it ∧ a ≠ it ∧ a ≠ e) where
  mem := by simp
  obj := fun i h st b hb => by
    obtain ⟨⟨old, he⟩, ⟨o, ho, hc, hd⟩, _⟩ := st
    have e' : b = e ∨ b = it := by simpa using hb
    rcases e' with z | z
    · rw [z]; exact ⟨_, he, fun v q => nomatch q⟩
    · rw [z]; exact ⟨o, ho, fun v q => by rw [hd] at q; cases q⟩
  keep := fun i h h' st k => let ⟨⟨old, he⟩, hi, hne⟩ := st; ⟨⟨old, k e (by simp) _ he⟩, hi.at fun o q => k it (by simp) o q, hne⟩
  item := by
    intro X hP hw hK hc i pins s σ H E I hf st hg
    subst hP hw hK
    obtain ⟨⟨old, he⟩, hit, hne, hai, hae⟩ := st
    obtain ⟨xs, x, hq, hx⟩ := hg
    obtain ⟨its, rv, p, hz⟩ := I.tuple hq
    obtain ⟨u, hu, ru⟩ := rv.get hx
    have hel : e < s.heap.objs.size := Heap.lt_size he
    have hil : it < s.heap.objs.size := by obtain ⟨_, q, _⟩ := hit; exact Heap.lt_size q
    have hD := Draws.tuple (prog := X.prog) (w := X.w) (A := X.A.in1) (by first | exact I.ok.hd hc | (rw [show X.A.in1.handled = none from I.ok.hd hc])) it a hai its.toArray
    refine wpAny_pyNext_enum_itemC hD he ⟨hit, show s.heap.IsTuple a its.toArray from p⟩ (by rw [List.size_toArray, ← rv.length]; exact (List.getElem?_eq_some_iff.mp hx).1) hne (by simp [hne, Ne.symm hae]) fun x' h' tk hx' ho hit' hT hsz hk => ?_
    have ex : x' = u := by
      have hx' : its.toArray[i]? = some x' := hx'
      have : its.toArray[i]? = some u := by simpa using hu
      rw [this] at hx'
      exact (Option.some.inj hx').symm
    subst ex
    refine ⟨_, rfl, wpAny_letOwnedTupleGo_enum (s := { s with heap := h', toks := tk + 1 }) ho fun h'' he' sb => ?_⟩
    have hT2 : h''.get? s.heap.objs.size = some { cls := .type "tuple", data := .seq #[.int i tk, x'] } := (sb.2 _ (Nat.ne_of_gt hel)).trans hT
    have new : ObjOk X.prog X.w (upd H s.heap.objs.size (.tup [.int (i : Nat), x])) h'' s.heap.objs.size (.tup [.int (i : Nat), x]) :=
      ⟨by show 2 ≤ sizeLine; decide, [.int i tk, x'], .cons ⟨_, rfl⟩ (.cons ru .nil), ⟨_, hT2, rfl, _, rfl⟩⟩
    have I1 : Inv X pins σ (upd H s.heap.objs.size (.tup [.int (i : Nat), x])) { s with heap := h'', toks := tk + 1 } :=
      I.turnedNew (ch := [e, it]) (fun b ob hb q => (sb.2 b (fun z => hb (by simp [z]))).trans (hk b ob (fun z => hb (by simp [z])) (fun z => hb (by simp [z])) q)) hf (Nat.le_refl _) new
    refine ⟨.ref s.heap.objs.size, _, I1, rfl, ⟨_, x, rfl, I.hok.fresh (Nat.le_refl _), rfl, fun ys hy => by rw [I.tuple_inj hy hq]; exact hx⟩, ⟨⟨x', ?_⟩, hit'.1.at fun o q => (sb.2 it (Ne.symm hne)).trans q, hne, hai, hae⟩, fun b hb => ?_⟩
    · have e1 : ((i + 1 : Nat) : Int) = (i : Int) + 1 := by omega
      rw [e1]; exact he'
    · have hb' : b < s.heap.objs.size := by
        have e' : b = e ∨ b = it := by simpa using hb
        rcases e' with z | z
        · rw [z]; exact hel
        · rw [z]; exact hil
      rw [upd_ne (Nat.ne_of_lt hb')]
      exact (hf b hb).1
  done := by
    intro X hP hw hK hc i pins s σ H E I hf st hg
    subst hP hw hK
    obtain ⟨⟨old, he⟩, hit, hne, hai, hae⟩ := st
    obtain ⟨xs, hq, hx⟩ := hg
    obtain ⟨its, rv, p, hz⟩ := I.tuple hq
    obtain ⟨f0, f1, f2, f3, f4, f5⟩ := hf it (by simp)
    have hl := rv.length
    have hT : s.TypeIs (.ref e) "enumerate" := ⟨_, he, rfl⟩
    unfold pyNext
    refine wpAny_bind (wpAny_attempt (wpAny_callSpecial?_slot (name := Str.ofString "__next__") hT F.slot_enumerate_next
      (wpAny_call_entry F.slot_enumerate_next hT F.entry_enumerate_next ?_ (F.args_enumerate_next_1 _))))
    show wpAny _ _ (field (.ref e) 2 >>= _) _ _ _
    refine wpAny_bind (wpAny_field he rfl (x := .ref it) rfl ?_)
    refine wpAny_bind (wpAny_nextOf_tuple_end (by first | exact I.ok.hd hc | (rw [show X.A.in1.handled = none from I.ok.hd hc])) hit (show s.heap.IsTuple a its.toArray from p) (by simp; omega) fun h' x he' hx' => ?_)
    obtain ⟨o, ho, hc'⟩ := hx'
    refine wpAny_bind (wpAny_isInstance (T := "StopIteration") (b := true) ⟨o, ho, hc'⟩ isSubtype_stop ?_)
    exact wpAny_pure ⟨rfl, I.turned (t' := s.toks) (fun b o hb e => he' b o hb e) f0 f1 f3 f4 f5⟩
  self := fun A i s Q E st h => let ⟨⟨_, he⟩, _⟩ := st; wpAny_pyIter_enum he h
def iEnumT (K : PySem.W.Frag) (ta : TA) : TI := fun σ H R => ta σ H fun vs H1 => ∃ a xs, vs = [.ref a] ∧ SqT K H1 a xs ∧ R (IteT K a) H1
theorem pi_enumT {e : Expr} {ta : TA} {p pos tpos : Pos} {elts : List Expr} {kk : Nat} (hg : Gl X "enumerate") (hm : X.mg "enumerate" = none) (ha : PA X [e] ta) (hs : starEach [e] X.env = [(false, eval e X.env)] := by rfl) :
    PI X (.Tuple elts kk tpos) (.Call (.Name "enumerate" p) [e] [] pos) (iEnumT X.K ta) := by
  refine ⟨fun pins s σ H R I h => ?_⟩
  refine Call_ (ld_blt I hg hm boot_enumerate (PyProof.Rows.callWith_type1 (thn (ha.run pos pins s σ H _ I h) fun us s1 ⟨vs, H1, I1, r1, q1⟩ => ?_) hs rfl))
  obtain ⟨a, xs, ex, hq, q⟩ := q1
  subst ex
  cases r1 with
  | cons r rr =>
    cases rr
    cases r
    obtain ⟨its, rv, p', hz⟩ := I1.tuple hq
    have hal : a < s1.heap.objs.size := by obtain ⟨_, q, _⟩ := (show s1.heap.IsTuple a its.toArray from p'); exact Heap.lt_size q
    refine enum_begins1 (begins_tuple a its.toArray) (show s1.heap.IsTuple a its.toArray from p') fun h' he hit hsz hk => wpAny_pyIter_enum he ?_
    have I2 : Inv X pins σ H1 { s1 with heap := h' } := I1.kept (t' := s1.toks) hk
    refine ⟨s1.heap.objs.size + 1, [s1.heap.objs.size + 1, s1.heap.objs.size], _, _, H1, rfl, I2, turn_enumT a (s1.heap.objs.size + 1) s1.heap.objs.size, ⟨⟨.none, he⟩, ⟨_, hit, rfl, rfl⟩, Nat.succ_ne_self _, Nat.ne_of_lt hal, Nat.ne_of_lt (Nat.lt_succ_of_lt hal)⟩, fun b hb => ?_, q⟩
    have e' : b = s1.heap.objs.size + 1 ∨ b = s1.heap.objs.size := by simpa using hb
    have hle : s1.heap.objs.size ≤ b := by
      rcases e' with z | z
      · rw [z]; exact Nat.le_add_right _ _
      · rw [z]; exact Nat.le_refl _
    exact I1.fpOk hle (I1.hok.fresh hle)
/-! sorted of pairs -/
def rSortedPT (K : PySem.W.Frag) : List V → Hp → VK → Prop := fun vs H Q => (∀ (a : Addr) (xs ys : List V), SqT K H a xs → SqT K H a ys → xs = ys) → ∃ (a : Addr) (xs : List V) (k : V → Int × Int), vs = [V.ref a] ∧ SqL K H a xs ∧ (∀ x ∈ xs, ∃ t, x = V.ref t ∧ SqT K H t [.int (k x).1, .int (k x).2]) ∧
  ∀ ys p, SrtO.Srtd (ltP k) ys → SrtO.Stb (ltP k) ys xs → H p = none → Q (.ref p) (upd H p (.lst ys))
theorem cr_sortedPT : CallR X (.builtin "sorted") (rSortedPT X.K) := by
  intro pins s σ H vs us Q I r h
  replace h := h fun a xs ys h1 h2 => I.tuple_inj h1 h2
  obtain ⟨a, xs, k, rfl, hs, hx, q⟩ := h
  obtain ⟨its, rv, hl, hz⟩ := I.list hs
  obtain ⟨u, rfl, ru⟩ := vals1 r
  obtain rfl : u = Value.ref a := ru
  obtain ⟨e1, e2⟩ := refs_back rv fun x m => by
    obtain ⟨t, e, _⟩ := hx x m
    exact ⟨t, e⟩
  refine SrtO.sorted_pairsO (k := fun u => k (backV u)) hl.isList (by rw [← rv.length]; exact hz) (fun v hv => ?_) fun h' d out h1 h2 kp hd hn => ?_
  · obtain ⟨t, rfl⟩ := e2 v hv
    have hm : V.ref t ∈ xs := by rw [e1]; exact List.mem_map.mpr ⟨_, hv, rfl⟩
    obtain ⟨t', e, ht⟩ := hx _ hm
    cases e
    obtain ⟨its2, r2, ⟨o, ho, hc, n, hd⟩, _⟩ := I.tuple ht
    obtain ⟨u1, u2, rfl, ri, rj⟩ := vals2 r2
    obtain ⟨t1, rfl⟩ := ri
    obtain ⟨t2, rfl⟩ := rj
    exact ⟨t, o, t1, t2, n, rfl, ho, hc, hd⟩
  · have h3 : ∀ u ∈ out, ∃ a, u = Value.ref a := fun u hu => e2 u (h2.perm.mem_iff.mp hu)
    obtain ⟨n, hn⟩ := hn
    have hb : SrtO.Stb (ltP k) (out.map backV) xs := by
      rw [e1]
      exact SrtO.Stb.map (ltP_swo k) backV h2
    refine ⟨.ref d, upd H d (.lst (out.map backV)), I.laid (t' := s.toks) kp hd ⟨?_, out, n, vals_back h3, hn⟩, rfl, q _ d (SrtO.srtd_map h1) hb (I.hok.fresh hd)⟩
    rw [hb.len]
    exact hz
theorem mtR_of {id : String} {r : V → List V → Hp → VK → Prop} (h : MtM X id r) : MtR X id r := h
end
end L2
/-! MirK -/
namespace Mir
open PySem PySem.Spec PyProof.Rows L2
/-! ### more of what is walked -/
def D.items : D → Option (List D)
  | .lst ds => some ds
  | .tup ds => some ds
  | .str x => some (x.cps.toList.map fun c => .str ⟨#[c]⟩)
  | _ => none
def iSeqM (a : EM) : IM := fun env => (a env).bind fun x e => .opt x.items e
def iSeqP (a : EM) : IM := fun env => (a env).bind fun x e => (Out.opt x.items e).bind fun ds e => if D.pureL ds then .ok ds e else .bad
section
variable {S : Sc} {O P : List Nat} {E : XK} {μ : Mo} {fr fa fb : Bool} {ta tb : TE} {ma mb : EM} {t u : TS} {m n : SM} {tt : TT} {mt : TM}
theorem itok_str {F : Addr → Prop} {H : Hp} {x : Str} : ItOk S μ F H (Its x) (x.cps.toList.map fun c => .str ⟨#[c]⟩) := fun F' H' w al => by
  have hl : (x.cps.toList.map fun c => D.str ⟨#[c]⟩).length = x.cps.size := by rw [List.length_map, Array.length_toList]
  refine ⟨fun k hk => ?_, fun k y H3 d q hd => ?_, fun k hk => ?_⟩
  · rw [hl] at hk
    exact hk
  · obtain ⟨rfl, c, e1, rfl⟩ := q
    rw [List.getElem?_map, Array.getElem?_toList, e1] at hd
    cases hd
    exact ⟨Ext.refl _ _, rfl⟩
  · rw [hl] at hk
    exact hk
theorem pureL_strs (l : List Nat) : D.pureL (l.map fun c => D.str ⟨#[c]⟩) = true := by
  induction l with
  | nil => rfl
  | cons c l ih => exact ih
theorem ri_seq (ha : RefE S O P E none fa ta ma) : RefI S O P E none (iSeqX S.K ta) (iSeqM ma) := by
  intro R σ H fp env I Q h
  refine ha R σ H fp env I _ ((Want.bind h).mono fun x e1 H1 f1 I1 s1 h1 v hv _ => ?_)
  obtain ⟨ds, hd⟩ := want_some h1
  rw [hd] at h1
  have hv := hv.rep
  cases x with
  | lst es =>
    cases hd
    obtain ⟨a, vs, rfl, nf, r1, r2⟩ := hv
    exact .inl ⟨a, rfl, ⟨vs, .inl (.inl r1)⟩, h1 H1 f1 I1 Stp.refl _ (itok_list (fun _ => nf) (.inl r1) r2)⟩
  | tup es =>
    cases hd
    obtain ⟨a, vs, rfl, r1, r2⟩ := hv
    exact .inr (.inl ⟨a, rfl, ⟨vs, r1⟩, h1 H1 f1 I1 Stp.refl _ (itok_tup r1 r2)⟩)
  | str z =>
    cases hd
    exact .inr (.inr ⟨z, hv, h1 H1 f1 I1 Stp.refl _ itok_str⟩)
  | _ => cases hd
theorem ri_seqP {U : List Nat} (ha : RefE S O P E (some U) fa ta ma) : RefI S O P E (some U) (iSeqX S.K ta) (iSeqP ma) := by
  intro R σ H fp env I Q h
  refine ha R σ H fp env I _ ((Want.bind h).mono fun x e1 H1 f1 I1 s1 h1 v hv _ => ?_)
  have h5 := Want.bind h1
  obtain ⟨ds, hd⟩ := want_some h5
  rw [hd] at h5
  have hw := hv.rep
  have h6 := h5 H1 f1 I1 Stp.refl
  dsimp only at h6
  by_cases c : D.pureL ds = true
  · rw [if_pos c] at h6
    cases x with
    | lst es =>
      cases hd
      obtain ⟨a, vs, rfl, nf, r1, r2⟩ := hw
      exact .inl ⟨a, rfl, ⟨vs, .inl (.inl r1)⟩, h6 H1 f1 I1 Stp.refl _ (itok_list (fun z => nomatch z) (.inl r1) (repL_pure _ _ c r2))⟩
    | tup es =>
      cases hd
      obtain ⟨a, vs, rfl, r1, r2⟩ := hw
      exact .inr (.inl ⟨a, rfl, ⟨vs, r1⟩, h6 H1 f1 I1 Stp.refl _ (itok_tup r1 (repL_pure _ _ c r2))⟩)
    | str z =>
      cases hd
      exact .inr (.inr ⟨z, hw, h6 H1 f1 I1 Stp.refl _ itok_str⟩)
    | _ => cases hd
  · rw [if_neg c] at h6
    exact h6.elim
theorem itok_enumT {F : Addr → Prop} {H : Hp} {a : Addr} {vs : List V} {ds : List D} (h1 : SqT S.K H a vs) (h2 : RepL S F H ds vs) : ItOk S μ F H (IteT S.K a) (enumL 0 ds) := fun F' H' w al => by
  have w := w.fwd
  have r := sqt_ext w.1 h1
  refine ⟨fun n hn => ?_, fun n x H3 d y hd => ?_, fun n hn => ⟨vs, r, by rw [h2.length]; rw [enumL_len] at hn; exact hn⟩⟩
  · rw [enumL_len] at hn
    obtain ⟨v, e, _⟩ := h2.get (List.getElem?_eq_getElem hn)
    exact ⟨vs, v, r, e⟩
  · obtain ⟨T, z, rfl, nT, rfl, k⟩ := y
    obtain ⟨d0, e0, rfl⟩ := enumL_get hd
    obtain ⟨v, e, q⟩ := h2.get e0
    have := (k vs r).symm.trans e
    cases this
    refine ⟨Ext.new nT, T, _, rfl, .inl (.inl upd_same), ?_⟩
    rw [Nat.zero_add]
    exact .cons rfl (.cons ((Rep.fwd w _ _ q).grow (Ext.new nT)) .nil)
theorem ri_enumT (ha : RefE S O P E none fa ta ma) : RefI S O P E none (L2.iEnumT S.K (tCons ta tNil)) (Mir.iEnumT ma) := by
  intro R σ H fp env I Q h
  refine ha R σ H fp env I _ ((Want.bind h).mono fun x e1 H1 f1 I1 s1 h1 v hv _ => ?_)
  have h5 := Want.bind h1
  obtain ⟨ds, hd⟩ := want_some h5
  rw [hd] at h5
  have hw := hv.rep
  cases x with
  | tup es =>
    cases hd
    obtain ⟨a, vs, rfl, r1, r2⟩ := hw
    exact ⟨a, vs, rfl, r1, (h5 H1 f1 I1 Stp.refl) H1 f1 I1 Stp.refl _ (itok_enumT r1 r2)⟩
  | _ => cases hd
/-! ### sorted -/
def pairD (p : Int × Int) : D := .tup [.int p.1, .int p.2]
def pairOf : D → Option (Int × Int)
  | .tup [.int i, .int j] => some (i, j)
  | _ => none
theorem pairOf_some {d : D} {p : Int × Int} (h : pairOf d = some p) : d = pairD p := by
  unfold pairOf at h
  split at h
  · cases h; rfl
  · cases h
def pairsOf : List D → Option (List (Int × Int))
  | [] => some []
  | d :: ds => (pairOf d).bind fun p => (pairsOf ds).map (p :: ·)
theorem pairsOf_some : ∀ {ds : List D} {ps : List (Int × Int)}, pairsOf ds = some ps → ds = ps.map pairD
  | [], ps, h => by cases h; rfl
  | d :: ds, ps, h => by
    have h : ((pairOf d).bind fun p => (pairsOf ds).map (p :: ·)) = some ps := h
    obtain ⟨p, z1, z2⟩ := Option.bind_eq_some_iff.mp h
    cases z : pairsOf ds with
    | none => rw [z] at z2; cases z2
    | some rs =>
      rw [z] at z2
      cases z2
      rw [pairsOf_some z, pairOf_some z1]; rfl
@[simp] theorem pairsOf_map (ps : List (Int × Int)) : pairsOf (ps.map pairD) = some ps := by
  induction ps with
  | nil => rfl
  | cons p ps ih =>
    show ((pairOf (pairD p)).bind fun p => (pairsOf (ps.map pairD)).map (p :: ·)) = _
    rw [ih]; rfl
def leB (p q : Int × Int) : Bool := !SrtO.lexB q p
theorem leB_iff {p q : Int × Int} : leB p q = true ↔ p.1 < q.1 ∨ (p.1 = q.1 ∧ p.2 ≤ q.2) := by
  unfold leB SrtO.lexB
  split <;> simp <;> omega
def sortI (ns : List Int) : List Int := ns.mergeSort fun a b => decide (a ≤ b)
def sortP (ps : List (Int × Int)) : List (Int × Int) := ps.mergeSort leB
theorem sortI_perm (ns : List Int) : (sortI ns).Perm ns := List.mergeSort_perm _ _
theorem sortP_perm (ns : List (Int × Int)) : (sortP ns).Perm ns := List.mergeSort_perm _ _
theorem sortI_le (ns : List Int) : (sortI ns).Pairwise (· ≤ ·) := by
  have h := List.pairwise_mergeSort (le := fun a b : Int => decide (a ≤ b)) (fun a b c h1 h2 => by simp at *; omega) (fun a b => by simp; omega) ns
  exact h.imp fun h => by simpa using h
theorem sortP_le (ns : List (Int × Int)) : (sortP ns).Pairwise (fun p q => leB p q = true) :=
  List.pairwise_mergeSort (le := leB) (fun a b c h1 h2 => by rw [leB_iff] at *; omega) (fun a b => by rw [Bool.or_eq_true, leB_iff, leB_iff]; omega) ns
theorem sortI_uniq {ns ms : List Int} (h1 : ms.Perm ns) (h2 : ms.Pairwise (· ≤ ·)) : ms = sortI ns :=
  List.Perm.eq_of_pairwise (le := (· ≤ ·)) (fun a b _ _ x y => by omega) h2 (sortI_le ns) (h1.trans (sortI_perm ns).symm)
theorem sortP_uniq {ns ms : List (Int × Int)} (h1 : ms.Perm ns) (h2 : ms.Pairwise (fun p q => leB p q = true)) : ms = sortP ns :=
  List.Perm.eq_of_pairwise (le := fun p q => leB p q = true) (fun a b _ _ x y => by
    rw [leB_iff] at x y
    exact Prod.ext (by omega) (by omega)) h2 (sortP_le ns) (h1.trans (sortP_perm ns).symm)
def oSort : D → Option D
  | .lst ds => match intsOf ds with
    | some ns => some (.lst ((sortI ns).map .int))
    | none => (pairsOf ds).map fun ps => .lst ((sortP ps).map pairD)
  | _ => none
def rSortX (K : PySem.W.Frag) : List V → Hp → VK → Prop := fun xs H Q => rSortedI K xs H Q ∨ rSortedPT K xs H Q
theorem cr_sortX {X : Cx} : CallR X (.builtin "sorted") (rSortX X.K) := callR_or cr_sortedI cr_sortedPT
theorem repL_map {F : Addr → Prop} {H : Hp} {f : V → D} : ∀ {vs : List V}, (∀ v ∈ vs, Rep S F H (f v) v) → RepL S F H (vs.map f) vs
  | [], _ => .nil
  | v :: vs, h => .cons (h v List.mem_cons_self) (repL_map fun u m => h u (List.mem_cons_of_mem _ m))
theorem repL_mem {F : Addr → Prop} {H : Hp} : ∀ {ds : List D} {vs : List V}, RepL S F H ds vs → ∀ v ∈ vs, ∃ d ∈ ds, Rep S F H d v
  | [], vs, h, v, m => by cases (show vs = [] from h); cases m
  | d :: ds, vs, h, v, m => by
    obtain ⟨u, r, rfl, h1, h2⟩ := h
    rcases List.mem_cons.mp m with e | e
    · subst e
      exact ⟨d, List.mem_cons_self, h1⟩
    · obtain ⟨d', m', q⟩ := repL_mem h2 v e
      exact ⟨d', List.mem_cons_of_mem _ m', q⟩
theorem sqt_det {K : PySem.W.Frag} {H : Hp} {a : Addr} {p q : Int × Int} (h1 : SqT K H a [.int p.1, .int p.2]) (h2 : SqT K H a [.int q.1, .int q.2]) (hd : ∀ xs ys, SqT K H a xs → SqT K H a ys → xs = ys) : p = q := by
  have e := hd _ _ h1 h2
  simp only [List.cons.injEq, V.int.injEq, and_true] at e
  exact Prod.ext e.1 e.2
/-- what is known of the pairs, by a choice -/
theorem pairs_choice {F : Addr → Prop} {H : Hp} : ∀ {ps : List (Int × Int)} {vs : List V}, RepL S F H (ps.map pairD) vs → (∀ (a : Addr) (xs ys : List V), SqT S.K H a xs → SqT S.K H a ys → xs = ys) → ∃ k : V → Int × Int, vs.map k = ps ∧ ∀ x ∈ vs, ∃ t, x = V.ref t ∧ SqT S.K H t [.int (k x).1, .int (k x).2] := by
  intro ps vs h hd
  have key : ∀ v : V, ∃ p : Int × Int, (∃ q : Int × Int, ∃ t, v = V.ref t ∧ SqT S.K H t [.int q.1, .int q.2]) → ∃ t, v = V.ref t ∧ SqT S.K H t [.int p.1, .int p.2] := fun v => by
    by_cases c : ∃ q : Int × Int, ∃ t, v = V.ref t ∧ SqT S.K H t [.int q.1, .int q.2]
    · obtain ⟨q, hq⟩ := c
      exact ⟨q, fun _ => hq⟩
    · exact ⟨(0, 0), fun z => absurd z c⟩
  refine ⟨fun v => Classical.choose (key v), ?_, fun x m => ?_⟩
  · induction ps generalizing vs with
    | nil => cases (show vs = [] from h); rfl
    | cons p ps ih =>
      obtain ⟨v, r, rfl, h1, h2⟩ := h
      rw [List.map_cons, ih h2]
      obtain ⟨a, us, rfl, q1, q2⟩ := h1
      have e := RepL.ints (ns := [p.1, p.2]) q2
      subst e
      have q1 : SqT S.K H a [.int p.1, .int p.2] := q1
      obtain ⟨t, e, q3⟩ := Classical.choose_spec (key (.ref a)) ⟨p, a, rfl, q1⟩
      cases e
      rw [sqt_det q3 q1 (hd a)]
  · obtain ⟨d, m', hr⟩ := repL_mem h x m
    obtain ⟨p, _, rfl⟩ := List.mem_map.mp m'
    obtain ⟨a, us, rfl, q1, q2⟩ := hr
    have e := RepL.ints (ns := [p.1, p.2]) q2
    subst e
    exact Classical.choose_spec (key (.ref a)) ⟨p, a, rfl, q1⟩
theorem repL_ofMap {F : Addr → Prop} {H : Hp} {k : V → Int × Int} {vs us : List V} (h : ∀ x ∈ vs, ∃ t, x = V.ref t ∧ SqT S.K H t [.int (k x).1, .int (k x).2]) (hs : ∀ x ∈ us, x ∈ vs) : RepL S F H ((us.map k).map pairD) us := by
  rw [List.map_map]
  refine repL_map fun v m => ?_
  obtain ⟨t, rfl, q⟩ := h v (hs v m)
  exact ⟨t, _, rfl, q, RepL.ofInts (ns := [(k (.ref t)).1, (k (.ref t)).2])⟩
theorem oA_sorted : OpA S true (rSortX S.K) (A1 oSort) := opA1 fun F H x v z Q hF hx hz k => by
  cases x with
  | lst ds =>
    unfold oSort at hz
    dsimp only at hz
    obtain ⟨a, vs, rfl, nf, h1, h2⟩ := hx
    split at hz
    · rename_i ns e
      cases hz
      have e := intsOf_some e
      subst e
      rw [h2.ints] at h1
      refine .inl ⟨a, ns, rfl, .inl (.inl h1), fun ns' p hp hs hn => k _ _ (Ext.new hn) ⟨p, _, _, rfl, hn, rfl, upd_same, fun z => hF p z hn, ?_⟩⟩
      rw [sortI_uniq hp hs]
      exact RepL.ofInts
    · cases e : pairsOf ds with
      | none => rw [e] at hz; cases hz
      | some ps =>
        rw [e] at hz
        cases hz
        have e := pairsOf_some e
        subst e
        refine .inr fun hd => ?_
        obtain ⟨kk, k1, k2⟩ := pairs_choice h2 hd
        refine ⟨a, vs, kk, rfl, .inl (.inl h1), k2, fun ys p hs hb hn => k _ _ (Ext.new hn) ⟨p, ys, _, rfl, hn, rfl, upd_same, fun z => hF p z hn, ?_⟩⟩
        have e2 : ys.map kk = sortP ps := by
          refine sortP_uniq ?_ ?_
          · rw [← k1]
            exact hb.perm.map kk
          · refine List.pairwise_map.mpr (hs.imp fun {x y} h => ?_)
            unfold leB
            rw [show SrtO.lexB (kk y) (kk x) = false from h]; rfl
        rw [← e2]
        exact (repL_ofMap k2 fun x m => hb.perm.mem_iff.mp m).grow (Ext.new hn)
  | _ => cases hz
/-! ### a op b op c -/
def eChain (f g : D → D → Option D) (a b c : EM) : EM := fun env => (a env).bind fun x e => (b e).bind fun y e1 => (Out.opt ((f x y).bind fun z => match z with | .bl k => some k | _ => none) e1).bind fun k e1 => if k then (c e1).bind fun z e2 => .opt (g y z) e2 else .ok (.bl false) e1
theorem ref_chain {r r' : R2} {f g : D → D → Option D} {tc : TE} {mc : EM} (hr : ∀ F H x y v u z Q, (∀ a, F a → H a ≠ none) → Rep S F H x v → Rep S F H y u → f x y = some z → (∀ w, Rep S F H z w → Q w H) → r v u H Q) (hr' : Op2 S false r' g)
    (ha : RefE S O P E μ fa ta ma) (hb : RefE S O P E μ fb tb mb) (hc : RefE S O P E μ fr tc mc) : RefE S O P E μ false (tChain r r' ta tb tc) (eChain f g ma mb mc) := by
  intro R σ H fp env I Q h
  refine ha R σ H fp env I _ ((Want.bind h).mono fun x e1 H1 f1 I1 s1 h1 v hv _ => ?_)
  refine hb R σ H1 f1 e1 I1 _ ((Want.bind h1).mono fun y e2 H2 f2 I2 s2 h2 u hu _ => ?_)
  have h5 := Want.bind h2
  obtain ⟨k, hk⟩ := want_some h5
  rw [hk] at h5
  obtain ⟨z, z1, z2⟩ := Option.bind_eq_some_iff.mp hk
  cases z with
  | bl b =>
    cases z2
    refine hr (FM R f2 μ) H2 x y v u _ _ (fun a q => I2.fm q) (Rep.fwd s2.fwd _ _ hv.rep) hu.rep z1 fun w hw => ?_
    cases (show w = _ from hw)
    have h6 := h5 H2 f2 I2 Stp.refl
    refine ⟨k, rfl, ?_⟩
    cases k with
    | false => exact h6 H2 f2 I2 Stp.refl _ rfl sep0
    | true =>
      simp only [if_true] at h6
      refine hc R σ H2 f2 e2 I2 _ ((Want.bind h6).mono fun y' e3 H3 f3 I3 s3 h3 u' hu' _ => ?_)
      obtain ⟨z, hz⟩ := want_some h3
      exact hr' (FM R f3 μ) H3 y y' u u' z Q (fun a q => I3.fm q) (Rep.fwd s3.fwd _ _ hu.rep) hu'.rep hz fun w H' ex hk => want_opt h3 hz I3 (fun a q => ((s1.trans s2).trans s3).dom q) ex hk
  | _ => cases z2
def Op2K (S : Sc) (r : R2) (f : D → D → Option D) : Prop := ∀ F H x y v u z Q, (∀ a, F a → H a ≠ none) → Rep S F H x v → Rep S F H y u → f x y = some z → (∀ w, Rep S F H z w → Q w H) → r v u H Q
theorem opk_I0 {g : Int → Int → V} {f : Int → Int → Option D} (h : ∀ i j z, f i j = some z → ∀ F H, Rep S F H z (g i j)) : Op2K S (rI0 g) (oI f) := fun F H x y v u z Q hF hx hy hz k => by
  cases x with
  | int i =>
    cases y with
    | int j =>
      cases (show v = _ from hx)
      cases (show u = _ from hy)
      exact ⟨i, j, rfl, rfl, k _ (h i j z hz F H)⟩
    | _ => cases hz
  | _ => cases hz
theorem ok_leI : Op2K S rLeI oLeI := opk_I0 fun i j z h F H => by cases h; rfl
theorem ok_ltI : Op2K S rLtI oLtI := opk_I0 fun i j z h F H => by cases h; rfl
theorem ok_geI : Op2K S rGeI oGeI := opk_I0 fun i j z h F H => by cases h; rfl
theorem ok_gtI : Op2K S rGtI oGtI := opk_I0 fun i j z h F H => by cases h; rfl
/-! ### x op= e -/
def sAug (i : Nat) (a : EM) (f : Int → Int → Int) : SM := fun env => match env[i]? with
  | some (some (.int x)) => (a env).fl fun d e => match d with
    | .int y => .next (e.set i (some (.int (f x y))))
    | _ => .bad
  | _ => .bad
theorem rs_aug {i : Nat} {f : Int → Int → Int} (hO : i ∉ O) (ha : RefE S O P E none fa ta ma) : RefS S O P E fr (tAug i ta (ipI f)) (sAug i ma f) := by
  intro R σ H fp env I D h
  unfold sAug at h
  split at h
  · rename_i x0 e0
    obtain ⟨v, h1, h2⟩ := I.val i _ e0 hO
    cases (show v = _ from h2)
    refine ⟨_, h1, ?_⟩
    refine ha R σ H fp env I _ ((want_fl h).mono fun d e1 H1 f1 I1 s1 hp v hv _ => ?_)
    split at hp
    · cases (show v = _ from hv.rep)
      exact ⟨x0, _, rfl, rfl, hp _ H1 f1 (I1.set hO (show Rep S _ _ (.int _) (.int _) from rfl)) (Fwd.refl _ _)⟩
    · exact hp.elim
  · exact h.elim
/-! ### x, y = a, b: y an own list -/
def sParO (i : Nat) (a : EM) (j : Nat) (b : EM) : SM := fun env => (a env).fl fun d e => (b e).fl fun c e1 => if j < e1.length then .next ((e1.set i (some d)).set j (some c)) else .bad
def sPar (i : Nat) (a : EM) (j : Nat) (b : EM) : SM := fun env => (a env).fl fun d e => (b e).fl fun c e1 => .next ((e1.set i (some d)).set j (some c))
theorem rs_par {i j : Nat} (hi : i ∉ O) (hj : j ∉ O) (ha : RefE S O P E none fa ta ma) (hb : RefE S O P E none fb tb mb) : RefS S O P E fr (tPar i j (tCons ta (tCons tb tNil))) (sPar i ma j mb) := by
  intro R σ H fp env I D h
  refine ha R σ H fp env I _ ((want_fl h).mono fun d e1 H1 f1 I1 s1 hp v hv _ => ?_)
  refine hb R σ H1 f1 e1 I1 _ ((want_fl0 hp).mono fun c e2 H2 f2 I2 s2 hq u hu _ => ?_)
  exact ⟨v, u, rfl, hq _ H2 f2 ((I2.set hi (Rep.fwd s2.fwd _ _ hv.rep)).set hj hu.rep) s2.strong⟩
theorem rs_parO {i j : Nat} (hi : i ∉ O) (hj : j ∈ O) (hP : j ∉ P) (ha : RefE S O P E none fa ta ma) (hb : RefE S O P E none true tb mb) : RefS S O P E fr (tPar i j (tCons ta (tCons tb tNil))) (sParO i ma j mb) := by
  intro R σ H fp env I D h
  refine ha R σ H fp env I _ ((want_fl h).mono fun d e1 H1 f1 I1 s1 hp v hv _ => ?_)
  refine hb R σ H1 f1 e1 I1 _ ((want_fl0 hp).mono fun c e2 H2 f2 I2 s2 hq u hu sp => ?_)
  by_cases hl : j < e2.length
  · rw [if_pos hl] at hq
    obtain ⟨a, vs, ds, rfl, new, rfl, ha1, nf, r⟩ := hu
    have Ib := sp rfl a rfl
    have w : ∀ x, (Fs R f2 x ∨ x = a) → Fs (R.plus a) f2 x ∨ H2 x = none := fun x z => .inl (fs_plus.mpr z)
    have n0 : R.H0 a = none := by
      cases q : R.H0 a with
      | none => rfl
      | some o => exact absurd new (I1.dom a (by rw [q]; exact fun z => nomatch z))
    have rv := Rep.fwd s2.fwd _ _ hv.rep
    have rv2 : Rep S (Fs (R.plus a) f2) H2 d v := Rep.fwd ⟨s2.strong.1.mono fun x z => .inr z, fun x z => by
      rcases fs_plus.mp z with z | z
      · exact s2.fwd.2.1 x z
      · exact .inr (by rw [z]; exact new), s2.fwd.2.2⟩ _ _ hv.rep
    have I3 := I2.set hi rv
    have Ib3 := Ib.set hi rv2
    have I4 : Rel S O P R ((σ.set i (some v)).set j (some (.ref a))) H2 (fpSet f2 j [a]) ((e2.set i (some d)).set j (some (.lst ds))) := I3.setOwn hj hP (by rw [List.length_set]; exact hl) n0 nf ha1 r fun k d h1 hk =>
      ⟨fun h2 => let ⟨v, q1, q2⟩ := Ib3.val k d h1 h2; ⟨v, q1, q2.less w⟩,
       fun h2 => let ⟨v, q1, q2⟩ := Ib3.own k d h1 h2; ⟨v, q1, q2.fwd (Ext.refl _ _) w⟩⟩
    refine ⟨v, _, rfl, hq _ H2 _ I4 ⟨s2.strong.1, fun x z => ?_, s2.strong.2.2⟩⟩
    obtain ⟨k, z⟩ := z
    unfold fpSet at z
    split at z
    · cases List.mem_singleton.mp z
      exact .inr new
    · exact s2.strong.2.1 x ⟨k, z⟩
  · rw [if_neg hl] at hq
    exact hq.elim
/-! ### own lists: places -/
def sSetIx (i : Nat) (j : Int) (a : EM) : SM := fun env => (a env).fl fun d e => match e[i]? with
  | some (some (.lst ds)) => match ixN ds.length j with
    | some k => .next (e.set i (some (.lst (ds.set k d))))
    | none => .bad
  | _ => .bad
theorem rs_setIx {i : Nat} {j : Int} (hO : i ∈ O) (ha : RefE S O P E none fa ta ma) : RefS S O P E fr (tAsg ta (gSub (tVar i) (tC (.int j)) rSetL)) (sSetIx i j ma) := by
  intro R σ H fp env I D h
  refine ha R σ H fp env I _ ((want_fl h).mono fun d e1 H1 f1 I1 s1 hp v hv _ => ?_)
  split at hp
  · rename_i ds e2
    obtain ⟨b, vs, x1, x2, x3, x4⟩ := own_lst I1 hO e2
    split at hp
    · rename_i k hk
      obtain ⟨I2, w2⟩ := I1.upd hO e2 x1 (x4.set k hv.rep)
      exact ⟨_, x1, b, vs, j, k, rfl, rfl, x3, by rw [x4.length]; exact hk, hp _ _ _ I2 w2⟩
    · exact hp.elim
  · exact hp.elim
def ePopAt (i : Nat) (j : Int) : EM := fun env => match env[i]? with
  | some (some (.lst ds)) => match seqIndex? j ds.length with
    | some k => match ds[k]? with
      | some d => if -(2 ^ 63) ≤ j ∧ j < 2 ^ 63 then .ok d (env.set i (some (.lst (ds.eraseIdx k)))) else .bad
      | none => .bad
    | none => .bad
  | _ => .bad
theorem ref_popAt {i : Nat} {j : Int} (hO : i ∈ O) : RefE S O P E none false (tBM S.K "list" rPopAt (tVar i) (tCons (tC (.int j)) tNil)) (ePopAt i j) := by
  intro R σ H fp env I Q h
  unfold ePopAt at h
  split at h
  · rename_i ds e2
    obtain ⟨b, vs, x1, x2, x3, x4⟩ := own_lst I hO e2
    split at h
    · rename_i k hk
      split at h
      · rename_i d hd
        split at h
        · rename_i hz
          obtain ⟨v, q1, q2⟩ := x4.get hd
          obtain ⟨I2, w2⟩ := I.upd hO e2 x1 (x4.erase k)
          refine ⟨_, x1, .inl ⟨rfl, vs, .inl (.inl x3)⟩, ?_⟩
          refine ⟨b, vs, j, k, v, rfl, rfl, x3, hz.1, hz.2, by rw [x4.length]; exact hk, q1, h _ fp I2 w2 v (Rep.fwd (adv_fs w2) _ _ q2) sep0⟩
        · exact h.elim
      · exact h.elim
    · exact h.elim
  · exact h.elim
/-! ### x.f = e, x an own thing -/
def sSetFld (i c k : Nat) (a : EM) : SM := fun env => (a env).fl fun d e => match e[i]? with
  | some (some (.ins c' ds)) => if c' = c then (if k = ds.length then .next (e.set i (some (.ins c (ds ++ [d])))) else if k < ds.length then .next (e.set i (some (.ins c (ds.set k d)))) else .bad) else .bad
  | _ => .bad
theorem putF_new : ∀ {fs : List (Str × V)} {f : Str} {v : V}, f ∉ fs.map (·.1) → putF f v fs = fs ++ [(f, v)]
  | [], _, _, _ => rfl
  | (g, x) :: r, f, v, h => by
    have h1 : g ≠ f := fun z => h (by rw [← z]; exact List.mem_cons_self)
    show (if g = f then _ else _) = _
    rw [if_neg h1, putF_new fun z => h (List.mem_cons_of_mem _ z)]
    rfl
theorem putF_at : ∀ {fs : List (Str × V)} {f : Str} {v : V} {k : Nat}, (fs.map (·.1)).Nodup → (fs.map (·.1))[k]? = some f → (putF f v fs).map (·.1) = fs.map (·.1) ∧ (putF f v fs).map (·.2) = (fs.map (·.2)).set k v
  | [], _, _, _, _, h => by simp at h
  | (g, x) :: r, f, v, 0, nd, h => by
    cases (show g = f from by simpa using h)
    simp [putF]
  | (g, x) :: r, f, v, k + 1, nd, h => by
    have nd : ((g :: r.map (·.1)) : List Str).Nodup := nd
    have h : (r.map (·.1))[k]? = some f := h
    have ne : g ≠ f := fun z => (List.nodup_cons.mp nd).1 (by rw [z]; exact List.mem_of_getElem? h)
    obtain ⟨e1, e2⟩ := putF_at (v := v) (List.nodup_cons.mp nd).2 h
    unfold putF
    rw [if_neg ne]
    exact ⟨by rw [List.map_cons, e1]; rfl, by rw [List.map_cons, e2]; rfl⟩
theorem rs_setFld {i c k : Nat} {f : Str} (hC : Cls S.K (S.ca c)) (hN : NoAttr S.K (S.ca c) f) (hf : (S.fn c)[k]? = some f) (nd : (S.fn c).Nodup) (h1000 : (S.fn c).length < 1000) (hO : i ∈ O) (ha : RefE S O P E none fa ta ma) : RefS S O P E fr (sFld S.K (tVar i) ta f) (sSetFld i c k ma) := by
  intro R σ H fp env I D h
  refine ha R σ H fp env I _ ((want_fl h).mono fun d e1 H1 f1 I1 s1 hp v hv _ => ?_)
  have hk : k < (S.fn c).length := (List.getElem?_eq_some_iff.mp hf).1
  split at hp
  · rename_i c' ds e2
    split at hp
    · rename_i ec
      subst ec
      obtain ⟨a, x1, x2, dx, fs, x3, x4, x5⟩ := I1.own i _ e2 hO
      have hlen : fs.length = ds.length := by
        have := x5.length
        rwa [List.length_map] at this
      have hle : fs.length ≤ (S.fn c').length := by
        have := congrArg List.length x4
        rw [List.length_map, List.length_take] at this
        omega
      have ndf : (fs.map (·.1)).Nodup := by
        rw [x4]
        exact nd.sublist (List.take_sublist _ _)
      split at hp
      · rename_i e3
        have hnf : f ∉ fs.map (·.1) := fun z => by
          rw [x4] at z
          obtain ⟨j, hj⟩ := List.mem_iff_getElem?.mp z
          have hj2 := (List.getElem?_eq_some_iff.mp hj).1
          rw [List.length_take] at hj2
          rw [List.getElem?_take_of_lt (by omega)] at hj
          have a1 := (List.getElem?_eq_some_iff.mp hj).2
          have a2 := (List.getElem?_eq_some_iff.mp hf).2
          exact List.pairwise_iff_getElem.mp nd j k (by omega) hk (by omega) (a1.trans a2.symm)
        have hu := I1.updO (o' := .ins (S.ca c') dx (putF f v fs)) (d' := .ins c' (ds ++ [d])) hO e2 x1 x2 x3 trivial fun w => ⟨rfl, dx, _, upd_same, by
          rw [putF_new hnf, List.map_append, x4, List.length_append]
          show _ ++ [f] = _
          rw [← e3]
          show _ = List.take (k + 1) (S.fn c')
          rw [List.take_succ, hf]
          rfl, by
          have e9 : (putF f v fs).map (·.2) = fs.map (·.2) ++ [v] := by rw [putF_new hnf, List.map_append]; rfl
          rw [e9]
          exact RepL.fwd w _ _ (x5.snoc hv.rep)⟩
        exact ⟨_, x1, a, _, dx, fs, rfl, x3, hC, hN, by omega, hp _ _ _ hu.1 hu.2⟩
      · split at hp
        · rename_i e3 e4
          have hat : (fs.map (·.1))[k]? = some f := by
            rw [x4, List.getElem?_take_of_lt e4]
            exact hf
          obtain ⟨p1, p2⟩ := putF_at (v := v) ndf hat
          have hu := I1.updO (o' := .ins (S.ca c') dx (putF f v fs)) (d' := .ins c' (ds.set k d)) hO e2 x1 x2 x3 trivial fun w => ⟨rfl, dx, _, upd_same, by
            rw [p1, x4, List.length_set], by
            rw [p2]
            exact RepL.fwd w _ _ (x5.set k hv.rep)⟩
          exact ⟨_, x1, a, _, dx, fs, rfl, x3, hC, hN, by omega, hp _ _ _ hu.1 hu.2⟩
        · exact hp.elim
    · exact hp.elim
  · exact hp.elim
end
end Mir
/-! MirL -/
namespace Mir
open PySem PySem.Spec PyProof.Rows L2
theorem passE {X : Cx} {E : XK} : Passes CX0 X E := fun _ _ _ _ _ _ _ h => h.elim
section
variable {P : Program} {w : World} {K : PySem.W.Frag} {mg : Str → Option Value} {base : Heap} {S : Sc}
/-- a def of the text, where nothing is raised -/
theorem fnD_ok {x qual : Str} {params : Arguments} {body : List Stmt} {scope : Scope} {dvs : List V} {kws : List (Str × V)} {f : Addr} {fd : FuncData} {N ps : List Str} {k : Nat} {fr : Bool} {O : List Nat} {m : SM} (F : FunD K x qual params body scope dvs kws f fd) (sc : FnScope N ps scope) (hN : ps.length ≤ N.length) (hO : ∀ i ∈ O, ps.length ≤ i)
    (hb : ∀ (cdv : Value) (A : Around) (outer : List PySem.Env) (s : Shared) (H : Hp) (E : XK), Room k (A.deeper (envOfC qual scope s.heap.objs.size f cdv)) →
      ∃ t, PSs (cxOf CX0 P w K mg base N qual scope f cdv A outer s H E).nox body t ∧ RefS S O [] E fr t m) :
    FnOk P w K mg base CX0 (k + 1) f fd ps (spM S fr ps.length (runF fr ps.length N.length m)) := by
  obtain ⟨oc, od, dV, kV, doc, pm, an, cdv, ct, osl, rfl, lk, hcd, _, _⟩ := F.ex
  refine fn_of lk hcd sc (fun vs H Q E h => h.choose_spec.choose_spec.1) fun A outer s H vs Q E hr hsp => ?_
  obtain ⟨t, h1, h2⟩ := hb cdv A outer s H E hr
  exact ⟨t, h1.nox, body_ok h2 hN hO hsp⟩
theorem fnD_ok0 {x qual : Str} {params : Arguments} {body : List Stmt} {scope : Scope} {dvs : List V} {kws : List (Str × V)} {f : Addr} {fd : FuncData} {N ps : List Str} {k : Nat} {O : List Nat} {m : SM} (F : FunD K x qual params body scope dvs kws f fd) (sc : FnScope N ps scope) (hN : ps.length ≤ N.length) (hO : ∀ i ∈ O, ps.length ≤ i)
    (hb : ∀ (cdv : Value) (A : Around) (outer : List PySem.Env) (s : Shared) (H : Hp) (E : XK), Room k (A.deeper (envOfC qual scope s.heap.objs.size f cdv)) →
      ∃ t, PSs (cxOf CX0 P w K mg base N qual scope f cdv A outer s H E).nox body t ∧ RefS S (0 :: O) [0] E false t m) :
    FnOk P w K mg base CX0 (k + 1) f fd ps (spM0 S ps.length (runF0 ps.length N.length m)) := by
  obtain ⟨oc, od, dV, kV, doc, pm, an, cdv, ct, osl, rfl, lk, hcd, _, _⟩ := F.ex
  refine fn_of lk hcd sc (fun vs H Q E h => ?_) fun A outer s H vs Q E hr hsp => ?_
  · obtain ⟨G, d0, ds, a, us, l, _, h, _⟩ := h
    exact h
  · obtain ⟨t, h1, h2⟩ := hb cdv A outer s H E hr
    exact ⟨t, h1.nox, body_ok0 h2 hN hO hsp⟩
end
/-! ### x.m(e, ..), x an own thing that m may change -/
def eMethO (c : Nat) (f : DM0) (j : Nat) (a : AM) : EM := fun env => match env[j]? with
  | some (some (.ins c' _)) => if c' = c then (a env).bind fun ds e => match e[j]? with
    | some (some d0) => match f d0 ds with
      | .ok d o => .ok d (e.set j (some o))
      | .exc x o => .exc x (e.set j (some o))
      | .bad => .bad
    | _ => .bad
  else .bad
  | _ => .bad
section
variable {S : Sc} {O P : List Nat} {E : XK} {μ : Mo} {fr fa fb : Bool} {ta tb : TE} {ma mb : EM} {t u : TS} {m n : SM} {tt : TT} {mt : TM} {tA : TA} {mA : AM}
theorem ref_methO {n j c : Nat} {mth : Str} {f : DM0} (hO : j ∈ O) (har : ∀ d ds, f d ds ≠ .bad → ds.length + 1 = n) (hm : mth ∉ S.fn c) (ha : RefA S O P E none tA mA) : RefE S O P E none false (tMeth (S.ca c) mth (spM0 S n f) [] E (tVar j) tA) (eMethO c f j mA) := by
  have key := ref_callO (S := S) (O := O) (P := P) (E := E) (n := n) (j := j) (f := f) hO har ha
  intro R σ H fp env I Q h
  unfold eMethO at h
  split at h
  · rename_i c' es ej
    split at h
    · rename_i ec
      subst ec
      obtain ⟨a, q1, q2⟩ := I.own j _ ej hO
      obtain ⟨q3, dx, fs, q4, q5, q6⟩ := q2
      have h2 : Want S O P E none R σ H fp env (eCallO f j mA env) (PostE S O P R σ none false H Q) := by
        unfold eCallO
        rw [ej]
        exact h
      obtain ⟨v, y1, y2⟩ := key R σ H fp env I Q h2
      have : v = .ref a := by
        rw [q1] at y1
        exact (Option.some.inj (Option.some.inj y1)).symm
      subst this
      exact ⟨_, q1, a, dx, fs, rfl, q4, lookup_none (by rw [q5]; exact fun z => hm (List.mem_of_mem_take z)), y2⟩
    · exact h.elim
  · exact h.elim
/-- a new list of pure data, from the weak reading -/
def eUpL (a : EM) : EM := fun env => (a env).bind fun x e => match x with
  | .lst ds => if D.pureL ds then .ok (.lst ds) e else .bad
  | _ => .bad
theorem Rel.plus0 {R : Rx} {σ : L2.St} {H H1 : Hp} {fp : Fp} {env : Env} {a : Addr} (I : Rel S O P R σ H fp env) (n : H a = none) (x : Ext Nil H H1) (h : H1 a ≠ none) : Rel S O P (R.plus a) σ H1 fp env := I.plus n x h
theorem ref_upL {U : List Nat} (ha : RefE S O P E (some U) true ta ma) : RefE S O P E none true ta (eUpL ma) := by
  intro R σ H fp env I Q h
  have key : Want S O P E (some U) R σ H fp env (ma env) (PostE S O P R σ (some U) true H Q) := by
    have h : Want S O P E none R σ H fp env ((ma env).bind _) _ := h
    cases q : ma env with
    | bad => rw [q] at h; exact h
    | exc x e => rw [q] at h; exact fun cls dd H' fp' I' s' => h cls dd H' fp' I' s'.strong
    | ok d e =>
      rw [q] at h
      intro H' fp' I' s' v hv sp
      dsimp only [Out.bind] at h
      obtain ⟨a, vs, ds, rfl, new, rfl, x1, x2, x3⟩ := hv
      dsimp only at h
      by_cases c : D.pureL ds = true
      · rw [if_pos c] at h
        refine h H' fp' I' s'.strong _ ⟨a, vs, ds, rfl, new, rfl, x1, fun z => ?_, repL_pure ds vs c x3⟩ fun hf a ea => sp hf a ea
        exact s'.strong.2.1 a |> fun k => by
          rcases z with z | z
          · exact I.gl a z new
          · rcases k z with k | k
            · obtain ⟨i, k⟩ := k
              exact I.live i a k new
            · obtain ⟨i, z⟩ := z
              exact x2 ⟨.inr ⟨i, z⟩, fun ⟨j, hj, q⟩ => by
                have := s'.2.1
                subst this
                exact I.live j a q new⟩
      · rw [if_neg c] at h
        exact h.elim
  exact ha R σ H fp env I Q key
/-- x.f op= e, x an own thing -/
def sAugFld (i c k : Nat) (a : EM) (f : Int → Int → Int) : SM := fun env => match env[i]? with
  | some (some (.ins c' ds)) => if c' = c then (match ds[k]? with
    | some (.int x) => (a env).fl fun d e => match d, e[i]? with
      | .int y, some (some (.ins c2 es)) => if c2 = c ∧ k < es.length then .next (e.set i (some (.ins c (es.set k (.int (f x y)))))) else .bad
      | _, _ => .bad
    | _ => .bad) else .bad
  | _ => .bad
theorem rs_augFld {i c k : Nat} {f : Str} (hC : Cls S.K (S.ca c)) (hN : NoAttr S.K (S.ca c) f) (hf : (S.fn c)[k]? = some f) (nd : (S.fn c).Nodup) (h1000 : (S.fn c).length < 1000) (hO : i ∈ O) (ha : RefE S O P E none fa ta ma) : RefS S O P E fr (sFldAug S.K (tVar i) ta rAdd f) (sAugFld i c k ma (· + ·)) := by
  intro R σ H fp env I D h
  have hk : k < (S.fn c).length := (List.getElem?_eq_some_iff.mp hf).1
  unfold sAugFld at h
  split at h
  · rename_i c' ds0 e0
    split at h
    · rename_i ec
      subst ec
      split at h
      · rename_i x0 hx0
        obtain ⟨a, x1, x2, dx, fs, x3, x4, x5⟩ := I.own i _ e0 hO
        obtain ⟨v0, v1, v2⟩ := x5.get hx0
        cases (show v0 = _ from v2)
        have nd0 : (fs.map (·.1)).Nodup := by rw [x4]; exact nd.sublist (List.take_sublist _ _)
        have hat0 : (fs.map (·.1))[k]? = some f := by
          rw [x4, List.getElem?_take_of_lt (List.getElem?_eq_some_iff.mp hx0).1]
          exact hf
        refine ⟨_, x1, a, _, dx, fs, _, rfl, x3, hC, hN, lookup_at nd0 hat0 v1, ?_⟩
        refine ha R σ H fp env I _ ((want_fl h).mono fun d e1 H1 f1 I1 s1 hp v hv _ => ?_)
        split at hp
        · rename_i y c2 es e2
          cases (show v = _ from hv.rep)
          refine ⟨x0, y, rfl, rfl, ?_⟩
          split at hp
          · rename_i hc
            obtain ⟨ec, hlt⟩ := hc
            subst ec
            obtain ⟨a', z1, z2, dx', fs', z3, z4, z5⟩ := I1.own i _ e2 hO
            rw [x1] at z1
            cases z1
            have hlen : fs'.length = es.length := by
              have := z5.length
              rwa [List.length_map] at this
            have hle : fs'.length ≤ (S.fn c2).length := by
              have := congrArg List.length z4
              rw [List.length_map, List.length_take] at this
              omega
            have ndf : (fs'.map (·.1)).Nodup := by rw [z4]; exact nd.sublist (List.take_sublist _ _)
            have hat : (fs'.map (·.1))[k]? = some f := by
              rw [z4, List.getElem?_take_of_lt hlt]
              exact hf
            obtain ⟨p1, p2⟩ := putF_at (v := .int (x0 + y)) ndf hat
            have hu := I1.updO (o' := .ins (S.ca c2) dx' (putF f (.int (x0 + y)) fs')) (d' := .ins c2 (es.set k (.int (x0 + y)))) hO e2 x1 z2 z3 trivial fun w => ⟨rfl, dx', _, upd_same, by
              rw [p1, z4, List.length_set], by
              rw [p2]
              exact RepL.fwd w _ _ (z5.set k (show Rep S _ _ (.int _) (.int _) from rfl))⟩
            exact ⟨dx', fs', z3, by omega, hp _ _ _ hu.1 hu.2⟩
          · exact hp.elim
        · exact hp.elim
      · exact h.elim
    · exact h.elim
  · exact h.elim
/-! ### a tuple that the text keeps -/
theorem ref_k {d : D} {v : V} (h : ∀ F H, Rep S F H d v) : RefE S O P E μ false (tC v) (eC d) := ref_c h
end
mutual
/-- data as values that K may hold -/
def D.vs : D → Option V
  | .non => some .non
  | .bl b => some (.bl b)
  | .int i => some (.int i)
  | .str x => some (.str x)
  | _ => none
end
theorem rep_ktup {S : Sc} {a : Addr} {o : Obj} {its : Array Value} {n : Nat} {ds : List D} {vs : List V} (hk : S.K.lookup a = some o) (hc : o.cls = .type "tuple") (hd : o.data = .seq its n) (hz : its.size ≤ sizeLine) (hv : Vals vs its.toList) (hr : ∀ F H, RepL S F H ds vs) : ∀ F H, Rep S F H (.tup ds) (.ref a) :=
  fun F H => ⟨a, vs, rfl, .inr ⟨o, its, n, hk, hc, hd, hz, hv⟩, hr F H⟩
end Mir
/-! MirM -/
namespace Mir
open PySem PySem.Spec PyProof.Rows L2
section
variable {S : Sc} {O P : List Nat} {E : XK} {μ : Mo} {fr fa fb : Bool} {ta tb : TE} {ma mb : EM} {t u : TS} {m n : SM} {tt : TT} {mt : TM} {tA : TA} {mA : AM}
theorem Rel.setOwnD {R : Rx} {σ : L2.St} {H : Hp} {fp : Fp} {env : Env} {i : Nat} {dn : D} {a : Addr} (I : Rel S O P R σ H fp env) (hO : i ∈ O) (hP : i ∉ P) (hi : i < env.length) (new : R.H0 a = none) (nf : ¬ Fs R fp a) (ha : H a ≠ none)
    (r : Own S (fun x => Fs R fp x ∨ x = a) H dn a [a]) (old : ∀ j d, env[j]? = some (some d) → j ≠ i → (j ∉ O → ∃ v, σ[j]? = some (some v) ∧ Rep S (fun x => Fs R fp x ∨ x = a) H d v) ∧ (j ∈ O → ∃ b, σ[j]? = some (some (.ref b)) ∧ Own S (fun x => Fs R fp x ∨ x = a) H d b (fp j))) :
    Rel S O P R (σ.set i (some (.ref a))) H (fpSet fp i [a]) (env.set i (some dn)) := by
  have sub : ∀ x, Fs R (fpSet fp i [a]) x → (Fs R fp x ∨ x = a) := fun x h => by
    rcases h with h | ⟨j, h⟩
    · exact .inl (.inl h)
    · unfold fpSet at h
      split at h
      · exact .inr (List.mem_singleton.mp h)
      · exact .inl (.inr ⟨j, h⟩)
  refine ⟨by rw [List.length_set, List.length_set, I.len], fun j d h1 h2 => ?_, fun j d h1 h2 => ?_, fun j h => ?_, fun j k b h1 h2 => ?_, fun j => ?_, fun j b h => ?_, I.ext, I.gl, fun j b h => ?_, I.dom, I.mh⟩
  · have e : i ≠ j := fun z => h2 (z ▸ hO)
    rw [List.getElem?_set_ne e] at h1 ⊢
    obtain ⟨v, q1, q2⟩ := (old j d h1 (Ne.symm e)).1 h2
    exact ⟨v, q1, q2.less fun x z => .inl (sub x z)⟩
  · by_cases e : i = j
    · subst e
      rw [List.getElem?_set_self hi] at h1
      cases h1
      refine ⟨a, List.getElem?_set_self (by rw [← I.len]; exact hi), ?_⟩
      unfold fpSet
      rw [if_pos rfl]
      exact r.fwd (Ext.refl _ _) fun x z => .inl (sub x z)
    · rw [List.getElem?_set_ne e] at h1 ⊢
      obtain ⟨b, q1, q2⟩ := (old j d h1 (Ne.symm e)).2 h2
      refine ⟨b, q1, ?_⟩
      unfold fpSet
      rw [if_neg (Ne.symm e)]
      exact q2.fwd (Ext.refl _ _) fun x z => .inl (sub x z)
  · unfold fpSet
    by_cases e : j = i
    · subst e
      rcases h with h | h
      · exact absurd hO h
      · exact absurd (List.getElem?_set_self hi) (h _)
    · rw [if_neg e]
      refine I.non j (h.imp id fun h d q => h d ?_)
      rw [List.getElem?_set_ne (Ne.symm e)]
      exact q
  · unfold fpSet at h1 h2
    split at h1
    · rename_i e1
      split at h2
      · rename_i e2
        rw [e1, e2]
      · exact absurd (.inr ⟨k, by rw [← List.mem_singleton.mp h1]; exact h2⟩) nf
    · split at h2
      · exact absurd (.inr ⟨j, by rw [← List.mem_singleton.mp h2]; exact h1⟩) nf
      · exact I.dist j k b h1 h2
  · unfold fpSet
    split
    · simp
    · exact I.nd j
  · unfold fpSet at h
    split at h
    · rename_i e
      cases List.mem_singleton.mp h
      exact ⟨fun z => absurd (e ▸ z) hP, fun _ => ⟨new, fun z => nf (.inl z)⟩⟩
    · exact I.src j b h
  · unfold fpSet at h
    split at h
    · cases List.mem_singleton.mp h
      exact ha
    · exact I.live j b h
/-- x = C(..), x an own thing -/
def sMakeO (i c : Nat) (f : DM0) (dds : List D) (a : AM) : SM := fun env => (a env).fl fun ds e => match f (.ins c []) (ds ++ dds) with
  | .ok d o => match d, o with
    | .non, .ins c' es => if c' = c ∧ i < e.length then .next (e.set i (some (.ins c es))) else .bad
    | _, _ => .bad
  | _ => .bad
theorem rs_makeO {i c n : Nat} {f : DM0} {dds : List D} {dvs : List V} (hO : i ∈ O) (hP : i ∉ P) (hd : ∀ F H, RepL S F H dds dvs) (har : ∀ d ds, f d ds ≠ .bad → ds.length + 1 = n) (ha : RefA S O P E none tA mA) :
    RefS S O P E fr (tAsg (tMake (S.ca c) (spM0 S n f) dvs E tA) (gName i)) (sMakeO i c f dds mA) := by
  intro R σ H fp env I D h
  refine ha R σ H fp env I _ ((want_fl h).mono fun ds e1 H1 f1 I1 s1 h1 vs hv => ?_)
  intro x dx hx hdx ne
  have g1 : Ext Nil H1 (upd H1 dx (.own x)) := Ext.new hdx
  have g2 : Ext Nil (upd H1 dx (.own x)) (upd (upd H1 dx (.own x)) x (.ins (S.ca c) dx [])) := Ext.new (by rw [upd_ne (Ne.symm ne)]; exact hx)
  have g := g1.trans g2
  cases q : f (.ins c []) (ds ++ dds) with
  | bad => rw [q] at h1; exact h1.elim
  | exc y o => rw [q] at h1; exact h1.elim
  | ok d o =>
    have hn : vs.length + dvs.length + 1 = n := by
      have nb : f (.ins c []) (ds ++ dds) ≠ .bad := fun z => by rw [q] at z; cases z
      have q := har _ _ nb
      rw [List.length_append] at q
      rw [hv.length, (hd (fun _ => False) H1).length]
      exact q
    refine ⟨FM R f1 none, .ins c [], ds ++ dds, x, vs ++ dvs, [x], rfl, by rw [List.length_cons, List.length_append]; omega, fun a q => g.dom (I1.fm q), fun a q => ?_, by simp, ⟨rfl, dx, [], upd_same, rfl, rfl⟩, ?_, ?_⟩
    · rw [List.mem_singleton.mp q, upd_same]
      exact fun z => nomatch z
    · exact (((hv.append (hd _ _)).less (F' := fun y => FM R f1 none y ∨ y ∈ [x]) fun a z => z.imp id fun q => by rw [List.mem_singleton.mp q]; exact hx)).grow g
    · rw [q] at h1 ⊢
      dsimp only at h1
      intro v H' l' w hO' hnd hal hr
      split at h1
      · rename_i c' es
        split at h1
        · rename_i hc
          obtain ⟨ec, hlt⟩ := hc
          subst ec
          refine ⟨hr, ?_⟩
          have ex : Ext Nil H1 H' := fun b o q _ =>
            w.1 b o (g.nil b o q) (.inl fun z => absurd hx (by rw [← List.mem_singleton.mp z, q]; exact fun z => nomatch z))
          obtain ⟨el, dx', fs, q1, q2, q3⟩ := hO'
          have n0 : R.H0 x = none := by
            cases q : R.H0 x with
            | none => rfl
            | some o => exact absurd hx (I1.dom x (by rw [q]; exact fun z => nomatch z))
          have wf : Fwd (Fs R f1) H1 (fun y => Fs R f1 y ∨ y = x) H' := ⟨ex.mono fun _ z => z.elim, fun a z => z.imp id fun e => by rw [e]; exact hx, fun a z => ex.dom z⟩
          have J := I1.grow ex
          have I3 := J.setOwnD (i := i) (dn := .ins c' es) (a := x) hO hP hlt n0 (fun z => I1.fs z hx) (by rw [q1]; exact fun z => nomatch z)
            ⟨rfl, dx', fs, q1, q2, q3.less fun a z => .inl (z.elim .inl fun e => .inr (by rw [el]; exact List.mem_singleton.mpr e))⟩
            fun j d h1 hj => ⟨fun h2 => let ⟨v, y1, y2⟩ := I1.val j d h1 h2; ⟨v, y1, Rep.fwd wf _ _ y2⟩,
              fun h2 => let ⟨v, y1, y2⟩ := I1.own j d h1 h2; ⟨v, y1, y2.fwd ex fun a z => z.imp id fun e => by rw [e]; exact hx⟩⟩
          refine h1 _ H' _ I3 ⟨ex.mono fun _ z => z.elim, fun y z => ?_, fun a z => ex.dom z⟩
          obtain ⟨j, z⟩ := z
          rcases fpSet_mem z with ⟨_, z⟩ | ⟨_, z⟩
          · exact .inr (by rw [List.mem_singleton.mp z]; exact hx)
          · exact .inl ⟨j, z⟩
        · exact h1.elim
      · exact h1.elim
end
end Mir
/-! MirN -/
namespace Mir
open PySem PySem.Spec PyProof.Rows L2
theorem bt_len : bootBuiltins "len" = some (.builtin "len") := by decide +kernel
theorem bt_abs : bootBuiltins "abs" = some (.builtin "abs") := by decide +kernel
theorem bt_sum : bootBuiltins "sum" = some (.builtin "sum") := by decide +kernel
theorem bt_all : bootBuiltins "all" = some (.builtin "all") := by decide +kernel
theorem bt_any : bootBuiltins "any" = some (.builtin "any") := by decide +kernel
theorem bt_sorted : bootBuiltins "sorted" = some (.builtin "sorted") := by decide +kernel
theorem bt_isinstance : bootBuiltins "isinstance" = some (.builtin "isinstance") := by decide +kernel
theorem bt_list : bootBuiltins "list" = some (.type "list") := by decide +kernel
theorem bt_tuple : bootBuiltins "tuple" = some (.type "tuple") := by decide +kernel
theorem bt_str : bootBuiltins "str" = some (.type "str") := by decide +kernel
theorem bt_int : bootBuiltins "int" = some (.type "int") := by decide +kernel
theorem bt_bool : bootBuiltins "bool" = some (.type "bool") := by decide +kernel
theorem hu0 {A : Around} {k : Nat} (h : Room k A) : A.units < cLine := by have := h.un; omega
theorem hu64 {A : Around} {k : Nat} (h : Room k A) : A.units + 64 < cLine := by have := h.un; omega
theorem hu65 {A : Around} {k : Nat} (h : Room k A) : A.units + 65 < cLine := by have := h.un; omega
theorem funD_mk {K : PySem.W.Frag} {x qual : Str} {st : Stmt} {f : Addr} {oc : Value} {od an : Option Addr} {osl : Array (Option Value)} {kV doc pm cdv ct : Value} (l : K.lookup f = some ⟨oc, od, .func (PySem.W.fnOf x qual (defArgs st) (defBody st) (defScope st) .none kV doc pm an cdv ct), osl⟩)
    (c : PySem.W.codeIn K cdv qual = true) (k : PySem.W.keepIn K (.ref f) = true) : FunD K x qual (defArgs st) (defBody st) (defScope st) [] [] f (PySem.W.fnOf x qual (defArgs st) (defBody st) (defScope st) .none kV doc pm an cdv ct) := ⟨⟨oc, od, .none, kV, doc, pm, an, cdv, ct, osl, rfl, l, c, .inl ⟨rfl, rfl⟩, .inl rfl⟩, k⟩
theorem funD_mkD {K : PySem.W.Frag} {x qual : Str} {st : Stmt} {f T : Addr} {oc : Value} {od an : Option Addr} {osl : Array (Option Value)} {kV doc pm cdv ct : Value} {dvs : List V} {oT : Obj} {its : List Value} {n : Nat} (l : K.lookup f = some ⟨oc, od, .func (PySem.W.fnOf x qual (defArgs st) (defBody st) (defScope st) (.ref T) kV doc pm an cdv ct), osl⟩)
    (c : PySem.W.codeIn K cdv qual = true) (k : PySem.W.keepIn K (.ref f) = true) (hd : dvs ≠ []) (lT : K.lookup T = some oT) (hT : oT.data = .seq its.toArray n) (hv : Vals dvs its) : FunD K x qual (defArgs st) (defBody st) (defScope st) dvs [] f (PySem.W.fnOf x qual (defArgs st) (defBody st) (defScope st) (.ref T) kV doc pm an cdv ct) := ⟨⟨oc, od, .ref T, kV, doc, pm, an, cdv, ct, osl, rfl, l, c, .inr ⟨hd, T, oT, its, n, rfl, lT, hT, hv⟩, .inl rfl⟩, k⟩
/-- a def of which nothing is promised -/
theorem FunD.never_ok {P : Program} {w : World} {K : PySem.W.Frag} {mg : Str → Option Value} {base : Heap} {S : Sc} {x qual : Str} {params : Arguments} {body : List Stmt} {scope : Scope} {dvs : List V} {kws : List (Str × V)} {f : Addr} {fd : FuncData} {N ps : List Str} {k : Nat} {fr : Bool} {n : Nat} (F : FunD K x qual params body scope dvs kws f fd) (sc : FnScope N ps scope) (hn : ps.length = n) :
    FnOk P w K mg base CX0 (k + 1) f fd ps (spM S fr n fun _ => .bad) := by
  obtain ⟨oc, od, dV, kV, doc, pm, an, cdv, ct, osl, rfl, lk, hcd, _, _⟩ := F.ex
  exact fn_of lk hcd sc (fun vs H Q E h => by obtain ⟨G, ds, h1, _⟩ := h; rw [h1, hn]) fun A outer s H vs Q E hr hsp => by
    obtain ⟨G, ds, h1, h2, h3, h4⟩ := hsp
    exact h4.elim
/-! ### the law's own source of numbers -/
def rndSeed (ns : List Int) (salt : Int) : Int := ns.foldl (fun s c => (s * 31 + (if c < 0 then -c else c)).fmod 2147483647) salt
def rndL (ns : List Int) (salt : Int) : List Int := rndSeed ns salt :: 0 :: ns.filter fun c => decide ((10 : Int) ^ 18 ≤ c)
def spRnd (K : PySem.W.Frag) : Sp := fun vs H Q _ => ∃ (a : Addr) (ns : List Int) (salt : Int), vs = [.ref a, .int salt] ∧ SqL K H a (ns.map V.int) ∧ ns.length ≤ 1000 ∧
  ∀ (H' : Hp) (p : Addr), Ext Nil H H' → H p = none → H' p = some (.lst ((rndL ns salt).map V.int)) → Q (.ref p) H'
theorem rndSeed_take {ns : List Int} {salt : Int} {i : Nat} {c : Int} (h : ns[i]? = some c) : rndSeed (ns.take (i + 1)) salt = (rndSeed (ns.take i) salt * 31 + (if c < 0 then -c else c)).fmod 2147483647 := by
  unfold rndSeed
  rw [List.take_add_one, h, List.foldl_append]
  rfl
theorem ints_get {ns : List Int} {i : Nat} {x : V} (h : (ns.map V.int)[i]? = some x) : ∃ c, ns[i]? = some c ∧ x = .int c := by
  rw [List.getElem?_map] at h
  cases q : ns[i]? with
  | none => rw [q] at h; cases h
  | some c => rw [q] at h; cases h; exact ⟨c, rfl, rfl⟩
theorem sql_ext {K : PySem.W.Frag} {H H' : Hp} {a : Addr} {xs : List V} (h : SqL K H a xs) (e : Ext Nil H H') : SqL K H' a xs := by
  rcases h with h | h
  · exact .inl (rd_ext e (fun z => z) h)
  · exact .inr h
theorem iteT' {b : Bool} {p q : Prop} (h : b = true) (k : p) : if b = true then p else q := by rw [if_pos h]; exact k
theorem iteF' {b : Bool} {p q : Prop} (h : b = false) (k : q) : if b = true then p else q := by rw [if_neg (by rw [h]; decide)]; exact k
/-- the text of the def, read -/
theorem rnd_run {K : PySem.W.Frag} {vs : List V} {H : Hp} {Q : VK} {E : XK} (h : spRnd K vs H Q E) :
    (tSeq (tAsg (tVar 1) (gName 2)) (tSeq (tFor (iList K (tVar 0)) (gName 3) (tAsg (tOp rModX (tOp (rI0 fun i j => .int (i + j)) (tOp rMulX (tVar 2) (tC (.int 31))) (tCB rAbsX (tCons (tVar 3) tNil))) (tC (.int 2147483647))) (gName 2)))
      (tRet (tOp rCat (tLst (tCons (tVar 2) (tCons (tC (.int 0)) tNil))) (tLc (iList K (tVar 0)) (gName 3) (tTest (tOp rGeI (tVar 3) (tOp rPowX (tC (.int 10)) (tC (.int 18))))) (tVar 3) [3])))) : TS)
      { nx := fun _ H' => Q .non H', rt := Q } (L2.start ["_law_script", "_law_salt", "_law_seed", "_law_cell"] vs) H := by
  obtain ⟨a, ns, salt, rfl, hS, hlen, k⟩ := h
  refine ⟨.int salt, rfl, ?_⟩
  refine ⟨.ref a, rfl, a, rfl, ⟨_, hS⟩, for_list (K := K) (a := a) (xs := ns.map V.int) (fun i σ H2 => ∃ c, σ = [some (.ref a), some (.int salt), some (.int (rndSeed (ns.take i) salt)), c] ∧ H2 = H)
    ⟨none, rfl, rfl⟩ (fun i σ H2 _ ⟨_, _, e⟩ => by rw [e]; exact hS) ?_ ?_⟩
  · rintro i x σ H2 hi ⟨c, rfl, rfl⟩
    obtain ⟨z, hz, rfl⟩ := ints_get hi
    refine ⟨_, rfl, _, _, rfl, rfl, .inr (by decide), .int z, rfl, z, rfl, _, _, rfl, rfl, _, _, rfl, rfl, (by show (2147483647 : Int) ≠ 0; decide), some (.int z), ?_, rfl⟩
    rw [rndSeed_take hz]
    rfl
  · rintro σ H2 ⟨c, rfl, rfl⟩
    rw [List.length_map, List.take_length]
    refine ⟨_, rfl, (by show 2 ≤ sizeLine; decide), fun p hp => ?_⟩
    have e1 : Ext Nil H2 (upd H2 p (.lst [.int (rndSeed ns salt), .int 0])) := Ext.new hp
    have hS1 := sql_ext hS e1
    refine ⟨.ref a, rfl, a, rfl, ⟨_, hS1⟩, fun D hD => ?_⟩
    have npD : p ≠ D := fun z => by rw [← z, upd_same] at hD; cases hD
    have nD2 : H2 D = none := by
      cases q : H2 D with
      | none => rfl
      | some o => rw [e1 D o q (.inl fun z => z)] at hD; cases hD
    refine lc_list (fun i H3 => Ext Nil H2 H3 ∧ H3 p = some (.lst [.int (rndSeed ns salt), .int 0]) ∧ H3 D = some (.lst (((ns.take i).filter fun c => decide ((10 : Int) ^ 18 ≤ c)).map V.int)))
      ⟨e1.trans (Ext.new hD), by rw [upd_ne npD, upd_same], upd_same⟩ (fun i H3 _ ⟨e, _⟩ => sql_ext hS e) ?_ ?_
    · rintro i x H3 hi ⟨e3, p3, d3⟩
      obtain ⟨z, hz, rfl⟩ := ints_get hi
      refine ⟨rfl, .int z, rfl, _, _, rfl, rfl, ⟨by decide, by decide, by decide⟩, z, _, rfl, rfl, _, rfl, ?_⟩
      have ht : ns.take (i + 1) = ns.take i ++ [z] := by rw [List.take_add_one, hz]; rfl
      have hp10 : ((10 : Int) ^ (18 : Int).toNat ≤ z) = ((10 : Int) ^ 18 ≤ z) := rfl
      by_cases c : (10 : Int) ^ 18 ≤ z
      · refine iteT' (decide_eq_true (show (10 : Int) ^ (18 : Int).toNat ≤ z from c)) ?_
        refine ⟨.int z, rfl, _, d3, ?_, ?_⟩
        · rw [List.length_map]
          refine Nat.lt_of_le_of_lt (List.length_filter_le _ _) (Nat.lt_of_le_of_lt (List.length_take_le' _ _) (small1000 hlen))
        · refine ⟨fun b o q _ => ?_, ?_, ?_⟩
          · rw [upd_ne (ne_of_none q nD2)]
            exact e3 b o q (.inl fun z => z)
          · rw [upd_ne npD]
            exact p3
          · have e5 : [z].filter (fun c => decide ((10 : Int) ^ 18 ≤ c)) = [z] := List.filter_cons_of_pos (p := fun c => decide ((10 : Int) ^ 18 ≤ c)) (decide_eq_true c)
            rw [upd_same, ht, List.filter_append, List.map_append, e5]
            rfl
      · refine iteF' (decide_eq_false (show ¬ (10 : Int) ^ (18 : Int).toNat ≤ z from c)) ?_
        refine ⟨e3, p3, ?_⟩
        have e5 : [z].filter (fun c => decide ((10 : Int) ^ 18 ≤ c)) = [] := List.filter_cons_of_neg (p := fun c => decide ((10 : Int) ^ 18 ≤ c)) (by rw [decide_eq_false c]; decide)
        rw [d3, ht, List.filter_append, e5, List.append_nil]
    · rintro H3 ⟨e3, p3, d3⟩
      rw [List.length_map, List.take_length] at d3
      refine ⟨p, D, _, _, rfl, rfl, p3, d3, ?_, fun r hr => ?_⟩
      · rw [List.length_map]
        have := List.length_filter_le (fun c => decide ((10 : Int) ^ 18 ≤ c)) ns
        show 2 + _ ≤ sizeLine
        exact Nat.le_trans (by omega : _ ≤ 1002) (by decide)
      · refine k _ r (e3.trans (Ext.new hr)) ?_ upd_same
        cases q : H2 r with
        | none => rfl
        | some o => rw [e3 r o q (.inl fun z => z)] at hr; cases hr
end Mir
/-! MirP -/
namespace Mir
open PySem PySem.Spec PyProof.Rows L2
/-- law's: a list of at most 63 ints is handed in, True comes out -/
def spLaw (K : PySem.W.Frag) : Sp := fun vs H Q _ => ∃ (a : Addr) (ns : List Int), vs = [.ref a] ∧ SqL K H a (ns.map V.int) ∧ ns.length ≤ 63 ∧ ∀ H', Q (.bl true) H'
/-- law's frame behind its first statement -/
def env1 (n : Nat) (ns : List Int) : Env := none :: some (.lst (ns.map .int)) :: List.replicate n none
theorem env1_get {n : Nat} {ns : List Int} {i : Nat} {d : D} (h : (env1 n ns)[i]? = some (some d)) : i = 1 ∧ d = .lst (ns.map .int) := by
  match i, h with
  | 0, h => cases h
  | 1, h => cases h; exact ⟨rfl, rfl⟩
  | i + 2, h =>
    have h : (List.replicate n (none : Option D))[i]? = some (some d) := h
    rw [List.getElem?_replicate] at h
    split at h <;> cases h
theorem law_run {S : Sc} {O : List Nat} {E : XK} {t : TS} {m : SM} {n : Nat} {a p : Addr} {H H' : Hp} {ns : List Int} {Q : VK} (hr : RefS S O [] E false t m) (hO : 1 ∈ O) (ext : Ext Nil H H') (hp : H p = none) (hl : H' p = some (.lst (ns.map V.int)))
    (hm : ∃ e, m (env1 n ns) = .ret (.bl true) e) (k : ∀ H, Q (.bl true) H) {D : Ends} (hD : D.rt = Q) : t D (some (.ref a) :: some (.ref p) :: List.replicate n none) H' := by
  have fpm : ∀ {i b}, b ∈ (fun i => if i = 1 then [p] else [] : Fp) i → i = 1 ∧ b = p := fun {i b} h => by
    dsimp only at h
    split at h
    · rename_i e
      exact ⟨e, List.mem_singleton.mp h⟩
    · cases h
  refine hr ⟨Nil, Nil, H⟩ _ H' (fun i => if i = 1 then [p] else []) (env1 n ns) ?_ D ?_
  · refine ⟨by simp [env1], fun i d h1 h2 => ?_, fun i d h1 h2 => ?_, fun i h => ?_, fun i j b h1 h2 => (fpm h1).1.trans (fpm h2).1.symm, fun i => ?_, fun i b h => ?_, ext, fun b h => h.elim, fun i b h => ?_, fun b h => ext.dom h, fun b h => h.elim⟩
    · obtain ⟨rfl, _⟩ := env1_get h1
      exact absurd hO h2
    · obtain ⟨rfl, rfl⟩ := env1_get h1
      exact ⟨p, rfl, rfl, _, hl, RepL.ofInts⟩
    · split
      · rename_i e
        subst e
        rcases h with h | h
        · exact absurd hO h
        · exact absurd rfl (h _)
      · rfl
    · split
      · simp
      · exact List.nodup_nil
    · obtain ⟨rfl, rfl⟩ := fpm h
      exact ⟨fun z => (by cases z), fun _ => ⟨hp, fun z => z⟩⟩
    · obtain ⟨rfl, rfl⟩ := fpm h
      rw [hl]
      exact fun z => nomatch z
  · obtain ⟨e, he⟩ := hm
    rw [he]
    intro σ' v H2 fp' I w r
    cases (show v = _ from r)
    rw [hD]
    exact k H2
end Mir
/-! MirQ -/
namespace Mir
open PySem PySem.Spec PyProof.Rows L2
section
variable {env : Env} {a b c : EM} {m n : SM} {t u : TM} {ar : AM}
/-! ### the mirrors, one step -/
@[simp] theorem ap_eVar (i : Nat) : eVar i env = match env[i]? with | some (some d) => .ok d env | _ => .bad := rfl
@[simp] theorem ap_eC (d : D) : eC d env = .ok d env := rfl
@[simp] theorem ap_e1 (f : D → Option D) : e1 f a env = (a env).bind fun x e => .opt (f x) e := rfl
@[simp] theorem ap_e2 (f : D → D → Option D) : e2 f a b env = (a env).bind fun x e => (b e).bind fun y e' => .opt (f x y) e' := rfl
@[simp] theorem ap_eA (f : List D → Option D) : eA f ar env = (ar env).bind fun xs e => .opt (f xs) e := rfl
@[simp] theorem ap_mTest : mTest a env = (a env).bind fun x e => .opt x.boo e := rfl
@[simp] theorem ap_mAnd : mAnd t u env = (t env).bind fun c e => if c then u e else .ok false e := rfl
@[simp] theorem ap_mOr : mOr t u env = (t env).bind fun c e => if c then .ok true e else u e := rfl
@[simp] theorem ap_mNot : mNot t env = (t env).bind fun c e => .ok (!c) e := rfl
@[simp] theorem ap_mYes : mYes env = .ok true env := rfl
@[simp] theorem ap_eAndV : eAndV a b env = (a env).bind fun x e => (Out.opt x.boo e).bind fun c e' => if c then b e' else .ok (.bl false) e' := rfl
@[simp] theorem ap_eOrV : eOrV a b env = (a env).bind fun x e => (Out.opt x.boo e).bind fun c e' => if c then .ok (.bl true) e' else b e' := rfl
@[simp] theorem ap_eNotV : eNotV a env = (a env).bind fun x e => (Out.opt x.boo e).bind fun c e' => .ok (.bl (!c)) e' := rfl
@[simp] theorem ap_eIf : eIf t a b env = (t env).bind fun c e => if c then a e else b e := rfl
@[simp] theorem ap_aNil : aNil env = .ok [] env := rfl
@[simp] theorem ap_aCons : aCons a ar env = (a env).bind fun x e => (ar e).bind fun xs e' => .ok (x :: xs) e' := rfl
@[simp] theorem ap_aStar : aStar a ar env = (a env).bind fun x e => (Out.opt x.seq e).bind fun ys e1 => (ar e1).bind fun xs e' => .ok (ys ++ xs) e' := rfl
@[simp] theorem ap_eTup : eTup ar env = (ar env).bind fun xs e => .opt (if xs.length ≤ 100000 then some (.tup xs) else none) e := rfl
@[simp] theorem ap_eLst : eLst ar env = (ar env).bind fun xs e => .opt (if xs.length ≤ 100000 then some (.lst xs) else none) e := rfl
@[simp] theorem ap_eUp : eUp a env = (a env).bind fun x e => if x.pure then .ok x e else .bad := rfl
@[simp] theorem ap_eUpL : eUpL a env = (a env).bind fun x e => match x with | .lst ds => if D.pureL ds then .ok (.lst ds) e else .bad | _ => .bad := rfl
@[simp] theorem ap_eSl (f : D → Option Int → Option Int → Option D) (lo hi : PM) : eSl f a lo hi env = (a env).bind fun x e => (lo e).bind fun l e1 => (hi e1).bind fun u e2 => .opt (f x l u) e2 := rfl
@[simp] theorem ap_pNone : pNone env = .ok none env := rfl
@[simp] theorem ap_pSome : pSome a env = (a env).bind fun x e => (Out.opt x.toI e).bind fun i e => .ok (some i) e := rfl
@[simp] theorem ap_eM1 (f : D → D → Option D) : eM1 f a b env = (a env).bind fun x e => if x.isS then (b e).bind fun y e' => .opt (f x y) e' else .bad := rfl
@[simp] theorem ap_eChain (f g : D → D → Option D) : eChain f g a b c env = (a env).bind fun x e => (b e).bind fun y e1 => (Out.opt ((f x y).bind fun z => match z with | .bl k => some k | _ => none) e1).bind fun k e1 => if k then (c e1).bind fun z e2 => .opt (g y z) e2 else .ok (.bl false) e1 := rfl
@[simp] theorem ap_eCall (f : DM) (dds : List D) : eCall f dds ar env = (ar env).bind fun ds e => (f (ds ++ dds)).out e := rfl
@[simp] theorem ap_eMeth (k : Nat) (f : DM) (dds : List D) : eMeth k f dds a ar env = (a env).bind fun x e => match x with
  | .ins c' _ => if c' = k then (ar e).bind fun ds e' => (f (x :: (ds ++ dds))).out e' else .bad
  | _ => .bad := rfl
@[simp] theorem ap_eFld (k i : Nat) : eFld k i a env = (a env).bind fun x e => .opt (D.fld k i x) e := rfl
@[simp] theorem ap_eProp (k : Nat) (f : DM) : eProp k f a env = (a env).bind fun x e => match x with
  | .ins c' _ => if c' = k then (match f [x] with
    | .ok d => .ok d e
    | _ => .bad) else .bad
  | _ => .bad := rfl
@[simp] theorem ap_eMake (k : Nat) (f : DM0) (dds : List D) : eMake k f dds ar env = (ar env).bind fun ds e => match f (.ins k []) (ds ++ dds) with
  | .ok d o => match d, o with
    | .non, .ins c' es => if c' = k then .ok (.ins k es) e else .bad
    | _, _ => .bad
  | .exc x _ => .exc x e
  | .bad => .bad := rfl
@[simp] theorem ap_eCallO (f : DM0) (j : Nat) : eCallO f j ar env = match env[j]? with
  | some (some _) => (ar env).bind fun ds e => match e[j]? with
    | some (some d0) => match f d0 ds with
      | .ok d o => .ok d (e.set j (some o))
      | .exc x o => .exc x (e.set j (some o))
      | .bad => .bad
    | _ => .bad
  | _ => .bad := rfl
@[simp] theorem ap_eMethO (k : Nat) (f : DM0) (j : Nat) : eMethO k f j ar env = match env[j]? with
  | some (some (.ins c' _)) => if c' = k then (ar env).bind fun ds e => match e[j]? with
    | some (some d0) => match f d0 ds with
      | .ok d o => .ok d (e.set j (some o))
      | .exc x o => .exc x (e.set j (some o))
      | .bad => .bad
    | _ => .bad
  else .bad
  | _ => .bad := rfl
@[simp] theorem ap_sNext : sNext env = .next env := rfl
@[simp] theorem ap_sSeq : sSeq m n env = (m env).bind n := rfl
@[simp] theorem ap_sIf : sIf t m n env = (t env).fl fun c e => if c then m e else n e := rfl
@[simp] theorem ap_sAsg (g : GM) : sAsg a g env = (a env).fl fun d e => match g d e with | some e' => .next e' | none => .bad := rfl
@[simp] theorem ap_sDrop : sDrop a env = (a env).fl fun _ e => .next e := rfl
@[simp] theorem ap_sRet : sRet a env = (a env).fl fun d e => .ret d e := rfl
@[simp] theorem ap_sRetN : sRetN env = .ret .non env := rfl
@[simp] theorem ap_sBad : sBad env = .bad := rfl
@[simp] theorem ap_gSet (i : Nat) (d : D) : gSet i d env = some (env.set i (some d)) := rfl
@[simp] theorem ap_gTupM0 : gTupM [] [] env = some env := rfl
@[simp] theorem ap_gTupM1 (g : GM) (gs : List GM) (d : D) (ds : List D) : gTupM (g :: gs) (d :: ds) env = (g d env).bind (gTupM gs ds) := rfl
@[simp] theorem ap_gTupleM (gs : List GM) (ds : List D) : gTupleM gs (.tup ds) env = gTupM gs ds env := rfl
@[simp] theorem ap_sOwn (i : Nat) : sOwn a i env = (a env).fl fun d e => if i < e.length then .next (e.set i (some d)) else .bad := rfl
@[simp] theorem ap_sApp (i : Nat) : sApp i a env = match env[i]? with
  | some (some (.lst _)) => (a env).fl fun d e => match e[i]? with
    | some (some (.lst ds)) => if ds.length < 100000 then .next (e.set i (some (.lst (ds ++ [d])))) else .bad
    | _ => .bad
  | _ => .bad := rfl
@[simp] theorem ap_sExt (i : Nat) : sExt i a env = match env[i]? with
  | some (some (.lst _)) => (a env).fl fun d e => match e[i]?, d with
    | some (some (.lst ds)), .lst xs => if ds.length + xs.length ≤ 100000 then .next (e.set i (some (.lst (ds ++ xs)))) else .bad
    | _, _ => .bad
  | _ => .bad := rfl
@[simp] theorem ap_sRetOwn (i : Nat) : sRetOwn i env = match env[i]? with
  | some (some (.lst ds)) => .ret (.lst ds) env
  | _ => .bad := rfl
@[simp] theorem ap_sSetIx (i : Nat) (j : Int) : sSetIx i j a env = (a env).fl fun d e => match e[i]? with
  | some (some (.lst ds)) => match ixN ds.length j with
    | some k => .next (e.set i (some (.lst (ds.set k d))))
    | none => .bad
  | _ => .bad := rfl
@[simp] theorem ap_ePopAt (i : Nat) (j : Int) : ePopAt i j env = match env[i]? with
  | some (some (.lst ds)) => match seqIndex? j ds.length with
    | some k => match ds[k]? with
      | some d => if -(2 ^ 63) ≤ j ∧ j < 2 ^ 63 then .ok d (env.set i (some (.lst (ds.eraseIdx k)))) else .bad
      | none => .bad
    | none => .bad
  | _ => .bad := rfl
@[simp] theorem ap_sSetFld (i k l : Nat) : sSetFld i k l a env = (a env).fl fun d e => match e[i]? with
  | some (some (.ins c' ds)) => if c' = k then (if l = ds.length then .next (e.set i (some (.ins k (ds ++ [d])))) else if l < ds.length then .next (e.set i (some (.ins k (ds.set l d)))) else .bad) else .bad
  | _ => .bad := rfl
@[simp] theorem ap_sAugFld (i k l : Nat) (f : Int → Int → Int) : sAugFld i k l a f env = match env[i]? with
  | some (some (.ins c' ds)) => if c' = k then (match ds[l]? with
    | some (.int x) => (a env).fl fun d e => match d, e[i]? with
      | .int y, some (some (.ins c2 es)) => if c2 = k ∧ l < es.length then .next (e.set i (some (.ins k (es.set l (.int (f x y)))))) else .bad
      | _, _ => .bad
    | _ => .bad) else .bad
  | _ => .bad := rfl
@[simp] theorem ap_sMakeO (i k : Nat) (f : DM0) (dds : List D) : sMakeO i k f dds ar env = (ar env).fl fun ds e => match f (.ins k []) (ds ++ dds) with
  | .ok d o => match d, o with
    | .non, .ins c' es => if c' = k ∧ i < e.length then .next (e.set i (some (.ins k es))) else .bad
    | _, _ => .bad
  | _ => .bad := rfl
@[simp] theorem ap_sAug (i : Nat) (f : Int → Int → Int) : sAug i a f env = match env[i]? with
  | some (some (.int x)) => (a env).fl fun d e => match d with
    | .int y => .next (e.set i (some (.int (f x y))))
    | _ => .bad
  | _ => .bad := rfl
@[simp] theorem ap_sParO (i j : Nat) : sParO i a j b env = (a env).fl fun d e => (b e).fl fun c e1 => if j < e1.length then .next ((e1.set i (some d)).set j (some c)) else .bad := rfl
@[simp] theorem ap_sFor (it : IM) (g : GM) : sFor it g m env = (it env).fl fun ds e => forGo g m ds e := rfl
@[simp] theorem ap_eLc (vs : List Nat) (it : IM) (g : GM) : eLc vs it g t a env = (it env).bind fun ds e0 => (lcGo vs g t a ds [] (wipeE e0 vs)).bind fun xs e1 => .ok (.lst xs) (resE e1 e0 vs) := rfl
@[simp] theorem ap_iSeqM : iSeqM a env = (a env).bind fun x e => .opt x.items e := rfl
@[simp] theorem ap_iSeqP : iSeqP a env = (a env).bind fun x e => (Out.opt x.items e).bind fun ds e => if D.pureL ds then .ok ds e else .bad := rfl
@[simp] theorem ap_iLst : iLst a env = (a env).bind fun x e => .opt x.isL e := rfl
@[simp] theorem ap_iRng1M : iRng1M ar env = (ar env).bind fun xs e => .opt (rng1 xs) e := rfl
@[simp] theorem ap_iRng2M : iRng2M ar env = (ar env).bind fun xs e => .opt (rng2 xs) e := rfl
@[simp] theorem ap_iEnumT : Mir.iEnumT a env = (a env).bind fun x e => (Out.opt x.isT e).bind fun ds e => .ok (enumL 0 ds) e := rfl
@[simp] theorem ap_A1 (f : D → Option D) (d : D) : A1 f [d] = f d := rfl
end
end Mir
namespace Mir
open PySem PySem.Spec PyProof.Rows L2
/-! ### data, one step -/
@[simp] theorem dd_boo (b : Bool) : D.boo (.bl b) = some b := rfl
@[simp] theorem dd_seqT (ds : List D) : D.seq (.tup ds) = some ds := rfl
@[simp] theorem dd_seqL (ds : List D) : D.seq (.lst ds) = some ds := rfl
@[simp] theorem dd_itT (ds : List D) : D.items (.tup ds) = some ds := rfl
@[simp] theorem dd_itL (ds : List D) : D.items (.lst ds) = some ds := rfl
@[simp] theorem dd_itS (x : Str) : D.items (.str x) = some (x.cps.toList.map fun c => .str ⟨#[c]⟩) := rfl
@[simp] theorem dd_isL (ds : List D) : D.isL (.lst ds) = some ds := rfl
@[simp] theorem dd_isT (ds : List D) : D.isT (.tup ds) = some ds := rfl
@[simp] theorem dd_toI (i : Int) : D.toI (.int i) = some i := rfl
@[simp] theorem dd_isS (i : Str) : D.isS (.str i) = true := rfl
@[simp] theorem dp_int (i : Int) : D.pure (.int i) = true := rfl
@[simp] theorem dp_str (i : Str) : D.pure (.str i) = true := rfl
@[simp] theorem dp_bl (i : Bool) : D.pure (.bl i) = true := rfl
@[simp] theorem dp_tup (ds : List D) : D.pure (.tup ds) = D.pureL ds := rfl
@[simp] theorem dp_nil : D.pureL [] = true := rfl
@[simp] theorem dp_cons (d : D) (ds : List D) : D.pureL (d :: ds) = (d.pure && D.pureL ds) := rfl
@[simp] theorem dp_append (ds es : List D) : D.pureL (ds ++ es) = (D.pureL ds && D.pureL es) := by
  induction ds with
  | nil => rfl
  | cons d ds ih => show (d.pure && D.pureL (ds ++ es)) = ((d.pure && D.pureL ds) && D.pureL es); rw [ih, Bool.and_assoc]
@[simp] theorem dp_ints (ns : List Int) : D.pureL (ns.map D.int) = true := by
  induction ns with
  | nil => rfl
  | cons n ns ih => exact ih
@[simp] theorem dp_strsL (ns : List Str) : D.pureL (ns.map D.str) = true := by
  induction ns with
  | nil => rfl
  | cons n ns ih => exact ih
@[simp] theorem dp_pairs (ns : List (Int × Int)) : D.pureL (ns.map pairD) = true := by
  induction ns with
  | nil => rfl
  | cons n ns ih => exact ih
@[simp] theorem dl_int (i : Int) : D.lay (.int i) = true := rfl
@[simp] theorem dl_bl (i : Bool) : D.lay (.bl i) = true := rfl
@[simp] theorem dl_str (i : Str) : D.lay (.str i) = PyData.strOk i := rfl
@[simp] theorem dl_non : D.lay .non = true := rfl
@[simp] theorem dl_tup (i : List D) : D.lay (.tup i) = D.layL i := rfl
@[simp] theorem dl_lst (i : List D) : D.lay (.lst i) = D.layL i := rfl
@[simp] theorem dl_nil : D.layL [] = true := rfl
@[simp] theorem dl_cons (d : D) (i : List D) : D.layL (d :: i) = (d.lay && D.layL i) := rfl
@[simp] theorem dl_ints (ns : List Int) : D.layL (ns.map D.int) = true := by
  induction ns with
  | nil => rfl
  | cons n ns ih => exact ih
@[simp] theorem dl_pairs (ns : List (Int × Int)) : D.layL (ns.map pairD) = true := by
  induction ns with
  | nil => rfl
  | cons n ns ih => exact ih
@[simp] theorem de_int (i : Int) : D.dep (.int i) = 0 := rfl
@[simp] theorem de_bl (i : Bool) : D.dep (.bl i) = 0 := rfl
@[simp] theorem de_str (i : Str) : D.dep (.str i) = 0 := rfl
@[simp] theorem de_non : D.dep .non = 0 := rfl
@[simp] theorem de_tup (i : List D) : D.dep (.tup i) = D.depL i + 1 := rfl
@[simp] theorem de_lst (i : List D) : D.dep (.lst i) = D.depL i + 1 := rfl
@[simp] theorem de_nil : D.depL [] = 0 := rfl
@[simp] theorem de_cons (d : D) (i : List D) : D.depL (d :: i) = max d.dep (D.depL i) := rfl
@[simp] theorem de_ints (ns : List Int) : D.depL (ns.map D.int) = 0 := by
  induction ns with
  | nil => rfl
  | cons n ns ih => show max 0 (D.depL (ns.map D.int)) = 0; rw [ih]; rfl
theorem de_pairs (ns : List (Int × Int)) : D.depL (ns.map pairD) ≤ 1 := by
  induction ns with
  | nil => exact Nat.zero_le _
  | cons n ns ih => show max 1 (D.depL (ns.map pairD)) ≤ 1; omega
theorem fit_of {d : D} (h1 : d.lay = true) (h2 : d.dep ≤ 64) : d.fit = true := by unfold D.fit; rw [h1, decide_eq_true h2]; rfl
@[simp] theorem fit_int (i : Int) : (D.int i).fit = true := rfl
@[simp] theorem fit_bl (i : Bool) : (D.bl i).fit = true := rfl
@[simp] theorem fit_ints (ns : List Int) : (D.lst (ns.map .int)).fit = true := fit_of (by simp) (by simp)
@[simp] theorem fit_intsT (ns : List Int) : (D.tup (ns.map .int)).fit = true := fit_of (by simp) (by simp)
@[simp] theorem fit_nilT : (D.tup []).fit = true := rfl
@[simp] theorem fit_nilL : (D.lst []).fit = true := rfl
@[simp] theorem eq_int (i j : Int) : D.eqb (.int i) (.int j) = (i == j) := by simp only [D.eqb]
theorem eqbL_refl_int (ns ms : List Int) : D.eqbL (ns.map .int) (ms.map .int) = decide (ns = ms) := by
  induction ns generalizing ms with
  | nil => cases ms with
    | nil => simp [D.eqbL]
    | cons m ms => simp [D.eqbL]
  | cons n ns ih => cases ms with
    | nil => simp [D.eqbL]
    | cons m ms =>
      simp only [List.map_cons, D.eqbL, D.eqb, ih]
      by_cases h : n = m <;> simp [h]
@[simp] theorem oEq_int (i j : Int) : oEq (.int i) (.int j) = some (.bl (decide (i = j))) := by
  unfold oEq oEqB
  simp only [fit_int, Bool.and_self, if_true, eq_int, Option.map_some]
  by_cases h : i = j <;> simp [h]
@[simp] theorem oNe_int (i j : Int) : oNe (.int i) (.int j) = some (.bl (!decide (i = j))) := by
  unfold oNe oEqB
  simp only [fit_int, Bool.and_self, if_true, eq_int, Option.map_some]
  by_cases h : i = j <;> simp [h]
@[simp] theorem oEq_str (i j : Str) : oEq (.str i) (.str j) = some (.bl (decide (i = j))) := rfl
@[simp] theorem oNe_str (i j : Str) : oNe (.str i) (.str j) = some (.bl (!decide (i = j))) := rfl
@[simp] theorem oAdd_int (i j : Int) : oAdd (.int i) (.int j) = some (.int (i + j)) := rfl
@[simp] theorem oSub_int (i j : Int) : oSub (.int i) (.int j) = some (.int (i - j)) := rfl
@[simp] theorem oNeg_int (i : Int) : oNeg (.int i) = some (.int (-i)) := rfl
theorem oMul_int (i j : Int) (h : (-(2 ^ 64) < i ∧ i < 2 ^ 64) ∨ (-(2 ^ 64) < j ∧ j < 2 ^ 64)) : oMul (.int i) (.int j) = some (.int (i * j)) := by unfold oMul oI; dsimp only; rw [if_pos h]
theorem oFdiv_int (i j : Int) (h : j ≠ 0 ∧ j.natAbs < 1073741824) : oFdiv (.int i) (.int j) = some (.int (i.fdiv j)) := by unfold oFdiv oI; dsimp only; rw [if_pos h]
theorem oMod_int (i j : Int) (h : j ≠ 0) : oMod (.int i) (.int j) = some (.int (i.fmod j)) := by unfold oMod oI; dsimp only; rw [if_pos h]
@[simp] theorem oLtI_int (i j : Int) : oLtI (.int i) (.int j) = some (.bl (decide (i < j))) := rfl
@[simp] theorem oLeI_int (i j : Int) : oLeI (.int i) (.int j) = some (.bl (decide (i ≤ j))) := rfl
@[simp] theorem oGtI_int (i j : Int) : oGtI (.int i) (.int j) = some (.bl (decide (j < i))) := rfl
@[simp] theorem oGeI_int (i j : Int) : oGeI (.int i) (.int j) = some (.bl (decide (j ≤ i))) := rfl
@[simp] theorem oLe_int (i j : Int) : oLe (.int i) (.int j) = some (.bl (decide (i ≤ j))) := rfl
@[simp] theorem oLen_lst (ds : List D) : oLen (.lst ds) = some (.int ds.length) := rfl
@[simp] theorem oLen_tup (ds : List D) : oLen (.tup ds) = some (.int ds.length) := rfl
theorem oLen_str (z : Str) (h : z.length ≤ 100000) : oLen (.str z) = some (.int z.length) := by unfold oLen; dsimp only; rw [if_pos h]
@[simp] theorem oTuple_lst (ds : List D) : oTuple (.lst ds) = some (.tup ds) := rfl
@[simp] theorem oTuple_tup (ds : List D) : oTuple (.tup ds) = some (.tup ds) := rfl
@[simp] theorem oList_lst (ds : List D) : oList (.lst ds) = some (.lst ds) := rfl
@[simp] theorem oList_tup (ds : List D) : oList (.tup ds) = some (.lst ds) := rfl
theorem atI_nn {ds : List D} {i : Nat} {d : D} (h : ds[i]? = some d) : atI ds (i : Int) = some d := by
  have := (List.getElem?_eq_some_iff.mp h).1
  rw [show atI ds ((i : Nat) : Int) = _ from atI_nat (j := i) h]
@[simp] theorem oIx_lst (ds : List D) (i : Int) : oIx (.lst ds) (.int i) = atI ds i := rfl
@[simp] theorem oIx_tup (ds : List D) (i : Int) : oIx (.tup ds) (.int i) = atI ds i := rfl
/-! ### places -/
@[simp] theorem atI_c0 {α : Type} (a : α) (l : List α) : atI (a :: l) 0 = some a := atI_nat (j := 0) rfl
@[simp] theorem atI_c1 {α : Type} (a b : α) (l : List α) : atI (a :: b :: l) 1 = some b := atI_nat (j := 1) rfl
@[simp] theorem atI_c2 {α : Type} (a b c : α) (l : List α) : atI (a :: b :: c :: l) 2 = some c := atI_nat (j := 2) rfl
@[simp] theorem atI_c3 {α : Type} (a b c d : α) (l : List α) : atI (a :: b :: c :: d :: l) 3 = some d := atI_nat (j := 3) rfl
theorem ixN_at {n j : Nat} (hj : j < n) {i : Int} (hi : i = (j : Int)) : ixN n i = some j := by
  subst hi
  unfold ixN
  rw [if_pos (Int.natCast_nonneg j), if_pos (by omega)]
  rfl
theorem seqIx_at {n j : Nat} (hj : j < n) {i : Int} (hi : i = (j : Int)) : seqIndex? i n = some j := (ixN_seq (ixN_at hj hi)).1
theorem atI_at {α : Type} {xs : List α} {j : Nat} {v : α} (h : xs[j]? = some v) {i : Int} (hi : i = (j : Int)) : atI xs i = some v := by rw [hi]; exact atI_nat h
@[simp] theorem set_0 {α : Type} (a x : α) (l : List α) : (a :: l).set 0 x = x :: l := rfl
@[simp] theorem set_1 {α : Type} (a b x : α) (l : List α) : (a :: b :: l).set 1 x = a :: x :: l := rfl
@[simp] theorem set_2 {α : Type} (a b c x : α) (l : List α) : (a :: b :: c :: l).set 2 x = a :: b :: x :: l := rfl
/-! ### defs -/
theorem runF0_ret {k n : Nat} {m : SM} {d0 d o : D} {ds : List D} {e : Env} (hm : m ((d0 :: ds).map some ++ List.replicate (n - (ds.length + 1)) none) = .ret d e) (he : e[0]? = some (some o)) (h : ds.length + 1 = k) : runF0 k n m d0 ds = .ok d o := by
  unfold runF0
  rw [if_pos h, hm]
  dsimp only
  rw [he]
theorem runF0_next {k n : Nat} {m : SM} {d0 o : D} {ds : List D} {e : Env} (hm : m ((d0 :: ds).map some ++ List.replicate (n - (ds.length + 1)) none) = .next e) (he : e[0]? = some (some o)) (h : ds.length + 1 = k) : runF0 k n m d0 ds = .ok .non o := by
  unfold runF0
  rw [if_pos h, hm]
  dsimp only
  rw [he]
theorem runF_ret {fr : Bool} {k n : Nat} {m : SM} {d : D} {ds : List D} {e : Env} (hm : m (ds.map some ++ List.replicate (n - ds.length) none) = .ret d e) (h : ds.length = k) : runF fr k n m ds = .ok d := by
  unfold runF
  rw [if_pos h, hm]
theorem runF_next {k n : Nat} {m : SM} {ds : List D} {e : Env} (hm : m (ds.map some ++ List.replicate (n - ds.length) none) = .next e) (h : ds.length = k) : runF false k n m ds = .ok .non := by
  unfold runF
  rw [if_pos h, hm]
  rfl
/-! ### loops -/
theorem forGo_inv {g : GM} {b : SM} (P : List D → Env → Prop) : ∀ {ds done : List D} {env : Env}, P done env →
    (∀ done d env, P done env → d ∈ ds → ∃ e, g d env = some e ∧ ∃ env', (b e = .next env' ∨ b e = .cont env') ∧ P (done ++ [d]) env') → ∃ env', forGo g b ds env = .next env' ∧ P (done ++ ds) env'
  | [], done, env, h0, _ => ⟨env, rfl, by rw [List.append_nil]; exact h0⟩
  | d :: ds, done, env, h0, hs => by
    obtain ⟨e, h1, env1, h2, h3⟩ := hs done d env h0 List.mem_cons_self
    obtain ⟨env2, h4, h5⟩ := forGo_inv P (ds := ds) h3 fun done d env p m => hs done d env p (List.mem_cons_of_mem _ m)
    refine ⟨env2, ?_, by rw [← List.append_cons] at h5; exact h5⟩
    unfold forGo
    rw [h1]
    rcases h2 with h2 | h2 <;> (dsimp only; rw [h2]; exact h4)
theorem lcGo_inv {vs : List Nat} {g : GM} {c : TM} {e : EM} (P : List D → List D → Env → Prop) : ∀ {ds done acc : List D} {env : Env}, P done acc env → done.length + ds.length ≤ 100000 → acc.length ≤ done.length →
    (∀ done acc d env, P done acc env → d ∈ ds → ∃ e1, g d env = some e1 ∧ ∃ b e2, c e1 = .ok b e2 ∧ (b = false → P (done ++ [d]) acc (wipeE e2 vs)) ∧ (b = true → ∃ x e3, e e2 = .ok x e3 ∧ P (done ++ [d]) (acc ++ [x]) (wipeE e3 vs))) →
    ∃ xs env', lcGo vs g c e ds acc env = .ok xs env' ∧ P (done ++ ds) xs env'
  | [], done, acc, env, h0, _, _, _ => ⟨acc, env, rfl, by rw [List.append_nil]; exact h0⟩
  | d :: ds, done, acc, env, h0, hl, ha, hs => by
    obtain ⟨e1, h1, b, e2, h2, h3, h4⟩ := hs done acc d env h0 List.mem_cons_self
    have hl2 : (done ++ [d]).length + ds.length ≤ 100000 := by
      rw [List.length_append]; simp only [List.length_cons, List.length_nil] at hl ⊢; omega
    have hs2 := fun done acc d' env p (m : d' ∈ ds) => hs done acc d' env p (List.mem_cons_of_mem _ m)
    unfold lcGo
    rw [h1]
    dsimp only
    rw [h2]
    simp only [Out.noX_ok, Out.bind_ok]
    cases b with
    | false =>
      obtain ⟨xs, env', h5, h6⟩ := lcGo_inv P (ds := ds) (h3 rfl) hl2 (by rw [List.length_append]; omega) hs2
      exact ⟨xs, env', by simpa using h5, by rw [← List.append_cons] at h6; exact h6⟩
    | true =>
      obtain ⟨x, e3, h5, h6⟩ := h4 rfl
      obtain ⟨xs, env', h7, h8⟩ := lcGo_inv P (ds := ds) h6 hl2 (by rw [List.length_append, List.length_append]; simpa using ha) hs2
      refine ⟨xs, env', ?_, by rw [← List.append_cons] at h8; exact h8⟩
      rw [if_pos rfl, h5]
      simp only [Out.noX_ok, Out.bind_ok]
      rw [if_pos (by simp only [List.length_cons] at hl; omega)]
      exact h7
/-- no effect: a map -/
theorem lcGo_map {vs : List Nat} {g : GM} {c : TM} {e : EM} (f : D → D) {w : Env} {ds : List D} (hl : ds.length ≤ 100000) (h : ∀ d ∈ ds, ∃ e1, g d w = some e1 ∧ ∃ e2, c e1 = .ok true e2 ∧ ∃ e3, e e2 = .ok (f d) e3 ∧ wipeE e3 vs = w) : lcGo vs g c e ds [] w = .ok (ds.map f) w := by
  obtain ⟨xs, env', h1, h2, h3⟩ := lcGo_inv (vs := vs) (g := g) (c := c) (e := e) (fun done acc env => env = w ∧ acc = done.map f) (ds := ds) (done := []) (acc := []) (env := w) ⟨rfl, rfl⟩ (by simpa using hl) (Nat.zero_le _) (fun done acc d env ⟨p1, p2⟩ m => by
    subst p1 p2
    obtain ⟨e1, q1, e2, q2, e3, q3, q4⟩ := h d m
    exact ⟨e1, q1, true, e2, q2, fun z => (by cases z), fun _ => ⟨_, e3, q3, q4, by rw [List.map_append]; rfl⟩⟩)
  rw [h1, h2, h3]; rfl
/-- no effect: a filter and a map -/
theorem lcGo_filter {vs : List Nat} {g : GM} {c : TM} {e : EM} (p : D → Bool) (f : D → D) {w : Env} {ds : List D} (hl : ds.length ≤ 100000) (h : ∀ d ∈ ds, ∃ e1, g d w = some e1 ∧ ∃ e2, c e1 = .ok (p d) e2 ∧ (p d = false → wipeE e2 vs = w) ∧ (p d = true → ∃ e3, e e2 = .ok (f d) e3 ∧ wipeE e3 vs = w)) : lcGo vs g c e ds [] w = .ok ((ds.filter p).map f) w := by
  obtain ⟨xs, env', h1, h2, h3⟩ := lcGo_inv (vs := vs) (g := g) (c := c) (e := e) (fun done acc env => env = w ∧ acc = (done.filter p).map f) (ds := ds) (done := []) (acc := []) (env := w) ⟨rfl, rfl⟩ (by simpa using hl) (Nat.zero_le _) (fun done acc d env ⟨p1, p2⟩ m => by
    subst p1 p2
    obtain ⟨e1, q1, e2, q2, q3, q4⟩ := h d m
    refine ⟨e1, q1, p d, e2, q2, fun z => ⟨q3 z, ?_⟩, fun z => ?_⟩
    · rw [List.filter_append, List.filter_cons_of_neg (by rw [z]; decide), List.filter_nil, List.append_nil]
    · obtain ⟨e3, r1, r2⟩ := q4 z
      exact ⟨_, e3, r1, r2, by rw [List.filter_append, List.filter_cons_of_pos z, List.map_append]; rfl⟩)
  rw [h1, h2, h3]; rfl
/-! with places -/
theorem forGo_at {g : GM} {b : SM} {total : List D} (P : List D → Env → Prop) : ∀ {ds done : List D} {env : Env}, total = done ++ ds → P done env →
    (∀ done d rest env, total = done ++ d :: rest → P done env → ∃ e, g d env = some e ∧ ∃ env', (b e = .next env' ∨ b e = .cont env') ∧ P (done ++ [d]) env') → ∃ env', forGo g b ds env = .next env' ∧ P total env'
  | [], done, env, ht, h0, _ => ⟨env, rfl, by rw [ht, List.append_nil]; exact h0⟩
  | d :: ds, done, env, ht, h0, hs => by
    obtain ⟨e, h1, env1, h2, h3⟩ := hs done d ds env ht h0
    obtain ⟨env2, h4, h5⟩ := forGo_at P (ds := ds) (total := total) (by rw [ht]; simp) h3 hs
    refine ⟨env2, ?_, h5⟩
    unfold forGo
    rw [h1]
    rcases h2 with h2 | h2 <;> (dsimp only; rw [h2]; exact h4)
theorem lcGo_at {vs : List Nat} {g : GM} {c : TM} {e : EM} {total : List D} (hl : total.length ≤ 100000) (P : List D → List D → Env → Prop) : ∀ {ds done acc : List D} {env : Env}, total = done ++ ds → P done acc env → acc.length ≤ done.length →
    (∀ done acc d rest env, total = done ++ d :: rest → P done acc env → ∃ e1, g d env = some e1 ∧ ∃ b e2, c e1 = .ok b e2 ∧ (b = false → P (done ++ [d]) acc (wipeE e2 vs)) ∧ (b = true → ∃ x e3, e e2 = .ok x e3 ∧ P (done ++ [d]) (acc ++ [x]) (wipeE e3 vs))) →
    ∃ xs env', lcGo vs g c e ds acc env = .ok xs env' ∧ P total xs env'
  | [], done, acc, env, ht, h0, _, _ => ⟨acc, env, rfl, by rw [ht, List.append_nil]; exact h0⟩
  | d :: ds, done, acc, env, ht, h0, ha, hs => by
    obtain ⟨e1, h1, b, e2, h2, h3, h4⟩ := hs done acc d ds env ht h0
    have ht2 : total = (done ++ [d]) ++ ds := by rw [ht]; simp
    have hz : done.length + (ds.length + 1) ≤ 100000 := by
      have := congrArg List.length ht
      rw [List.length_append, List.length_cons] at this
      omega
    unfold lcGo
    rw [h1]
    dsimp only
    rw [h2]
    simp only [Out.noX_ok, Out.bind_ok]
    cases b with
    | false =>
      obtain ⟨xs, env', h5, h6⟩ := lcGo_at hl P (ds := ds) ht2 (h3 rfl) (by rw [List.length_append]; omega) hs
      exact ⟨xs, env', by simpa using h5, h6⟩
    | true =>
      obtain ⟨x, e3, h5, h6⟩ := h4 rfl
      obtain ⟨xs, env', h7, h8⟩ := lcGo_at hl P (ds := ds) ht2 h6 (by rw [List.length_append, List.length_append]; simpa using ha) hs
      refine ⟨xs, env', ?_, h8⟩
      rw [if_pos rfl, h5]
      simp only [Out.noX_ok, Out.bind_ok]
      rw [if_pos (by omega)]
      exact h7
theorem rangeL_at {lo : Int} {n : Nat} {done rest : List D} {d : D} (h : rangeL lo n = done ++ d :: rest) : d = .int (lo + done.length) ∧ done.length < n := by
  have e : (rangeL lo n)[done.length]? = some d := by rw [h]; simp
  unfold rangeL at e
  rw [List.getElem?_map] at e
  cases q : (List.range n)[done.length]? with
  | none => rw [q] at e; cases e
  | some j =>
    rw [q] at e
    cases e
    obtain ⟨h1, h2⟩ := List.getElem?_eq_some_iff.mp q
    rw [List.getElem_range] at h2
    rw [List.length_range] at h1
    subst h2
    exact ⟨rfl, h1⟩
theorem enumL_at {ds done rest : List D} {d : D} (h : enumL 0 ds = done ++ d :: rest) : ∃ x, ds[done.length]? = some x ∧ d = .tup [.int done.length, x] := by
  have e : (enumL 0 ds)[done.length]? = some d := by rw [h]; simp
  obtain ⟨x, h1, h2⟩ := enumL_get e
  exact ⟨x, h1, by rw [h2, Nat.zero_add]⟩
end Mir
/-! MirR -/
namespace L2
open PySem PySem.Spec PyProof.Rows
/-- x( *y), x a name in slot i that holds the class at C -/
def tMakeS (K : PySem.W.Frag) (i : Nat) (C : Addr) (sp : Sp) (E : XK) (te : TE) : TE := fun σ H Q => σ[i]? = some (some (.ref C)) ∧ te σ H fun y H1 => ∃ a xs, y = V.ref a ∧ (SqT K H1 a xs ∨ SqL K H1 a xs) ∧
  ∀ x dx, H1 x = none → H1 dx = none → dx ≠ x → sp (.ref x :: (xs ++ [])) (upd (upd H1 dx (.own x)) x (.ins C dx [])) (fun v H2 => v = .non ∧ Q (.ref x) H2) E
theorem pe_makeS {X : Cx} {CX : CXT} {k i : Nat} {f C : Addr} {fd : FuncData} {ps : List Str} {sp : Sp} {E : XK} {x : Str} {p sp_ pos : Pos} {e : Expr} {te : TE} (M : Mk X.K C f) (F : FnOk X.prog X.w X.K X.mg X.base CX k f fd ps sp) (hr : Room (k + 1) X.A)
    (hN : X.N[i]? = some x) (hv : Vis X.env.scope x) (hb : Binds X.K fd ps []) (hx : Passes CX X E) (he : PE X e te)
    (hdb : (x == ("__debug__" : Str)) = false := by decide) (hcd : (x == ("__classdict__" : Str)) = false := by decide)
    (hst : starEach [.Starred e sp_] X.env = [(true, eval e X.env)] := by rfl) : PE X (.Call (.Name x p) [.Starred e sp_] [] pos) (tMakeS X.K i C sp E te) := by
  refine ⟨fun pins s σ H Q I h => ?_⟩
  obtain ⟨h0, ht⟩ := h
  refine wpAny_Call_Name_kw (thn ((pe_var (pos := p) hN hv hdb hcd).run pins s σ H (fun v H1 => v = .ref C ∧ H1 = H) I ⟨.ref C, h0, rfl, rfl⟩) fun u s1 ⟨v, H1, I1, r1, q1⟩ => ?_)
  obtain ⟨rfl, rfl⟩ := q1
  cases r1
  refine PySem.W.callWith_S (h₀ := X.base) I.ok.mod.kin M.kp (thn (he.run pins s1 σ _ _ I1 ht) fun v s2 ⟨y, H2, I2, ry, a, xs, ey, hxs, q⟩ => ?_) hst
  subst ey
  obtain rfl : v = Value.ref a := ry
  exact StX.star_any I2 hxs fun us s3 I3 rv => ⟨I3.kIn, run_make M F hr hb .nil hx I3 rv q⟩
end L2
namespace Mir
open PySem PySem.Spec PyProof.Rows L2
/-- the class with the number c, as a value -/
abbrev D.cls (c : Nat) : D := .dic [.int (c : Int)] []
section
variable {S : Sc} {O P : List Nat} {E : XK} {μ : Mo} {fr fa fb : Bool} {ta tb : TE} {ma mb : EM} {tA : TA} {mA : AM}
theorem rep_cls {F : Addr → Prop} {H : Hp} {c : Nat} : Rep S F H (.cls c) (.ref (S.ca c)) := ⟨c, rfl, rfl⟩
def eCMeth (c : Nat) (f : DM) (a : AM) : EM := fun env => (a env).bind fun ds e => (f (.cls c :: ds)).out e
@[simp] theorem ap_eCMeth {env : Env} (c : Nat) (f : DM) (a : AM) : eCMeth c f a env = (a env).bind fun ds e => (f (.cls c :: ds)).out e := rfl
theorem ref_cmeth {c n : Nat} {f : DM} (har : ∀ ds, f ds ≠ .bad → ds.length = n) (ha : RefA S O P E μ tA mA) : RefE S O P E μ fr (ClX.tCMeth (S.ca c) (fun vs H Q E => spM S fr n f (vs ++ []) H Q E) E (tC (.ref (S.ca c))) tA) (eCMeth c f mA) := by
  intro R σ H fp env I Q h
  refine ⟨rfl, ?_⟩
  refine ha R σ H fp env I _ ((Want.bind h).mono fun ds e1 H1 f1 I1 s1 h1 vs hv => ?_)
  have hall : RepL S (FM R f1 μ) H1 (.cls c :: ds) (.ref (S.ca c) :: vs ++ []) := by rw [List.append_nil]; exact .cons rep_cls hv
  refine ⟨FM R f1 μ, .cls c :: ds, ?_, fun a q => I1.fm q, hall, want_fo h1 I1 fun a q => s1.dom q⟩
  have nb : f (.cls c :: ds) ≠ .bad := fun z => by rw [z] at h1; exact h1
  rw [hall.length, har _ nb]
def eMakeS (c i : Nat) (f : DM0) (a : EM) : EM := fun env => match env[i]? with
  | some (some (.dic [.int k] [])) => if k = (c : Int) then (a env).bind fun x e => (Out.opt x.seq e).bind fun ds e => match f (.ins c []) ds with
    | .ok d o => match d, o with
      | .non, .ins c' es => if c' = c then .ok (.ins c es) e else .bad
      | _, _ => .bad
    | _ => .bad else .bad
  | _ => .bad
@[simp] theorem ap_eMakeS {env : Env} (c i : Nat) (f : DM0) (a : EM) : eMakeS c i f a env = match env[i]? with
  | some (some (.dic [.int k] [])) => if k = (c : Int) then (a env).bind fun x e => (Out.opt x.seq e).bind fun ds e => match f (.ins c []) ds with
    | .ok d o => match d, o with
      | .non, .ins c' es => if c' = c then .ok (.ins c es) e else .bad
      | _, _ => .bad
    | _ => .bad else .bad
  | _ => .bad := rfl
theorem ref_makeS {c n i : Nat} {f : DM0} (hO : i ∉ O) (har : ∀ d ds, f d ds ≠ .bad → ds.length + 1 = n) (ha : RefE S O P E μ fa ta ma) : RefE S O P E μ false (tMakeS S.K i (S.ca c) (spM0 S n f) E ta) (eMakeS c i f ma) := by
  intro R σ H fp env I Q h
  unfold eMakeS at h
  split at h
  · rename_i k e0
    split at h
    · rename_i ek
      subst ek
      obtain ⟨v0, w1, w2⟩ := I.val i _ e0 hO
      obtain ⟨c2, w3, rfl⟩ := w2
      have : c2 = c := by
        have := (List.cons.inj w3).1
        cases this
        rfl
      subst this
      refine ⟨w1, ?_⟩
      refine ha R σ H fp env I _ ((Want.bind h).mono fun x e1 H1 f1 I1 s1 h1 v hv _ => ?_)
      have h5 := Want.bind h1
      obtain ⟨ds, hd⟩ := want_some h5
      rw [hd] at h5
      have h1 := h5 H1 f1 I1 Stp.refl
      dsimp only at h1
      have hvr := hv.rep
      obtain ⟨a, vs, rfl, hq, hvs⟩ : ∃ a vs, v = .ref a ∧ (SqT S.K H1 a vs ∨ SqL S.K H1 a vs) ∧ RepL S (FM R f1 μ) H1 ds vs := by
        cases x with
        | tup es =>
          cases hd
          obtain ⟨a, vs, rfl, q1, q2⟩ := hvr
          exact ⟨a, vs, rfl, .inl q1, q2⟩
        | lst es =>
          cases hd
          obtain ⟨a, vs, rfl, _, q1, q2⟩ := hvr
          exact ⟨a, vs, rfl, .inr (.inl (.inl q1)), q2⟩
        | _ => cases hd
      refine ⟨a, vs, rfl, hq, fun x dx hx hdx ne => ?_⟩
      have g1 : Ext Nil H1 (upd H1 dx (.own x)) := Ext.new hdx
      have g2 : Ext Nil (upd H1 dx (.own x)) (upd (upd H1 dx (.own x)) x (.ins (S.ca c2) dx [])) := Ext.new (by rw [upd_ne (Ne.symm ne)]; exact hx)
      have g := g1.trans g2
      cases q : f (.ins c2 []) ds with
      | bad => rw [q] at h1; exact h1.elim
      | exc y o => rw [q] at h1; exact h1.elim
      | ok d o =>
        have hn : vs.length + 1 = n := by
          have nb : f (.ins c2 []) ds ≠ .bad := fun z => by rw [q] at z; cases z
          rw [hvs.length]
          exact har _ _ nb
        refine ⟨FM R f1 μ, .ins c2 [], ds, x, vs ++ [], [x], rfl, by rw [List.append_nil, List.length_cons, hn], fun a q => g.dom (I1.fm q), fun a q => ?_, by simp, ⟨rfl, dx, [], upd_same, rfl, rfl⟩, ?_, ?_⟩
        · rw [List.mem_singleton.mp q, upd_same]
          exact fun z => nomatch z
        · rw [List.append_nil]
          exact (hvs.less (F' := fun y => FM R f1 μ y ∨ y ∈ [x]) fun a z => z.imp id fun q => by rw [List.mem_singleton.mp q]; exact hx).grow g
        · rw [q] at h1 ⊢
          dsimp only at h1
          intro v H' l' w hO' hnd hal hr
          split at h1
          · rename_i c' es
            split at h1
            · rename_i ec
              subst ec
              have ex : Ext Nil H1 H' := fun b o q _ =>
                w.1 b o (g.nil b o q) (.inl fun z => absurd hx (by rw [← List.mem_singleton.mp z, q]; exact fun z => nomatch z))
              obtain ⟨el, dx', fs, q1, q2, q3⟩ := hO'
              refine ⟨hr, ?_⟩
              exact h1 H' f1 (I1.grow ex) (Stp.grow ex) _ ⟨x, dx', fs, rfl, fun z => I1.fm z hx, q1, q2, q3.less fun a z => .inl (.inl z)⟩ sep0
            · exact h1.elim
          · exact h1.elim
    · exact h.elim
  · exact h.elim
end
end Mir
/-! A14 -/
namespace K14
open PySem PySem.Spec PyProof.Rows L2 Mir
noncomputable section
def c_MAX_PERSONS : D := (.int 6)
def c_LENGTHS : D := (.tup [(.int 1), (.int 2), (.int 3), (.int 4), (.int 6), (.int 8), (.int 12), (.int 24)])
def c_MAX_KEYS : D := (.int 9)
def c_MAX_REMINDERS : D := (.int 10)
def c_HOME : D := (.str "h")
def c_OUT : D := (.str "o")
def c_DIGITS : D := (.str "0123456789")
def c_MAX_DIGITS : D := (.int 2)
def b_is_int_in : SM := (sRet (eAndV (e1 (oIsi "int") (eVar 0)) (eAndV (eNotV (e1 (oIsi "bool") (eVar 0))) (eChain oLeI oLeI (eVar 1) (eVar 0) (eVar 2)))))
def d_is_int_in : DM := runF false 3 3 b_is_int_in
def b_is_table : SM := (sSeq (sIf (mOr (mNot (mTest (e1 (oIsi "str") (eVar 0)))) (mTest (e2 oNotIn (eA (A1 oLen) (aCons (eVar 0) aNil)) (eC c_LENGTHS)))) (sRet (eC (.bl false))) sNext)
  (sRet (eA (A1 oAll) (aCons (eLc [1] (iSeqM (eVar 0)) (gSet 1) mYes (e2 oIn (eVar 1) (eTup (aCons (eC c_HOME) (aCons (eC c_OUT) aNil))))) aNil))))
def d_is_table : DM := runF false 1 2 b_is_table
def b_common_multiple : SM := (sSeq (sAsg (eVar 0) (gSet 2))
  (sSeq (sWhile (mTest (e2 oNe (e2 oMul (e2 oFdiv (eVar 2) (eVar 1)) (eVar 1)) (eVar 2))) (sAug 2 (eVar 0) (· + ·)))
  (sRet (eVar 2))))
def d_common_multiple : DM := runF false 2 3 b_common_multiple
def b_check_persons : SM := (sSeq (sIf (mNot (mTest (e1 (oIsi "tuple") (eVar 1)))) sBad sNext)
  (sFor (iEnumT (eVar 1)) (gTupleM [(gSet 3), (gSet 4)]) (sIf (mOr (mNot (mTest (eCall d_is_int_in [] (aCons (eVar 4) (aCons (eC (.int 0)) (aCons (e2 oSub (eVar 2) (eC (.int 1))) aNil)))))) (mAnd (mTest (e2 oGtI (eVar 3) (eC (.int 0)))) (mTest (e2 oLe (eVar 4) (e2 oIx (eVar 1) (e2 oSub (eVar 3) (eC (.int 1)))))))) sBad sNext)))
def d_check_persons : DM := runF false 3 5 b_check_persons
def b_is_reminder : SM := (sSeq (sIf (mOr (mNot (mTest (e1 (oIsi "tuple") (eVar 0)))) (mTest (e2 oNe (eA (A1 oLen) (aCons (eVar 0) aNil)) (eC (.int 2))))) (sRet (eC (.bl false))) sNext)
  (sRet (eAndV (eCall d_is_int_in [] (aCons (e2 oIx (eVar 0) (eC (.int 0))) (aCons (eC (.int 0)) (aCons (e2 oSub (eVar 1) (eC (.int 1))) aNil)))) (eCall d_is_int_in [] (aCons (e2 oIx (eVar 0) (eC (.int 1))) (aCons (eC (.int 0)) (aCons (e2 oSub (eVar 2) (eC (.int 1))) aNil)))))))
def d_is_reminder : DM := runF false 3 3 b_is_reminder
def b_House__init_ : SM := (sSeq (sIf (mOr (mNot (mTest (e1 (oIsi "tuple") (eVar 1)))) (mTest (e2 oEq (eVar 1) (eTup aNil)))) sBad sNext)
  (sSeq (sAsg (eC (.int 1)) (gSet 5))
  (sSeq (sFor (iEnumT (eVar 1)) (gTupleM [(gSet 6), (gSet 7)]) (sSeq (sIf (mOr (mTest (e2 oEq (eVar 6) (eC c_MAX_PERSONS))) (mNot (mTest (eCall d_is_table [] (aCons (eVar 7) aNil))))) sBad sNext)
  (sAsg (eCall d_common_multiple [] (aCons (eVar 5) (aCons (eA (A1 oLen) (aCons (eVar 7) aNil)) aNil))) (gSet 5))))
  (sSeq (sIf (mNot (mTest (eCall d_is_int_in [] (aCons (eVar 2) (aCons (eC (.int 0)) (aCons (eC c_MAX_KEYS) aNil)))))) sBad sNext)
  (sSeq (sDrop (eCall d_check_persons [] (aCons (eC (.str "careful")) (aCons (eVar 3) (aCons (eA (A1 oLen) (aCons (eVar 1) aNil)) aNil)))))
  (sSeq (sIf (mNot (mTest (e1 (oIsi "tuple") (eVar 4)))) sBad sNext)
  (sSeq (sFor (iEnumT (eVar 4)) (gTupleM [(gSet 6), (gSet 8)]) (sSeq (sIf (mOr (mTest (e2 oEq (eVar 6) (eC c_MAX_REMINDERS))) (mNot (mTest (eCall d_is_reminder [] (aCons (eVar 8) (aCons (eVar 5) (aCons (eA (A1 oLen) (aCons (eVar 1) aNil)) aNil))))))) sBad sNext)
  (sIf (mAnd (mTest (e2 oGtI (eVar 6) (eC (.int 0)))) (mTest (e2 oLe (eVar 8) (e2 oIx (eVar 4) (e2 oSub (eVar 6) (eC (.int 1))))))) sBad sNext)))
  (sSeq (sSetFld 0 0 0 (eVar 1))
  (sSeq (sSetFld 0 0 1 (eVar 2))
  (sSeq (sSetFld 0 0 2 (eVar 3))
  (sSeq (sSetFld 0 0 3 (eVar 4))
  (sSetFld 0 0 4 (eVar 5)))))))))))))
def d_House__init_ : DM0 := runF0 5 9 b_House__init_
def b_read_number : SM := (sSeq (sIf (mOr (mNot (mTest (eChain oLeI oLeI (eC (.int 1)) (eA (A1 oLen) (aCons (eVar 0) aNil)) (eC c_MAX_DIGITS)))) (mTest (eA (A1 oAny) (aCons (eLc [1] (iSeqM (eVar 0)) (gSet 1) mYes (e2 oNotIn (eVar 1) (eC c_DIGITS))) aNil)))) (sRet (eC .non)) sNext)
  (sRet (eIf (mAnd (mTest (e2 oGtI (eA (A1 oLen) (aCons (eVar 0) aNil)) (eC (.int 1)))) (mTest (e2 oEq (e2 oIx (eVar 0) (eC (.int 0))) (eC (.str "0"))))) (eC .non) (eA (A1 oInt) (aCons (eVar 0) aNil)))))
def d_read_number : DM := runF false 1 2 b_read_number
def b_is_word : SM := (sRet (eAndV (e2 oNe (eVar 0) (eC (.str ""))) (eA (A1 oAll) (aCons (eLc [1] (iSeqM (eVar 0)) (gSet 1) mYes (e2 oIn (eVar 1) (eTup (aCons (eC c_HOME) (aCons (eC c_OUT) aNil))))) aNil))))
def d_is_word : DM := runF false 1 2 b_is_word
def b_read_part : SM := (sSeq (sIf (mTest (e2 oEq (eVar 0) (eC (.str "tables")))) (sRet (eIf (mTest (eA (A1 oAll) (aCons (eLc [4] (iSeqM (eVar 1)) (gSet 4) mYes (eCall d_is_word [] (aCons (eVar 4) aNil))) aNil))) (eA (A1 oTuple) (aCons (eVar 1) aNil)) (eC .non))) sNext)
  (sSeq (sIf (mTest (e2 oEq (eVar 0) (eC (.str "remind")))) (sSeq (sAsg (eLc [4] (iSeqM (eVar 1)) (gSet 4) mYes (eM1 oSplit (eVar 4) (eC (.str ":")))) (gSet 3))
  (sSeq (sAsg (eLc [5] (iSeqM (eVar 3)) (gSet 5) mYes (eLc [6] (iSeqM (eVar 5)) (gSet 6) mYes (eCall d_read_number [] (aCons (eVar 6) aNil)))) (gSet 2))
  (sSeq (sIf (mTest (eA (A1 oAny) (aCons (eLc [5] (iSeqM (eVar 2)) (gSet 5) mYes (eOrV (e2 oNe (eA (A1 oLen) (aCons (eVar 5) aNil)) (eC (.int 2))) (e2 oIn (eC .non) (eVar 5)))) aNil))) (sRet (eC .non)) sNext)
  (sRet (eA (A1 oTuple) (aCons (eLc [5] (iSeqM (eVar 2)) (gSet 5) mYes (eA (A1 oTuple) (aCons (eVar 5) aNil))) aNil)))))) sNext)
  (sSeq (sAsg (eLc [4] (iSeqM (eVar 1)) (gSet 4) mYes (eCall d_read_number [] (aCons (eVar 4) aNil))) (gSet 2))
  (sSeq (sIf (mOr (mTest (e2 oIn (eC .non) (eVar 2))) (mAnd (mTest (e2 oEq (eVar 0) (eC (.str "keys")))) (mTest (e2 oNe (eA (A1 oLen) (aCons (eVar 2) aNil)) (eC (.int 1)))))) (sRet (eC .non)) sNext)
  (sRet (eIf (mTest (e2 oEq (eVar 0) (eC (.str "keys")))) (e2 oIx (eVar 2) (eC (.int 0))) (eA (A1 oTuple) (aCons (eVar 2) aNil))))))))
def d_read_part : DM := runF false 2 7 b_read_part
def b_House_parse : SM := (sSeq (sAsg (eM1 oSplit (eVar 1) (eC (.str "\n"))) (gSet 2))
  (sSeq (sOwn (eLst aNil) 3)
  (sSeq (sFor (iEnumT (eTup (aCons (eC (.str "tables")) (aCons (eC (.str "keys")) (aCons (eC (.str "careful")) (aCons (eC (.str "remind")) aNil)))))) (gTupleM [(gSet 4), (gSet 5)]) (sSeq (sAsg (eIf (mTest (e2 oLtI (eVar 4) (eA (A1 oLen) (aCons (eVar 2) aNil)))) (eM1 oSplit (e2 oIx (eVar 2) (eVar 4)) (eC (.str " "))) (eLst (aCons (eC (.str "")) aNil))) (gSet 6))
  (sSeq (sAsg (eCall d_read_part [] (aCons (eVar 5) (aCons (eSl oSl (eVar 6) (pSome (eC (.int 1))) pNone) aNil))) (gSet 7))
  (sSeq (sIf (mOr (mTest (e2 oNe (e2 oIx (eVar 6) (eC (.int 0))) (eVar 5))) (mTest (e2 oIsN (eVar 7) (eC .non)))) sBad sNext)
  (sApp 3 (eVar 7))))))
  (sSeq (sIf (mTest (e2 oGtI (eA (A1 oLen) (aCons (eVar 2) aNil)) (eA (A1 oLen) (aCons (eVar 3) aNil)))) sBad sNext)
  (sRet (eMakeS 0 0 d_House__init_ (eVar 3)))))))
def d_House_parse : DM := runF false 2 8 b_House_parse
def b_House_text : SM := (sSeq (sAsg (eLc [3, 4] (iSeqM (eFld 0 3 (eVar 0))) (gTupleM [(gSet 3), (gSet 4)]) mYes (e2 oAdd (e2 oAdd (eA (A1 oStr) (aCons (eVar 3) aNil)) (eC (.str ":"))) (eA (A1 oStr) (aCons (eVar 4) aNil)))) (gSet 1))
  (sSeq (sOwn (eLst (aCons (eLst (aCons (eC (.str "tables")) (aStar (eFld 0 0 (eVar 0)) aNil))) (aCons (eLst (aCons (eC (.str "keys")) (aCons (eA (A1 oStr) (aCons (eFld 0 1 (eVar 0)) aNil)) aNil))) aNil))) 2)
  (sSeq (sApp 2 (e2 oAdd (eLst (aCons (eC (.str "careful")) aNil)) (eLc [4] (iSeqM (eFld 0 2 (eVar 0))) (gSet 4) mYes (eA (A1 oStr) (aCons (eVar 4) aNil)))))
  (sSeq (sApp 2 (eLst (aCons (eC (.str "remind")) (aStar (eVar 1) aNil))))
  (sRet (eUp (eM1 oJoin (eC (.str "\n")) (eLc [5] (iLst (eVar 2)) (gSet 5) mYes (eM1 oJoin (eC (.str " ")) (eVar 5))))))))))
def d_House_text : DM := runF false 1 6 b_House_text
def b_law_below : SM := (sSeq (sIf (mAnd (mTest (e2 oEq (e2 oIx (eVar 0) (eC (.int 1))) (eC (.int 0)))) (mTest (e2 oGtI (eA (A1 oLen) (aCons (eVar 0) aNil)) (eC (.int 2))))) (sSetIx 0 1 (ePopAt 0 2)) sNext)
  (sSeq (sIf (mTest (e2 oGtI (e2 oIx (eVar 0) (eC (.int 1))) (eC (.int 0)))) (sSeq (sAsg (eUp (e2 oMod (e2 oIx (eVar 0) (eC (.int 1))) (eVar 1))) (gSet 2))
  (sSeq (sSetIx 0 1 (eUp (e2 oFdiv (e2 oIx (eVar 0) (eC (.int 1))) (eVar 1))))
  (sRet (eVar 2)))) sNext)
  (sSeq (sSetIx 0 0 (eUp (e2 oMod (e2 oAdd (e2 oMul (e2 oIx (eVar 0) (eC (.int 0))) (eC (.int 48271))) (eC (.int 11))) (eC (.int 2147483647)))))
  (sRet (eUp (e2 oMod (e2 oFdiv (e2 oIx (eVar 0) (eC (.int 0))) (eC (.int 64))) (eVar 1)))))))
def d_law_below : DM0 := runF0 2 3 b_law_below
def b_law_table : SM := (sSeq (sAsg (e2 oIx (eLst (aCons (eC (.int 1)) (aCons (eC (.int 2)) (aCons (eC (.int 3)) (aCons (eC (.int 4)) (aCons (eC (.int 4)) (aCons (eC (.int 6)) (aCons (eC (.int 8)) (aCons (eC (.int 12)) (aCons (eC (.int 24)) aNil)))))))))) (eCallO d_law_below 0 (aCons (e2 oIx (eLst (aCons (eC (.int 5)) (aCons (eC (.int 7)) (aCons (eC (.int 9)) aNil)))) (eCallO d_law_below 0 (aCons (eC (.int 3)) aNil))) aNil))) (gSet 1))
  (sRet (eM1 oJoin (eC (.str "")) (eLc [2] (iRng1M (aCons (eVar 1) aNil)) (gSet 2) mYes (e2 oIx (eC (.str "ho")) (eCallO d_law_below 0 (aCons (eC (.int 2)) aNil)))))))
def d_law_table : DM0 := runF0 1 3 b_law_table
def b_law_length : SM := (sSeq (sAsg (eC (.int 1)) (gSet 1))
  (sSeq (sWhile (mTest (e2 oNe (eLc [2] (iSeqM (eVar 0)) (gSet 2) (mTest (e2 oGtI (e2 oMod (eVar 1) (eA (A1 oLen) (aCons (eVar 2) aNil))) (eC (.int 0)))) (eVar 2)) (eLst aNil))) (sAsg (e2 oAdd (eVar 1) (eC (.int 1))) (gSet 1)))
  (sRet (eVar 1))))
def d_law_length : DM := runF false 1 3 b_law_length
def b_law_parts : SM := (sSeq (sAsg (eA (A1 oTuple) (aCons (eLc [4] (iRng1M (aCons (e2 oAdd (eC (.int 1)) (eCallO d_law_below 0 (aCons (eVar 1) aNil))) aNil)) (gSet 4) mYes (eCallO d_law_table 0 aNil)) aNil)) (gSet 2))
  (sSeq (sAsg (eA (A1 oTuple) (aCons (eLc [4] (iRng1M (aCons (eA (A1 oLen) (aCons (eVar 2) aNil)) aNil)) (gSet 4) (mTest (e2 oEq (eCallO d_law_below 0 (aCons (eC (.int 3)) aNil)) (eC (.int 0)))) (eVar 4)) aNil)) (gSet 3))
  (sSeq (sParO 5 (eCall d_law_length [] (aCons (eVar 2) aNil)) 6 (eLst aNil))
  (sSeq (sFor (iRng1M (aCons (eCallO d_law_below 0 (aCons (e2 oIx (eLst (aCons (eC (.int 1)) (aCons (eC (.int 4)) (aCons (eC (.int 11)) aNil)))) (eCallO d_law_below 0 (aCons (eC (.int 3)) aNil))) aNil)) aNil)) (gSet 4) (sSeq (sAsg (eTup (aCons (eCallO d_law_below 0 (aCons (eVar 5) aNil)) (aCons (eCallO d_law_below 0 (aCons (eA (A1 oLen) (aCons (eVar 2) aNil)) aNil)) aNil))) (gSet 7))
  (sIf (mTest (e2 oNotIn (eVar 7) (eVar 6))) (sApp 6 (eVar 7)) sNext)))
  (sRet (eTup (aCons (eVar 2) (aCons (eCallO d_law_below 0 (aCons (e2 oIx (eLst (aCons (eC (.int 3)) (aCons (eC (.int 10)) aNil))) (eCallO d_law_below 0 (aCons (eC (.int 2)) aNil))) aNil)) (aCons (eVar 3) (aCons (eUp (eA (A1 oTuple) (aCons (eA (A1 oSort) (aCons (eVar 6) aNil)) aNil))) aNil))))))))))
def d_law_parts : DM0 := runF0 2 8 b_law_parts
def b_law_equal (dm : DM) : SM := (sSeq (sIf (mTest (e2 oIsN (eVar 1) (eC .non))) (sRet (e2 oIsN (eVar 0) (eC .non))) sNext)
  (sSeq (sIf (mTest (e1 (oIsi "bool") (eVar 1))) (sRet (eAndV (e1 (oIsi "bool") (eVar 0)) (e2 oEq (eVar 0) (eVar 1)))) sNext)
  (sSeq (sIf (mTest (e1 (oIsi "int") (eVar 1))) (sRet (eAndV (e1 (oIsi "int") (eVar 0)) (eAndV (eNotV (e1 (oIsi "bool") (eVar 0))) (e2 oEq (eVar 0) (eVar 1))))) sNext)
  (sSeq (sIf (mTest (e1 (oIsi "str") (eVar 1))) (sRet (eAndV (e1 (oIsi "str") (eVar 0)) (e2 oEq (eVar 0) (eVar 1)))) sNext)
  (sSeq (sIf (mTest (e2 oNe (e1 (oIsi "tuple") (eVar 1)) (e1 (oIsi "tuple") (eVar 0)))) (sRet (eC (.bl false))) sNext)
  (sSeq (sIf (mTest (e2 oNe (e1 (oIsi "list") (eVar 1)) (e1 (oIsi "list") (eVar 0)))) (sRet (eC (.bl false))) sNext)
  (sSeq (sIf (mTest (e2 oNe (eA (A1 oLen) (aCons (eVar 0) aNil)) (eA (A1 oLen) (aCons (eVar 1) aNil)))) (sRet (eC (.bl false))) sNext)
  (sRet (eA (A1 oAll) (aCons (eLc [2] (iRng1M (aCons (eA (A1 oLen) (aCons (eVar 1) aNil)) aNil)) (gSet 2) mYes (eCall dm [] (aCons (e2 oIx (eVar 0) (eVar 2)) (aCons (e2 oIx (eVar 1) (eVar 2)) aNil)))) aNil))))))))))
def d_law_equal : Nat → DM
  | 0 => fun _ => .bad
  | n + 1 => runF false 2 3 (b_law_equal (d_law_equal n))
theorem ar_law_equal : ∀ n ds, d_law_equal n ds ≠ .bad → ds.length = 2
  | 0, _, h => absurd rfl h
  | _ + 1, _, h => runF_ar h
def b_law_house : SM := (sRet (eMake 0 d_House__init_ [] (aCons (e2 oIx (eVar 0) (eC (.int 0))) (aCons (e2 oIx (eVar 0) (eC (.int 1))) (aCons (e2 oIx (eVar 0) (eC (.int 2))) (aCons (e2 oIx (eVar 0) (eC (.int 3))) aNil))))))
def d_law_house : DM := runF false 1 1 b_law_house
end
end K14
namespace K14
open PySem PySem.Spec PyProof.Rows L2 Mir
noncomputable section
def b_law : SM := (sSeq (sFor (iRng1M (aCons (eC (.int 5)) aNil)) (gSet 2) (sSeq (sAsg (eCallO d_law_parts 1 (aCons (eC (.int 6)) aNil)) (gSet 3))
  (sSeq (sOwn (eLst (aCons (e2 oAdd (eLst (aCons (eC (.str "tables")) aNil)) (eA (A1 oList) (aCons (e2 oIx (eVar 3) (eC (.int 0))) aNil))) (aCons (eLst (aCons (eC (.str "keys")) (aCons (eA (A1 oStr) (aCons (e2 oIx (eVar 3) (eC (.int 1))) aNil)) aNil))) (aCons (e2 oAdd (eLst (aCons (eC (.str "careful")) aNil)) (eLc [8] (iSeqM (e2 oIx (eVar 3) (eC (.int 2)))) (gSet 8) mYes (eA (A1 oStr) (aCons (eVar 8) aNil)))) aNil)))) 4)
  (sSeq (sApp 4 (e2 oAdd (eLst (aCons (eC (.str "remind")) aNil)) (eLc [9, 10] (iSeqM (e2 oIx (eVar 3) (eC (.int 3)))) (gTupleM [(gSet 9), (gSet 10)]) mYes (e2 oAdd (e2 oAdd (eA (A1 oStr) (aCons (eVar 9) aNil)) (eC (.str ":"))) (eA (A1 oStr) (aCons (eVar 10) aNil))))))
  (sSeq (sAsg (eUp (eM1 oJoin (eC (.str "\n")) (eLc [7] (iLst (eVar 4)) (gSet 7) mYes (eM1 oJoin (eC (.str " ")) (eVar 7))))) (gSet 5))
  (sSeq (sAsg (eCMeth 0 d_House_parse (aCons (eVar 5) aNil)) (gSet 6))
  (sSeq (sIf (mNot (mTest (eCall (d_law_equal 4) [] (aCons (eLst (aCons (eProp 0 d_House_text (eVar 6)) (aCons (eProp 0 d_House_text (eCall d_law_house [] (aCons (eVar 3) aNil))) aNil))) (aCons (eLst (aCons (eVar 5) (aCons (eVar 5) aNil))) aNil))))) (sRet (eC (.bl false))) sNext)
  (sIf (mNot (mTest (eCall (d_law_equal 4) [] (aCons (eLst (aCons (eFld 0 0 (eVar 6)) (aCons (eFld 0 1 (eVar 6)) (aCons (eFld 0 2 (eVar 6)) (aCons (eFld 0 3 (eVar 6)) aNil))))) (aCons (eA (A1 oList) (aCons (eVar 3) aNil)) aNil))))) (sRet (eC (.bl false))) sNext))))))))
  (sRet (eC (.bl true))))
end
end K14
/-! B14 -/
namespace K14
open PySem PySem.Spec PyProof.Rows L2 Mir
def top (i : Nat) : Stmt := PySem.Challenge.pw_doorkeys_k14_texts_of_houses.main.body.getD i (.Pass ⟨0, 0, 0, 0⟩)
abbrev st_is_int_in : Stmt := top 14
abbrev st_is_table : Stmt := top 15
abbrev st_common_multiple : Stmt := top 16
abbrev st_check_persons : Stmt := top 17
abbrev st_is_reminder : Stmt := top 18
abbrev st_House__init_ : Stmt := inClass (top 19) 0
abbrev st_read_number : Stmt := top 20
abbrev st_is_word : Stmt := top 22
abbrev st_read_part : Stmt := top 21
abbrev st_House_parse : Stmt := inClass (top 19) 1
abbrev st_House_text : Stmt := inClass (top 19) 4
abbrev st_law_below : Stmt := top 25
abbrev st_law_table : Stmt := top 26
abbrev st_law_length : Stmt := top 27
abbrev st_law_parts : Stmt := top 28
abbrev st_law_equal : Stmt := top 29
abbrev st_law_house : Stmt := top 30
abbrev st_law_random : Stmt := top 24
abbrev st_law : Stmt := top 31
structure Ad where
  f_is_int_in : Addr
  fd_is_int_in : FuncData
  f_is_table : Addr
  fd_is_table : FuncData
  f_common_multiple : Addr
  fd_common_multiple : FuncData
  f_check_persons : Addr
  fd_check_persons : FuncData
  f_is_reminder : Addr
  fd_is_reminder : FuncData
  f_House__init_ : Addr
  fd_House__init_ : FuncData
  f_read_number : Addr
  fd_read_number : FuncData
  f_is_word : Addr
  fd_is_word : FuncData
  f_read_part : Addr
  fd_read_part : FuncData
  f_House_parse : Addr
  fd_House_parse : FuncData
  f_House_text : Addr
  fd_House_text : FuncData
  f_law_below : Addr
  fd_law_below : FuncData
  f_law_table : Addr
  fd_law_table : FuncData
  f_law_length : Addr
  fd_law_length : FuncData
  f_law_parts : Addr
  fd_law_parts : FuncData
  f_law_equal : Addr
  fd_law_equal : FuncData
  f_law_house : Addr
  fd_law_house : FuncData
  f_law_random : Addr
  fd_law_random : FuncData
  f_law : Addr
  fd_law : FuncData
  C_House : Addr
  mc_House : Value
  dv_House__init_ : List V
  p_House_parse : Addr
  p_House_text : Addr
abbrev S (K : PySem.W.Frag) (A : Ad) : Sc := ⟨K, fun c => match c with | _ => A.C_House, fun c => match c with | _ => ["tables", "key_count", "careful", "reminders", "length"]⟩
structure Txt (K : PySem.W.Frag) (mg : Str → Option Value) (A : Ad) : Prop where
  F_is_int_in : FunD K "is_int_in" "is_int_in" (defArgs st_is_int_in) (defBody st_is_int_in) (defScope st_is_int_in) [] [] A.f_is_int_in A.fd_is_int_in
  b_is_int_in : Binds K A.fd_is_int_in ["value", "low", "high"] []
  g_is_int_in : mg "is_int_in" = some (.ref A.f_is_int_in)
  F_is_table : FunD K "is_table" "is_table" (defArgs st_is_table) (defBody st_is_table) (defScope st_is_table) [] [] A.f_is_table A.fd_is_table
  b_is_table : Binds K A.fd_is_table ["value"] []
  g_is_table : mg "is_table" = some (.ref A.f_is_table)
  F_common_multiple : FunD K "common_multiple" "common_multiple" (defArgs st_common_multiple) (defBody st_common_multiple) (defScope st_common_multiple) [] [] A.f_common_multiple A.fd_common_multiple
  b_common_multiple : Binds K A.fd_common_multiple ["one", "other"] []
  g_common_multiple : mg "common_multiple" = some (.ref A.f_common_multiple)
  F_check_persons : FunD K "check_persons" "check_persons" (defArgs st_check_persons) (defBody st_check_persons) (defScope st_check_persons) [] [] A.f_check_persons A.fd_check_persons
  b_check_persons : Binds K A.fd_check_persons ["part", "values", "count"] []
  g_check_persons : mg "check_persons" = some (.ref A.f_check_persons)
  F_is_reminder : FunD K "is_reminder" "is_reminder" (defArgs st_is_reminder) (defBody st_is_reminder) (defScope st_is_reminder) [] [] A.f_is_reminder A.fd_is_reminder
  b_is_reminder : Binds K A.fd_is_reminder ["value", "period", "count"] []
  g_is_reminder : mg "is_reminder" = some (.ref A.f_is_reminder)
  F_House__init_ : FunD K "__init__" "House.__init__" (defArgs st_House__init_) (defBody st_House__init_) (defScope st_House__init_) A.dv_House__init_ [] A.f_House__init_ A.fd_House__init_
  b_House__init_ : Binds K A.fd_House__init_ ["self", "tables", "keys", "careful", "reminders"] []
  F_read_number : FunD K "read_number" "read_number" (defArgs st_read_number) (defBody st_read_number) (defScope st_read_number) [] [] A.f_read_number A.fd_read_number
  b_read_number : Binds K A.fd_read_number ["word"] []
  g_read_number : mg "read_number" = some (.ref A.f_read_number)
  F_is_word : FunD K "is_word" "is_word" (defArgs st_is_word) (defBody st_is_word) (defScope st_is_word) [] [] A.f_is_word A.fd_is_word
  b_is_word : Binds K A.fd_is_word ["part"] []
  g_is_word : mg "is_word" = some (.ref A.f_is_word)
  F_read_part : FunD K "read_part" "read_part" (defArgs st_read_part) (defBody st_read_part) (defScope st_read_part) [] [] A.f_read_part A.fd_read_part
  b_read_part : Binds K A.fd_read_part ["word", "parts"] []
  g_read_part : mg "read_part" = some (.ref A.f_read_part)
  F_House_parse : FunD K "parse" "House.parse" (defArgs st_House_parse) (defBody st_House_parse) (defScope st_House_parse) [] [] A.f_House_parse A.fd_House_parse
  b_House_parse : Binds K A.fd_House_parse ["cls", "text"] []
  cm_House_parse : ClX.CMet K A.C_House A.mc_House "parse" A.p_House_parse A.f_House_parse
  F_House_text : FunD K "text" "House.text" (defArgs st_House_text) (defBody st_House_text) (defScope st_House_text) [] [] A.f_House_text A.fd_House_text
  b_House_text : Binds K A.fd_House_text ["self"] []
  pr_House_text : PropOf K A.C_House "text" A.p_House_text A.f_House_text
  F_law_below : FunD K "_law_below" "_law_below" (defArgs st_law_below) (defBody st_law_below) (defScope st_law_below) [] [] A.f_law_below A.fd_law_below
  b_law_below : Binds K A.fd_law_below ["_law_d", "_law_limit"] []
  g_law_below : mg "_law_below" = some (.ref A.f_law_below)
  F_law_table : FunD K "_law_table" "_law_table" (defArgs st_law_table) (defBody st_law_table) (defScope st_law_table) [] [] A.f_law_table A.fd_law_table
  b_law_table : Binds K A.fd_law_table ["_law_d"] []
  g_law_table : mg "_law_table" = some (.ref A.f_law_table)
  F_law_length : FunD K "_law_length" "_law_length" (defArgs st_law_length) (defBody st_law_length) (defScope st_law_length) [] [] A.f_law_length A.fd_law_length
  b_law_length : Binds K A.fd_law_length ["_law_tables"] []
  g_law_length : mg "_law_length" = some (.ref A.f_law_length)
  F_law_parts : FunD K "_law_parts" "_law_parts" (defArgs st_law_parts) (defBody st_law_parts) (defScope st_law_parts) [] [] A.f_law_parts A.fd_law_parts
  b_law_parts : Binds K A.fd_law_parts ["_law_d", "_law_most"] []
  g_law_parts : mg "_law_parts" = some (.ref A.f_law_parts)
  F_law_equal : FunD K "_law_equal" "_law_equal" (defArgs st_law_equal) (defBody st_law_equal) (defScope st_law_equal) [] [] A.f_law_equal A.fd_law_equal
  b_law_equal : Binds K A.fd_law_equal ["_law_actual", "_law_expected"] []
  g_law_equal : mg "_law_equal" = some (.ref A.f_law_equal)
  F_law_house : FunD K "_law_house" "_law_house" (defArgs st_law_house) (defBody st_law_house) (defScope st_law_house) [] [] A.f_law_house A.fd_law_house
  b_law_house : Binds K A.fd_law_house ["_law_parts_here"] []
  g_law_house : mg "_law_house" = some (.ref A.f_law_house)
  F_law_random : FunD K "_law_random" "_law_random" (defArgs st_law_random) (defBody st_law_random) (defScope st_law_random) [] [] A.f_law_random A.fd_law_random
  b_law_random : Binds K A.fd_law_random ["_law_script", "_law_salt"] []
  g_law_random : mg "_law_random" = some (.ref A.f_law_random)
  F_law : FunD K "law" "law" (defArgs st_law) (defBody st_law) (defScope st_law) [] [] A.f_law A.fd_law
  b_law : Binds K A.fd_law ["_law_script"] []
  g_law : mg "law" = some (.ref A.f_law)
  cl_House : Cls K A.C_House
  cr_House : ClX.CRead K A.C_House A.mc_House
  g_House : mg "House" = some (.ref A.C_House)
  mk_House : Mk K A.C_House A.f_House__init_
  na_House_tables : NoAttr K A.C_House "tables"
  na_House_key_count : NoAttr K A.C_House "key_count"
  na_House_careful : NoAttr K A.C_House "careful"
  na_House_reminders : NoAttr K A.C_House "reminders"
  na_House_length : NoAttr K A.C_House "length"
  z_abs : mg "abs" = none
  z_all : mg "all" = none
  z_any : mg "any" = none
  z_bool : mg "bool" = none
  z_enumerate : mg "enumerate" = none
  z_int : mg "int" = none
  z_isinstance : mg "isinstance" = none
  z_len : mg "len" = none
  z_list : mg "list" = none
  z_range : mg "range" = none
  z_sorted : mg "sorted" = none
  z_str : mg "str" = none
  z_tuple : mg "tuple" = none
  c_MAX_PERSONS : ∃ v u, mg "MAX_PERSONS" = some u ∧ L2.RelV v u ∧ ∀ F H, Rep (S K A) F H c_MAX_PERSONS v
  c_LENGTHS : ∃ v u, mg "LENGTHS" = some u ∧ L2.RelV v u ∧ ∀ F H, Rep (S K A) F H c_LENGTHS v
  c_MAX_KEYS : ∃ v u, mg "MAX_KEYS" = some u ∧ L2.RelV v u ∧ ∀ F H, Rep (S K A) F H c_MAX_KEYS v
  c_MAX_REMINDERS : ∃ v u, mg "MAX_REMINDERS" = some u ∧ L2.RelV v u ∧ ∀ F H, Rep (S K A) F H c_MAX_REMINDERS v
  c_HOME : ∃ v u, mg "HOME" = some u ∧ L2.RelV v u ∧ ∀ F H, Rep (S K A) F H c_HOME v
  c_OUT : ∃ v u, mg "OUT" = some u ∧ L2.RelV v u ∧ ∀ F H, Rep (S K A) F H c_OUT v
  c_DIGITS : ∃ v u, mg "DIGITS" = some u ∧ L2.RelV v u ∧ ∀ F H, Rep (S K A) F H c_DIGITS v
  c_MAX_DIGITS : ∃ v u, mg "MAX_DIGITS" = some u ∧ L2.RelV v u ∧ ∀ F H, Rep (S K A) F H c_MAX_DIGITS v
section
variable {P : Program} {w : World} {K : PySem.W.Frag} {mg : Str → Option Value} {base : Heap} {A : Ad}
theorem sc_is_int_in : FnScope ["value", "low", "high"] ["value", "low", "high"] (defScope st_is_int_in) := ⟨rfl, rfl, rfl, by decide +kernel, rfl, by decide +kernel, by decide +kernel⟩
theorem sc_is_table : FnScope ["value", "sign"] ["value"] (defScope st_is_table) := ⟨rfl, rfl, rfl, by decide +kernel, rfl, by decide +kernel, by decide +kernel⟩
theorem sc_common_multiple : FnScope ["one", "other", "multiple"] ["one", "other"] (defScope st_common_multiple) := ⟨rfl, rfl, rfl, by decide +kernel, rfl, by decide +kernel, by decide +kernel⟩
theorem sc_check_persons : FnScope ["part", "values", "count", "index", "value"] ["part", "values", "count"] (defScope st_check_persons) := ⟨rfl, rfl, rfl, by decide +kernel, rfl, by decide +kernel, by decide +kernel⟩
theorem sc_is_reminder : FnScope ["value", "period", "count"] ["value", "period", "count"] (defScope st_is_reminder) := ⟨rfl, rfl, rfl, by decide +kernel, rfl, by decide +kernel, by decide +kernel⟩
theorem sc_House__init_ : FnScope ["self", "tables", "keys", "careful", "reminders", "length", "index", "table", "reminder"] ["self", "tables", "keys", "careful", "reminders"] (defScope st_House__init_) := ⟨rfl, rfl, rfl, by decide +kernel, rfl, by decide +kernel, by decide +kernel⟩
theorem sc_read_number : FnScope ["word", "digit"] ["word"] (defScope st_read_number) := ⟨rfl, rfl, rfl, by decide +kernel, rfl, by decide +kernel, by decide +kernel⟩
theorem sc_is_word : FnScope ["part", "sign"] ["part"] (defScope st_is_word) := ⟨rfl, rfl, rfl, by decide +kernel, rfl, by decide +kernel, by decide +kernel⟩
theorem sc_read_part : FnScope ["word", "parts", "numbers", "pairs", "part", "pair", "one"] ["word", "parts"] (defScope st_read_part) := ⟨rfl, rfl, rfl, by decide +kernel, rfl, by decide +kernel, by decide +kernel⟩
theorem sc_House_parse : FnScope ["cls", "text", "lines", "parts", "line", "word", "words", "value"] ["cls", "text"] (defScope st_House_parse) := ⟨rfl, rfl, rfl, by decide +kernel, rfl, by decide +kernel, by decide +kernel⟩
theorem sc_House_text : FnScope ["self", "reminders", "rows", "tick", "person", "row"] ["self"] (defScope st_House_text) := ⟨rfl, rfl, rfl, by decide +kernel, rfl, by decide +kernel, by decide +kernel⟩
theorem sc_law_below : FnScope ["_law_d", "_law_limit", "_law_result"] ["_law_d", "_law_limit"] (defScope st_law_below) := ⟨rfl, rfl, rfl, by decide +kernel, rfl, by decide +kernel, by decide +kernel⟩
theorem sc_law_table : FnScope ["_law_d", "_law_length_here", "_law_k"] ["_law_d"] (defScope st_law_table) := ⟨rfl, rfl, rfl, by decide +kernel, rfl, by decide +kernel, by decide +kernel⟩
theorem sc_law_length : FnScope ["_law_tables", "_law_length_here", "_law_table_here"] ["_law_tables"] (defScope st_law_length) := ⟨rfl, rfl, rfl, by decide +kernel, rfl, by decide +kernel, by decide +kernel⟩
theorem sc_law_parts : FnScope ["_law_d", "_law_most", "_law_tables", "_law_careful", "_law_k", "_law_length_here", "_law_reminders", "_law_reminder"] ["_law_d", "_law_most"] (defScope st_law_parts) := ⟨rfl, rfl, rfl, by decide +kernel, rfl, by decide +kernel, by decide +kernel⟩
theorem sc_law_equal : FnScope ["_law_actual", "_law_expected", "_law_k"] ["_law_actual", "_law_expected"] (defScope st_law_equal) := ⟨rfl, rfl, rfl, by decide +kernel, rfl, by decide +kernel, by decide +kernel⟩
theorem sc_law_house : FnScope ["_law_parts_here"] ["_law_parts_here"] (defScope st_law_house) := ⟨rfl, rfl, rfl, by decide +kernel, rfl, by decide +kernel, by decide +kernel⟩
theorem sc_law_random : FnScope ["_law_script", "_law_salt", "_law_seed", "_law_cell"] ["_law_script", "_law_salt"] (defScope st_law_random) := ⟨rfl, rfl, rfl, by decide +kernel, rfl, by decide +kernel, by decide +kernel⟩
theorem sc_law : FnScope ["_law_script", "_law_d", "_law_step", "_law_parts_here", "_law_rows", "_law_text", "_law_house_here", "_law_row", "_law_k", "_law_tick", "_law_person"] ["_law_script"] (defScope st_law) := ⟨rfl, rfl, rfl, by decide +kernel, rfl, by decide +kernel, by decide +kernel⟩
theorem nd_House : (["tables", "key_count", "careful", "reminders", "length"] : List Str).Nodup := by decide +kernel
theorem lt_House : (["tables", "key_count", "careful", "reminders", "length"] : List Str).length < 1000 := by decide
theorem nm_House__init_ : ("__init__" : Str) ∉ (["tables", "key_count", "careful", "reminders", "length"] : List Str) := by decide +kernel
theorem ok_is_int_in (T : Txt K mg A) : FnOk P w K mg base CX0 1 A.f_is_int_in A.fd_is_int_in ["value", "low", "high"] (spM (S K A) false 3 d_is_int_in) :=
  fnD_ok (O := []) T.F_is_int_in sc_is_int_in (by decide) (by decide) fun cdv A2 outer s H E hr => ⟨_, (pss_one (ps_ret (pe_and (pe_callB call_isi (by rfl) T.z_isinstance bt_isinstance (pa_cons (pv 0) (pa_cons (pe_bltn (v := .ty "int") (by rfl) T.z_int bt_int rfl) pa_nil))) (pe_and (pe_not (pe_callB call_isi (by rfl) T.z_isinstance bt_isinstance (pa_cons (pv 0) (pa_cons (pe_bltn (v := .ty "bool") (by rfl) T.z_bool bt_bool rfl) pa_nil)))) (pe_one (pe_chain op_le op_le (pv 1) (pv 0) (pv 2))))))),
      (rs_ret (μ := none) (by intro z; cases z) (by intro _ z; cases z) (ref_andV (ref_isi (ref_var (by decide))) (ref_andV (ref_notV (ref_isi (ref_var (by decide)))) (ref_chain ok_leI o2_leI (ref_var (by decide)) (ref_var (by decide)) (ref_var (by decide))))))⟩
theorem ok_is_table (T : Txt K mg A) : FnOk P w K mg base CX0 1 A.f_is_table A.fd_is_table ["value"] (spM (S K A) false 1 d_is_table) :=
  fnD_ok (O := []) T.F_is_table sc_is_table (by decide) (by decide) fun cdv A2 outer s H E hr => ⟨_, (pss_cons (ps_if (PW.pt (pw_or (pt_not (pt_val (pe_callB call_isi (by rfl) T.z_isinstance bt_isinstance (pa_cons (pv 0) (pa_cons (pe_bltn (v := .ty "str") (by rfl) T.z_str bt_str rfl) pa_nil))))) (pw_or1 (pt_cmpR (op_notInX (hu65 hr)) (pe_callB call_len (by rfl) T.z_len bt_len (pa_cons (pv 0) pa_nil)) (pe_glob (by rfl) T.c_LENGTHS.choose_spec.choose_spec.1 T.c_LENGTHS.choose_spec.choose_spec.2.1) (by rfl))))) (pss_one (ps_ret pe_bl)) pss_nil)
      (pss_one (ps_ret (pe_callB (cr_all rfl) (by rfl) T.z_all bt_all (pa_cons (pe_lc rfl sc_is_table.nd (pi_seqX (pv 0)) (blkOk_by (own := [("sign", 1)]) (by kernel_rfl)) (fun _ _ _ _ _ => (pg_name (i := 1) sc_is_table.nd rfl (by first | exact .inl rfl | exact .inr rfl))) (fun _ _ _ _ _ => pts_nil) (fun _ _ _ _ _ => (pe_cmpR (op_inX (hu65 hr)) (pv 1) (pe_tup (pa_cons (pe_glob (by rfl) T.c_HOME.choose_spec.choose_spec.1 T.c_HOME.choose_spec.choose_spec.2.1) (pa_cons (pe_glob (by rfl) T.c_OUT.choose_spec.choose_spec.1 T.c_OUT.choose_spec.choose_spec.2.1) pa_nil))) (by rfl)))) pa_nil))))),
      (rs_seq (rs_if (μ := none) (ref_or (ref_not (ref_testB (ref_isi (ref_var (by decide))))) (ref_test (ref_op2 o2_notIn (ref_opA oA_len (ref_acons (ref_var (by decide)) ref_anil)) (ref_c T.c_LENGTHS.choose_spec.choose_spec.2.2)))) (rs_ret (μ := none) (by intro z; cases z) (by intro _ z; cases z) ref_bl) rs_next)
      (rs_ret (μ := none) (by intro z; cases z) (by intro _ z; cases z) (ref_opA oA_all (ref_acons (ref_lc (E1 := E) (E2 := E) (vs := [1]) (ri_seq (ref_var (by decide))) (rg_set (by decide)) rt_yes (ref_op2 o2_in (ref_var (by decide)) (ref_tup (ref_acons (ref_c T.c_HOME.choose_spec.choose_spec.2.2) (ref_acons (ref_c T.c_OUT.choose_spec.choose_spec.2.2) ref_anil)))) (by decide) (by decide)) ref_anil))))⟩
theorem ok_common_multiple (T : Txt K mg A) : FnOk P w K mg base CX0 1 A.f_common_multiple A.fd_common_multiple ["one", "other"] (spM (S K A) false 2 d_common_multiple) :=
  fnD_ok (O := []) T.F_common_multiple sc_common_multiple (by decide) (by decide) fun cdv A2 outer s H E hr => ⟨_, (pss_cons (ps_set (i := 2) sc_common_multiple.nd rfl (by first | exact .inl rfl | exact .inr rfl) (pv 0))
      (pss_cons (ps_while PassesOwn.never (pt_cmpR (op_neX (hu64 hr)) (pe_op op_mul (pe_op op_fdivN (pv 2) (pv 1)) (pv 1)) (pv 2) (nomark _)) (pss_one (ps_aug (i := 2) sc_common_multiple.nd rfl (by first | exact .inl rfl | exact .inr rfl) (pv 0) ip_add)))
      (pss_one (ps_ret (pv 2))))),
      (rs_seq (rs_set (by decide) (ref_var (by decide)))
      (rs_seq (rs_while (ref_test (ref_op2 o2_ne (ref_op2 o2_mul (ref_op2 o2_fdiv (ref_var (by decide)) (ref_var (by decide))) (ref_var (by decide))) (ref_var (by decide)))) (rs_aug (by decide) (ref_var (by decide))))
      (rs_ret (μ := none) (by intro z; cases z) (by intro _ z; cases z) (ref_var (by decide)))))⟩
theorem ok_check_persons (T : Txt K mg A) : FnOk P w K mg base CX0 2 A.f_check_persons A.fd_check_persons ["part", "values", "count"] (spM (S K A) false 3 d_check_persons) :=
  fnD_ok (O := []) T.F_check_persons sc_check_persons (by decide) (by decide) fun cdv A2 outer s H E hr => ⟨_, (pss_cons (ps_if (pt_not (pt_val (pe_callB call_isi (by rfl) T.z_isinstance bt_isinstance (pa_cons (pv 1) (pa_cons (pe_bltn (v := .ty "tuple") (by rfl) T.z_tuple bt_tuple rfl) pa_nil))))) (pss_one ps_never) pss_nil)
      (pss_one (ps_for PassesOwn.never rfl (pi_enumT (by rfl) T.z_enumerate (pa_cons (pv 1) pa_nil)) (pg_tup rfl (pgs_cons (pg_name (i := 3) sc_check_persons.nd rfl (by first | exact .inl rfl | exact .inr rfl)) (pgs_cons (pg_name (i := 4) sc_check_persons.nd rfl (by first | exact .inl rfl | exact .inr rfl)) pgs_nil))) (pss_one (ps_if (PW.pt (pw_or (pt_not (pt_val (pe_call (ok_is_int_in T) (hr.mono (by decide)) (by rfl) T.g_is_int_in T.F_is_int_in.kp T.b_is_int_in .nil (passE (E := E)) (pa_cons (pv 4) (pa_cons pe_int (pa_cons (pe_op op_sub (pv 2) pe_int) pa_nil)))))) (pw_or1 (PW.pt (pw_and (pt_cmpR op_gt (pv 3) pe_int (nomark _)) (pw_and1 (pt_cmpR (op_leX (hu0 hr)) (pv 4) (pe_ix ix_seq (pv 1) (pe_op op_sub (pv 3) pe_int) (fun _ _ => rfl)) (nomark _)))))))) (pss_one ps_never) pss_nil))))),
      (rs_seq (rs_if (μ := none) (ref_not (ref_testB (ref_isi (ref_var (by decide))))) rs_bad rs_next)
      (rs_for (ri_enumT (ref_var (by decide))) (rg_tup (rgs_cons (rg_set (by decide)) (rgs_cons (rg_set (by decide)) rgs_nil)) rfl) (rs_if (μ := none) (ref_or (ref_not (ref_testB (ref_call (fun _ _ => RepL.nil) (fun ds => runF_ar) (ref_acons (ref_var (by decide)) (ref_acons ref_int (ref_acons (ref_op2 o2_sub (ref_var (by decide)) ref_int) ref_anil)))))) (ref_and (ref_test (ref_op2 o2_gtI (ref_var (by decide)) ref_int)) (ref_test (ref_op2 o2_le (ref_var (by decide)) (ref_op2 o2_ix (ref_var (by decide)) (ref_op2 o2_sub (ref_var (by decide)) ref_int)))))) rs_bad rs_next)))⟩
theorem ok_is_reminder (T : Txt K mg A) : FnOk P w K mg base CX0 2 A.f_is_reminder A.fd_is_reminder ["value", "period", "count"] (spM (S K A) false 3 d_is_reminder) :=
  fnD_ok (O := []) T.F_is_reminder sc_is_reminder (by decide) (by decide) fun cdv A2 outer s H E hr => ⟨_, (pss_cons (ps_if (PW.pt (pw_or (pt_not (pt_val (pe_callB call_isi (by rfl) T.z_isinstance bt_isinstance (pa_cons (pv 0) (pa_cons (pe_bltn (v := .ty "tuple") (by rfl) T.z_tuple bt_tuple rfl) pa_nil))))) (pw_or1 (pt_cmpR (op_neX (hu64 hr)) (pe_callB call_len (by rfl) T.z_len bt_len (pa_cons (pv 0) pa_nil)) pe_int (nomark _))))) (pss_one (ps_ret pe_bl)) pss_nil)
      (pss_one (ps_ret (pe_and (pe_call (ok_is_int_in T) (hr.mono (by decide)) (by rfl) T.g_is_int_in T.F_is_int_in.kp T.b_is_int_in .nil (passE (E := E)) (pa_cons (pe_ix ix_seq (pv 0) pe_int (fun _ _ => rfl)) (pa_cons pe_int (pa_cons (pe_op op_sub (pv 1) pe_int) pa_nil)))) (pe_one (pe_call (ok_is_int_in T) (hr.mono (by decide)) (by rfl) T.g_is_int_in T.F_is_int_in.kp T.b_is_int_in .nil (passE (E := E)) (pa_cons (pe_ix ix_seq (pv 0) pe_int (fun _ _ => rfl)) (pa_cons pe_int (pa_cons (pe_op op_sub (pv 2) pe_int) pa_nil))))))))),
      (rs_seq (rs_if (μ := none) (ref_or (ref_not (ref_testB (ref_isi (ref_var (by decide))))) (ref_test (ref_op2 o2_ne (ref_opA oA_len (ref_acons (ref_var (by decide)) ref_anil)) ref_int))) (rs_ret (μ := none) (by intro z; cases z) (by intro _ z; cases z) ref_bl) rs_next)
      (rs_ret (μ := none) (by intro z; cases z) (by intro _ z; cases z) (ref_andV (ref_call (fun _ _ => RepL.nil) (fun ds => runF_ar) (ref_acons (ref_op2 o2_ix (ref_var (by decide)) ref_int) (ref_acons ref_int (ref_acons (ref_op2 o2_sub (ref_var (by decide)) ref_int) ref_anil)))) (ref_call (fun _ _ => RepL.nil) (fun ds => runF_ar) (ref_acons (ref_op2 o2_ix (ref_var (by decide)) ref_int) (ref_acons ref_int (ref_acons (ref_op2 o2_sub (ref_var (by decide)) ref_int) ref_anil)))))))⟩
theorem ok_House__init_ (T : Txt K mg A) : FnOk P w K mg base CX0 3 A.f_House__init_ A.fd_House__init_ ["self", "tables", "keys", "careful", "reminders"] (spM0 (S K A) 5 d_House__init_) :=
  fnD_ok0 (O := []) T.F_House__init_ sc_House__init_ (by decide) (by decide) fun cdv A2 outer s H E hr => ⟨_, (pss_cons (ps_if (PW.pt (pw_or (pt_not (pt_val (pe_callB call_isi (by rfl) T.z_isinstance bt_isinstance (pa_cons (pv 1) (pa_cons (pe_bltn (v := .ty "tuple") (by rfl) T.z_tuple bt_tuple rfl) pa_nil))))) (pw_or1 (pt_cmpR (op_eqX (hu64 hr)) (pv 1) (pe_tup pa_nil) (nomark _))))) (pss_one ps_never) pss_nil)
      (pss_cons (ps_set (i := 5) sc_House__init_.nd rfl (by first | exact .inl rfl | exact .inr rfl) pe_int)
      (pss_cons (ps_for PassesOwn.never rfl (pi_enumT (by rfl) T.z_enumerate (pa_cons (pv 1) pa_nil)) (pg_tup rfl (pgs_cons (pg_name (i := 6) sc_House__init_.nd rfl (by first | exact .inl rfl | exact .inr rfl)) (pgs_cons (pg_name (i := 7) sc_House__init_.nd rfl (by first | exact .inl rfl | exact .inr rfl)) pgs_nil))) (pss_cons (ps_if (PW.pt (pw_or (pt_cmpR (op_eqX (hu64 hr)) (pv 6) (pe_glob (by rfl) T.c_MAX_PERSONS.choose_spec.choose_spec.1 T.c_MAX_PERSONS.choose_spec.choose_spec.2.1) (nomark _)) (pw_or1 (pt_not (pt_val (pe_call (ok_is_table T) (hr.mono (by decide)) (by rfl) T.g_is_table T.F_is_table.kp T.b_is_table .nil (passE (E := E)) (pa_cons (pv 7) pa_nil))))))) (pss_one ps_never) pss_nil)
      (pss_one (ps_set (i := 5) sc_House__init_.nd rfl (by first | exact .inl rfl | exact .inr rfl) (pe_call (ok_common_multiple T) (hr.mono (by decide)) (by rfl) T.g_common_multiple T.F_common_multiple.kp T.b_common_multiple .nil (passE (E := E)) (pa_cons (pv 5) (pa_cons (pe_callB call_len (by rfl) T.z_len bt_len (pa_cons (pv 7) pa_nil)) pa_nil)))))))
      (pss_cons (ps_if (pt_not (pt_val (pe_call (ok_is_int_in T) (hr.mono (by decide)) (by rfl) T.g_is_int_in T.F_is_int_in.kp T.b_is_int_in .nil (passE (E := E)) (pa_cons (pv 2) (pa_cons pe_int (pa_cons (pe_glob (by rfl) T.c_MAX_KEYS.choose_spec.choose_spec.1 T.c_MAX_KEYS.choose_spec.choose_spec.2.1) pa_nil)))))) (pss_one ps_never) pss_nil)
      (pss_cons (ps_expr (pe_call (ok_check_persons T) (hr.mono (by decide)) (by rfl) T.g_check_persons T.F_check_persons.kp T.b_check_persons .nil (passE (E := E)) (pa_cons pe_str (pa_cons (pv 3) (pa_cons (pe_callB call_len (by rfl) T.z_len bt_len (pa_cons (pv 1) pa_nil)) pa_nil)))))
      (pss_cons (ps_if (pt_not (pt_val (pe_callB call_isi (by rfl) T.z_isinstance bt_isinstance (pa_cons (pv 4) (pa_cons (pe_bltn (v := .ty "tuple") (by rfl) T.z_tuple bt_tuple rfl) pa_nil))))) (pss_one ps_never) pss_nil)
      (pss_cons (ps_for PassesOwn.never rfl (pi_enumT (by rfl) T.z_enumerate (pa_cons (pv 4) pa_nil)) (pg_tup rfl (pgs_cons (pg_name (i := 6) sc_House__init_.nd rfl (by first | exact .inl rfl | exact .inr rfl)) (pgs_cons (pg_name (i := 8) sc_House__init_.nd rfl (by first | exact .inl rfl | exact .inr rfl)) pgs_nil))) (pss_cons (ps_if (PW.pt (pw_or (pt_cmpR (op_eqX (hu64 hr)) (pv 6) (pe_glob (by rfl) T.c_MAX_REMINDERS.choose_spec.choose_spec.1 T.c_MAX_REMINDERS.choose_spec.choose_spec.2.1) (nomark _)) (pw_or1 (pt_not (pt_val (pe_call (ok_is_reminder T) (hr.mono (by decide)) (by rfl) T.g_is_reminder T.F_is_reminder.kp T.b_is_reminder .nil (passE (E := E)) (pa_cons (pv 8) (pa_cons (pv 5) (pa_cons (pe_callB call_len (by rfl) T.z_len bt_len (pa_cons (pv 1) pa_nil)) pa_nil))))))))) (pss_one ps_never) pss_nil)
      (pss_one (ps_if (PW.pt (pw_and (pt_cmpR op_gt (pv 6) pe_int (nomark _)) (pw_and1 (pt_cmpR (op_leX (hu0 hr)) (pv 8) (pe_ix ix_seq (pv 4) (pe_op op_sub (pv 6) pe_int) (fun _ _ => rfl)) (nomark _))))) (pss_one ps_never) pss_nil))))
      (pss_cons (ps_fld (pv 0) (pv 1) rfl)
      (pss_cons (ps_fld (pv 0) (pv 2) rfl)
      (pss_cons (ps_fld (pv 0) (pv 3) rfl)
      (pss_cons (ps_fld (pv 0) (pv 4) rfl)
      (pss_one (ps_fld (pv 0) (pv 5) rfl))))))))))))),
      (rs_seq (rs_if (μ := none) (ref_or (ref_not (ref_testB (ref_isi (ref_var (by decide))))) (ref_test (ref_op2 o2_eq (ref_var (by decide)) (ref_tup ref_anil)))) rs_bad rs_next)
      (rs_seq (rs_set (by decide) ref_int)
      (rs_seq (rs_for (ri_enumT (ref_var (by decide))) (rg_tup (rgs_cons (rg_set (by decide)) (rgs_cons (rg_set (by decide)) rgs_nil)) rfl) (rs_seq (rs_if (μ := none) (ref_or (ref_test (ref_op2 o2_eq (ref_var (by decide)) (ref_c T.c_MAX_PERSONS.choose_spec.choose_spec.2.2))) (ref_not (ref_testB (ref_call (fun _ _ => RepL.nil) (fun ds => runF_ar) (ref_acons (ref_var (by decide)) ref_anil))))) rs_bad rs_next)
      (rs_set (by decide) (ref_call (fun _ _ => RepL.nil) (fun ds => runF_ar) (ref_acons (ref_var (by decide)) (ref_acons (ref_opA oA_len (ref_acons (ref_var (by decide)) ref_anil)) ref_anil))))))
      (rs_seq (rs_if (μ := none) (ref_not (ref_testB (ref_call (fun _ _ => RepL.nil) (fun ds => runF_ar) (ref_acons (ref_var (by decide)) (ref_acons ref_int (ref_acons (ref_c T.c_MAX_KEYS.choose_spec.choose_spec.2.2) ref_anil)))))) rs_bad rs_next)
      (rs_seq (rs_drop (μ := none) (ref_call (fun _ _ => RepL.nil) (fun ds => runF_ar) (ref_acons ref_str (ref_acons (ref_var (by decide)) (ref_acons (ref_opA oA_len (ref_acons (ref_var (by decide)) ref_anil)) ref_anil)))))
      (rs_seq (rs_if (μ := none) (ref_not (ref_testB (ref_isi (ref_var (by decide))))) rs_bad rs_next)
      (rs_seq (rs_for (ri_enumT (ref_var (by decide))) (rg_tup (rgs_cons (rg_set (by decide)) (rgs_cons (rg_set (by decide)) rgs_nil)) rfl) (rs_seq (rs_if (μ := none) (ref_or (ref_test (ref_op2 o2_eq (ref_var (by decide)) (ref_c T.c_MAX_REMINDERS.choose_spec.choose_spec.2.2))) (ref_not (ref_testB (ref_call (fun _ _ => RepL.nil) (fun ds => runF_ar) (ref_acons (ref_var (by decide)) (ref_acons (ref_var (by decide)) (ref_acons (ref_opA oA_len (ref_acons (ref_var (by decide)) ref_anil)) ref_anil))))))) rs_bad rs_next)
      (rs_if (μ := none) (ref_and (ref_test (ref_op2 o2_gtI (ref_var (by decide)) ref_int)) (ref_test (ref_op2 o2_le (ref_var (by decide)) (ref_op2 o2_ix (ref_var (by decide)) (ref_op2 o2_sub (ref_var (by decide)) ref_int))))) rs_bad rs_next)))
      (rs_seq (rs_setFld T.cl_House T.na_House_tables rfl nd_House lt_House (by decide) (ref_var (by decide)))
      (rs_seq (rs_setFld T.cl_House T.na_House_key_count rfl nd_House lt_House (by decide) (ref_var (by decide)))
      (rs_seq (rs_setFld T.cl_House T.na_House_careful rfl nd_House lt_House (by decide) (ref_var (by decide)))
      (rs_seq (rs_setFld T.cl_House T.na_House_reminders rfl nd_House lt_House (by decide) (ref_var (by decide)))
      (rs_setFld T.cl_House T.na_House_length rfl nd_House lt_House (by decide) (ref_var (by decide))))))))))))))⟩
theorem ok_read_number (T : Txt K mg A) : FnOk P w K mg base CX0 1 A.f_read_number A.fd_read_number ["word"] (spM (S K A) false 1 d_read_number) :=
  fnD_ok (O := []) T.F_read_number sc_read_number (by decide) (by decide) fun cdv A2 outer s H E hr => ⟨_, (pss_cons (ps_if (PW.pt (pw_or (pt_not (pt_chain op_le op_le pe_int (pe_callB call_len (by rfl) T.z_len bt_len (pa_cons (pv 0) pa_nil)) (pe_glob (by rfl) T.c_MAX_DIGITS.choose_spec.choose_spec.1 T.c_MAX_DIGITS.choose_spec.choose_spec.2.1))) (pw_or1 (pt_val (pe_callB (cr_any rfl) (by rfl) T.z_any bt_any (pa_cons (pe_lc rfl sc_read_number.nd (pi_seqX (pv 0)) (blkOk_by (own := [("digit", 1)]) (by kernel_rfl)) (fun _ _ _ _ _ => (pg_name (i := 1) sc_read_number.nd rfl (by first | exact .inl rfl | exact .inr rfl))) (fun _ _ _ _ _ => pts_nil) (fun _ _ _ _ _ => (pe_cmpR (op_notInX (hu65 hr)) (pv 1) (pe_glob (by rfl) T.c_DIGITS.choose_spec.choose_spec.1 T.c_DIGITS.choose_spec.choose_spec.2.1) (by rfl)))) pa_nil)))))) (pss_one (ps_ret pe_non)) pss_nil)
      (pss_one (ps_ret (pe_ifExp (PW.pt (pw_and (pt_cmpR op_gt (pe_callB call_len (by rfl) T.z_len bt_len (pa_cons (pv 0) pa_nil)) pe_int (nomark _)) (pw_and1 (pt_cmpR (op_eqX (hu64 hr)) (pe_ix ix_seq (pv 0) pe_int (fun _ _ => rfl)) pe_str (nomark _))))) pe_non (pe_callTy call_intX (by rfl) T.z_int bt_int (pa_cons (pv 0) pa_nil)))))),
      (rs_seq (rs_if (μ := none) (ref_or (ref_not (ref_test (ref_chain ok_leI o2_leI ref_int (ref_opA oA_len (ref_acons (ref_var (by decide)) ref_anil)) (ref_c T.c_MAX_DIGITS.choose_spec.choose_spec.2.2)))) (ref_testB (ref_opA oA_any (ref_acons (ref_lc (E1 := E) (E2 := E) (vs := [1]) (ri_seq (ref_var (by decide))) (rg_set (by decide)) rt_yes (ref_op2 o2_notIn (ref_var (by decide)) (ref_c T.c_DIGITS.choose_spec.choose_spec.2.2)) (by decide) (by decide)) ref_anil)))) (rs_ret (μ := none) (by intro z; cases z) (by intro _ z; cases z) ref_non) rs_next)
      (rs_ret (μ := none) (by intro z; cases z) (by intro _ z; cases z) (ref_if (ref_and (ref_test (ref_op2 o2_gtI (ref_opA oA_len (ref_acons (ref_var (by decide)) ref_anil)) ref_int)) (ref_test (ref_op2 o2_eq (ref_op2 o2_ix (ref_var (by decide)) ref_int) ref_str))) ref_non (ref_opA oA_int (ref_acons (ref_var (by decide)) ref_anil)))))⟩
theorem ok_is_word (T : Txt K mg A) : FnOk P w K mg base CX0 1 A.f_is_word A.fd_is_word ["part"] (spM (S K A) false 1 d_is_word) :=
  fnD_ok (O := []) T.F_is_word sc_is_word (by decide) (by decide) fun cdv A2 outer s H E hr => ⟨_, (pss_one (ps_ret (pe_and (pe_cmpR (op_neX (hu64 hr)) (pv 0) pe_str (nomark _)) (pe_one (pe_callB (cr_all rfl) (by rfl) T.z_all bt_all (pa_cons (pe_lc rfl sc_is_word.nd (pi_seqX (pv 0)) (blkOk_by (own := [("sign", 1)]) (by kernel_rfl)) (fun _ _ _ _ _ => (pg_name (i := 1) sc_is_word.nd rfl (by first | exact .inl rfl | exact .inr rfl))) (fun _ _ _ _ _ => pts_nil) (fun _ _ _ _ _ => (pe_cmpR (op_inX (hu65 hr)) (pv 1) (pe_tup (pa_cons (pe_glob (by rfl) T.c_HOME.choose_spec.choose_spec.1 T.c_HOME.choose_spec.choose_spec.2.1) (pa_cons (pe_glob (by rfl) T.c_OUT.choose_spec.choose_spec.1 T.c_OUT.choose_spec.choose_spec.2.1) pa_nil))) (by rfl)))) pa_nil)))))),
      (rs_ret (μ := none) (by intro z; cases z) (by intro _ z; cases z) (ref_andV (ref_op2 o2_ne (ref_var (by decide)) ref_str) (ref_opA oA_all (ref_acons (ref_lc (E1 := E) (E2 := E) (vs := [1]) (ri_seq (ref_var (by decide))) (rg_set (by decide)) rt_yes (ref_op2 o2_in (ref_var (by decide)) (ref_tup (ref_acons (ref_c T.c_HOME.choose_spec.choose_spec.2.2) (ref_acons (ref_c T.c_OUT.choose_spec.choose_spec.2.2) ref_anil)))) (by decide) (by decide)) ref_anil))))⟩
theorem ok_read_part (T : Txt K mg A) : FnOk P w K mg base CX0 2 A.f_read_part A.fd_read_part ["word", "parts"] (spM (S K A) false 2 d_read_part) :=
  fnD_ok (O := []) T.F_read_part sc_read_part (by decide) (by decide) fun cdv A2 outer s H E hr => ⟨_, (pss_cons (ps_if (pt_cmpR (op_eqX (hu64 hr)) (pv 0) pe_str (nomark _)) (pss_one (ps_ret (pe_ifExp (pt_val (pe_callB (cr_all rfl) (by rfl) T.z_all bt_all (pa_cons (pe_lc rfl sc_read_part.nd (pi_seqX (pv 1)) (blkOk_by (own := [("part", 4)]) (by kernel_rfl)) (fun _ _ _ _ _ => (pg_name (i := 4) sc_read_part.nd rfl (by first | exact .inl rfl | exact .inr rfl))) (fun _ _ _ _ _ => pts_nil) (fun _ _ _ _ _ => (pe_call (ok_is_word T) (hr.mono (by decide)) (by rfl) T.g_is_word T.F_is_word.kp T.b_is_word .nil (passE (E := E)) (pa_cons (pv 4) pa_nil)))) pa_nil))) (pe_callTy call_tuple_of (by rfl) T.z_tuple bt_tuple (pa_cons (pv 1) pa_nil)) pe_non))) pss_nil)
      (pss_cons (ps_if (pt_cmpR (op_eqX (hu64 hr)) (pv 0) pe_str (nomark _)) (pss_cons (ps_setLc (i := 3) rfl sc_read_part.nd rfl rfl rfl (pi_seqX (pv 1)) (blkOk_by (own := [("part", 4)]) (by kernel_rfl)) (fun _ _ _ _ _ => (pg_name (i := 4) sc_read_part.nd rfl (by first | exact .inl rfl | exact .inr rfl))) (fun _ _ _ _ _ => pts_nil) (fun _ _ _ _ _ => (pe_split (pv 4) pe_str)))
      (pss_cons (ps_setLc (i := 2) rfl sc_read_part.nd rfl rfl rfl (pi_seqX (pv 3)) (blkOk_by (own := [("pair", 5)]) (by kernel_rfl)) (fun _ _ _ _ _ => (pg_name (i := 5) sc_read_part.nd rfl (by first | exact .inl rfl | exact .inr rfl))) (fun _ _ _ _ _ => pts_nil) (fun _ _ _ _ _ => (pe_lc rfl sc_read_part.nd (pi_seqX (pv 5)) (blkOk_by (own := [("one", 6)]) (by kernel_rfl)) (fun _ _ _ _ _ => (pg_name (i := 6) sc_read_part.nd rfl (by first | exact .inl rfl | exact .inr rfl))) (fun _ _ _ _ _ => pts_nil) (fun _ _ _ _ _ => (pe_call (ok_read_number T) (hr.mono (by decide)) (by rfl) T.g_read_number T.F_read_number.kp T.b_read_number .nil (passE (E := E)) (pa_cons (pv 6) pa_nil))))))
      (pss_cons (ps_if (pt_val (pe_callB (cr_any rfl) (by rfl) T.z_any bt_any (pa_cons (pe_lc rfl sc_read_part.nd (pi_seqX (pv 2)) (blkOk_by (own := [("pair", 5)]) (by kernel_rfl)) (fun _ _ _ _ _ => (pg_name (i := 5) sc_read_part.nd rfl (by first | exact .inl rfl | exact .inr rfl))) (fun _ _ _ _ _ => pts_nil) (fun _ _ _ _ _ => (pe_or (pe_cmpR (op_neX (hu64 hr)) (pe_callB call_len (by rfl) T.z_len bt_len (pa_cons (pv 5) pa_nil)) pe_int (nomark _)) (pe_one (pe_cmpR (op_inX (hu65 hr)) pe_non (pv 5) (by rfl)))))) pa_nil))) (pss_one (ps_ret pe_non)) pss_nil)
      (pss_one (ps_ret (pe_callTy call_tuple_of (by rfl) T.z_tuple bt_tuple (pa_cons (pe_lc rfl sc_read_part.nd (pi_seqX (pv 2)) (blkOk_by (own := [("pair", 5)]) (by kernel_rfl)) (fun _ _ _ _ _ => (pg_name (i := 5) sc_read_part.nd rfl (by first | exact .inl rfl | exact .inr rfl))) (fun _ _ _ _ _ => pts_nil) (fun _ _ _ _ _ => (pe_callTy call_tuple_of (by rfl) T.z_tuple bt_tuple (pa_cons (pv 5) pa_nil)))) pa_nil))))))) pss_nil)
      (pss_cons (ps_setLc (i := 2) rfl sc_read_part.nd rfl rfl rfl (pi_seqX (pv 1)) (blkOk_by (own := [("part", 4)]) (by kernel_rfl)) (fun _ _ _ _ _ => (pg_name (i := 4) sc_read_part.nd rfl (by first | exact .inl rfl | exact .inr rfl))) (fun _ _ _ _ _ => pts_nil) (fun _ _ _ _ _ => (pe_call (ok_read_number T) (hr.mono (by decide)) (by rfl) T.g_read_number T.F_read_number.kp T.b_read_number .nil (passE (E := E)) (pa_cons (pv 4) pa_nil))))
      (pss_cons (ps_if (PW.pt (pw_or (pt_cmpR (op_inX (hu65 hr)) pe_non (pv 2) (by rfl)) (pw_or1 (PW.pt (pw_and (pt_cmpR (op_eqX (hu64 hr)) (pv 0) pe_str (nomark _)) (pw_and1 (pt_cmpR (op_neX (hu64 hr)) (pe_callB call_len (by rfl) T.z_len bt_len (pa_cons (pv 2) pa_nil)) pe_int (nomark _)))))))) (pss_one (ps_ret pe_non)) pss_nil)
      (pss_one (ps_ret (pe_ifExp (pt_cmpR (op_eqX (hu64 hr)) (pv 0) pe_str (nomark _)) (pe_ix ix_seq (pv 2) pe_int (fun _ _ => rfl)) (pe_callTy call_tuple_of (by rfl) T.z_tuple bt_tuple (pa_cons (pv 2) pa_nil))))))))),
      (rs_seq (rs_if (μ := none) (ref_test (ref_op2 o2_eq (ref_var (by decide)) ref_str)) (rs_ret (μ := none) (by intro z; cases z) (by intro _ z; cases z) (ref_if (ref_testB (ref_opA oA_all (ref_acons (ref_lc (E1 := E) (E2 := E) (vs := [4]) (ri_seq (ref_var (by decide))) (rg_set (by decide)) rt_yes (ref_call (fun _ _ => RepL.nil) (fun ds => runF_ar) (ref_acons (ref_var (by decide)) ref_anil)) (by decide) (by decide)) ref_anil))) (ref_opA oA_tuple (ref_acons (ref_var (by decide)) ref_anil)) ref_non)) rs_next)
      (rs_seq (rs_if (μ := none) (ref_test (ref_op2 o2_eq (ref_var (by decide)) ref_str)) (rs_seq (rs_set (by decide) (ref_lc (E1 := E) (E2 := E) (vs := [4]) (ri_seq (ref_var (by decide))) (rg_set (by decide)) rt_yes (ref_m1 o2_split (ref_var (by decide)) ref_str) (by decide) (by decide)))
      (rs_seq (rs_set (by decide) (ref_lc (E1 := E) (E2 := E) (vs := [5]) (ri_seq (ref_var (by decide))) (rg_set (by decide)) rt_yes (ref_lc (E1 := E) (E2 := E) (vs := [6]) (ri_seq (ref_var (by decide))) (rg_set (by decide)) rt_yes (ref_call (fun _ _ => RepL.nil) (fun ds => runF_ar) (ref_acons (ref_var (by decide)) ref_anil)) (by decide) (by decide)) (by decide) (by decide)))
      (rs_seq (rs_if (μ := none) (ref_testB (ref_opA oA_any (ref_acons (ref_lc (E1 := E) (E2 := E) (vs := [5]) (ri_seq (ref_var (by decide))) (rg_set (by decide)) rt_yes (ref_orV (ref_op2 o2_ne (ref_opA oA_len (ref_acons (ref_var (by decide)) ref_anil)) ref_int) (ref_op2 o2_in ref_non (ref_var (by decide)))) (by decide) (by decide)) ref_anil))) (rs_ret (μ := none) (by intro z; cases z) (by intro _ z; cases z) ref_non) rs_next)
      (rs_ret (μ := none) (by intro z; cases z) (by intro _ z; cases z) (ref_opA oA_tuple (ref_acons (ref_lc (E1 := E) (E2 := E) (vs := [5]) (ri_seq (ref_var (by decide))) (rg_set (by decide)) rt_yes (ref_opA oA_tuple (ref_acons (ref_var (by decide)) ref_anil)) (by decide) (by decide)) ref_anil)))))) rs_next)
      (rs_seq (rs_set (by decide) (ref_lc (E1 := E) (E2 := E) (vs := [4]) (ri_seq (ref_var (by decide))) (rg_set (by decide)) rt_yes (ref_call (fun _ _ => RepL.nil) (fun ds => runF_ar) (ref_acons (ref_var (by decide)) ref_anil)) (by decide) (by decide)))
      (rs_seq (rs_if (μ := none) (ref_or (ref_test (ref_op2 o2_in ref_non (ref_var (by decide)))) (ref_and (ref_test (ref_op2 o2_eq (ref_var (by decide)) ref_str)) (ref_test (ref_op2 o2_ne (ref_opA oA_len (ref_acons (ref_var (by decide)) ref_anil)) ref_int)))) (rs_ret (μ := none) (by intro z; cases z) (by intro _ z; cases z) ref_non) rs_next)
      (rs_ret (μ := none) (by intro z; cases z) (by intro _ z; cases z) (ref_if (ref_test (ref_op2 o2_eq (ref_var (by decide)) ref_str)) (ref_op2 o2_ix (ref_var (by decide)) ref_int) (ref_opA oA_tuple (ref_acons (ref_var (by decide)) ref_anil))))))))⟩
theorem ok_House_parse (T : Txt K mg A) : FnOk P w K mg base CX0 5 A.f_House_parse A.fd_House_parse ["cls", "text"] (spM (S K A) false 2 d_House_parse) :=
  fnD_ok (O := [3]) T.F_House_parse sc_House_parse (by decide) (by decide) fun cdv A2 outer s H E hr => ⟨_, (pss_cons (ps_set (i := 2) sc_House_parse.nd rfl (by first | exact .inl rfl | exact .inr rfl) (pe_split (pv 1) pe_str))
      (pss_cons (ps_set (i := 3) sc_House_parse.nd rfl (by first | exact .inl rfl | exact .inr rfl) (pe_lst pa_nil))
      (pss_cons (ps_for PassesOwn.never rfl (pi_enumT (by rfl) T.z_enumerate (pa_cons (pe_tup (pa_cons pe_str (pa_cons pe_str (pa_cons pe_str (pa_cons pe_str pa_nil))))) pa_nil)) (pg_tup rfl (pgs_cons (pg_name (i := 4) sc_House_parse.nd rfl (by first | exact .inl rfl | exact .inr rfl)) (pgs_cons (pg_name (i := 5) sc_House_parse.nd rfl (by first | exact .inl rfl | exact .inr rfl)) pgs_nil))) (pss_cons (ps_set (i := 6) sc_House_parse.nd rfl (by first | exact .inl rfl | exact .inr rfl) (pe_ifExp (pt_cmpR op_lt (pv 4) (pe_callB call_len (by rfl) T.z_len bt_len (pa_cons (pv 2) pa_nil)) (nomark _)) (pe_split (pe_ix ix_seq (pv 2) (pv 4) (fun _ _ => rfl)) pe_str) (pe_lst (pa_cons pe_str pa_nil))))
      (pss_cons (ps_set (i := 7) sc_House_parse.nd rfl (by first | exact .inl rfl | exact .inr rfl) (pe_call (ok_read_part T) (hr.mono (by decide)) (by rfl) T.g_read_part T.F_read_part.kp T.b_read_part .nil (passE (E := E)) (pa_cons (pv 5) (pa_cons (pe_slice sl_X (pv 6) (po_some pe_int) po_none) pa_nil))))
      (pss_cons (ps_if (PW.pt (pw_or (pt_cmpR (op_neX (hu64 hr)) (pe_ix ix_seq (pv 6) pe_int (fun _ _ => rfl)) (pv 5) (nomark _)) (pw_or1 (pt_cmpR op_isN (pv 7) pe_non (nomark _))))) (pss_one ps_never) pss_nil)
      (pss_one (ps_expr (pe_bm PySem.F.plainAttrs_list PySem.F.slot_list_append PySem.F.type_list_append mt_append (pv 3) (pa_cons (pv 7) pa_nil))))))))
      (pss_cons (ps_if (pt_cmpR op_gt (pe_callB call_len (by rfl) T.z_len bt_len (pa_cons (pv 2) pa_nil)) (pe_callB call_len (by rfl) T.z_len bt_len (pa_cons (pv 3) pa_nil)) (nomark _)) (pss_one ps_never) pss_nil)
      (pss_one (ps_ret (pe_makeS (i := 0) T.mk_House (ok_House__init_ T) (hr.mono (by decide)) rfl (by first | exact .inl rfl | exact .inr (.inl rfl) | exact .inr (.inr rfl)) T.b_House__init_ (passE (E := E)) (pv 3)))))))),
      (rs_seq (rs_set (by decide) (ref_m1 o2_split (ref_var (by decide)) ref_str))
      (rs_seq (rs_setOwn (by decide) (by decide) (ref_lst ref_anil))
      (rs_seq (rs_for (ri_enumT (ref_tup (ref_acons ref_str (ref_acons ref_str (ref_acons ref_str (ref_acons ref_str ref_anil)))))) (rg_tup (rgs_cons (rg_set (by decide)) (rgs_cons (rg_set (by decide)) rgs_nil)) rfl) (rs_seq (rs_set (by decide) (ref_if (ref_test (ref_op2 o2_ltI (ref_var (by decide)) (ref_opA oA_len (ref_acons (ref_var (by decide)) ref_anil)))) (ref_m1 o2_split (ref_op2 o2_ix (ref_var (by decide)) (ref_var (by decide))) ref_str) (ref_lst (ref_acons ref_str ref_anil))))
      (rs_seq (rs_set (by decide) (ref_call (fun _ _ => RepL.nil) (fun ds => runF_ar) (ref_acons (ref_var (by decide)) (ref_acons (ref_sl o3_sl (ref_var (by decide)) (ro_some ref_int) ro_none) ref_anil))))
      (rs_seq (rs_if (μ := none) (ref_or (ref_test (ref_op2 o2_ne (ref_op2 o2_ix (ref_var (by decide)) ref_int) (ref_var (by decide)))) (ref_test (ref_op2 o2_isN (ref_var (by decide)) ref_non))) rs_bad rs_next)
      (rs_app (by decide) (ref_var (by decide)))))))
      (rs_seq (rs_if (μ := none) (ref_upT (U := [3]) (ref_test (ref_op2 o2_gtI (ref_opA oA_len (ref_acons (ref_var (by decide)) ref_anil)) (ref_opA oA_len (ref_acons (ref_own (by decide) (by decide)) ref_anil))))) rs_bad rs_next)
      (rs_ret (μ := some [3]) (by intro z; cases z) (by intro _ z; cases z; decide) (ref_makeS (by decide) (fun d ds => runF0_ar) (ref_own (by decide) (by decide))))))))⟩
theorem ok_House_text (T : Txt K mg A) : FnOk P w K mg base CX0 1 A.f_House_text A.fd_House_text ["self"] (spM (S K A) false 1 d_House_text) :=
  fnD_ok (O := [2]) T.F_House_text sc_House_text (by decide) (by decide) fun cdv A2 outer s H E hr => ⟨_, (pss_cons (ps_setLc (i := 1) rfl sc_House_text.nd rfl rfl rfl (pi_seqX (pe_fld (pv 0) rfl)) (blkOk_by (own := [("tick", 3), ("person", 4)]) (by kernel_rfl)) (fun _ _ _ _ _ => (pg_tup rfl (pgs_cons (pg_name (i := 3) sc_House_text.nd rfl (by first | exact .inl rfl | exact .inr rfl)) (pgs_cons (pg_name (i := 4) sc_House_text.nd rfl (by first | exact .inl rfl | exact .inr rfl)) pgs_nil)))) (fun _ _ _ _ _ => pts_nil) (fun _ _ _ _ _ => (pe_op op_addX (pe_op op_addX (pe_callTy call_str_int (by rfl) T.z_str bt_str (pa_cons (pv 3) pa_nil)) pe_str) (pe_callTy call_str_int (by rfl) T.z_str bt_str (pa_cons (pv 4) pa_nil)))))
      (pss_cons (ps_set (i := 2) sc_House_text.nd rfl (by first | exact .inl rfl | exact .inr rfl) (pe_lst (pa_cons (pe_lst (pa_cons pe_str (StX.pa_star (pe_fld (pv 0) rfl) pa_nil))) (pa_cons (pe_lst (pa_cons pe_str (pa_cons (pe_callTy call_str_int (by rfl) T.z_str bt_str (pa_cons (pe_fld (pv 0) rfl) pa_nil)) pa_nil))) pa_nil))))
      (pss_cons (ps_expr (pe_bm PySem.F.plainAttrs_list PySem.F.slot_list_append PySem.F.type_list_append mt_append (pv 2) (pa_cons (pe_op op_addX (pe_lst (pa_cons pe_str pa_nil)) (pe_lc rfl sc_House_text.nd (pi_seqX (pe_fld (pv 0) rfl)) (blkOk_by (own := [("person", 4)]) (by kernel_rfl)) (fun _ _ _ _ _ => (pg_name (i := 4) sc_House_text.nd rfl (by first | exact .inl rfl | exact .inr rfl))) (fun _ _ _ _ _ => pts_nil) (fun _ _ _ _ _ => (pe_callTy call_str_int (by rfl) T.z_str bt_str (pa_cons (pv 4) pa_nil))))) pa_nil)))
      (pss_cons (ps_expr (pe_bm PySem.F.plainAttrs_list PySem.F.slot_list_append PySem.F.type_list_append mt_append (pv 2) (pa_cons (pe_lst (pa_cons pe_str (StX.pa_star (pv 1) pa_nil))) pa_nil)))
      (pss_one (ps_ret (pe_join pe_str (pe_lc rfl sc_House_text.nd (pi_list (pv 2)) (blkOk_by (own := [("row", 5)]) (by kernel_rfl)) (fun _ _ _ _ _ => (pg_name (i := 5) sc_House_text.nd rfl (by first | exact .inl rfl | exact .inr rfl))) (fun _ _ _ _ _ => pts_nil) (fun _ _ _ _ _ => (pe_join pe_str (pv 5))))))))))),
      (rs_seq (rs_set (by decide) (ref_lc (E1 := E) (E2 := E) (vs := [3, 4]) (ri_seq (ref_fld T.cl_House T.na_House_reminders rfl nd_House (ref_var (by decide)))) (rg_tup (rgs_cons (rg_set (by decide)) (rgs_cons (rg_set (by decide)) rgs_nil)) rfl) rt_yes (ref_op2 o2_add (ref_op2 o2_add (ref_opA oA_str (ref_acons (ref_var (by decide)) ref_anil)) ref_str) (ref_opA oA_str (ref_acons (ref_var (by decide)) ref_anil))) (by decide) (by decide)))
      (rs_seq (rs_setOwn (by decide) (by decide) (ref_lst (ref_acons (ref_lst (ref_acons ref_str (ref_astar (ref_fld T.cl_House T.na_House_tables rfl nd_House (ref_var (by decide))) ref_anil))) (ref_acons (ref_lst (ref_acons ref_str (ref_acons (ref_opA oA_str (ref_acons (ref_fld T.cl_House T.na_House_key_count rfl nd_House (ref_var (by decide))) ref_anil)) ref_anil))) ref_anil))))
      (rs_seq (rs_app (by decide) (ref_op2 o2_add (ref_lst (ref_acons ref_str ref_anil)) (ref_lc (E1 := E) (E2 := E) (vs := [4]) (ri_seq (ref_fld T.cl_House T.na_House_careful rfl nd_House (ref_var (by decide)))) (rg_set (by decide)) rt_yes (ref_opA oA_str (ref_acons (ref_var (by decide)) ref_anil)) (by decide) (by decide))))
      (rs_seq (rs_app (by decide) (ref_lst (ref_acons ref_str (ref_astar (ref_var (by decide)) ref_anil))))
      (rs_ret (μ := none) (by intro z; cases z) (by intro _ z; cases z) (ref_up (U := [2]) (ref_m1 o2_join ref_str (ref_lc (E1 := E) (E2 := E) (vs := [5]) (ri_own (by decide)) (rg_set (by decide)) rt_yes (ref_m1 o2_join ref_str (ref_var (by decide))) (by decide) (by decide)))))))))⟩
theorem ok_law_below (T : Txt K mg A) : FnOk P w K mg base CX0 1 A.f_law_below A.fd_law_below ["_law_d", "_law_limit"] (spM0 (S K A) 2 d_law_below) :=
  fnD_ok0 (O := []) T.F_law_below sc_law_below (by decide) (by decide) fun cdv A2 outer s H E hr => ⟨_, (pss_cons (ps_if (PW.pt (pw_and (pt_cmpR (op_eqX (hu64 hr)) (pe_ix ix_seq (pv 0) pe_int (fun _ _ => rfl)) pe_int (nomark _)) (pw_and1 (pt_cmpR op_gt (pe_callB call_len (by rfl) T.z_len bt_len (pa_cons (pv 0) pa_nil)) pe_int (nomark _))))) (pss_one (ps_asg (pe_bm PySem.F.plainAttrs_list PySem.F.slot_list_pop PySem.F.type_list_pop mt_popAt (pv 0) (pa_cons pe_int pa_nil)) (pg_sub (pv 0) pe_int set_list))) pss_nil)
      (pss_cons (ps_if (pt_cmpR op_gt (pe_ix ix_seq (pv 0) pe_int (fun _ _ => rfl)) pe_int (nomark _)) (pss_cons (ps_set (i := 2) sc_law_below.nd rfl (by first | exact .inl rfl | exact .inr rfl) (pe_op op_modN (pe_ix ix_seq (pv 0) pe_int (fun _ _ => rfl)) (pv 1)))
      (pss_cons (ps_asg (pe_op op_fdivN (pe_ix ix_seq (pv 0) pe_int (fun _ _ => rfl)) (pv 1)) (pg_sub (pv 0) pe_int set_list))
      (pss_one (ps_ret (pv 2))))) pss_nil)
      (pss_cons (ps_asg (pe_op op_modN (pe_op op_addX (pe_op op_mul (pe_ix ix_seq (pv 0) pe_int (fun _ _ => rfl)) pe_int) pe_int) pe_int) (pg_sub (pv 0) pe_int set_list))
      (pss_one (ps_ret (pe_op op_modN (pe_op op_fdivN (pe_ix ix_seq (pv 0) pe_int (fun _ _ => rfl)) pe_int) (pv 1))))))),
      (rs_seq (rs_if (μ := none) (ref_upT (U := [0]) (ref_and (ref_test (ref_op2 o2_eq (ref_op2 o2_ix (ref_own (by decide) (by decide)) ref_int) ref_int)) (ref_test (ref_op2 o2_gtI (ref_opA oA_len (ref_acons (ref_own (by decide) (by decide)) ref_anil)) ref_int)))) (rs_setIx (by decide) (ref_popAt (by decide))) rs_next)
      (rs_seq (rs_if (μ := none) (ref_upT (U := [0]) (ref_test (ref_op2 o2_gtI (ref_op2 o2_ix (ref_own (by decide) (by decide)) ref_int) ref_int))) (rs_seq (rs_set (by decide) (ref_up (U := [0]) (ref_op2 o2_mod (ref_op2 o2_ix (ref_own (by decide) (by decide)) ref_int) (ref_var (by decide)))))
      (rs_seq (rs_setIx (by decide) (ref_up (U := [0]) (ref_op2 o2_fdiv (ref_op2 o2_ix (ref_own (by decide) (by decide)) ref_int) (ref_var (by decide)))))
      (rs_ret (μ := none) (by intro z; cases z) (by intro _ z; cases z) (ref_var (by decide))))) rs_next)
      (rs_seq (rs_setIx (by decide) (ref_up (U := [0]) (ref_op2 o2_mod (ref_op2 o2_add (ref_op2 o2_mul (ref_op2 o2_ix (ref_own (by decide) (by decide)) ref_int) ref_int) ref_int) ref_int)))
      (rs_ret (μ := none) (by intro z; cases z) (by intro _ z; cases z) (ref_up (U := [0]) (ref_op2 o2_mod (ref_op2 o2_fdiv (ref_op2 o2_ix (ref_own (by decide) (by decide)) ref_int) ref_int) (ref_var (by decide))))))))⟩
theorem ok_law_table (T : Txt K mg A) : FnOk P w K mg base CX0 2 A.f_law_table A.fd_law_table ["_law_d"] (spM0 (S K A) 1 d_law_table) :=
  fnD_ok0 (O := []) T.F_law_table sc_law_table (by decide) (by decide) fun cdv A2 outer s H E hr => ⟨_, (pss_cons (ps_set (i := 1) sc_law_table.nd rfl (by first | exact .inl rfl | exact .inr rfl) (pe_ix ix_seq (pe_lst (pa_cons pe_int (pa_cons pe_int (pa_cons pe_int (pa_cons pe_int (pa_cons pe_int (pa_cons pe_int (pa_cons pe_int (pa_cons pe_int (pa_cons pe_int pa_nil)))))))))) (pe_call (ok_law_below T) (hr.mono (by decide)) (by rfl) T.g_law_below T.F_law_below.kp T.b_law_below .nil (passE (E := E)) (pa_cons (pv 0) (pa_cons (pe_ix ix_seq (pe_lst (pa_cons pe_int (pa_cons pe_int (pa_cons pe_int pa_nil)))) (pe_call (ok_law_below T) (hr.mono (by decide)) (by rfl) T.g_law_below T.F_law_below.kp T.b_law_below .nil (passE (E := E)) (pa_cons (pv 0) (pa_cons pe_int pa_nil))) (fun _ _ => rfl)) pa_nil))) (fun _ _ => rfl)))
      (pss_one (ps_ret (pe_join pe_str (pe_lc rfl sc_law_table.nd (pi_range1 (by rfl) T.z_range (pa_cons (pv 1) pa_nil)) (blkOk_by (own := [("_law_k", 2)]) (by kernel_rfl)) (fun _ _ _ _ _ => (pg_name (i := 2) sc_law_table.nd rfl (by first | exact .inl rfl | exact .inr rfl))) (fun _ _ _ _ _ => pts_nil) (fun _ _ _ _ _ => (pe_ix ix_seq pe_str (pe_call (ok_law_below T) (hr.mono (by decide)) (by rfl) T.g_law_below T.F_law_below.kp T.b_law_below .nil (passE (E := E)) (pa_cons (pv 0) (pa_cons pe_int pa_nil))) (fun _ _ => rfl)))))))),
      (rs_seq (rs_set (by decide) (ref_op2 o2_ix (ref_lst (ref_acons ref_int (ref_acons ref_int (ref_acons ref_int (ref_acons ref_int (ref_acons ref_int (ref_acons ref_int (ref_acons ref_int (ref_acons ref_int (ref_acons ref_int ref_anil)))))))))) (ref_callO (by decide) (fun d ds => runF0_ar) (ref_acons (ref_op2 o2_ix (ref_lst (ref_acons ref_int (ref_acons ref_int (ref_acons ref_int ref_anil)))) (ref_callO (by decide) (fun d ds => runF0_ar) (ref_acons ref_int ref_anil))) ref_anil))))
      (rs_ret (μ := none) (by intro z; cases z) (by intro _ z; cases z) (ref_m1 o2_join ref_str (ref_lc (E1 := E) (E2 := E) (vs := [2]) (ri_range1 (ref_acons (ref_var (by decide)) ref_anil)) (rg_set (by decide)) rt_yes (ref_op2 o2_ix ref_str (ref_callO (by decide) (fun d ds => runF0_ar) (ref_acons ref_int ref_anil))) (by decide) (by decide)))))⟩
theorem ok_law_length (T : Txt K mg A) : FnOk P w K mg base CX0 1 A.f_law_length A.fd_law_length ["_law_tables"] (spM (S K A) false 1 d_law_length) :=
  fnD_ok (O := []) T.F_law_length sc_law_length (by decide) (by decide) fun cdv A2 outer s H E hr => ⟨_, (pss_cons (ps_set (i := 1) sc_law_length.nd rfl (by first | exact .inl rfl | exact .inr rfl) pe_int)
      (pss_cons (ps_while PassesOwn.never (pt_cmpR (op_neX (hu64 hr)) (pe_lc rfl sc_law_length.nd (pi_seqX (pv 0)) (blkOk_by (own := [("_law_table_here", 2)]) (by kernel_rfl)) (fun _ _ _ _ _ => (pg_name (i := 2) sc_law_length.nd rfl (by first | exact .inl rfl | exact .inr rfl))) (fun _ _ _ _ _ => (pts_one (pt_cmpR op_gt (pe_op op_modN (pv 1) (pe_callB call_len (by rfl) T.z_len bt_len (pa_cons (pv 2) pa_nil))) pe_int (nomark _)))) (fun _ _ _ _ _ => (pv 2))) (pe_lst pa_nil) (nomark _)) (pss_one (ps_set (i := 1) sc_law_length.nd rfl (by first | exact .inl rfl | exact .inr rfl) (pe_op op_addX (pv 1) pe_int))))
      (pss_one (ps_ret (pv 1))))),
      (rs_seq (rs_set (by decide) ref_int)
      (rs_seq (rs_while (ref_test (ref_op2 o2_ne (ref_lc (E1 := E) (E2 := E) (vs := [2]) (ri_seq (ref_var (by decide))) (rg_set (by decide)) (ref_test (ref_op2 o2_gtI (ref_op2 o2_mod (ref_var (by decide)) (ref_opA oA_len (ref_acons (ref_var (by decide)) ref_anil))) ref_int)) (ref_var (by decide)) (by decide) (by decide)) (ref_lst ref_anil))) (rs_set (by decide) (ref_op2 o2_add (ref_var (by decide)) ref_int)))
      (rs_ret (μ := none) (by intro z; cases z) (by intro _ z; cases z) (ref_var (by decide)))))⟩
theorem ok_law_parts (T : Txt K mg A) : FnOk P w K mg base CX0 3 A.f_law_parts A.fd_law_parts ["_law_d", "_law_most"] (spM0 (S K A) 2 d_law_parts) :=
  fnD_ok0 (O := [6]) T.F_law_parts sc_law_parts (by decide) (by decide) fun cdv A2 outer s H E hr => ⟨_, (pss_cons (ps_set (i := 2) sc_law_parts.nd rfl (by first | exact .inl rfl | exact .inr rfl) (pe_callTy call_tuple_of (by rfl) T.z_tuple bt_tuple (pa_cons (pe_lc rfl sc_law_parts.nd (pi_range1 (by rfl) T.z_range (pa_cons (pe_op op_addX pe_int (pe_call (ok_law_below T) (hr.mono (by decide)) (by rfl) T.g_law_below T.F_law_below.kp T.b_law_below .nil (passE (E := E)) (pa_cons (pv 0) (pa_cons (pv 1) pa_nil)))) pa_nil)) (blkOk_by (own := [("_law_k", 4)]) (by kernel_rfl)) (fun _ _ _ _ _ => (pg_name (i := 4) sc_law_parts.nd rfl (by first | exact .inl rfl | exact .inr rfl))) (fun _ _ _ _ _ => pts_nil) (fun _ _ _ _ _ => (pe_call (ok_law_table T) (hr.mono (by decide)) (by rfl) T.g_law_table T.F_law_table.kp T.b_law_table .nil (passE (E := E)) (pa_cons (pv 0) pa_nil)))) pa_nil)))
      (pss_cons (ps_set (i := 3) sc_law_parts.nd rfl (by first | exact .inl rfl | exact .inr rfl) (pe_callTy call_tuple_of (by rfl) T.z_tuple bt_tuple (pa_cons (pe_lc rfl sc_law_parts.nd (pi_range1 (by rfl) T.z_range (pa_cons (pe_callB call_len (by rfl) T.z_len bt_len (pa_cons (pv 2) pa_nil)) pa_nil)) (blkOk_by (own := [("_law_k", 4)]) (by kernel_rfl)) (fun _ _ _ _ _ => (pg_name (i := 4) sc_law_parts.nd rfl (by first | exact .inl rfl | exact .inr rfl))) (fun _ _ _ _ _ => (pts_one (pt_cmpR (op_eqX (hu64 hr)) (pe_call (ok_law_below T) (hr.mono (by decide)) (by rfl) T.g_law_below T.F_law_below.kp T.b_law_below .nil (passE (E := E)) (pa_cons (pv 0) (pa_cons pe_int pa_nil))) pe_int (nomark _)))) (fun _ _ _ _ _ => (pv 4))) pa_nil)))
      (pss_cons (ps_par (i := 5) (j := 6) rfl sc_law_parts.nd rfl rfl (by decide) rfl rfl (pa_cons (pe_call (ok_law_length T) (hr.mono (by decide)) (by rfl) T.g_law_length T.F_law_length.kp T.b_law_length .nil (passE (E := E)) (pa_cons (pv 2) pa_nil)) (pa_cons (pe_lst pa_nil) pa_nil)) rfl)
      (pss_cons (ps_for PassesOwn.never rfl (pi_range1 (by rfl) T.z_range (pa_cons (pe_call (ok_law_below T) (hr.mono (by decide)) (by rfl) T.g_law_below T.F_law_below.kp T.b_law_below .nil (passE (E := E)) (pa_cons (pv 0) (pa_cons (pe_ix ix_seq (pe_lst (pa_cons pe_int (pa_cons pe_int (pa_cons pe_int pa_nil)))) (pe_call (ok_law_below T) (hr.mono (by decide)) (by rfl) T.g_law_below T.F_law_below.kp T.b_law_below .nil (passE (E := E)) (pa_cons (pv 0) (pa_cons pe_int pa_nil))) (fun _ _ => rfl)) pa_nil))) pa_nil)) (pg_name (i := 4) sc_law_parts.nd rfl (by first | exact .inl rfl | exact .inr rfl)) (pss_cons (ps_set (i := 7) sc_law_parts.nd rfl (by first | exact .inl rfl | exact .inr rfl) (pe_tup (pa_cons (pe_call (ok_law_below T) (hr.mono (by decide)) (by rfl) T.g_law_below T.F_law_below.kp T.b_law_below .nil (passE (E := E)) (pa_cons (pv 0) (pa_cons (pv 5) pa_nil))) (pa_cons (pe_call (ok_law_below T) (hr.mono (by decide)) (by rfl) T.g_law_below T.F_law_below.kp T.b_law_below .nil (passE (E := E)) (pa_cons (pv 0) (pa_cons (pe_callB call_len (by rfl) T.z_len bt_len (pa_cons (pv 2) pa_nil)) pa_nil))) pa_nil))))
      (pss_one (ps_if (pt_cmpR (op_notInX (hu65 hr)) (pv 7) (pv 6) (by rfl)) (pss_one (ps_expr (pe_bm PySem.F.plainAttrs_list PySem.F.slot_list_append PySem.F.type_list_append mt_append (pv 6) (pa_cons (pv 7) pa_nil)))) pss_nil))))
      (pss_one (ps_ret (pe_tup (pa_cons (pv 2) (pa_cons (pe_call (ok_law_below T) (hr.mono (by decide)) (by rfl) T.g_law_below T.F_law_below.kp T.b_law_below .nil (passE (E := E)) (pa_cons (pv 0) (pa_cons (pe_ix ix_seq (pe_lst (pa_cons pe_int (pa_cons pe_int pa_nil))) (pe_call (ok_law_below T) (hr.mono (by decide)) (by rfl) T.g_law_below T.F_law_below.kp T.b_law_below .nil (passE (E := E)) (pa_cons (pv 0) (pa_cons pe_int pa_nil))) (fun _ _ => rfl)) pa_nil))) (pa_cons (pv 3) (pa_cons (pe_callTy call_tuple_of (by rfl) T.z_tuple bt_tuple (pa_cons (pe_callB cr_sortX (by rfl) T.z_sorted bt_sorted (pa_cons (pv 6) pa_nil)) pa_nil)) pa_nil))))))))))),
      (rs_seq (rs_set (by decide) (ref_opA oA_tuple (ref_acons (ref_lc (E1 := E) (E2 := E) (vs := [4]) (ri_range1 (ref_acons (ref_op2 o2_add ref_int (ref_callO (by decide) (fun d ds => runF0_ar) (ref_acons (ref_var (by decide)) ref_anil))) ref_anil)) (rg_set (by decide)) rt_yes (ref_callO (by decide) (fun d ds => runF0_ar) ref_anil) (by decide) (by decide)) ref_anil)))
      (rs_seq (rs_set (by decide) (ref_opA oA_tuple (ref_acons (ref_lc (E1 := E) (E2 := E) (vs := [4]) (ri_range1 (ref_acons (ref_opA oA_len (ref_acons (ref_var (by decide)) ref_anil)) ref_anil)) (rg_set (by decide)) (ref_test (ref_op2 o2_eq (ref_callO (by decide) (fun d ds => runF0_ar) (ref_acons ref_int ref_anil)) ref_int)) (ref_var (by decide)) (by decide) (by decide)) ref_anil)))
      (rs_seq (rs_parO (by decide) (by decide) (by decide) (ref_call (fun _ _ => RepL.nil) (fun ds => runF_ar) (ref_acons (ref_var (by decide)) ref_anil)) (ref_lst ref_anil))
      (rs_seq (rs_for (ri_range1 (ref_acons (ref_callO (by decide) (fun d ds => runF0_ar) (ref_acons (ref_op2 o2_ix (ref_lst (ref_acons ref_int (ref_acons ref_int (ref_acons ref_int ref_anil)))) (ref_callO (by decide) (fun d ds => runF0_ar) (ref_acons ref_int ref_anil))) ref_anil)) ref_anil)) (rg_set (by decide)) (rs_seq (rs_set (by decide) (ref_tup (ref_acons (ref_callO (by decide) (fun d ds => runF0_ar) (ref_acons (ref_var (by decide)) ref_anil)) (ref_acons (ref_callO (by decide) (fun d ds => runF0_ar) (ref_acons (ref_opA oA_len (ref_acons (ref_var (by decide)) ref_anil)) ref_anil)) ref_anil))))
      (rs_if (μ := none) (ref_upT (U := [0, 6]) (ref_test (ref_op2 o2_notIn (ref_var (by decide)) (ref_own (by decide) (by decide))))) (rs_app (by decide) (ref_var (by decide))) rs_next)))
      (rs_ret (μ := none) (by intro z; cases z) (by intro _ z; cases z) (ref_tup (ref_acons (ref_var (by decide)) (ref_acons (ref_callO (by decide) (fun d ds => runF0_ar) (ref_acons (ref_op2 o2_ix (ref_lst (ref_acons ref_int (ref_acons ref_int ref_anil))) (ref_callO (by decide) (fun d ds => runF0_ar) (ref_acons ref_int ref_anil))) ref_anil)) (ref_acons (ref_var (by decide)) (ref_acons (ref_up (U := [0, 6]) (ref_opA oA_tuple (ref_acons (ref_opA oA_sorted (ref_acons (ref_own (by decide) (by decide)) ref_anil)) ref_anil))) ref_anil))))))))))⟩
theorem ok_law_equal (T : Txt K mg A) : ∀ n, FnOk P w K mg base CX0 (n + 1) A.f_law_equal A.fd_law_equal ["_law_actual", "_law_expected"] (spM (S K A) false 2 (d_law_equal n))
  | 0 => Mir.FunD.never_ok T.F_law_equal sc_law_equal rfl
  | n + 1 => by
    have ih := ok_law_equal T n
    have har := ar_law_equal n
    exact fnD_ok (O := []) T.F_law_equal sc_law_equal (by decide) (by decide) fun cdv A2 outer s H E hr0 => have hr := hr0.mono (Nat.le_refl (n + 1)); ⟨_, (pss_cons (ps_if (pt_cmpR op_isN (pv 1) pe_non (nomark _)) (pss_one (ps_ret (pe_cmpR op_isN (pv 0) pe_non (nomark _)))) pss_nil)
      (pss_cons (ps_if (pt_val (pe_callB call_isi (by rfl) T.z_isinstance bt_isinstance (pa_cons (pv 1) (pa_cons (pe_bltn (v := .ty "bool") (by rfl) T.z_bool bt_bool rfl) pa_nil)))) (pss_one (ps_ret (pe_and (pe_callB call_isi (by rfl) T.z_isinstance bt_isinstance (pa_cons (pv 0) (pa_cons (pe_bltn (v := .ty "bool") (by rfl) T.z_bool bt_bool rfl) pa_nil))) (pe_one (pe_cmpR (op_eqX (hu64 hr)) (pv 0) (pv 1) (nomark _)))))) pss_nil)
      (pss_cons (ps_if (pt_val (pe_callB call_isi (by rfl) T.z_isinstance bt_isinstance (pa_cons (pv 1) (pa_cons (pe_bltn (v := .ty "int") (by rfl) T.z_int bt_int rfl) pa_nil)))) (pss_one (ps_ret (pe_and (pe_callB call_isi (by rfl) T.z_isinstance bt_isinstance (pa_cons (pv 0) (pa_cons (pe_bltn (v := .ty "int") (by rfl) T.z_int bt_int rfl) pa_nil))) (pe_and (pe_not (pe_callB call_isi (by rfl) T.z_isinstance bt_isinstance (pa_cons (pv 0) (pa_cons (pe_bltn (v := .ty "bool") (by rfl) T.z_bool bt_bool rfl) pa_nil)))) (pe_one (pe_cmpR (op_eqX (hu64 hr)) (pv 0) (pv 1) (nomark _))))))) pss_nil)
      (pss_cons (ps_if (pt_val (pe_callB call_isi (by rfl) T.z_isinstance bt_isinstance (pa_cons (pv 1) (pa_cons (pe_bltn (v := .ty "str") (by rfl) T.z_str bt_str rfl) pa_nil)))) (pss_one (ps_ret (pe_and (pe_callB call_isi (by rfl) T.z_isinstance bt_isinstance (pa_cons (pv 0) (pa_cons (pe_bltn (v := .ty "str") (by rfl) T.z_str bt_str rfl) pa_nil))) (pe_one (pe_cmpR (op_eqX (hu64 hr)) (pv 0) (pv 1) (nomark _)))))) pss_nil)
      (pss_cons (ps_if (pt_cmpR (op_neX (hu64 hr)) (pe_callB call_isi (by rfl) T.z_isinstance bt_isinstance (pa_cons (pv 1) (pa_cons (pe_bltn (v := .ty "tuple") (by rfl) T.z_tuple bt_tuple rfl) pa_nil))) (pe_callB call_isi (by rfl) T.z_isinstance bt_isinstance (pa_cons (pv 0) (pa_cons (pe_bltn (v := .ty "tuple") (by rfl) T.z_tuple bt_tuple rfl) pa_nil))) (nomark _)) (pss_one (ps_ret pe_bl)) pss_nil)
      (pss_cons (ps_if (pt_cmpR (op_neX (hu64 hr)) (pe_callB call_isi (by rfl) T.z_isinstance bt_isinstance (pa_cons (pv 1) (pa_cons (pe_bltn (v := .ty "list") (by rfl) T.z_list bt_list rfl) pa_nil))) (pe_callB call_isi (by rfl) T.z_isinstance bt_isinstance (pa_cons (pv 0) (pa_cons (pe_bltn (v := .ty "list") (by rfl) T.z_list bt_list rfl) pa_nil))) (nomark _)) (pss_one (ps_ret pe_bl)) pss_nil)
      (pss_cons (ps_if (pt_cmpR (op_neX (hu64 hr)) (pe_callB call_len (by rfl) T.z_len bt_len (pa_cons (pv 0) pa_nil)) (pe_callB call_len (by rfl) T.z_len bt_len (pa_cons (pv 1) pa_nil)) (nomark _)) (pss_one (ps_ret pe_bl)) pss_nil)
      (pss_one (ps_ret (pe_callB (cr_all rfl) (by rfl) T.z_all bt_all (pa_cons (pe_lc rfl sc_law_equal.nd (pi_range1 (by rfl) T.z_range (pa_cons (pe_callB call_len (by rfl) T.z_len bt_len (pa_cons (pv 1) pa_nil)) pa_nil)) (blkOk_by (own := [("_law_k", 2)]) (by kernel_rfl)) (fun _ _ _ _ _ => (pg_name (i := 2) sc_law_equal.nd rfl (by first | exact .inl rfl | exact .inr rfl))) (fun _ _ _ _ _ => pts_nil) (fun _ _ _ _ _ => (pe_call ih hr (by rfl) T.g_law_equal T.F_law_equal.kp T.b_law_equal .nil (passE (E := E)) (pa_cons (pe_ix ix_seq (pv 0) (pv 2) (fun _ _ => rfl)) (pa_cons (pe_ix ix_seq (pv 1) (pv 2) (fun _ _ => rfl)) pa_nil))))) pa_nil))))))))))),
      (rs_seq (rs_if (μ := none) (ref_test (ref_op2 o2_isN (ref_var (by decide)) ref_non)) (rs_ret (μ := none) (by intro z; cases z) (by intro _ z; cases z) (ref_op2 o2_isN (ref_var (by decide)) ref_non)) rs_next)
      (rs_seq (rs_if (μ := none) (ref_testB (ref_isi (ref_var (by decide)))) (rs_ret (μ := none) (by intro z; cases z) (by intro _ z; cases z) (ref_andV (ref_isi (ref_var (by decide))) (ref_op2 o2_eq (ref_var (by decide)) (ref_var (by decide))))) rs_next)
      (rs_seq (rs_if (μ := none) (ref_testB (ref_isi (ref_var (by decide)))) (rs_ret (μ := none) (by intro z; cases z) (by intro _ z; cases z) (ref_andV (ref_isi (ref_var (by decide))) (ref_andV (ref_notV (ref_isi (ref_var (by decide)))) (ref_op2 o2_eq (ref_var (by decide)) (ref_var (by decide)))))) rs_next)
      (rs_seq (rs_if (μ := none) (ref_testB (ref_isi (ref_var (by decide)))) (rs_ret (μ := none) (by intro z; cases z) (by intro _ z; cases z) (ref_andV (ref_isi (ref_var (by decide))) (ref_op2 o2_eq (ref_var (by decide)) (ref_var (by decide))))) rs_next)
      (rs_seq (rs_if (μ := none) (ref_test (ref_op2 o2_ne (ref_isi (ref_var (by decide))) (ref_isi (ref_var (by decide))))) (rs_ret (μ := none) (by intro z; cases z) (by intro _ z; cases z) ref_bl) rs_next)
      (rs_seq (rs_if (μ := none) (ref_test (ref_op2 o2_ne (ref_isi (ref_var (by decide))) (ref_isi (ref_var (by decide))))) (rs_ret (μ := none) (by intro z; cases z) (by intro _ z; cases z) ref_bl) rs_next)
      (rs_seq (rs_if (μ := none) (ref_test (ref_op2 o2_ne (ref_opA oA_len (ref_acons (ref_var (by decide)) ref_anil)) (ref_opA oA_len (ref_acons (ref_var (by decide)) ref_anil)))) (rs_ret (μ := none) (by intro z; cases z) (by intro _ z; cases z) ref_bl) rs_next)
      (rs_ret (μ := none) (by intro z; cases z) (by intro _ z; cases z) (ref_opA oA_all (ref_acons (ref_lc (E1 := E) (E2 := E) (vs := [2]) (ri_range1 (ref_acons (ref_opA oA_len (ref_acons (ref_var (by decide)) ref_anil)) ref_anil)) (rg_set (by decide)) rt_yes (ref_call (fun _ _ => RepL.nil) (fun ds => har ds) (ref_acons (ref_op2 o2_ix (ref_var (by decide)) (ref_var (by decide))) (ref_acons (ref_op2 o2_ix (ref_var (by decide)) (ref_var (by decide))) ref_anil))) (by decide) (by decide)) ref_anil))))))))))⟩
theorem ok_law_house (T : Txt K mg A) : FnOk P w K mg base CX0 5 A.f_law_house A.fd_law_house ["_law_parts_here"] (spM (S K A) false 1 d_law_house) :=
  fnD_ok (O := []) T.F_law_house sc_law_house (by decide) (by decide) fun cdv A2 outer s H E hr => ⟨_, (pss_one (ps_ret (pe_make T.mk_House (ok_House__init_ T) (hr.mono (by decide)) (by rfl) T.g_House T.b_House__init_ .nil (passE (E := E)) (pa_cons (pe_ix ix_seq (pv 0) pe_int (fun _ _ => rfl)) (pa_cons (pe_ix ix_seq (pv 0) pe_int (fun _ _ => rfl)) (pa_cons (pe_ix ix_seq (pv 0) pe_int (fun _ _ => rfl)) (pa_cons (pe_ix ix_seq (pv 0) pe_int (fun _ _ => rfl)) pa_nil))))))),
      (rs_ret (μ := none) (by intro z; cases z) (by intro _ z; cases z) (ref_make (fun _ _ => RepL.nil) (fun d ds => runF0_ar) (ref_acons (ref_op2 o2_ix (ref_var (by decide)) ref_int) (ref_acons (ref_op2 o2_ix (ref_var (by decide)) ref_int) (ref_acons (ref_op2 o2_ix (ref_var (by decide)) ref_int) (ref_acons (ref_op2 o2_ix (ref_var (by decide)) ref_int) ref_anil))))))⟩
end
end K14
/-! C14 -/
namespace K14
open PySem PySem.Spec PyProof.Rows L2 Mir
theorem all_mk {K : PySem.W.Frag} {h : Heap} {mg : Str → Option Value} (X : K.In h) (G : h.Ns mainGlobals mg)
    {f_is_int_in : Addr} {oc_is_int_in kV_is_int_in dc_is_int_in pm_is_int_in cd_is_int_in ct_is_int_in : Value} {od_is_int_in an_is_int_in : Option Addr} {sl_is_int_in : Array (Option Value)}
    {f_is_table : Addr} {oc_is_table kV_is_table dc_is_table pm_is_table cd_is_table ct_is_table : Value} {od_is_table an_is_table : Option Addr} {sl_is_table : Array (Option Value)}
    {f_common_multiple : Addr} {oc_common_multiple kV_common_multiple dc_common_multiple pm_common_multiple cd_common_multiple ct_common_multiple : Value} {od_common_multiple an_common_multiple : Option Addr} {sl_common_multiple : Array (Option Value)}
    {f_check_persons : Addr} {oc_check_persons kV_check_persons dc_check_persons pm_check_persons cd_check_persons ct_check_persons : Value} {od_check_persons an_check_persons : Option Addr} {sl_check_persons : Array (Option Value)}
    {f_is_reminder : Addr} {oc_is_reminder kV_is_reminder dc_is_reminder pm_is_reminder cd_is_reminder ct_is_reminder : Value} {od_is_reminder an_is_reminder : Option Addr} {sl_is_reminder : Array (Option Value)}
    {f_House__init_ : Addr} {oc_House__init_ kV_House__init_ dc_House__init_ pm_House__init_ cd_House__init_ ct_House__init_ : Value} {od_House__init_ an_House__init_ : Option Addr} {sl_House__init_ : Array (Option Value)}
    {T_House__init_ e0_House__init_ e1_House__init_ : Addr} {ocT_House__init_ : Value} {odT_House__init_ : Option Addr} {nT_House__init_ : Nat} {slT_House__init_ : Array (Option Value)}
    {ode0_House__init_ : Option Addr} {ne0_House__init_ : Nat} {sle0_House__init_ : Array (Option Value)}
    {ode1_House__init_ : Option Addr} {ne1_House__init_ : Nat} {sle1_House__init_ : Array (Option Value)}
    {f_read_number : Addr} {oc_read_number kV_read_number dc_read_number pm_read_number cd_read_number ct_read_number : Value} {od_read_number an_read_number : Option Addr} {sl_read_number : Array (Option Value)}
    {f_is_word : Addr} {oc_is_word kV_is_word dc_is_word pm_is_word cd_is_word ct_is_word : Value} {od_is_word an_is_word : Option Addr} {sl_is_word : Array (Option Value)}
    {f_read_part : Addr} {oc_read_part kV_read_part dc_read_part pm_read_part cd_read_part ct_read_part : Value} {od_read_part an_read_part : Option Addr} {sl_read_part : Array (Option Value)}
    {f_House_parse : Addr} {oc_House_parse kV_House_parse dc_House_parse pm_House_parse cd_House_parse ct_House_parse : Value} {od_House_parse an_House_parse : Option Addr} {sl_House_parse : Array (Option Value)}
    {p_House_parse : Addr} {re_House_parse : List Value}
    {f_House_text : Addr} {oc_House_text kV_House_text dc_House_text pm_House_text cd_House_text ct_House_text : Value} {od_House_text an_House_text : Option Addr} {sl_House_text : Array (Option Value)}
    {p_House_text : Addr} {re_House_text : List Value}
    {f_law_below : Addr} {oc_law_below kV_law_below dc_law_below pm_law_below cd_law_below ct_law_below : Value} {od_law_below an_law_below : Option Addr} {sl_law_below : Array (Option Value)}
    {f_law_table : Addr} {oc_law_table kV_law_table dc_law_table pm_law_table cd_law_table ct_law_table : Value} {od_law_table an_law_table : Option Addr} {sl_law_table : Array (Option Value)}
    {f_law_length : Addr} {oc_law_length kV_law_length dc_law_length pm_law_length cd_law_length ct_law_length : Value} {od_law_length an_law_length : Option Addr} {sl_law_length : Array (Option Value)}
    {f_law_parts : Addr} {oc_law_parts kV_law_parts dc_law_parts pm_law_parts cd_law_parts ct_law_parts : Value} {od_law_parts an_law_parts : Option Addr} {sl_law_parts : Array (Option Value)}
    {f_law_equal : Addr} {oc_law_equal kV_law_equal dc_law_equal pm_law_equal cd_law_equal ct_law_equal : Value} {od_law_equal an_law_equal : Option Addr} {sl_law_equal : Array (Option Value)}
    {f_law_house : Addr} {oc_law_house kV_law_house dc_law_house pm_law_house cd_law_house ct_law_house : Value} {od_law_house an_law_house : Option Addr} {sl_law_house : Array (Option Value)}
    {f_law_random : Addr} {oc_law_random kV_law_random dc_law_random pm_law_random cd_law_random ct_law_random : Value} {od_law_random an_law_random : Option Addr} {sl_law_random : Array (Option Value)}
    {f_law : Addr} {oc_law kV_law dc_law pm_law cd_law ct_law : Value} {od_law an_law : Option Addr} {sl_law : Array (Option Value)}
    {C_House : Addr}
    {t_MAX_PERSONS : Nat}
    {a_LENGTHS : Addr} {t0_LENGTHS t1_LENGTHS t2_LENGTHS t3_LENGTHS t4_LENGTHS t5_LENGTHS t6_LENGTHS t7_LENGTHS : Nat} {o_LENGTHS : Option Addr} {n_LENGTHS : Nat} {s_LENGTHS : Array (Option Value)}
    {t_MAX_KEYS : Nat}
    {t_MAX_REMINDERS : Nat}
    {t_HOME : Nat}
    {t_OUT : Nat}
    {t_DIGITS : Nat}
    {t_MAX_DIGITS : Nat}
    (a_House : PySem.W.nsIn K mainGlobals "House" = some (some (.ref C_House)))
    (a_is_int_in : PySem.W.nsIn K mainGlobals "is_int_in" = some (some (.ref f_is_int_in)))
    (l_is_int_in : K.lookup f_is_int_in = some ⟨oc_is_int_in, od_is_int_in, .func (PySem.W.fnOf "is_int_in" "is_int_in" (defArgs st_is_int_in) (defBody st_is_int_in) (defScope st_is_int_in) .none kV_is_int_in dc_is_int_in pm_is_int_in an_is_int_in cd_is_int_in ct_is_int_in), sl_is_int_in⟩)
    (c_is_int_in : PySem.W.codeIn K cd_is_int_in "is_int_in" = true)
    (k_is_int_in : PySem.W.keepIn K (.ref f_is_int_in) = true)
    (a_is_table : PySem.W.nsIn K mainGlobals "is_table" = some (some (.ref f_is_table)))
    (l_is_table : K.lookup f_is_table = some ⟨oc_is_table, od_is_table, .func (PySem.W.fnOf "is_table" "is_table" (defArgs st_is_table) (defBody st_is_table) (defScope st_is_table) .none kV_is_table dc_is_table pm_is_table an_is_table cd_is_table ct_is_table), sl_is_table⟩)
    (c_is_table : PySem.W.codeIn K cd_is_table "is_table" = true)
    (k_is_table : PySem.W.keepIn K (.ref f_is_table) = true)
    (a_common_multiple : PySem.W.nsIn K mainGlobals "common_multiple" = some (some (.ref f_common_multiple)))
    (l_common_multiple : K.lookup f_common_multiple = some ⟨oc_common_multiple, od_common_multiple, .func (PySem.W.fnOf "common_multiple" "common_multiple" (defArgs st_common_multiple) (defBody st_common_multiple) (defScope st_common_multiple) .none kV_common_multiple dc_common_multiple pm_common_multiple an_common_multiple cd_common_multiple ct_common_multiple), sl_common_multiple⟩)
    (c_common_multiple : PySem.W.codeIn K cd_common_multiple "common_multiple" = true)
    (k_common_multiple : PySem.W.keepIn K (.ref f_common_multiple) = true)
    (a_check_persons : PySem.W.nsIn K mainGlobals "check_persons" = some (some (.ref f_check_persons)))
    (l_check_persons : K.lookup f_check_persons = some ⟨oc_check_persons, od_check_persons, .func (PySem.W.fnOf "check_persons" "check_persons" (defArgs st_check_persons) (defBody st_check_persons) (defScope st_check_persons) .none kV_check_persons dc_check_persons pm_check_persons an_check_persons cd_check_persons ct_check_persons), sl_check_persons⟩)
    (c_check_persons : PySem.W.codeIn K cd_check_persons "check_persons" = true)
    (k_check_persons : PySem.W.keepIn K (.ref f_check_persons) = true)
    (a_is_reminder : PySem.W.nsIn K mainGlobals "is_reminder" = some (some (.ref f_is_reminder)))
    (l_is_reminder : K.lookup f_is_reminder = some ⟨oc_is_reminder, od_is_reminder, .func (PySem.W.fnOf "is_reminder" "is_reminder" (defArgs st_is_reminder) (defBody st_is_reminder) (defScope st_is_reminder) .none kV_is_reminder dc_is_reminder pm_is_reminder an_is_reminder cd_is_reminder ct_is_reminder), sl_is_reminder⟩)
    (c_is_reminder : PySem.W.codeIn K cd_is_reminder "is_reminder" = true)
    (k_is_reminder : PySem.W.keepIn K (.ref f_is_reminder) = true)
    (a_House__init_ : PySem.W.findIn K (.ref C_House) "__init__" = some (some (.ref f_House__init_)))
    (i_House__init_ : PySem.W.isFn K (.ref f_House__init_) = true)
    (l_House__init_ : K.lookup f_House__init_ = some ⟨oc_House__init_, od_House__init_, .func (PySem.W.fnOf "__init__" "House.__init__" (defArgs st_House__init_) (defBody st_House__init_) (defScope st_House__init_) (.ref T_House__init_) kV_House__init_ dc_House__init_ pm_House__init_ an_House__init_ cd_House__init_ ct_House__init_), sl_House__init_⟩)
    (c_House__init_ : PySem.W.codeIn K cd_House__init_ "House.__init__" = true)
    (k_House__init_ : PySem.W.keepIn K (.ref f_House__init_) = true)
    (a_read_number : PySem.W.nsIn K mainGlobals "read_number" = some (some (.ref f_read_number)))
    (l_read_number : K.lookup f_read_number = some ⟨oc_read_number, od_read_number, .func (PySem.W.fnOf "read_number" "read_number" (defArgs st_read_number) (defBody st_read_number) (defScope st_read_number) .none kV_read_number dc_read_number pm_read_number an_read_number cd_read_number ct_read_number), sl_read_number⟩)
    (c_read_number : PySem.W.codeIn K cd_read_number "read_number" = true)
    (k_read_number : PySem.W.keepIn K (.ref f_read_number) = true)
    (a_is_word : PySem.W.nsIn K mainGlobals "is_word" = some (some (.ref f_is_word)))
    (l_is_word : K.lookup f_is_word = some ⟨oc_is_word, od_is_word, .func (PySem.W.fnOf "is_word" "is_word" (defArgs st_is_word) (defBody st_is_word) (defScope st_is_word) .none kV_is_word dc_is_word pm_is_word an_is_word cd_is_word ct_is_word), sl_is_word⟩)
    (c_is_word : PySem.W.codeIn K cd_is_word "is_word" = true)
    (k_is_word : PySem.W.keepIn K (.ref f_is_word) = true)
    (a_read_part : PySem.W.nsIn K mainGlobals "read_part" = some (some (.ref f_read_part)))
    (l_read_part : K.lookup f_read_part = some ⟨oc_read_part, od_read_part, .func (PySem.W.fnOf "read_part" "read_part" (defArgs st_read_part) (defBody st_read_part) (defScope st_read_part) .none kV_read_part dc_read_part pm_read_part an_read_part cd_read_part ct_read_part), sl_read_part⟩)
    (c_read_part : PySem.W.codeIn K cd_read_part "read_part" = true)
    (k_read_part : PySem.W.keepIn K (.ref f_read_part) = true)
    (fp_House_parse : PySem.W.findIn K (.ref C_House) "parse" = some (some (.ref p_House_parse)))
    (pc_House_parse : PySem.W.recIn K p_House_parse "classmethod" = some (.ref f_House_parse :: re_House_parse))
    (ca_House_parse : PySem.W.findCls K (.ref C_House) (.type "type") "parse" = some (.get (.builtin "classmethod.__get__") (.ref p_House_parse) .none (.ref C_House)))
    (fi_House_parse : PySem.W.fnIn K f_House_parse = true)
    (l_House_parse : K.lookup f_House_parse = some ⟨oc_House_parse, od_House_parse, .func (PySem.W.fnOf "parse" "House.parse" (defArgs st_House_parse) (defBody st_House_parse) (defScope st_House_parse) .none kV_House_parse dc_House_parse pm_House_parse an_House_parse cd_House_parse ct_House_parse), sl_House_parse⟩)
    (c_House_parse : PySem.W.codeIn K cd_House_parse "House.parse" = true)
    (k_House_parse : PySem.W.keepIn K (.ref f_House_parse) = true)
    (pa_House_text : PySem.W.findIn K (.ref C_House) "text" = some (some (.ref p_House_text)))
    (pg_House_text : PySem.W.specialIn K (.ref p_House_text) "__get__" = some (some (.builtin "property.__get__")))
    (pt_House_text : PySem.W.takesIn K (.ref p_House_text) = some true)
    (pc_House_text : PySem.W.recIn K p_House_text "property" = some (.ref f_House_text :: re_House_text))
    (l_House_text : K.lookup f_House_text = some ⟨oc_House_text, od_House_text, .func (PySem.W.fnOf "text" "House.text" (defArgs st_House_text) (defBody st_House_text) (defScope st_House_text) .none kV_House_text dc_House_text pm_House_text an_House_text cd_House_text ct_House_text), sl_House_text⟩)
    (c_House_text : PySem.W.codeIn K cd_House_text "House.text" = true)
    (k_House_text : PySem.W.keepIn K (.ref f_House_text) = true)
    (a_law_below : PySem.W.nsIn K mainGlobals "_law_below" = some (some (.ref f_law_below)))
    (l_law_below : K.lookup f_law_below = some ⟨oc_law_below, od_law_below, .func (PySem.W.fnOf "_law_below" "_law_below" (defArgs st_law_below) (defBody st_law_below) (defScope st_law_below) .none kV_law_below dc_law_below pm_law_below an_law_below cd_law_below ct_law_below), sl_law_below⟩)
    (c_law_below : PySem.W.codeIn K cd_law_below "_law_below" = true)
    (k_law_below : PySem.W.keepIn K (.ref f_law_below) = true)
    (a_law_table : PySem.W.nsIn K mainGlobals "_law_table" = some (some (.ref f_law_table)))
    (l_law_table : K.lookup f_law_table = some ⟨oc_law_table, od_law_table, .func (PySem.W.fnOf "_law_table" "_law_table" (defArgs st_law_table) (defBody st_law_table) (defScope st_law_table) .none kV_law_table dc_law_table pm_law_table an_law_table cd_law_table ct_law_table), sl_law_table⟩)
    (c_law_table : PySem.W.codeIn K cd_law_table "_law_table" = true)
    (k_law_table : PySem.W.keepIn K (.ref f_law_table) = true)
    (a_law_length : PySem.W.nsIn K mainGlobals "_law_length" = some (some (.ref f_law_length)))
    (l_law_length : K.lookup f_law_length = some ⟨oc_law_length, od_law_length, .func (PySem.W.fnOf "_law_length" "_law_length" (defArgs st_law_length) (defBody st_law_length) (defScope st_law_length) .none kV_law_length dc_law_length pm_law_length an_law_length cd_law_length ct_law_length), sl_law_length⟩)
    (c_law_length : PySem.W.codeIn K cd_law_length "_law_length" = true)
    (k_law_length : PySem.W.keepIn K (.ref f_law_length) = true)
    (a_law_parts : PySem.W.nsIn K mainGlobals "_law_parts" = some (some (.ref f_law_parts)))
    (l_law_parts : K.lookup f_law_parts = some ⟨oc_law_parts, od_law_parts, .func (PySem.W.fnOf "_law_parts" "_law_parts" (defArgs st_law_parts) (defBody st_law_parts) (defScope st_law_parts) .none kV_law_parts dc_law_parts pm_law_parts an_law_parts cd_law_parts ct_law_parts), sl_law_parts⟩)
    (c_law_parts : PySem.W.codeIn K cd_law_parts "_law_parts" = true)
    (k_law_parts : PySem.W.keepIn K (.ref f_law_parts) = true)
    (a_law_equal : PySem.W.nsIn K mainGlobals "_law_equal" = some (some (.ref f_law_equal)))
    (l_law_equal : K.lookup f_law_equal = some ⟨oc_law_equal, od_law_equal, .func (PySem.W.fnOf "_law_equal" "_law_equal" (defArgs st_law_equal) (defBody st_law_equal) (defScope st_law_equal) .none kV_law_equal dc_law_equal pm_law_equal an_law_equal cd_law_equal ct_law_equal), sl_law_equal⟩)
    (c_law_equal : PySem.W.codeIn K cd_law_equal "_law_equal" = true)
    (k_law_equal : PySem.W.keepIn K (.ref f_law_equal) = true)
    (a_law_house : PySem.W.nsIn K mainGlobals "_law_house" = some (some (.ref f_law_house)))
    (l_law_house : K.lookup f_law_house = some ⟨oc_law_house, od_law_house, .func (PySem.W.fnOf "_law_house" "_law_house" (defArgs st_law_house) (defBody st_law_house) (defScope st_law_house) .none kV_law_house dc_law_house pm_law_house an_law_house cd_law_house ct_law_house), sl_law_house⟩)
    (c_law_house : PySem.W.codeIn K cd_law_house "_law_house" = true)
    (k_law_house : PySem.W.keepIn K (.ref f_law_house) = true)
    (a_law_random : PySem.W.nsIn K mainGlobals "_law_random" = some (some (.ref f_law_random)))
    (l_law_random : K.lookup f_law_random = some ⟨oc_law_random, od_law_random, .func (PySem.W.fnOf "_law_random" "_law_random" (defArgs st_law_random) (defBody st_law_random) (defScope st_law_random) .none kV_law_random dc_law_random pm_law_random an_law_random cd_law_random ct_law_random), sl_law_random⟩)
    (c_law_random : PySem.W.codeIn K cd_law_random "_law_random" = true)
    (k_law_random : PySem.W.keepIn K (.ref f_law_random) = true)
    (a_law : PySem.W.nsIn K mainGlobals "law" = some (some (.ref f_law)))
    (l_law : K.lookup f_law = some ⟨oc_law, od_law, .func (PySem.W.fnOf "law" "law" (defArgs st_law) (defBody st_law) (defScope st_law) .none kV_law dc_law pm_law an_law cd_law ct_law), sl_law⟩)
    (c_law : PySem.W.codeIn K cd_law "law" = true)
    (k_law : PySem.W.keepIn K (.ref f_law) = true)
    (pg_House : PySem.W.plainGet K C_House Str.empty = true)
    (hd_House : PySem.W.hasDictIn K C_House = true)
    (po_House : PySem.W.plainOver K C_House = true)
    (sa_House : PySem.W.findIn K (.ref C_House) "__setattr__" = some (some (.builtin "object.__setattr__")))
    (rd_House : PySem.W.readsIn K C_House (.type "type") = true)
    (ga_House : PySem.W.specialIn K (.ref C_House) "__getattribute__" = some (some (.builtin "type.__getattribute__")))
    (mk_House : PySem.W.makesIn K C_House = true)
    (kc_House : PySem.W.keepIn K (.ref C_House) = true)
    (na_House_tables : PySem.W.findIn K (.ref C_House) "tables" = some none)
    (na_House_key_count : PySem.W.findIn K (.ref C_House) "key_count" = some none)
    (na_House_careful : PySem.W.findIn K (.ref C_House) "careful" = some none)
    (na_House_reminders : PySem.W.findIn K (.ref C_House) "reminders" = some none)
    (na_House_length : PySem.W.findIn K (.ref C_House) "length" = some none)
    (z_abs : PySem.W.nsIn K mainGlobals "abs" = some none)
    (z_all : PySem.W.nsIn K mainGlobals "all" = some none)
    (z_any : PySem.W.nsIn K mainGlobals "any" = some none)
    (z_bool : PySem.W.nsIn K mainGlobals "bool" = some none)
    (z_enumerate : PySem.W.nsIn K mainGlobals "enumerate" = some none)
    (z_int : PySem.W.nsIn K mainGlobals "int" = some none)
    (z_isinstance : PySem.W.nsIn K mainGlobals "isinstance" = some none)
    (z_len : PySem.W.nsIn K mainGlobals "len" = some none)
    (z_list : PySem.W.nsIn K mainGlobals "list" = some none)
    (z_range : PySem.W.nsIn K mainGlobals "range" = some none)
    (z_sorted : PySem.W.nsIn K mainGlobals "sorted" = some none)
    (z_str : PySem.W.nsIn K mainGlobals "str" = some none)
    (z_tuple : PySem.W.nsIn K mainGlobals "tuple" = some none)
    (u_MAX_PERSONS : PySem.W.nsIn K mainGlobals "MAX_PERSONS" = some (some (.int 6 t_MAX_PERSONS)))
    (u_LENGTHS : PySem.W.nsIn K mainGlobals "LENGTHS" = some (some (.ref a_LENGTHS)))
    (l_LENGTHS : K.lookup a_LENGTHS = some ⟨.type "tuple", o_LENGTHS, .seq #[.int 1 t0_LENGTHS, .int 2 t1_LENGTHS, .int 3 t2_LENGTHS, .int 4 t3_LENGTHS, .int 6 t4_LENGTHS, .int 8 t5_LENGTHS, .int 12 t6_LENGTHS, .int 24 t7_LENGTHS] n_LENGTHS, s_LENGTHS⟩)
    (u_MAX_KEYS : PySem.W.nsIn K mainGlobals "MAX_KEYS" = some (some (.int 9 t_MAX_KEYS)))
    (u_MAX_REMINDERS : PySem.W.nsIn K mainGlobals "MAX_REMINDERS" = some (some (.int 10 t_MAX_REMINDERS)))
    (u_HOME : PySem.W.nsIn K mainGlobals "HOME" = some (some (.str "h" t_HOME)))
    (u_OUT : PySem.W.nsIn K mainGlobals "OUT" = some (some (.str "o" t_OUT)))
    (u_DIGITS : PySem.W.nsIn K mainGlobals "DIGITS" = some (some (.str "0123456789" t_DIGITS)))
    (u_MAX_DIGITS : PySem.W.nsIn K mainGlobals "MAX_DIGITS" = some (some (.int 2 t_MAX_DIGITS)))
    (lT_House__init_ : K.lookup T_House__init_ = some ⟨ocT_House__init_, odT_House__init_, .seq #[.ref e0_House__init_, .ref e1_House__init_] nT_House__init_, slT_House__init_⟩)
    (le0_House__init_ : K.lookup e0_House__init_ = some ⟨.type "tuple", ode0_House__init_, .seq #[] ne0_House__init_, sle0_House__init_⟩)
    (le1_House__init_ : K.lookup e1_House__init_ = some ⟨.type "tuple", ode1_House__init_, .seq #[] ne1_House__init_, sle1_House__init_⟩) :
    ∃ A : Ad, Txt K mg A := by
  have F_House__init_ := funD_mkD (st := st_House__init_) (dvs := [V.ref e0_House__init_, V.ref e1_House__init_]) (its := [.ref e0_House__init_, .ref e1_House__init_]) l_House__init_ c_House__init_ k_House__init_ (by simp) lT_House__init_ rfl (.cons rfl (.cons rfl .nil))
  obtain ⟨ds_House__init__0, v_House__init__0, bb_House__init__0⟩ := FunD.binds1 (ps := ["self", "tables", "keys", "careful", "reminders"]) F_House__init_ 5 2 (by simp) (by rfl) fun T kV doc pm an cdv ct us its hu hi => match us, its, hu, hi with | [_, _, _, _, _], [_, _], _, _ => ⟨_, rfl, rfl⟩
  have vv_House__init__0 : L2.Vals ([] : List V) ds_House__init__0 := v_House__init__0
  cases vv_House__init__0
  have bf_House__init_ := bb_House__init__0
  refine ⟨{ dv_House__init_ := [V.ref e0_House__init_, V.ref e1_House__init_], f_is_int_in := f_is_int_in, fd_is_int_in := PySem.W.fnOf "is_int_in" "is_int_in" (defArgs st_is_int_in) (defBody st_is_int_in) (defScope st_is_int_in) .none kV_is_int_in dc_is_int_in pm_is_int_in an_is_int_in cd_is_int_in ct_is_int_in, f_is_table := f_is_table, fd_is_table := PySem.W.fnOf "is_table" "is_table" (defArgs st_is_table) (defBody st_is_table) (defScope st_is_table) .none kV_is_table dc_is_table pm_is_table an_is_table cd_is_table ct_is_table, f_common_multiple := f_common_multiple, fd_common_multiple := PySem.W.fnOf "common_multiple" "common_multiple" (defArgs st_common_multiple) (defBody st_common_multiple) (defScope st_common_multiple) .none kV_common_multiple dc_common_multiple pm_common_multiple an_common_multiple cd_common_multiple ct_common_multiple, f_check_persons := f_check_persons, fd_check_persons := PySem.W.fnOf "check_persons" "check_persons" (defArgs st_check_persons) (defBody st_check_persons) (defScope st_check_persons) .none kV_check_persons dc_check_persons pm_check_persons an_check_persons cd_check_persons ct_check_persons, f_is_reminder := f_is_reminder, fd_is_reminder := PySem.W.fnOf "is_reminder" "is_reminder" (defArgs st_is_reminder) (defBody st_is_reminder) (defScope st_is_reminder) .none kV_is_reminder dc_is_reminder pm_is_reminder an_is_reminder cd_is_reminder ct_is_reminder, f_House__init_ := f_House__init_, fd_House__init_ := PySem.W.fnOf "__init__" "House.__init__" (defArgs st_House__init_) (defBody st_House__init_) (defScope st_House__init_) (.ref T_House__init_) kV_House__init_ dc_House__init_ pm_House__init_ an_House__init_ cd_House__init_ ct_House__init_, f_read_number := f_read_number, fd_read_number := PySem.W.fnOf "read_number" "read_number" (defArgs st_read_number) (defBody st_read_number) (defScope st_read_number) .none kV_read_number dc_read_number pm_read_number an_read_number cd_read_number ct_read_number, f_is_word := f_is_word, fd_is_word := PySem.W.fnOf "is_word" "is_word" (defArgs st_is_word) (defBody st_is_word) (defScope st_is_word) .none kV_is_word dc_is_word pm_is_word an_is_word cd_is_word ct_is_word, f_read_part := f_read_part, fd_read_part := PySem.W.fnOf "read_part" "read_part" (defArgs st_read_part) (defBody st_read_part) (defScope st_read_part) .none kV_read_part dc_read_part pm_read_part an_read_part cd_read_part ct_read_part, f_House_parse := f_House_parse, fd_House_parse := PySem.W.fnOf "parse" "House.parse" (defArgs st_House_parse) (defBody st_House_parse) (defScope st_House_parse) .none kV_House_parse dc_House_parse pm_House_parse an_House_parse cd_House_parse ct_House_parse, p_House_parse := p_House_parse, f_House_text := f_House_text, fd_House_text := PySem.W.fnOf "text" "House.text" (defArgs st_House_text) (defBody st_House_text) (defScope st_House_text) .none kV_House_text dc_House_text pm_House_text an_House_text cd_House_text ct_House_text, p_House_text := p_House_text, f_law_below := f_law_below, fd_law_below := PySem.W.fnOf "_law_below" "_law_below" (defArgs st_law_below) (defBody st_law_below) (defScope st_law_below) .none kV_law_below dc_law_below pm_law_below an_law_below cd_law_below ct_law_below, f_law_table := f_law_table, fd_law_table := PySem.W.fnOf "_law_table" "_law_table" (defArgs st_law_table) (defBody st_law_table) (defScope st_law_table) .none kV_law_table dc_law_table pm_law_table an_law_table cd_law_table ct_law_table, f_law_length := f_law_length, fd_law_length := PySem.W.fnOf "_law_length" "_law_length" (defArgs st_law_length) (defBody st_law_length) (defScope st_law_length) .none kV_law_length dc_law_length pm_law_length an_law_length cd_law_length ct_law_length, f_law_parts := f_law_parts, fd_law_parts := PySem.W.fnOf "_law_parts" "_law_parts" (defArgs st_law_parts) (defBody st_law_parts) (defScope st_law_parts) .none kV_law_parts dc_law_parts pm_law_parts an_law_parts cd_law_parts ct_law_parts, f_law_equal := f_law_equal, fd_law_equal := PySem.W.fnOf "_law_equal" "_law_equal" (defArgs st_law_equal) (defBody st_law_equal) (defScope st_law_equal) .none kV_law_equal dc_law_equal pm_law_equal an_law_equal cd_law_equal ct_law_equal, f_law_house := f_law_house, fd_law_house := PySem.W.fnOf "_law_house" "_law_house" (defArgs st_law_house) (defBody st_law_house) (defScope st_law_house) .none kV_law_house dc_law_house pm_law_house an_law_house cd_law_house ct_law_house, f_law_random := f_law_random, fd_law_random := PySem.W.fnOf "_law_random" "_law_random" (defArgs st_law_random) (defBody st_law_random) (defScope st_law_random) .none kV_law_random dc_law_random pm_law_random an_law_random cd_law_random ct_law_random, f_law := f_law, fd_law := PySem.W.fnOf "law" "law" (defArgs st_law) (defBody st_law) (defScope st_law) .none kV_law dc_law pm_law an_law cd_law ct_law, C_House := C_House, mc_House := .type "type" }, { g_is_int_in := ?mg_is_int_in, F_is_int_in := ?mF_is_int_in, b_is_int_in := ?mb_is_int_in, g_is_table := ?mg_is_table, F_is_table := ?mF_is_table, b_is_table := ?mb_is_table, g_common_multiple := ?mg_common_multiple, F_common_multiple := ?mF_common_multiple, b_common_multiple := ?mb_common_multiple, g_check_persons := ?mg_check_persons, F_check_persons := ?mF_check_persons, b_check_persons := ?mb_check_persons, g_is_reminder := ?mg_is_reminder, F_is_reminder := ?mF_is_reminder, b_is_reminder := ?mb_is_reminder, F_House__init_ := ?mF_House__init_, b_House__init_ := ?mb_House__init_, g_read_number := ?mg_read_number, F_read_number := ?mF_read_number, b_read_number := ?mb_read_number, g_is_word := ?mg_is_word, F_is_word := ?mF_is_word, b_is_word := ?mb_is_word, g_read_part := ?mg_read_part, F_read_part := ?mF_read_part, b_read_part := ?mb_read_part, cm_House_parse := ?mcm_House_parse, F_House_parse := ?mF_House_parse, b_House_parse := ?mb_House_parse, pr_House_text := ?mpr_House_text, F_House_text := ?mF_House_text, b_House_text := ?mb_House_text, g_law_below := ?mg_law_below, F_law_below := ?mF_law_below, b_law_below := ?mb_law_below, g_law_table := ?mg_law_table, F_law_table := ?mF_law_table, b_law_table := ?mb_law_table, g_law_length := ?mg_law_length, F_law_length := ?mF_law_length, b_law_length := ?mb_law_length, g_law_parts := ?mg_law_parts, F_law_parts := ?mF_law_parts, b_law_parts := ?mb_law_parts, g_law_equal := ?mg_law_equal, F_law_equal := ?mF_law_equal, b_law_equal := ?mb_law_equal, g_law_house := ?mg_law_house, F_law_house := ?mF_law_house, b_law_house := ?mb_law_house, g_law_random := ?mg_law_random, F_law_random := ?mF_law_random, b_law_random := ?mb_law_random, g_law := ?mg_law, F_law := ?mF_law, b_law := ?mb_law, cr_House := ?mcr_House, cl_House := ?mcl_House, g_House := ?mg_House, mk_House := ?mmk_House, na_House_tables := ?mna_House_tables, na_House_key_count := ?mna_House_key_count, na_House_careful := ?mna_House_careful, na_House_reminders := ?mna_House_reminders, na_House_length := ?mna_House_length, z_abs := ?mz_abs, z_all := ?mz_all, z_any := ?mz_any, z_bool := ?mz_bool, z_enumerate := ?mz_enumerate, z_int := ?mz_int, z_isinstance := ?mz_isinstance, z_len := ?mz_len, z_list := ?mz_list, z_range := ?mz_range, z_sorted := ?mz_sorted, z_str := ?mz_str, z_tuple := ?mz_tuple, c_MAX_PERSONS := ?mc_MAX_PERSONS, c_LENGTHS := ?mc_LENGTHS, c_MAX_KEYS := ?mc_MAX_KEYS, c_MAX_REMINDERS := ?mc_MAX_REMINDERS, c_HOME := ?mc_HOME, c_OUT := ?mc_OUT, c_DIGITS := ?mc_DIGITS, c_MAX_DIGITS := ?mc_MAX_DIGITS }⟩
  (case mg_is_int_in => exact PySem.W.mg_of X G a_is_int_in)
  (case mF_is_int_in => exact funD_mk (st := st_is_int_in) l_is_int_in c_is_int_in k_is_int_in)
  (case mb_is_int_in => exact FunD.bindsN (funD_mk (st := st_is_int_in) l_is_int_in c_is_int_in k_is_int_in) fun _ _ _ _ _ _ us hl => match us, hl with | [_, _, _], _ => rfl)
  (case mg_is_table => exact PySem.W.mg_of X G a_is_table)
  (case mF_is_table => exact funD_mk (st := st_is_table) l_is_table c_is_table k_is_table)
  (case mb_is_table => exact FunD.bindsN (funD_mk (st := st_is_table) l_is_table c_is_table k_is_table) fun _ _ _ _ _ _ us hl => match us, hl with | [_], _ => rfl)
  (case mg_common_multiple => exact PySem.W.mg_of X G a_common_multiple)
  (case mF_common_multiple => exact funD_mk (st := st_common_multiple) l_common_multiple c_common_multiple k_common_multiple)
  (case mb_common_multiple => exact FunD.bindsN (funD_mk (st := st_common_multiple) l_common_multiple c_common_multiple k_common_multiple) fun _ _ _ _ _ _ us hl => match us, hl with | [_, _], _ => rfl)
  (case mg_check_persons => exact PySem.W.mg_of X G a_check_persons)
  (case mF_check_persons => exact funD_mk (st := st_check_persons) l_check_persons c_check_persons k_check_persons)
  (case mb_check_persons => exact FunD.bindsN (funD_mk (st := st_check_persons) l_check_persons c_check_persons k_check_persons) fun _ _ _ _ _ _ us hl => match us, hl with | [_, _, _], _ => rfl)
  (case mg_is_reminder => exact PySem.W.mg_of X G a_is_reminder)
  (case mF_is_reminder => exact funD_mk (st := st_is_reminder) l_is_reminder c_is_reminder k_is_reminder)
  (case mb_is_reminder => exact FunD.bindsN (funD_mk (st := st_is_reminder) l_is_reminder c_is_reminder k_is_reminder) fun _ _ _ _ _ _ us hl => match us, hl with | [_, _, _], _ => rfl)
  (case mF_House__init_ => exact funD_mkD (its := [.ref e0_House__init_, .ref e1_House__init_]) l_House__init_ c_House__init_ k_House__init_ (by simp) lT_House__init_ rfl (.cons rfl (.cons rfl .nil)))
  (case mb_House__init_ => exact bf_House__init_)
  (case mg_read_number => exact PySem.W.mg_of X G a_read_number)
  (case mF_read_number => exact funD_mk (st := st_read_number) l_read_number c_read_number k_read_number)
  (case mb_read_number => exact FunD.bindsN (funD_mk (st := st_read_number) l_read_number c_read_number k_read_number) fun _ _ _ _ _ _ us hl => match us, hl with | [_], _ => rfl)
  (case mg_is_word => exact PySem.W.mg_of X G a_is_word)
  (case mF_is_word => exact funD_mk (st := st_is_word) l_is_word c_is_word k_is_word)
  (case mb_is_word => exact FunD.bindsN (funD_mk (st := st_is_word) l_is_word c_is_word k_is_word) fun _ _ _ _ _ _ us hl => match us, hl with | [_], _ => rfl)
  (case mg_read_part => exact PySem.W.mg_of X G a_read_part)
  (case mF_read_part => exact funD_mk (st := st_read_part) l_read_part c_read_part k_read_part)
  (case mb_read_part => exact FunD.bindsN (funD_mk (st := st_read_part) l_read_part c_read_part k_read_part) fun _ _ _ _ _ _ us hl => match us, hl with | [_, _], _ => rfl)
  (case mcm_House_parse => exact ⟨ca_House_parse, ⟨re_House_parse, pc_House_parse⟩, fi_House_parse⟩)
  (case mF_House_parse => exact funD_mk (st := st_House_parse) l_House_parse c_House_parse k_House_parse)
  (case mb_House_parse => exact FunD.bindsN (funD_mk (st := st_House_parse) l_House_parse c_House_parse k_House_parse) fun _ _ _ _ _ _ us hl => match us, hl with | [_, _], _ => rfl)
  (case mpr_House_text => exact ⟨pa_House_text, pg_House_text, pt_House_text, re_House_text, pc_House_text⟩)
  (case mF_House_text => exact funD_mk (st := st_House_text) l_House_text c_House_text k_House_text)
  (case mb_House_text => exact FunD.bindsN (funD_mk (st := st_House_text) l_House_text c_House_text k_House_text) fun _ _ _ _ _ _ us hl => match us, hl with | [_], _ => rfl)
  (case mg_law_below => exact PySem.W.mg_of X G a_law_below)
  (case mF_law_below => exact funD_mk (st := st_law_below) l_law_below c_law_below k_law_below)
  (case mb_law_below => exact FunD.bindsN (funD_mk (st := st_law_below) l_law_below c_law_below k_law_below) fun _ _ _ _ _ _ us hl => match us, hl with | [_, _], _ => rfl)
  (case mg_law_table => exact PySem.W.mg_of X G a_law_table)
  (case mF_law_table => exact funD_mk (st := st_law_table) l_law_table c_law_table k_law_table)
  (case mb_law_table => exact FunD.bindsN (funD_mk (st := st_law_table) l_law_table c_law_table k_law_table) fun _ _ _ _ _ _ us hl => match us, hl with | [_], _ => rfl)
  (case mg_law_length => exact PySem.W.mg_of X G a_law_length)
  (case mF_law_length => exact funD_mk (st := st_law_length) l_law_length c_law_length k_law_length)
  (case mb_law_length => exact FunD.bindsN (funD_mk (st := st_law_length) l_law_length c_law_length k_law_length) fun _ _ _ _ _ _ us hl => match us, hl with | [_], _ => rfl)
  (case mg_law_parts => exact PySem.W.mg_of X G a_law_parts)
  (case mF_law_parts => exact funD_mk (st := st_law_parts) l_law_parts c_law_parts k_law_parts)
  (case mb_law_parts => exact FunD.bindsN (funD_mk (st := st_law_parts) l_law_parts c_law_parts k_law_parts) fun _ _ _ _ _ _ us hl => match us, hl with | [_, _], _ => rfl)
  (case mg_law_equal => exact PySem.W.mg_of X G a_law_equal)
  (case mF_law_equal => exact funD_mk (st := st_law_equal) l_law_equal c_law_equal k_law_equal)
  (case mb_law_equal => exact FunD.bindsN (funD_mk (st := st_law_equal) l_law_equal c_law_equal k_law_equal) fun _ _ _ _ _ _ us hl => match us, hl with | [_, _], _ => rfl)
  (case mg_law_house => exact PySem.W.mg_of X G a_law_house)
  (case mF_law_house => exact funD_mk (st := st_law_house) l_law_house c_law_house k_law_house)
  (case mb_law_house => exact FunD.bindsN (funD_mk (st := st_law_house) l_law_house c_law_house k_law_house) fun _ _ _ _ _ _ us hl => match us, hl with | [_], _ => rfl)
  (case mg_law_random => exact PySem.W.mg_of X G a_law_random)
  (case mF_law_random => exact funD_mk (st := st_law_random) l_law_random c_law_random k_law_random)
  (case mb_law_random => exact FunD.bindsN (funD_mk (st := st_law_random) l_law_random c_law_random k_law_random) fun _ _ _ _ _ _ us hl => match us, hl with | [_, _], _ => rfl)
  (case mg_law => exact PySem.W.mg_of X G a_law)
  (case mF_law => exact funD_mk (st := st_law) l_law c_law k_law)
  (case mb_law => exact FunD.bindsN (funD_mk (st := st_law) l_law c_law k_law) fun _ _ _ _ _ _ us hl => match us, hl with | [_], _ => rfl)
  (case mcr_House => exact ⟨rd_House, ga_House⟩)
  (case mcl_House => exact ⟨pg_House, hd_House, po_House, sa_House⟩)
  (case mg_House => exact PySem.W.mg_of X G a_House)
  (case mmk_House => exact ⟨mk_House, a_House__init_, i_House__init_, kc_House⟩)
  (case mna_House_tables => exact na_House_tables)
  (case mna_House_key_count => exact na_House_key_count)
  (case mna_House_careful => exact na_House_careful)
  (case mna_House_reminders => exact na_House_reminders)
  (case mna_House_length => exact na_House_length)
  (case mz_abs => exact PySem.W.mg_none_of X G z_abs)
  (case mz_all => exact PySem.W.mg_none_of X G z_all)
  (case mz_any => exact PySem.W.mg_none_of X G z_any)
  (case mz_bool => exact PySem.W.mg_none_of X G z_bool)
  (case mz_enumerate => exact PySem.W.mg_none_of X G z_enumerate)
  (case mz_int => exact PySem.W.mg_none_of X G z_int)
  (case mz_isinstance => exact PySem.W.mg_none_of X G z_isinstance)
  (case mz_len => exact PySem.W.mg_none_of X G z_len)
  (case mz_list => exact PySem.W.mg_none_of X G z_list)
  (case mz_range => exact PySem.W.mg_none_of X G z_range)
  (case mz_sorted => exact PySem.W.mg_none_of X G z_sorted)
  (case mz_str => exact PySem.W.mg_none_of X G z_str)
  (case mz_tuple => exact PySem.W.mg_none_of X G z_tuple)
  (case mc_MAX_PERSONS => exact ⟨.int 6, _, PySem.W.mg_of X G u_MAX_PERSONS, ⟨_, rfl⟩, fun _ _ => rfl⟩)
  (case mc_LENGTHS => exact ⟨.ref a_LENGTHS, _, PySem.W.mg_of X G u_LENGTHS, rfl, rep_ktup (vs := [V.int 1, V.int 2, V.int 3, V.int 4, V.int 6, V.int 8, V.int 12, V.int 24]) l_LENGTHS rfl rfl (by show 8 ≤ sizeLine; decide) (.cons ⟨_, rfl⟩ (.cons ⟨_, rfl⟩ (.cons ⟨_, rfl⟩ (.cons ⟨_, rfl⟩ (.cons ⟨_, rfl⟩ (.cons ⟨_, rfl⟩ (.cons ⟨_, rfl⟩ (.cons ⟨_, rfl⟩ .nil)))))))) (fun F H => RepL.ofInts (ns := [1, 2, 3, 4, 6, 8, 12, 24]))⟩)
  (case mc_MAX_KEYS => exact ⟨.int 9, _, PySem.W.mg_of X G u_MAX_KEYS, ⟨_, rfl⟩, fun _ _ => rfl⟩)
  (case mc_MAX_REMINDERS => exact ⟨.int 10, _, PySem.W.mg_of X G u_MAX_REMINDERS, ⟨_, rfl⟩, fun _ _ => rfl⟩)
  (case mc_HOME => exact ⟨.str "h", _, PySem.W.mg_of X G u_HOME, ⟨_, rfl⟩, fun _ _ => rfl⟩)
  (case mc_OUT => exact ⟨.str "o", _, PySem.W.mg_of X G u_OUT, ⟨_, rfl⟩, fun _ _ => rfl⟩)
  (case mc_DIGITS => exact ⟨.str "0123456789", _, PySem.W.mg_of X G u_DIGITS, ⟨_, rfl⟩, fun _ _ => rfl⟩)
  (case mc_MAX_DIGITS => exact ⟨.int 2, _, PySem.W.mg_of X G u_MAX_DIGITS, ⟨_, rfl⟩, fun _ _ => rfl⟩)
end K14
/-! D14 -/
namespace K14
open PySem PySem.Spec PyProof.Rows L2 Mir
section
variable {P : Program} {w : World} {K : PySem.W.Frag} {mg : Str → Option Value} {base : Heap} {A : Ad}
theorem ok_law_random (T : Txt K mg A) : FnOk P w K mg base CX0 1 A.f_law_random A.fd_law_random ["_law_script", "_law_salt"] (spRnd K) := by
  obtain ⟨oc, od, dV, kV, doc, pm, an, cdv, ct, osl, e, lk, hcd, _, _⟩ := T.F_law_random.ex
  rw [e] at lk ⊢
  refine fn_of (N := ["_law_script", "_law_salt", "_law_seed", "_law_cell"]) lk hcd sc_law_random (fun vs H Q E h => by obtain ⟨a, ns, salt, h1, _⟩ := h; rw [h1]; rfl) fun A2 outer s H vs Q E hr hsp => ?_
  have hx : PSs (cxOf CX0 P w K mg base ["_law_script", "_law_salt", "_law_seed", "_law_cell"] "_law_random" (defScope st_law_random) A.f_law_random cdv A2 outer s H E).nox (defBody st_law_random) _ :=
    pss_cons (ps_set (i := 2) sc_law_random.nd rfl (by first | exact .inl rfl | exact .inr rfl) (pv 1))
      (pss_cons (ps_for PassesOwn.never rfl (pi_list (pv 0)) (pg_name (i := 3) sc_law_random.nd rfl (by first | exact .inl rfl | exact .inr rfl)) (pss_one (ps_set (i := 2) sc_law_random.nd rfl (by first | exact .inl rfl | exact .inr rfl) (pe_op op_modN (pe_op op_add (pe_op op_mul (pv 2) pe_int) (pe_callB call_abs (by rfl) T.z_abs bt_abs (pa_cons (pv 3) pa_nil))) pe_int))))
      (pss_one (ps_ret (pe_op op_cat (pe_lst (pa_cons (pv 2) (pa_cons pe_int pa_nil))) (pe_lc rfl sc_law_random.nd (pi_list (pv 0)) (blkOk_by (own := [("_law_cell", 3)]) (by kernel_rfl)) (fun _ _ _ _ _ => pg_name (i := 3) sc_law_random.nd rfl (by first | exact .inl rfl | exact .inr rfl)) (fun _ _ _ _ _ => pts_one (pt_cmpR op_ge (pv 3) (pe_op op_pow pe_int pe_int) (nomark _))) (fun _ _ _ _ _ => pv 3))))))
  exact ⟨_, hx.nox, rnd_run hsp⟩
theorem ok_law (T : Txt K mg A) (hm : ∀ ns : List Int, ns.length ≤ 63 → ∃ e, b_law (env1 9 (rndL ns 14)) = .ret (.bl true) e) : FnOk P w K mg base CX0 6 A.f_law A.fd_law ["_law_script"] (spLaw K) := by
  obtain ⟨oc, od, dV, kV, doc, pm, an, cdv, ct, osl, e, lk, hcd, _, _⟩ := T.F_law.ex
  rw [e] at lk ⊢
  refine fn_of (N := ["_law_script", "_law_d", "_law_step", "_law_parts_here", "_law_rows", "_law_text", "_law_house_here", "_law_row", "_law_k", "_law_tick", "_law_person"]) lk hcd sc_law (fun vs H Q E h => by obtain ⟨a, ns, h1, _⟩ := h; rw [h1]; rfl) fun A2 outer s H vs Q E hr hsp => ?_
  have hx : ∃ t, PSs (cxOf CX0 P w K mg base ["_law_script", "_law_d", "_law_step", "_law_parts_here", "_law_rows", "_law_text", "_law_house_here", "_law_row", "_law_k", "_law_tick", "_law_person"] "law" (defScope st_law) A.f_law cdv A2 outer s H E).nox ((defBody st_law).drop 1) t ∧ RefS (S K A) [1, 4] [] E false t b_law := ⟨_, (pss_cons (ps_for PassesOwn.never rfl (pi_range1 (by rfl) T.z_range (pa_cons pe_int pa_nil)) (pg_name (i := 2) sc_law.nd rfl (by first | exact .inl rfl | exact .inr rfl)) (pss_cons (ps_set (i := 3) sc_law.nd rfl (by first | exact .inl rfl | exact .inr rfl) (pe_call (ok_law_parts T) (hr.mono (by decide)) (by rfl) T.g_law_parts T.F_law_parts.kp T.b_law_parts .nil (passE (E := E)) (pa_cons (pv 1) (pa_cons pe_int pa_nil))))
      (pss_cons (ps_set (i := 4) sc_law.nd rfl (by first | exact .inl rfl | exact .inr rfl) (pe_lst (pa_cons (pe_op op_addX (pe_lst (pa_cons pe_str pa_nil)) (pe_callTy call_list_of (by rfl) T.z_list bt_list (pa_cons (pe_ix ix_seq (pv 3) pe_int (fun _ _ => rfl)) pa_nil))) (pa_cons (pe_lst (pa_cons pe_str (pa_cons (pe_callTy call_str_int (by rfl) T.z_str bt_str (pa_cons (pe_ix ix_seq (pv 3) pe_int (fun _ _ => rfl)) pa_nil)) pa_nil))) (pa_cons (pe_op op_addX (pe_lst (pa_cons pe_str pa_nil)) (pe_lc rfl sc_law.nd (pi_seqX (pe_ix ix_seq (pv 3) pe_int (fun _ _ => rfl))) (blkOk_by (own := [("_law_k", 8)]) (by kernel_rfl)) (fun _ _ _ _ _ => (pg_name (i := 8) sc_law.nd rfl (by first | exact .inl rfl | exact .inr rfl))) (fun _ _ _ _ _ => pts_nil) (fun _ _ _ _ _ => (pe_callTy call_str_int (by rfl) T.z_str bt_str (pa_cons (pv 8) pa_nil))))) pa_nil)))))
      (pss_cons (ps_expr (pe_bm PySem.F.plainAttrs_list PySem.F.slot_list_append PySem.F.type_list_append mt_append (pv 4) (pa_cons (pe_op op_addX (pe_lst (pa_cons pe_str pa_nil)) (pe_lc rfl sc_law.nd (pi_seqX (pe_ix ix_seq (pv 3) pe_int (fun _ _ => rfl))) (blkOk_by (own := [("_law_tick", 9), ("_law_person", 10)]) (by kernel_rfl)) (fun _ _ _ _ _ => (pg_tup rfl (pgs_cons (pg_name (i := 9) sc_law.nd rfl (by first | exact .inl rfl | exact .inr rfl)) (pgs_cons (pg_name (i := 10) sc_law.nd rfl (by first | exact .inl rfl | exact .inr rfl)) pgs_nil)))) (fun _ _ _ _ _ => pts_nil) (fun _ _ _ _ _ => (pe_op op_addX (pe_op op_addX (pe_callTy call_str_int (by rfl) T.z_str bt_str (pa_cons (pv 9) pa_nil)) pe_str) (pe_callTy call_str_int (by rfl) T.z_str bt_str (pa_cons (pv 10) pa_nil)))))) pa_nil)))
      (pss_cons (ps_set (i := 5) sc_law.nd rfl (by first | exact .inl rfl | exact .inr rfl) (pe_join pe_str (pe_lc rfl sc_law.nd (pi_list (pv 4)) (blkOk_by (own := [("_law_row", 7)]) (by kernel_rfl)) (fun _ _ _ _ _ => (pg_name (i := 7) sc_law.nd rfl (by first | exact .inl rfl | exact .inr rfl))) (fun _ _ _ _ _ => pts_nil) (fun _ _ _ _ _ => (pe_join pe_str (pv 7))))))
      (pss_cons (ps_set (i := 6) sc_law.nd rfl (by first | exact .inl rfl | exact .inr rfl) (ClX.pe_cmeth (pe_glob (v := .ref A.C_House) (by rfl) T.g_House rfl) T.cr_House T.cm_House_parse (FnOk.raw (ok_House_parse T) T.b_House_parse .nil) (hr.mono (by decide)) (passE (E := E)) (pa_cons (pv 5) pa_nil)))
      (pss_cons (ps_if (pt_not (pt_val (pe_call (ok_law_equal T 4) (hr.mono (by decide)) (by rfl) T.g_law_equal T.F_law_equal.kp T.b_law_equal .nil (passE (E := E)) (pa_cons (pe_lst (pa_cons (pe_prop (pv 6) T.cl_House T.pr_House_text (ok_House_text T) (hr.mono (by decide)) T.b_House_text .nil (passE (E := E)) rfl) (pa_cons (pe_prop (pe_call (ok_law_house T) (hr.mono (by decide)) (by rfl) T.g_law_house T.F_law_house.kp T.b_law_house .nil (passE (E := E)) (pa_cons (pv 3) pa_nil)) T.cl_House T.pr_House_text (ok_House_text T) (hr.mono (by decide)) T.b_House_text .nil (passE (E := E)) rfl) pa_nil))) (pa_cons (pe_lst (pa_cons (pv 5) (pa_cons (pv 5) pa_nil))) pa_nil))))) (pss_one (ps_ret pe_bl)) pss_nil)
      (pss_one (ps_if (pt_not (pt_val (pe_call (ok_law_equal T 4) (hr.mono (by decide)) (by rfl) T.g_law_equal T.F_law_equal.kp T.b_law_equal .nil (passE (E := E)) (pa_cons (pe_lst (pa_cons (pe_fld (pv 6) rfl) (pa_cons (pe_fld (pv 6) rfl) (pa_cons (pe_fld (pv 6) rfl) (pa_cons (pe_fld (pv 6) rfl) pa_nil))))) (pa_cons (pe_callTy call_list_of (by rfl) T.z_list bt_list (pa_cons (pv 3) pa_nil)) pa_nil))))) (pss_one (ps_ret pe_bl)) pss_nil)))))))))
      (pss_one (ps_ret pe_bl))),
      (rs_seq (rs_for (ri_range1 (ref_acons ref_int ref_anil)) (rg_set (by decide)) (rs_seq (rs_set (by decide) (ref_callO (by decide) (fun d ds => runF0_ar) (ref_acons ref_int ref_anil)))
      (rs_seq (rs_setOwn (by decide) (by decide) (ref_lst (ref_acons (ref_op2 o2_add (ref_lst (ref_acons ref_str ref_anil)) (ref_opA oA_list (ref_acons (ref_op2 o2_ix (ref_var (by decide)) ref_int) ref_anil))) (ref_acons (ref_lst (ref_acons ref_str (ref_acons (ref_opA oA_str (ref_acons (ref_op2 o2_ix (ref_var (by decide)) ref_int) ref_anil)) ref_anil))) (ref_acons (ref_op2 o2_add (ref_lst (ref_acons ref_str ref_anil)) (ref_lc (E1 := E) (E2 := E) (vs := [8]) (ri_seq (ref_op2 o2_ix (ref_var (by decide)) ref_int)) (rg_set (by decide)) rt_yes (ref_opA oA_str (ref_acons (ref_var (by decide)) ref_anil)) (by decide) (by decide))) ref_anil)))))
      (rs_seq (rs_app (by decide) (ref_op2 o2_add (ref_lst (ref_acons ref_str ref_anil)) (ref_lc (E1 := E) (E2 := E) (vs := [9, 10]) (ri_seq (ref_op2 o2_ix (ref_var (by decide)) ref_int)) (rg_tup (rgs_cons (rg_set (by decide)) (rgs_cons (rg_set (by decide)) rgs_nil)) rfl) rt_yes (ref_op2 o2_add (ref_op2 o2_add (ref_opA oA_str (ref_acons (ref_var (by decide)) ref_anil)) ref_str) (ref_opA oA_str (ref_acons (ref_var (by decide)) ref_anil))) (by decide) (by decide))))
      (rs_seq (rs_set (by decide) (ref_up (U := [1, 4]) (ref_m1 o2_join ref_str (ref_lc (E1 := E) (E2 := E) (vs := [7]) (ri_own (by decide)) (rg_set (by decide)) rt_yes (ref_m1 o2_join ref_str (ref_var (by decide))) (by decide) (by decide)))))
      (rs_seq (rs_set (by decide) (ref_cmeth (fun ds => runF_ar) (ref_acons (ref_var (by decide)) ref_anil)))
      (rs_seq (rs_if (μ := none) (ref_not (ref_testB (ref_call (fun _ _ => RepL.nil) (fun ds => ar_law_equal 4 ds) (ref_acons (ref_lst (ref_acons (ref_prop (fun ds => runF_ar) (ref_var (by decide))) (ref_acons (ref_prop (fun ds => runF_ar) (ref_call (fun _ _ => RepL.nil) (fun ds => runF_ar) (ref_acons (ref_var (by decide)) ref_anil))) ref_anil))) (ref_acons (ref_lst (ref_acons (ref_var (by decide)) (ref_acons (ref_var (by decide)) ref_anil))) ref_anil))))) (rs_ret (μ := none) (by intro z; cases z) (by intro _ z; cases z) ref_bl) rs_next)
      (rs_if (μ := none) (ref_not (ref_testB (ref_call (fun _ _ => RepL.nil) (fun ds => ar_law_equal 4 ds) (ref_acons (ref_lst (ref_acons (ref_fld T.cl_House T.na_House_tables rfl nd_House (ref_var (by decide))) (ref_acons (ref_fld T.cl_House T.na_House_key_count rfl nd_House (ref_var (by decide))) (ref_acons (ref_fld T.cl_House T.na_House_careful rfl nd_House (ref_var (by decide))) (ref_acons (ref_fld T.cl_House T.na_House_reminders rfl nd_House (ref_var (by decide))) ref_anil))))) (ref_acons (ref_opA oA_list (ref_acons (ref_var (by decide)) ref_anil)) ref_anil))))) (rs_ret (μ := none) (by intro z; cases z) (by intro _ z; cases z) ref_bl) rs_next))))))))
      (rs_ret (μ := none) (by intro z; cases z) (by intro _ z; cases z) ref_bl))⟩
  obtain ⟨t, h1, h2⟩ := hx
  have h3 : PSs (cxOf CX0 P w K mg base ["_law_script", "_law_d", "_law_step", "_law_parts_here", "_law_rows", "_law_text", "_law_house_here", "_law_row", "_law_k", "_law_tick", "_law_person"] "law" (defScope st_law) A.f_law cdv A2 outer s H E).nox (defBody st_law) _ :=
    pss_cons (ps_set (i := 1) sc_law.nd rfl (by first | exact .inl rfl | exact .inr rfl) (pe_call (ok_law_random T) (hr.mono (by decide)) (by rfl) T.g_law_random T.F_law_random.kp T.b_law_random .nil (passE (E := E)) (pa_cons (pv 0) (pa_cons pe_int pa_nil)))) h1
  obtain ⟨a, ns, rfl, hS, hlen, k⟩ := hsp
  refine ⟨_, h3.nox, ?_⟩
  refine ⟨.ref a, rfl, a, ns, 14, rfl, hS, by omega, fun H' p ext hp hl => ?_⟩
  exact law_run (n := 9) h2 (by decide) ext hp hl (hm ns hlen) k rfl
theorem law_end {l : PySem.W.OpenLaw} {w : World} {K : PySem.W.Frag} {mg : Str → Option Value} {fa : Addr} (h : ∃ A : Ad, Txt K mg A) (hmg : mg "law" = some (.ref fa)) (hm : ∀ ns : List Int, ns.length ≤ 63 → ∃ e, b_law (env1 9 (rndL ns 14)) = .ret (.bl true) e) :
    ∃ fd : FuncData, (∀ (s : Shared) (u : Value), BindsTo s fd ⟨[u], []⟩ [("_law_script", u)]) ∧ ∀ base : Heap, K.In base → base.Ns mainGlobals mg → FnOk l.prog w K mg base CX0 6 fa fd ["_law_script"] (spLaw K) := by
  obtain ⟨A, T⟩ := h
  have e := hmg.symm.trans T.g_law
  cases e
  exact ⟨A.fd_law, fun s u => T.F_law.bindsA (ps := ["_law_script"]) (fun _ _ _ _ _ _ us hl => match us, hl with | [_], _ => rfl) s [u] rfl, fun base _ _ => ok_law T hm⟩
end
end K14
/-! M14a -/
namespace K14
open PySem PySem.Spec PyProof.Rows L2 Mir
/-- the source's state -/
def Rnd (o : D) : Prop := ∃ ds : List Int, o = .lst (ds.map .int) ∧ 2 ≤ ds.length
theorem fmod_range {a b : Int} (h : 0 < b) : 0 ≤ a.fmod b ∧ a.fmod b < b := ⟨Int.fmod_nonneg_of_pos _ h, Int.fmod_lt_of_pos _ h⟩
/-- behind the first statement -/
theorem below_tail {s0 s1 lim : Int} {rest : List Int} (h1 : 0 < lim) (h2 : lim < 1000000000) : ∃ (r : Int) (e : Mir.Env) (ds : List Int), (sSeq (sIf (mTest (e2 oGtI (e2 oIx (eVar 0) (eC (.int 1))) (eC (.int 0)))) (sSeq (sAsg (eUp (e2 oMod (e2 oIx (eVar 0) (eC (.int 1))) (eVar 1))) (gSet 2))
  (sSeq (sSetIx 0 1 (eUp (e2 oFdiv (e2 oIx (eVar 0) (eC (.int 1))) (eVar 1))))
  (sRet (eVar 2)))) sNext)
  (sSeq (sSetIx 0 0 (eUp (e2 oMod (e2 oAdd (e2 oMul (e2 oIx (eVar 0) (eC (.int 0))) (eC (.int 48271))) (eC (.int 11))) (eC (.int 2147483647)))))
  (sRet (eUp (e2 oMod (e2 oFdiv (e2 oIx (eVar 0) (eC (.int 0))) (eC (.int 64))) (eVar 1)))))) [some (.lst (((s0 :: s1 :: rest).map .int : List D))), some (.int lim), none] = .ret (.int r) e ∧ e[0]? = some (some (.lst (ds.map .int))) ∧ 0 ≤ r ∧ r < lim ∧ 2 ≤ ds.length := by
  have hl0 : lim ≠ 0 := by omega
  have hlm : lim ≠ 0 ∧ lim.natAbs < 1073741824 := ⟨by omega, by omega⟩
  have i1 : ∀ (a b : D) (l : List D), ixN (a :: b :: l).length 1 = some 1 := fun a b l => ixN_at (by simp) rfl
  have i0 : ∀ (a b : D) (l : List D), ixN (a :: b :: l).length 0 = some 0 := fun a b l => ixN_at (by simp) rfl
  by_cases c : 0 < s1
  · refine ⟨s1.fmod lim, [some (.lst ((s0 :: s1.fdiv lim :: rest).map .int)), some (.int lim), some (.int (s1.fmod lim))], s0 :: s1.fdiv lim :: rest, ?_, rfl, (fmod_range h1).1, (fmod_range h1).2, by simp⟩
    · simp only [ap_sSeq, ap_sIf, ap_mTest, ap_e2, ap_eVar, ap_eC, List.getElem?_cons_zero, List.getElem?_cons_succ, List.map_cons, Out.bind_ok, oIx_lst, atI_c1, Out.opt_some, oGtI_int, dd_boo, Out.fl_ok, c, decide_true, if_true, ap_sAsg, ap_eUp, oMod_int _ _ hl0, dp_int, ap_gSet, Fl.bind_next, set_2, ap_sSetIx, oFdiv_int _ _ hlm, i1, ap_sRet, Fl.bind_ret, set_0, set_1]
  · refine ⟨(((s0 * 48271 + 11).fmod 2147483647).fdiv 64).fmod lim, [some (.lst ((((s0 * 48271 + 11).fmod 2147483647) :: s1 :: rest).map .int)), some (.int lim), none], ((s0 * 48271 + 11).fmod 2147483647) :: s1 :: rest, ?_, rfl, (fmod_range h1).1, (fmod_range h1).2, by simp⟩
    · simp only [ap_sSeq, ap_sIf, ap_mTest, ap_e2, ap_eVar, ap_eC, List.getElem?_cons_zero, List.getElem?_cons_succ, List.map_cons, Out.bind_ok, oIx_lst, atI_c0, atI_c1, Out.opt_some, oGtI_int, dd_boo, Out.fl_ok, c, decide_false, if_false, ap_sNext, ap_eUp, oMod_int _ _ hl0, dp_int, Fl.bind_next, ap_sSetIx, i0, ap_sRet, Fl.bind_ret, set_0, set_1, oMul_int _ 48271 (.inr (by decide)), oAdd_int, oMod_int _ 2147483647 (by decide), oFdiv_int _ 64 (by decide), if_true, Bool.false_eq_true]
theorem below_spec {o : D} (ho : Rnd o) {lim : Int} (h1 : 0 < lim) (h2 : lim < 1000000000) : ∃ r o', d_law_below o [.int lim] = .ok (.int r) o' ∧ 0 ≤ r ∧ r < lim ∧ Rnd o' := by
  obtain ⟨ds, rfl, hl⟩ := ho
  obtain ⟨s0, s1, rest, rfl⟩ : ∃ s0 s1 rest, ds = s0 :: s1 :: rest := by
    match ds, hl with
    | s0 :: s1 :: rest, _ => exact ⟨s0, s1, rest, rfl⟩
  have i1 : ∀ (a b : D) (l : List D), ixN (a :: b :: l).length 1 = some 1 := fun a b l => ixN_at (by simp) rfl
  have i2 : ∀ (a b c : D) (l : List D), seqIndex? 2 (a :: b :: c :: l).length = some 2 := fun a b c l => seqIx_at (by simp) rfl
  have first : ∃ (t0 t1 : Int) (rs : List Int), (sIf (mAnd (mTest (e2 oEq (e2 oIx (eVar 0) (eC (.int 1))) (eC (.int 0)))) (mTest (e2 oGtI (eA (A1 oLen) (aCons (eVar 0) aNil)) (eC (.int 2))))) (sSetIx 0 1 (ePopAt 0 2)) sNext) [some (.lst (((s0 :: s1 :: rest).map .int : List D))), some (.int lim), none] = .next [some (.lst (((t0 :: t1 :: rs).map .int : List D))), some (.int lim), none] := by
    by_cases c : s1 = 0
    · cases rest with
      | nil =>
        refine ⟨s0, s1, [], ?_⟩
        subst c
        simp [oEq_int]
      | cons t rest =>
        refine ⟨s0, t, rest, ?_⟩
        subst c
        have hg : (2 : Int) < ((D.int s0 :: D.int 0 :: D.int t :: rest.map D.int).length : Int) := by simp only [List.length_cons]; omega
        simp only [ap_sIf, ap_mAnd, ap_mTest, ap_e2, ap_eVar, ap_eC, List.getElem?_cons_zero, List.getElem?_cons_succ, List.map_cons, Out.bind_ok, oIx_lst, atI_c1, Out.opt_some, oEq_int, dd_boo, Out.fl_ok, decide_true, if_true, ap_eA, ap_aCons, ap_aNil, ap_A1, oLen_lst, oGtI_int, hg, ap_sSetIx, ap_ePopAt, i2]
        rw [if_pos (by decide)]
        simp only [Out.fl_ok, set_0, List.getElem?_cons_zero, List.eraseIdx_cons_succ, List.eraseIdx_cons_zero, i1, set_1]
    · refine ⟨s0, s1, rest, ?_⟩
      simp [oEq_int, c]
  obtain ⟨t0, t1, rs, hf⟩ := first
  obtain ⟨r, e, ds, h3, h4, h5, h6, h7⟩ := below_tail (s0 := t0) (s1 := t1) (rest := rs) h1 h2
  refine ⟨r, _, ?_, h5, h6, ds, rfl, h7⟩
  have hb : b_law_below [some (.lst (((s0 :: s1 :: rest).map .int : List D))), some (.int lim), none] = .ret (.int r) e := by
    unfold b_law_below
    rw [ap_sSeq, hf, Fl.bind_next]
    exact h3
  exact runF0_ret hb h4 rfl
end K14
/-! M14b -/
namespace K14
open PySem PySem.Spec PyProof.Rows L2 Mir
/-! ### tables -/
def D24 : List Int := [1, 2, 3, 4, 6, 8, 12, 24]
def signs (z : Str) : Prop := ∀ c ∈ z.cps.toList, c = 104 ∨ c = 111
structure Tab (z : Str) : Prop where
  s : signs z
  l : (z.length : Int) ∈ D24
theorem d24_range {n : Int} (h : n ∈ D24) : 1 ≤ n ∧ n ≤ 24 := by
  simp only [D24, List.mem_cons, List.not_mem_nil, or_false] at h
  omega
theorem Tab.le {z : Str} (h : Tab z) : z.length ≤ 24 := by have := d24_range h.l; omega
theorem Tab.pos {z : Str} (h : Tab z) : 1 ≤ z.length := by have := d24_range h.l; omega
theorem callO_below {env env1 : Mir.Env} {b : EM} {j : Nat} {lim : Int} {o0 o : D} (h0 : env[j]? = some (some o0)) (hb : b env = .ok (.int lim) env1) (h1 : env1[j]? = some (some o)) (ho : Rnd o) (l1 : 0 < lim) (l2 : lim < 1000000000) :
    ∃ r o', eCallO d_law_below j (aCons b aNil) env = .ok (.int r) (env1.set j (some o')) ∧ 0 ≤ r ∧ r < lim ∧ Rnd o' := by
  obtain ⟨r, o', e, q1, q2, q3⟩ := below_spec ho l1 l2
  refine ⟨r, o', ?_, q1, q2, q3⟩
  rw [ap_eCallO, h0]
  dsimp only
  rw [ap_aCons, hb]
  simp only [Out.bind_ok, ap_aNil]
  rw [h1]
  dsimp only
  rw [e]
theorem ho_ix {r : Int} (h0 : 0 ≤ r) (h1 : r < 2) : ∃ c : Nat, oIx (.str "ho") (.int r) = some (.str ⟨#[c]⟩) ∧ (c = 104 ∨ c = 111) := by
  have : r = 0 ∨ r = 1 := by omega
  rcases this with rfl | rfl
  · exact ⟨104, rfl, .inl rfl⟩
  · exact ⟨111, rfl, .inr rfl⟩
theorem join_signs (cs : List Nat) : Txt.join "" (cs.map fun c => (⟨#[c]⟩ : Str)) = ⟨cs.toArray⟩ := by
  have h := SX.join_S [] (cs.map fun c => [c])
  rw [List.map_map] at h
  have e : TL.joinL [] (cs.map fun c => [c]) = cs := by
    induction cs with
    | nil => rfl
    | cons c cs ih => cases cs with
      | nil => rfl
      | cons d cs => show [c] ++ ([] ++ TL.joinL [] ((d :: cs).map fun c => [c])) = _; rw [ih (SX.join_S _ _ |> fun z => by rw [List.map_map] at z; exact z)]; rfl
  rw [e] at h
  exact h
theorem lens_join (cs : List Nat) : ((cs.map fun c => (⟨#[c]⟩ : Str)).map (·.length)).sum = cs.length := by
  induction cs with
  | nil => rfl
  | cons c cs ih => rw [List.map_cons, List.map_cons, List.sum_cons, ih, List.length_cons]; show 1 + _ = _; omega
theorem rangeL_len (lo : Int) (n : Nat) : (rangeL lo n).length = n := by unfold rangeL; rw [List.length_map, List.length_range]
theorem rng1_at {n : Int} (h0 : 0 ≤ n) (h1 : n < 2 ^ 62) : rng1 [.int n] = some (rangeL 0 n.toNat) := by unfold rng1; dsimp only; rw [if_pos ⟨by omega, h1⟩]
theorem table_spec {o : D} (ho : Rnd o) : ∃ z o', d_law_table o [] = .ok (.str z) o' ∧ Tab z ∧ Rnd o' := by
  obtain ⟨r1, o1, e1, a1, b1, ho1⟩ := callO_below (env := [some o, none, none]) (b := eC (.int 3)) (j := 0) rfl rfl rfl ho (by decide) (by decide)
  obtain ⟨l1, hl1, hl2, hl3⟩ : ∃ l : Int, atI [D.int 5, .int 7, .int 9] r1 = some (.int l) ∧ 0 < l ∧ l ≤ 9 := by
    have : r1 = 0 ∨ r1 = 1 ∨ r1 = 2 := by omega
    rcases this with rfl | rfl | rfl
    · exact ⟨5, rfl, by decide, by decide⟩
    · exact ⟨7, rfl, by decide, by decide⟩
    · exact ⟨9, rfl, by decide, by decide⟩
  have hb : (e2 oIx (eLst (aCons (eC (.int 5)) (aCons (eC (.int 7)) (aCons (eC (.int 9)) aNil)))) (eCallO d_law_below 0 (aCons (eC (.int 3)) aNil))) [some o, none, none] = .ok (.int l1) [some o1, none, none] := by
    rw [ap_e2, ap_eLst]
    simp only [ap_aCons, ap_eC, ap_aNil, Out.bind_ok]
    rw [if_pos (by decide)]
    simp only [Out.opt_some, Out.bind_ok]
    rw [e1]
    simp only [Out.bind_ok, oIx_lst, hl1, Out.opt_some]
    rfl
  obtain ⟨r2, o2, e2', a2, b2, ho2⟩ := callO_below (env := [some o, none, none]) (j := 0) rfl hb rfl ho1 hl2 (by omega)
  obtain ⟨n, hn1, hn2⟩ : ∃ n : Int, atI [D.int 1, .int 2, .int 3, .int 4, .int 4, .int 6, .int 8, .int 12, .int 24] r2 = some (.int n) ∧ n ∈ D24 := by
    have : r2 = 0 ∨ r2 = 1 ∨ r2 = 2 ∨ r2 = 3 ∨ r2 = 4 ∨ r2 = 5 ∨ r2 = 6 ∨ r2 = 7 ∨ r2 = 8 := by omega
    rcases this with rfl | rfl | rfl | rfl | rfl | rfl | rfl | rfl | rfl
    · exact ⟨1, rfl, by decide⟩
    · exact ⟨2, rfl, by decide⟩
    · exact ⟨3, rfl, by decide⟩
    · exact ⟨4, rfl, by decide⟩
    · exact ⟨4, rfl, by decide⟩
    · exact ⟨6, rfl, by decide⟩
    · exact ⟨8, rfl, by decide⟩
    · exact ⟨12, rfl, by decide⟩
    · exact ⟨24, rfl, by decide⟩
  have hr := d24_range hn2
  have hlc : ∃ (cs : List Nat) (o' : D), (eLc [2] (iRng1M (aCons (eVar 1) aNil)) (gSet 2) mYes (e2 oIx (eC (.str "ho")) (eCallO d_law_below 0 (aCons (eC (.int 2)) aNil)))) [some o2, some (.int n), none] = .ok (.lst ((cs.map fun c => (⟨#[c]⟩ : Str)).map D.str)) [some o', some (.int n), none] ∧ Rnd o' ∧ cs.length = n.toNat ∧ ∀ c ∈ cs, c = 104 ∨ c = 111 := by
    obtain ⟨xs, env', q1, o', cs, q2, q3, q4, q5, q6⟩ := lcGo_inv (vs := [2]) (g := gSet 2) (c := mYes) (e := e2 oIx (eC (.str "ho")) (eCallO d_law_below 0 (aCons (eC (.int 2)) aNil)))
      (fun done acc env => ∃ (o' : D) (cs : List Nat), env = [some o', some (.int n), none] ∧ Rnd o' ∧ acc = (cs.map fun c => (⟨#[c]⟩ : Str)).map D.str ∧ cs.length = done.length ∧ ∀ c ∈ cs, c = 104 ∨ c = 111)
      (ds := rangeL 0 n.toNat) (done := []) (acc := []) (env := [some o2, some (.int n), none]) ⟨o2, [], rfl, ho2, rfl, rfl, fun c m => (by cases m)⟩ (by rw [rangeL_len]; simp only [List.length_nil]; omega) (Nat.le_refl _) (by
        rintro done acc d env ⟨o', cs, rfl, p1, rfl, p2, p3⟩ m
        obtain ⟨r, o'', q1, q2, q3, q4⟩ := callO_below (env := [some o', some (.int n), some d]) (b := eC (.int 2)) (j := 0) rfl rfl rfl p1 (by decide) (by decide)
        obtain ⟨c, q5, q6⟩ := ho_ix q2 q3
        refine ⟨_, rfl, true, _, rfl, fun z => (by cases z), fun _ => ⟨.str ⟨#[c]⟩, [some o'', some (.int n), some d], ?_, o'', cs ++ [c], rfl, q4, ?_, ?_, ?_⟩⟩
        · rw [ap_e2, ap_eC, Out.bind_ok]
          have q1' : eCallO d_law_below 0 (aCons (eC (.int 2)) aNil) (List.set [some o', some (.int n), none] 2 (some d)) = _ := q1
          rw [q1']
          simp only [Out.bind_ok, q5, Out.opt_some]
          rfl
        · simp
        · simp [p2]
        · intro x m
          rcases List.mem_append.mp m with m | m
          · exact p3 x m
          · rw [List.mem_singleton.mp m]
            exact q6)
    refine ⟨cs, o', ?_, q3, by rw [q5]; simp [rangeL_len], q6⟩
    rw [ap_eLc, ap_iRng1M]
    simp only [ap_aCons, ap_eVar, ap_aNil, List.getElem?_cons_succ, List.getElem?_cons_zero, Out.bind_ok]
    rw [rng1_at (by omega) (by omega)]
    simp only [Out.opt_some, Out.bind_ok]
    have q1' : lcGo [2] (gSet 2) mYes (e2 oIx (eC (.str "ho")) (eCallO d_law_below 0 (aCons (eC (.int 2)) aNil))) (rangeL 0 n.toNat) [] (wipeE [some o2, some (.int n), none] [2]) = _ := q1
    rw [q1']
    simp only [Out.bind_ok, q2, q4]
    rfl
  obtain ⟨cs, o', q1, q2, q3, q4⟩ := hlc
  refine ⟨⟨cs.toArray⟩, o', ?_, ⟨?_, ?_⟩, q2⟩
  · refine runF0_ret (e := [some o', some (.int n), none]) ?_ rfl rfl
    show b_law_table [some o, none, none] = _
    unfold b_law_table
    rw [ap_sSeq, ap_sAsg, ap_e2, ap_eLst]
    simp only [ap_aCons, ap_eC, ap_aNil, Out.bind_ok]
    rw [if_pos (by decide)]
    simp only [Out.opt_some, Out.bind_ok]
    rw [e2']
    simp only [Out.bind_ok, oIx_lst, hn1, Out.opt_some, Out.fl_ok, ap_gSet, Fl.bind_next, ap_sRet]
    rw [ap_eM1, ap_eC]
    simp only [Out.bind_ok, dd_isS, if_true]
    have q1' := q1
    rw [show (List.set (List.set [some o1, none, none] 0 (some o2)) 1 (some (D.int n)) : Mir.Env) = [some o2, some (.int n), none] from rfl, q1']
    simp only [Out.bind_ok]
    unfold oJoin
    dsimp only
    rw [strsOf_map]
    simp only [Option.bind_some]
    rw [lens_join, if_pos (by rw [List.length_map, q3]; show n.toNat + n.toNat * 0 ≤ 100000; omega), join_signs]
    rfl
  · intro c m
    exact q4 c (by simpa using m)
  · show ((cs.toArray.size : Nat) : Int) ∈ D24
    rw [List.size_toArray, q3]
    have : ((n.toNat : Nat) : Int) = n := by omega
    rw [this]
    exact hn2
end K14
/-! M14c -/
namespace K14
open PySem PySem.Spec PyProof.Rows L2 Mir
theorem cm_run (a b m : Int) (n : Nat) (h : whileN (mTest (e2 oNe (e2 oMul (e2 oFdiv (eVar 2) (eVar 1)) (eVar 1)) (eVar 2))) (sAug 2 (eVar 0) (· + ·)) n [some (.int a), some (.int b), some (.int a)] = some (.next [some (.int a), some (.int b), some (.int m)])) :
    d_common_multiple [.int a, .int b] = .ok (.int m) := by
  refine runF_ret (e := [some (.int a), some (.int b), some (.int m)]) ?_ rfl
  show b_common_multiple [some (.int a), some (.int b), none] = _
  unfold b_common_multiple
  rw [ap_sSeq, ap_sAsg]
  simp only [ap_eVar, List.getElem?_cons_zero, Out.fl_ok, ap_gSet, Fl.bind_next, set_2, ap_sSeq]
  rw [sWhile_of h]
  rfl
/-- one turn more -/
theorem cm_step (a b : Int) (hb : 1 ≤ b ∧ b ≤ 24) (ha : 1 ≤ a) (n : Nat) : ∀ (k : Nat) (x m : Int), x + k * a = m → b ∣ m → (∀ i : Nat, i < k → ¬ b ∣ x + i * a) → k < n → whileN (mTest (e2 oNe (e2 oMul (e2 oFdiv (eVar 2) (eVar 1)) (eVar 1)) (eVar 2))) (sAug 2 (eVar 0) (· + ·)) n [some (.int a), some (.int b), some (.int x)] = some (.next [some (.int a), some (.int b), some (.int m)]) := by
  induction n with
  | zero => intro k x m _ _ _ h; omega
  | succ n ih =>
    intro k x m hm hd hk hn
    have hb0 : b ≠ 0 ∧ b.natAbs < 1073741824 := ⟨by omega, by omega⟩
    have ht : (mTest (e2 oNe (e2 oMul (e2 oFdiv (eVar 2) (eVar 1)) (eVar 1)) (eVar 2))) [some (.int a), some (.int b), some (.int x)] = .ok (!decide (x.fdiv b * b = x)) [some (.int a), some (.int b), some (.int x)] := by
      simp only [ap_mTest, ap_e2, ap_eVar, List.getElem?_cons_zero, List.getElem?_cons_succ, Out.bind_ok, oFdiv_int _ _ hb0, Out.opt_some, oMul_int _ _ (.inr (show -(2 ^ 64) < b ∧ b < 2 ^ 64 by omega)), oNe_int, dd_boo]
    have hdv : (x.fdiv b * b = x) ↔ b ∣ x := by
      rw [Int.fdiv_eq_ediv_of_nonneg _ (by omega)]
      constructor
      · intro h
        exact ⟨x / b, by rw [Int.mul_comm]; exact h.symm⟩
      · intro h
        exact Int.ediv_mul_cancel h
    unfold whileN
    rw [ht]
    cases k with
    | zero =>
      have e : x = m := by simpa using hm
      subst e
      rw [decide_eq_true (hdv.mpr hd)]
      rfl
    | succ k =>
      have h0 : ¬ b ∣ x := by simpa using hk 0 (by omega)
      rw [decide_eq_false (fun z => h0 (hdv.mp z))]
      simp only [Bool.not_false]
      have hs : (sAug 2 (eVar 0) (· + ·)) [some (.int a), some (.int b), some (.int x)] = .next [some (.int a), some (.int b), some (.int (x + a))] := rfl
      rw [hs]
      refine ih k (x + a) m ?_ hd (fun i hi => ?_) (by omega)
      · rw [← hm]
        have : ((k + 1 : Nat) : Int) * a = a + k * a := by rw [show ((k + 1 : Nat) : Int) = k + 1 by omega, Int.add_mul]; omega
        omega
      · have := hk (i + 1) (by omega)
        have e : ((i + 1 : Nat) : Int) * a = a + i * a := by rw [show ((i + 1 : Nat) : Int) = i + 1 by omega, Int.add_mul]; omega
        rw [e] at this
        rw [show x + a + i * a = x + (a + i * a) by omega]
        exact this
theorem cm_tab : ∀ a ∈ D24, ∀ b ∈ D24, ∃ m ∈ D24, a ∣ m ∧ b ∣ m ∧ ∃ k : Nat, k < 25 ∧ a + k * a = m ∧ ∀ i : Nat, i < k → ¬ b ∣ a + i * a := by decide +kernel
theorem cm_spec {a b : Int} (ha : a ∈ D24) (hb : b ∈ D24) : ∃ m, d_common_multiple [.int a, .int b] = .ok (.int m) ∧ m ∈ D24 ∧ a ∣ m ∧ b ∣ m := by
  obtain ⟨m, h1, h2, h3, k, h4, h5, h6⟩ := cm_tab a ha b hb
  exact ⟨m, cm_run a b m 25 (cm_step a b (d24_range hb) (d24_range ha).1 25 k a m h5 h3 h6 h4), h1, h2, h3⟩
/-! ### the law's own length -/
theorem strOk_tab {z : Str} (h : signs z) : PyData.strOk z = true := by
  unfold PyData.strOk
  rw [← Array.all_toList, List.all_eq_true]
  intro c m
  rcases h c m with rfl | rfl <;> decide
theorem fit_strs {zs : List Str} (h : ∀ z ∈ zs, signs z) : (D.lst (zs.map .str)).fit = true ∧ (D.tup (zs.map .str)).fit = true := by
  have l : D.layL (zs.map .str) = true ∧ D.depL (zs.map .str) = 0 := by
    induction zs with
    | nil => exact ⟨rfl, rfl⟩
    | cons z zs ih =>
      obtain ⟨h1, h2⟩ := ih fun x m => h x (List.mem_cons_of_mem _ m)
      refine ⟨?_, ?_⟩
      · rw [List.map_cons, dl_cons, dl_str, strOk_tab (h z List.mem_cons_self), h1]; rfl
      · rw [List.map_cons, de_cons, de_str, h2]; rfl
  exact ⟨fit_of (by rw [dl_lst]; exact l.1) (by rw [de_lst, l.2]; omega), fit_of (by rw [dl_tup]; exact l.1) (by rw [de_tup, l.2]; omega)⟩
theorem ne_nilL {xs : List D} (h : (D.lst xs).fit = true) : oNe (.lst xs) (.lst []) = some (.bl (!xs.isEmpty)) := by
  unfold oNe oEqB
  simp only [h, fit_nilL, Bool.and_self, if_true, Option.map_some]
  cases xs <;> simp [D.eqb, D.eqbL]
def Good (ts : List Str) (L : Int) : Prop := ∀ z ∈ ts, (z.length : Int) ∣ L
theorem len_cond {ts : List Str} (ht : ∀ z ∈ ts, Tab z) (hl : ts.length ≤ 1000) (L : Int) : (mTest (e2 oNe (eLc [2] (iSeqM (eVar 0)) (gSet 2) (mTest (e2 oGtI (e2 oMod (eVar 1) (eA (A1 oLen) (aCons (eVar 2) aNil))) (eC (.int 0)))) (eVar 2)) (eLst aNil))) [some (.tup (ts.map .str)), some (.int L), none] = .ok (!(ts.filter fun z => decide (0 < L.fmod z.length)).isEmpty) [some (.tup (ts.map .str)), some (.int L), none] := by
  have h := lcGo_filter (vs := [2]) (g := gSet 2) (c := mTest (e2 oGtI (e2 oMod (eVar 1) (eA (A1 oLen) (aCons (eVar 2) aNil))) (eC (.int 0)))) (e := eVar 2) (fun d => match d with | .str z => decide (0 < L.fmod z.length) | _ => false) id (w := [some (.tup (ts.map .str)), some (.int L), none]) (ds := ts.map .str) (by rw [List.length_map]; omega) (by
    intro d m
    obtain ⟨z, hz, rfl⟩ := List.mem_map.mp m
    have hz' := ht z hz
    have hp := hz'.pos
    refine ⟨_, rfl, [some (.tup (ts.map .str)), some (.int L), some (.str z)], ?_, fun _ => rfl, fun _ => ⟨_, rfl, rfl⟩⟩
    simp only [ap_mTest, ap_e2, ap_eVar, List.set, List.getElem?_cons_zero, List.getElem?_cons_succ, Out.bind_ok, ap_eA, ap_aCons, ap_aNil, ap_A1, oLen_str z (by have := hz'.le; omega), Out.opt_some, oMod_int L z.length (by omega), ap_eC, oGtI_int, dd_boo])
  have hf : ((ts.map D.str).filter fun d => match d with | .str z => decide (0 < L.fmod z.length) | _ => false) = (ts.filter fun z => decide (0 < L.fmod z.length)).map D.str := by
    rw [List.filter_map]; rfl
  rw [ap_mTest, ap_e2, ap_eLc, ap_iSeqM]
  simp only [ap_eVar, List.getElem?_cons_zero, Out.bind_ok, dd_itT, Out.opt_some]
  have h' : lcGo [2] (gSet 2) (mTest (e2 oGtI (e2 oMod (eVar 1) (eA (A1 oLen) (aCons (eVar 2) aNil))) (eC (.int 0)))) (eVar 2) (ts.map D.str) [] (wipeE [some (.tup (ts.map .str)), some (.int L), none] [2]) = _ := h
  rw [h']
  simp only [Out.bind_ok, ap_eLst, ap_aNil, hf, List.map_id]
  rw [if_pos (by decide)]
  simp only [Out.opt_some, Out.bind_ok]
  rw [ne_nilL (fit_strs fun z m => (ht z (List.mem_filter.mp m).1).s).1]
  simp only [Out.opt_some, Out.bind_ok, dd_boo, List.isEmpty_map]
  rfl
theorem good_iff {ts : List Str} (ht : ∀ z ∈ ts, Tab z) (L : Int) : (ts.filter fun z => decide (0 < L.fmod z.length)).isEmpty = true ↔ Good ts L := by
  rw [List.isEmpty_iff, List.filter_eq_nil_iff]
  constructor
  · intro h z m
    have := h z m
    have hp := (ht z m).pos
    have hr := fmod_range (a := L) (b := z.length) (by omega)
    have h0 : L.fmod z.length = 0 := by
      have : ¬ 0 < L.fmod z.length := by simpa using this
      omega
    rw [Int.fmod_eq_emod_of_nonneg _ (by omega)] at h0
    exact Int.dvd_of_emod_eq_zero h0
  · intro h z m
    have hp := (ht z m).pos
    have := h z m
    rw [Int.fmod_eq_emod_of_nonneg _ (by omega), Int.emod_eq_zero_of_dvd this]
    simp
theorem good24 {ts : List Str} (ht : ∀ z ∈ ts, Tab z) : Good ts 24 := fun z m => by
  have := (ht z m).l
  have key : ∀ n ∈ D24, n ∣ (24 : Int) := by decide +kernel
  exact key _ this
theorem length_spec {ts : List Str} (ht : ∀ z ∈ ts, Tab z) (hl : ts.length ≤ 1000) : ∃ L, d_law_length [.tup (ts.map .str)] = .ok (.int L) ∧ 1 ≤ L ∧ L ≤ 24 ∧ Good ts L ∧ ∀ M, 1 ≤ M → Good ts M → L ≤ M := by
  have key : ∀ (k : Nat) (L : Int), 1 ≤ L → L + k = 24 → (∀ M, 1 ≤ M → Good ts M → L ≤ M) → ∃ L', whileN (mTest (e2 oNe (eLc [2] (iSeqM (eVar 0)) (gSet 2) (mTest (e2 oGtI (e2 oMod (eVar 1) (eA (A1 oLen) (aCons (eVar 2) aNil))) (eC (.int 0)))) (eVar 2)) (eLst aNil))) (sAsg (e2 oAdd (eVar 1) (eC (.int 1))) (gSet 1)) (k + 1) [some (.tup (ts.map .str)), some (.int L), none] = some (.next [some (.tup (ts.map .str)), some (.int L'), none]) ∧ 1 ≤ L' ∧ L' ≤ 24 ∧ Good ts L' ∧ ∀ M, 1 ≤ M → Good ts M → L' ≤ M := by
    intro k
    induction k with
    | zero =>
      intro L h1 h2 h3
      have : L = 24 := by omega
      subst this
      refine ⟨24, ?_, h1, by omega, good24 ht, h3⟩
      unfold whileN
      rw [len_cond ht hl, (good_iff ht 24).mpr (good24 ht)]
      rfl
    | succ k ih =>
      intro L h1 h2 h3
      by_cases c : (ts.filter fun z => decide (0 < L.fmod z.length)).isEmpty = true
      · refine ⟨L, ?_, h1, by omega, (good_iff ht L).mp c, h3⟩
        unfold whileN
        rw [len_cond ht hl, c]
        rfl
      · obtain ⟨L', q1, q2⟩ := ih (L + 1) (by omega) (by omega) fun M m1 m2 => by
          have := h3 M m1 m2
          have : M ≠ L := fun z => c ((good_iff ht L).mpr (z ▸ m2))
          omega
        refine ⟨L', ?_, q2⟩
        unfold whileN
        rw [len_cond ht hl, Bool.eq_false_iff.mpr c]
        exact q1
  obtain ⟨L, q1, q2, q3, q4, q5⟩ := key 23 1 (by decide) rfl fun M m _ => m
  refine ⟨L, ?_, q2, q3, q4, q5⟩
  refine runF_ret (e := [some (.tup (ts.map .str)), some (.int L), none]) ?_ rfl
  show b_law_length [some (.tup (ts.map .str)), none, none] = _
  unfold b_law_length
  rw [ap_sSeq, ap_sAsg, ap_eC]
  simp only [Out.fl_ok, ap_gSet, Fl.bind_next, set_1, ap_sSeq]
  rw [sWhile_of q1]
  rfl
end K14
/-! M14d -/
namespace K14
open PySem PySem.Spec PyProof.Rows L2 Mir
/-! ### the parts of a house -/
structure Pt where
  ts : List Str
  keys : Int
  cs : List Int
  rs : List (Int × Int)
def Pt.D (p : Pt) : Mir.D := .tup [.tup (p.ts.map .str), .int p.keys, .tup (p.cs.map .int), .tup (p.rs.map pairD)]
def ltP2 (p q : Int × Int) : Prop := p.1 < q.1 ∨ (p.1 = q.1 ∧ p.2 < q.2)
structure Pt.Ok (p : Pt) : Prop where
  t0 : 1 ≤ p.ts.length
  t6 : p.ts.length ≤ 6
  tt : ∀ z ∈ p.ts, Tab z
  k0 : 0 ≤ p.keys
  k9 : p.keys ≤ 9
  cl : p.cs.Pairwise (· < ·)
  cr : ∀ c ∈ p.cs, 0 ≤ c ∧ c < p.ts.length
  rn : p.rs.length ≤ 10
  rl : p.rs.Pairwise ltP2
  rr : ∀ r ∈ p.rs, 0 ≤ r.1 ∧ (∀ M, 1 ≤ M → Good p.ts M → r.1 < M) ∧ 0 ≤ r.2 ∧ r.2 < p.ts.length
theorem callO_table {env : Mir.Env} {o : D} (h0 : env[0]? = some (some o)) (ho : Rnd o) : ∃ z o', eCallO d_law_table 0 aNil env = .ok (.str z) (env.set 0 (some o')) ∧ Tab z ∧ Rnd o' := by
  obtain ⟨z, o', e, q1, q2⟩ := table_spec ho
  refine ⟨z, o', ?_, q1, q2⟩
  rw [ap_eCallO, h0]
  dsimp only
  rw [ap_aNil]
  simp only [Out.bind_ok]
  rw [h0]
  dsimp only
  rw [e]
/-- below([..][below(k)]) -/
theorem callO_ix {env : Mir.Env} {E0 : EM} {lits : List Int} {k : Int} {o : D} (h0 : env[0]? = some (some o)) (ho : Rnd o) (hE : E0 env = .ok (.lst (lits.map .int)) env) (hk : (lits.length : Int) = k) (h1 : 0 < k) (h2 : k < 1000000000) (hp : ∀ l ∈ lits, 0 < l ∧ l < 1000000000) (hlen : 0 < env.length) :
    ∃ r o' l, eCallO d_law_below 0 (aCons (e2 oIx E0 (eCallO d_law_below 0 (aCons (eC (.int k)) aNil))) aNil) env = .ok (.int r) (env.set 0 (some o')) ∧ l ∈ lits ∧ 0 ≤ r ∧ r < l ∧ Rnd o' := by
  obtain ⟨r1, o1, e1, a1, b1, ho1⟩ := callO_below (env := env) (b := eC (.int k)) (j := 0) h0 rfl h0 ho h1 h2
  obtain ⟨n, rfl⟩ := Int.eq_ofNat_of_zero_le a1
  have hn : n < lits.length := by omega
  have hx : atI (lits.map D.int) ((n : Nat) : Int) = some (.int lits[n]) := atI_nat (by rw [List.getElem?_map, List.getElem?_eq_getElem hn]; rfl)
  have hb : (e2 oIx E0 (eCallO d_law_below 0 (aCons (eC (.int k)) aNil))) env = .ok (.int lits[n]) (env.set 0 (some o1)) := by
    rw [ap_e2, hE]
    simp only [Out.bind_ok]
    rw [e1]
    simp only [Out.bind_ok, oIx_lst]
    rw [hx]
    rfl
  have hl := hp _ (List.getElem_mem hn)
  obtain ⟨r2, o2, e2', a2, b2, ho2⟩ := callO_below (env := env) (j := 0) h0 hb (List.getElem?_set_self hlen) ho1 hl.1 hl.2
  exact ⟨r2, o2, lits[n], by rw [e2', List.set_set], List.getElem_mem hn, a2, b2, ho2⟩
theorem eqb_pair (a b : Int × Int) : (pairD a).eqb (pairD b) = decide (a = b) := by
  simp only [Mir.pairD, D.eqb, D.eqbL, Bool.and_true]
  by_cases h : a = b
  · subst h; simp
  · rw [decide_eq_false h]
    by_cases h1 : a.1 = b.1
    · have : a.2 ≠ b.2 := fun z => h (Prod.ext h1 z)
      simp [this]
    · simp [h1]
theorem notIn_pairs (p : Int × Int) (rs : List (Int × Int)) : oNotIn (pairD p) (.lst (rs.map pairD)) = some (.bl (!decide (p ∈ rs))) := by
  have f1 : (pairD p).fit = true := fit_of rfl (by show 1 ≤ 64; omega)
  have f2 : (D.lst (rs.map pairD)).fit = true := fit_of (by simp) (by rw [de_lst]; have := de_pairs rs; omega)
  have e : oInB (pairD p) (.lst (rs.map pairD)) = some (decide (p ∈ rs)) := by
    unfold oInB
    simp only [Mir.pairD] at f1 ⊢
    simp only [f1, f2, Bool.and_self, if_true]
    rw [List.any_map]
    congr 1
    rw [Bool.eq_iff_iff, List.any_eq_true, decide_eq_true_iff]
    constructor
    · rintro ⟨x, m, h⟩
      have : decide (x = p) = true := by rw [← eqb_pair]; exact h
      rw [← of_decide_eq_true this]
      exact m
    · intro m
      refine ⟨p, m, ?_⟩
      have : decide (p = p) = true := decide_eq_true rfl
      rw [← eqb_pair] at this
      exact this
  unfold oNotIn
  rw [e]
  rfl
theorem oSort_pairs (rs : List (Int × Int)) : oSort (.lst (rs.map pairD)) = some (.lst ((sortP rs).map pairD)) := by
  cases rs with
  | nil =>
    have h1 : sortP [] = [] := List.eq_nil_of_length_eq_zero (sortP_perm []).length_eq
    have h2 : sortI [] = [] := List.eq_nil_of_length_eq_zero (sortI_perm []).length_eq
    show some (D.lst ((sortI []).map D.int)) = _
    rw [h1, h2]; rfl
  | cons r rs =>
    show (pairsOf ((r :: rs).map pairD)).map _ = _
    rw [pairsOf_map]; rfl
theorem sortP_lt {rs : List (Int × Int)} (h : rs.Nodup) : (sortP rs).Pairwise ltP2 := by
  have h1 := sortP_le rs
  have h2 : (sortP rs).Nodup := (sortP_perm rs).nodup_iff.mpr h
  refine (List.pairwise_and_iff.mpr ⟨h1, h2⟩).imp fun {a b} ⟨q1, q2⟩ => ?_
  rw [leB_iff] at q1
  unfold ltP2
  rcases q1 with q1 | ⟨q1, q3⟩
  · exact .inl q1
  · by_cases c : a.2 = b.2
    · exact absurd (Prod.ext q1 c) q2
    · exact .inr ⟨q1, by omega⟩
theorem rng1_len {n : Nat} (h : n ≤ 1000) : rng1 [.int (n : Int)] = some (rangeL 0 n) := rng1_at (Int.natCast_nonneg n) (Int.lt_of_le_of_lt (Int.ofNat_le.mpr h) (by decide))
theorem parts_tables {o : D} (ho : Rnd o) : ∃ (o' : D) (ts : List Str), (eA (A1 oTuple) (aCons (eLc [4] (iRng1M (aCons (e2 oAdd (eC (.int 1)) (eCallO d_law_below 0 (aCons (eVar 1) aNil))) aNil)) (gSet 4) mYes (eCallO d_law_table 0 aNil)) aNil)) [some o, some (.int 6), none, none, none, none, none, none] = .ok (.tup (ts.map .str)) [some o', some (.int 6), none, none, none, none, none, none] ∧ Rnd o' ∧ 1 ≤ ts.length ∧ ts.length ≤ 6 ∧ ∀ z ∈ ts, Tab z := by
  obtain ⟨r1, o1, e1, a1, b1, ho1⟩ := callO_below (env := [some o, some (.int 6), none, none, none, none, none, none]) (b := eVar 1) (j := 0) rfl rfl rfl ho (by decide) (by decide)
  obtain ⟨xs, env', q1, o', ts, q2, q3, q4, q5, q6⟩ := lcGo_at (vs := [4]) (g := gSet 4) (c := mYes) (e := eCallO d_law_table 0 aNil) (total := rangeL 0 (1 + r1).toNat) (by rw [rangeL_len]; omega)
    (fun done acc env => ∃ (o' : D) (ts : List Str), env = [some o', some (.int 6), none, none, none, none, none, none] ∧ Rnd o' ∧ acc = ts.map D.str ∧ ts.length = done.length ∧ ∀ z ∈ ts, Tab z)
    (ds := rangeL 0 (1 + r1).toNat) (done := []) (acc := []) (env := [some o1, some (.int 6), none, none, none, none, none, none]) rfl ⟨o1, [], rfl, ho1, rfl, rfl, fun c m => (by cases m)⟩ (Nat.le_refl _) (by
      rintro done acc d rest env ht ⟨o', ts, rfl, p1, rfl, p2, p3⟩
      obtain ⟨z, o'', q1, q2, q3⟩ := callO_table (env := [some o', some (.int 6), none, none, some d, none, none, none]) rfl p1
      refine ⟨_, rfl, true, _, rfl, fun z => (by cases z), fun _ => ⟨_, _, q1, o'', ts ++ [z], rfl, q3, by simp, by simp [p2], fun x m => ?_⟩⟩
      rcases List.mem_append.mp m with m | m
      · exact p3 x m
      · rw [List.mem_singleton.mp m]
        exact q2)
  refine ⟨o', ts, ?_, q3, by rw [q5, rangeL_len]; omega, by rw [q5, rangeL_len]; omega, q6⟩
  rw [ap_eA, ap_aCons, ap_eLc, ap_iRng1M, ap_aCons, ap_e2, ap_eC]
  simp only [Out.bind_ok]
  rw [e1]
  simp only [Out.bind_ok, oAdd_int, Out.opt_some, ap_aNil]
  rw [rng1_at (by omega) (by omega)]
  simp only [Out.opt_some, Out.bind_ok]
  have q1' : lcGo [4] (gSet 4) mYes (eCallO d_law_table 0 aNil) (rangeL 0 (1 + r1).toNat) [] (wipeE (List.set [some o, some (.int 6), none, none, none, none, none, none] 0 (some o1)) [4]) = _ := q1
  rw [q1']
  simp only [Out.bind_ok, q2, q4, ap_A1, oTuple_lst, Out.opt_some]
  rfl
theorem parts_careful {o T : D} {ts : List D} (hT : T = .tup ts) (ho : Rnd o) (hl : ts.length ≤ 1000) : ∃ (o' : D) (cs : List Int), (eA (A1 oTuple) (aCons (eLc [4] (iRng1M (aCons (eA (A1 oLen) (aCons (eVar 2) aNil)) aNil)) (gSet 4) (mTest (e2 oEq (eCallO d_law_below 0 (aCons (eC (.int 3)) aNil)) (eC (.int 0)))) (eVar 4)) aNil)) [some o, some (.int 6), some T, none, none, none, none, none] = .ok (.tup (cs.map .int)) [some o', some (.int 6), some T, none, none, none, none, none] ∧ Rnd o' ∧ cs.Pairwise (· < ·) ∧ ∀ c ∈ cs, 0 ≤ c ∧ c < (ts.length : Int) := by
  subst hT
  obtain ⟨xs, env', q1, o', cs, q2, q3, q4, q5, q6⟩ := lcGo_at (vs := [4]) (g := gSet 4) (c := mTest (e2 oEq (eCallO d_law_below 0 (aCons (eC (.int 3)) aNil)) (eC (.int 0)))) (e := eVar 4) (total := rangeL 0 ts.length) (by rw [rangeL_len]; omega)
    (fun done acc env => ∃ (o' : D) (cs : List Int), env = [some o', some (.int 6), some (.tup ts), none, none, none, none, none] ∧ Rnd o' ∧ acc = cs.map D.int ∧ cs.Pairwise (· < ·) ∧ ∀ c ∈ cs, 0 ≤ c ∧ c < (done.length : Int))
    (ds := rangeL 0 ts.length) (done := []) (acc := []) (env := [some o, some (.int 6), some (.tup ts), none, none, none, none, none]) rfl ⟨o, [], rfl, ho, rfl, .nil, fun c m => (by cases m)⟩ (Nat.le_refl _) (by
      rintro done acc d rest env ht ⟨o', cs, rfl, p1, rfl, p2, p3⟩
      obtain ⟨rfl, hlt⟩ := rangeL_at ht
      obtain ⟨r, o'', e1, a1, b1, ho1⟩ := callO_below (env := [some o', some (.int 6), some (.tup ts), none, some (.int (0 + done.length)), none, none, none]) (b := eC (.int 3)) (j := 0) rfl rfl rfl p1 (by decide) (by decide)
      have up : ∀ c ∈ cs, 0 ≤ c ∧ c < ((done ++ [D.int (0 + done.length)]).length : Int) := fun c m => by
        have := p3 c m
        rw [List.length_append]
        simp only [List.length_cons, List.length_nil]
        omega
      refine ⟨_, rfl, decide (r = 0), [some o'', some (.int 6), some (.tup ts), none, some (.int (0 + done.length)), none, none, none], ?_, fun _ => ⟨o'', cs, rfl, ho1, rfl, p2, up⟩, fun _ => ⟨.int (0 + done.length), _, rfl, o'', cs ++ [0 + (done.length : Int)], rfl, ho1, by simp, ?_, ?_⟩⟩
      · rw [ap_mTest, ap_e2]
        have e1' : eCallO d_law_below 0 (aCons (eC (.int 3)) aNil) (List.set [some o', some (.int 6), some (.tup ts), none, none, none, none, none] 4 (some (.int (0 + done.length)))) = _ := e1
        rw [e1']
        simp only [Out.bind_ok, ap_eC, oEq_int, Out.opt_some, dd_boo]
        rfl
      · refine List.pairwise_append.mpr ⟨p2, List.pairwise_singleton _ _, fun a ha b hb => ?_⟩
        rw [List.mem_singleton.mp hb]
        have := p3 a ha
        omega
      · intro c m
        rcases List.mem_append.mp m with m | m
        · exact up c m
        · rw [List.mem_singleton.mp m, List.length_append]
          simp only [List.length_cons, List.length_nil]
          omega)
  refine ⟨o', cs, ?_, q3, q5, fun c m => by have := q6 c m; rw [rangeL_len] at this; exact this⟩
  have hI : (iRng1M (aCons (eA (A1 oLen) (aCons (eVar 2) aNil)) aNil)) [some o, some (.int 6), some (.tup ts), none, none, none, none, none] = .ok (rangeL 0 ts.length) [some o, some (.int 6), some (.tup ts), none, none, none, none, none] := by
    have h1 : (aCons (eA (A1 oLen) (aCons (eVar 2) aNil)) aNil) [some o, some (.int 6), some (.tup ts), none, none, none, none, none] = .ok [.int (ts.length : Int)] [some o, some (.int 6), some (.tup ts), none, none, none, none, none] := rfl
    rw [ap_iRng1M, h1, Out.bind_ok, rng1_len hl]
    rfl
  rw [ap_eA, ap_aCons, ap_eLc, hI, Out.bind_ok]
  have q1' : lcGo [4] (gSet 4) (mTest (e2 oEq (eCallO d_law_below 0 (aCons (eC (.int 3)) aNil)) (eC (.int 0)))) (eVar 4) (rangeL 0 ts.length) [] (wipeE [some o, some (.int 6), some (.tup ts), none, none, none, none, none] [4]) = _ := q1
  rw [q1', Out.bind_ok, Out.bind_ok, ap_aNil, Out.bind_ok, Out.bind_ok, q2, q4]
  rfl
/-- the reminders -/
theorem parts_loop {o T C : D} {L n : Int} {ts : List D} (hT : T = .tup ts) (hn : (ts.length : Int) = n) (hn1 : 1 ≤ n) (hn2 : n ≤ 6) (hL : 1 ≤ L) (hL2 : L ≤ 24) (ho : Rnd o) :
    ∃ (o' : D) (rs : List (Int × Int)) (k r : Option D), (sFor (iRng1M (aCons (eCallO d_law_below 0 (aCons (e2 oIx (eLst (aCons (eC (.int 1)) (aCons (eC (.int 4)) (aCons (eC (.int 11)) aNil)))) (eCallO d_law_below 0 (aCons (eC (.int 3)) aNil))) aNil)) aNil)) (gSet 4) (sSeq (sAsg (eTup (aCons (eCallO d_law_below 0 (aCons (eVar 5) aNil)) (aCons (eCallO d_law_below 0 (aCons (eA (A1 oLen) (aCons (eVar 2) aNil)) aNil)) aNil))) (gSet 7))
  (sIf (mTest (e2 oNotIn (eVar 7) (eVar 6))) (sApp 6 (eVar 7)) sNext))) [some o, some (.int 6), some T, some C, none, some (.int L), some (.lst []), none] = .next [some o', some (.int 6), some T, some C, k, some (.int L), some (.lst (rs.map pairD)), r] ∧ Rnd o' ∧ rs.length ≤ 10 ∧ rs.Nodup ∧ ∀ p ∈ rs, (0 ≤ p.1 ∧ p.1 < L) ∧ 0 ≤ p.2 ∧ p.2 < n := by
  subst hT
  obtain ⟨m, o1, l, e1, hl, a1, b1, ho1⟩ := callO_ix (env := [some o, some (.int 6), some (.tup ts), some C, none, some (.int L), some (.lst []), none]) (E0 := eLst (aCons (eC (.int 1)) (aCons (eC (.int 4)) (aCons (eC (.int 11)) aNil)))) (lits := [1, 4, 11]) (k := 3) rfl ho rfl rfl (by decide) (by decide) (by decide) (by simp)
  have hl2 : l ≤ 11 := by
    simp only [List.mem_cons, List.not_mem_nil, or_false] at hl
    omega
  obtain ⟨env', q1, o', rs, k, r, q2, q3, q4, q5, q6⟩ := forGo_at (g := gSet 4) (b := sSeq (sAsg (eTup (aCons (eCallO d_law_below 0 (aCons (eVar 5) aNil)) (aCons (eCallO d_law_below 0 (aCons (eA (A1 oLen) (aCons (eVar 2) aNil)) aNil)) aNil))) (gSet 7))
      (sIf (mTest (e2 oNotIn (eVar 7) (eVar 6))) (sApp 6 (eVar 7)) sNext)) (total := rangeL 0 m.toNat)
    (fun done env => ∃ (o' : D) (rs : List (Int × Int)) (k r : Option D), env = [some o', some (.int 6), some (.tup ts), some C, k, some (.int L), some (.lst (rs.map pairD)), r] ∧ Rnd o' ∧ rs.length ≤ done.length ∧ rs.Nodup ∧ ∀ p ∈ rs, (0 ≤ p.1 ∧ p.1 < L) ∧ 0 ≤ p.2 ∧ p.2 < n)
    (ds := rangeL 0 m.toNat) (done := []) (env := [some o1, some (.int 6), some (.tup ts), some C, none, some (.int L), some (.lst []), none]) rfl ⟨o1, [], none, none, rfl, ho1, Nat.le_refl _, List.nodup_nil, fun p m => (by cases m)⟩ (by
      rintro done d rest env ht ⟨o', rs, k, r, rfl, p1, p2, p3, p4⟩
      have hdl : done.length < m.toNat := (rangeL_at ht).2
      obtain ⟨x, o2, f1, f2, f3, ho2⟩ := callO_below (env := [some o', some (.int 6), some (.tup ts), some C, some d, some (.int L), some (.lst (rs.map pairD)), r]) (b := eVar 5) (j := 0) rfl rfl rfl p1 (by omega) (by omega)
      obtain ⟨y, o3, g1, g2, g3, ho3⟩ := callO_below (env := [some o2, some (.int 6), some (.tup ts), some C, some d, some (.int L), some (.lst (rs.map pairD)), r]) (b := eA (A1 oLen) (aCons (eVar 2) aNil)) (j := 0) (lim := n) (env1 := [some o2, some (.int 6), some (.tup ts), some C, some d, some (.int L), some (.lst (rs.map pairD)), r]) rfl (by
        simp only [ap_eA, ap_aCons, ap_eVar, List.getElem?_cons_succ, List.getElem?_cons_zero, Out.bind_ok, ap_aNil, ap_A1, oLen_tup, Out.opt_some, hn]) rfl ho2 (by omega) (by omega)
      refine ⟨_, rfl, ?_⟩
      have hs : (sAsg (eTup (aCons (eCallO d_law_below 0 (aCons (eVar 5) aNil)) (aCons (eCallO d_law_below 0 (aCons (eA (A1 oLen) (aCons (eVar 2) aNil)) aNil)) aNil))) (gSet 7)) [some o', some (.int 6), some (.tup ts), some C, some d, some (.int L), some (.lst (rs.map pairD)), r] = .next [some o3, some (.int 6), some (.tup ts), some C, some d, some (.int L), some (.lst (rs.map pairD)), some (pairD (x, y))] := by
        rw [ap_sAsg, ap_eTup, ap_aCons, f1]
        simp only [Out.bind_ok]
        rw [ap_aCons]
        have g1' : eCallO d_law_below 0 (aCons (eA (A1 oLen) (aCons (eVar 2) aNil)) aNil) (List.set [some o', some (.int 6), some (.tup ts), some C, some d, some (.int L), some (.lst (rs.map pairD)), r] 0 (some o2)) = _ := g1
        rw [g1']
        simp only [Out.bind_ok, ap_aNil]
        rw [if_pos (by show 2 ≤ 100000; decide)]
        rfl
      have ht2 : (mTest (e2 oNotIn (eVar 7) (eVar 6))) [some o3, some (.int 6), some (.tup ts), some C, some d, some (.int L), some (.lst (rs.map pairD)), some (pairD (x, y))] = .ok (!decide ((x, y) ∈ rs)) [some o3, some (.int 6), some (.tup ts), some C, some d, some (.int L), some (.lst (rs.map pairD)), some (pairD (x, y))] := by
        simp only [ap_mTest, ap_e2, ap_eVar, List.getElem?_cons_succ, List.getElem?_cons_zero, Out.bind_ok, notIn_pairs, Out.opt_some, dd_boo]
      by_cases c : (x, y) ∈ rs
      · refine ⟨_, .inl ?_, o3, rs, some d, some (pairD (x, y)), rfl, ho3, by rw [List.length_append]; omega, p3, p4⟩
        show sSeq _ _ [some o', some (.int 6), some (.tup ts), some C, some d, some (.int L), some (.lst (rs.map pairD)), r] = _
        rw [ap_sSeq, hs, Fl.bind_next, ap_sIf, ht2, decide_eq_true c]
        rfl
      · refine ⟨_, .inl ?_, o3, rs ++ [(x, y)], some d, some (pairD (x, y)), rfl, ho3, by rw [List.length_append, List.length_append]; simpa using p2, ?_, ?_⟩
        · show sSeq _ _ [some o', some (.int 6), some (.tup ts), some C, some d, some (.int L), some (.lst (rs.map pairD)), r] = _
          rw [ap_sSeq, hs, Fl.bind_next, ap_sIf, ht2, decide_eq_false c]
          simp only [Bool.not_false, Out.fl_ok, if_true]
          rw [ap_sApp]
          simp only [List.getElem?_cons_succ, List.getElem?_cons_zero, ap_eVar, Out.fl_ok]
          rw [if_pos (by rw [List.length_map]; omega), List.map_append]
          rfl
        · refine List.nodup_append.mpr ⟨p3, by simp, fun a ha b hb e => c ?_⟩
          rw [List.mem_singleton.mp hb] at e
          exact e ▸ ha
        · intro p hp
          rcases List.mem_append.mp hp with hp | hp
          · exact p4 p hp
          · rw [List.mem_singleton.mp hp]
            exact ⟨⟨f2, f3⟩, g2, g3⟩)
  refine ⟨o', rs, k, r, ?_, q3, by rw [rangeL_len] at q4; omega, q5, q6⟩
  rw [ap_sFor, ap_iRng1M, ap_aCons, e1]
  simp only [Out.bind_ok, ap_aNil]
  rw [rng1_at (by omega) (by omega)]
  simp only [Out.opt_some, Out.fl_ok]
  have q1' : forGo (gSet 4) _ (rangeL 0 m.toNat) (List.set [some o, some (.int 6), some (.tup ts), some C, none, some (.int L), some (.lst []), none] 0 (some o1)) = _ := q1
  rw [q1', q2]
end K14
/-! M14e -/
namespace K14
open PySem PySem.Spec PyProof.Rows L2 Mir
theorem parts_spec {o : D} (ho : Rnd o) : ∃ (p : Pt) (o' : D), d_law_parts o [.int 6] = .ok p.D o' ∧ p.Ok ∧ Rnd o' := by
  obtain ⟨o1, ts, e1, ho1, t1, t6, ht⟩ := parts_tables ho
  obtain ⟨o2, cs, e2', ho2, c1, c2⟩ := parts_careful (T := .tup (ts.map .str)) rfl ho1 (by rw [List.length_map]; omega)
  obtain ⟨L, l1, l2, l3, l4, l5⟩ := length_spec ht (by omega)
  obtain ⟨o3, rs, k, r, e3, ho3, r1, r2, r3⟩ := parts_loop (o := o2) (T := .tup (ts.map .str)) (C := .tup (cs.map .int)) (L := L) (n := ts.length) rfl (by rw [List.length_map]) (by omega) (by omega) l2 l3 ho2
  obtain ⟨ky, o4, l, e4, hl, k1, k2, ho4⟩ := callO_ix (env := [some o3, some (.int 6), some (.tup (ts.map .str)), some (.tup (cs.map .int)), k, some (.int L), some (.lst (rs.map pairD)), r]) (E0 := eLst (aCons (eC (.int 3)) (aCons (eC (.int 10)) aNil))) (lits := [3, 10]) (k := 2) rfl ho3 rfl rfl (by decide) (by decide) (by decide) (by simp)
  have hl2 : l ≤ 10 := by
    simp only [List.mem_cons, List.not_mem_nil, or_false] at hl
    omega
  refine ⟨⟨ts, ky, cs, sortP rs⟩, o4, ?_, ⟨t1, t6, ht, k1, by show ky ≤ 9; omega, c1, fun c m => by have := c2 c m; rw [List.length_map] at this; exact this, by show (sortP rs).length ≤ 10; rw [(sortP_perm rs).length_eq]; exact r1, sortP_lt r2, fun p m => ?_⟩, ho4⟩
  · refine runF0_ret (e := [some o4, some (.int 6), some (.tup (ts.map .str)), some (.tup (cs.map .int)), k, some (.int L), some (.lst (rs.map pairD)), r]) ?_ rfl rfl
    show b_law_parts [some o, some (.int 6), none, none, none, none, none, none] = _
    unfold b_law_parts
    have s1 : (sAsg (eA (A1 oTuple) (aCons (eLc [4] (iRng1M (aCons (e2 oAdd (eC (.int 1)) (eCallO d_law_below 0 (aCons (eVar 1) aNil))) aNil)) (gSet 4) mYes (eCallO d_law_table 0 aNil)) aNil)) (gSet 2)) [some o, some (.int 6), none, none, none, none, none, none] = .next [some o1, some (.int 6), some (.tup (ts.map .str)), none, none, none, none, none] := by
      rw [ap_sAsg, e1, Out.fl_ok]; rfl
    rw [ap_sSeq, s1, Fl.bind_next]
    have s2 : (sAsg (eA (A1 oTuple) (aCons (eLc [4] (iRng1M (aCons (eA (A1 oLen) (aCons (eVar 2) aNil)) aNil)) (gSet 4) (mTest (e2 oEq (eCallO d_law_below 0 (aCons (eC (.int 3)) aNil)) (eC (.int 0)))) (eVar 4)) aNil)) (gSet 3)) [some o1, some (.int 6), some (.tup (ts.map .str)), none, none, none, none, none] = .next [some o2, some (.int 6), some (.tup (ts.map .str)), some (.tup (cs.map .int)), none, none, none, none] := by
      rw [ap_sAsg, e2', Out.fl_ok]; rfl
    rw [ap_sSeq, s2, Fl.bind_next]
    have s3 : (sParO 5 (eCall d_law_length [] (aCons (eVar 2) aNil)) 6 (eLst aNil)) [some o2, some (.int 6), some (.tup (ts.map .str)), some (.tup (cs.map .int)), none, none, none, none] = .next [some o2, some (.int 6), some (.tup (ts.map .str)), some (.tup (cs.map .int)), none, some (.int L), some (.lst []), none] := by
      rw [ap_sParO, ap_eCall]
      have : (aCons (eVar 2) aNil) [some o2, some (.int 6), some (.tup (ts.map .str)), some (.tup (cs.map .int)), none, none, none, none] = .ok [.tup (ts.map .str)] [some o2, some (.int 6), some (.tup (ts.map .str)), some (.tup (cs.map .int)), none, none, none, none] := rfl
      rw [this, Out.bind_ok]
      rw [show ([D.tup (ts.map .str)] ++ [] : List D) = [D.tup (ts.map .str)] from rfl, l1]
      rfl
    rw [ap_sSeq, s3, Fl.bind_next, ap_sSeq, e3, Fl.bind_next, ap_sRet, ap_eTup, ap_aCons]
    have s4 : (aCons (eCallO d_law_below 0 (aCons (e2 oIx (eLst (aCons (eC (.int 3)) (aCons (eC (.int 10)) aNil))) (eCallO d_law_below 0 (aCons (eC (.int 2)) aNil))) aNil)) (aCons (eVar 3) (aCons (eUp (eA (A1 oTuple) (aCons (eA (A1 oSort) (aCons (eVar 6) aNil)) aNil))) aNil))) [some o3, some (.int 6), some (.tup (ts.map .str)), some (.tup (cs.map .int)), k, some (.int L), some (.lst (rs.map pairD)), r] = .ok [.int ky, .tup (cs.map .int), .tup ((sortP rs).map pairD)] [some o4, some (.int 6), some (.tup (ts.map .str)), some (.tup (cs.map .int)), k, some (.int L), some (.lst (rs.map pairD)), r] := by
      rw [ap_aCons, e4, Out.bind_ok, ap_aCons]
      have s5 : (aCons (eUp (eA (A1 oTuple) (aCons (eA (A1 oSort) (aCons (eVar 6) aNil)) aNil))) aNil) (List.set [some o3, some (.int 6), some (.tup (ts.map .str)), some (.tup (cs.map .int)), k, some (.int L), some (.lst (rs.map pairD)), r] 0 (some o4)) = .ok [.tup ((sortP rs).map pairD)] [some o4, some (.int 6), some (.tup (ts.map .str)), some (.tup (cs.map .int)), k, some (.int L), some (.lst (rs.map pairD)), r] := by
        have s6 : (eA (A1 oSort) (aCons (eVar 6) aNil)) (List.set [some o3, some (.int 6), some (.tup (ts.map .str)), some (.tup (cs.map .int)), k, some (.int L), some (.lst (rs.map pairD)), r] 0 (some o4)) = .ok (.lst ((sortP rs).map pairD)) [some o4, some (.int 6), some (.tup (ts.map .str)), some (.tup (cs.map .int)), k, some (.int L), some (.lst (rs.map pairD)), r] := by
          show Out.opt (oSort (.lst (rs.map pairD))) _ = _
          rw [oSort_pairs]; rfl
        rw [ap_aCons, ap_eUp, ap_eA, ap_aCons, s6, Out.bind_ok, ap_aNil, Out.bind_ok, Out.bind_ok, ap_A1, oTuple_lst, Out.opt_some, Out.bind_ok, dp_tup, dp_pairs]
        rfl
      have s7 : eVar 3 (List.set [some o3, some (.int 6), some (.tup (ts.map .str)), some (.tup (cs.map .int)), k, some (.int L), some (.lst (rs.map pairD)), r] 0 (some o4)) = .ok (.tup (cs.map .int)) (List.set [some o3, some (.int 6), some (.tup (ts.map .str)), some (.tup (cs.map .int)), k, some (.int L), some (.lst (rs.map pairD)), r] 0 (some o4)) := rfl
      rw [s7, Out.bind_ok, s5]
      rfl
    have s8 : eVar 2 [some o3, some (.int 6), some (.tup (ts.map .str)), some (.tup (cs.map .int)), k, some (.int L), some (.lst (rs.map pairD)), r] = .ok (.tup (ts.map .str)) [some o3, some (.int 6), some (.tup (ts.map .str)), some (.tup (cs.map .int)), k, some (.int L), some (.lst (rs.map pairD)), r] := rfl
    rw [s8, Out.bind_ok, s4, Out.bind_ok, Out.bind_ok, if_pos (by show 4 ≤ 100000; decide)]
    rfl
  · have hm := (sortP_perm rs).mem_iff.mp m
    obtain ⟨⟨q1, q2⟩, q3, q4⟩ := r3 p hm
    exact ⟨q1, fun M m1 m2 => by have := l5 M m1 m2; omega, q3, q4⟩
/-! ### what House accepts -/
theorem is_int_in_spec (v lo hi : Int) : d_is_int_in [.int v, .int lo, .int hi] = .ok (.bl (decide (lo ≤ v) && decide (v ≤ hi))) := by
  refine runF_ret (e := [some (.int v), some (.int lo), some (.int hi)]) ?_ rfl
  show b_is_int_in [some (.int v), some (.int lo), some (.int hi)] = _
  unfold b_is_int_in
  have h1 : oIsi "int" (.int v) = some (.bl true) := by
    show (Option.some "int").bind _ = _
    rfl
  have h2 : oIsi "bool" (.int v) = some (.bl false) := by
    show (Option.some "int").bind _ = _
    rfl
  simp only [ap_sRet, ap_eAndV, ap_e1, ap_eVar, List.getElem?_cons_zero, List.getElem?_cons_succ, Out.bind_ok, h1, h2, Out.opt_some, dd_boo, if_true, ap_eNotV, Bool.not_false, ap_eChain, oLeI_int, Option.bind_some]
  cases decide (lo ≤ v) <;> rfl
theorem inT_signs {c : Nat} (h : c = 104 ∨ c = 111) : oIn (.str ⟨#[c]⟩) (.tup [.str "h", .str "o"]) = some (.bl true) := by
  rcases h with rfl | rfl <;> kernel_rfl
theorem inT_d24 {n : Int} (h : n ∈ D24) : oNotIn (.int n) c_LENGTHS = some (.bl false) := by
  simp only [D24, List.mem_cons, List.not_mem_nil, or_false] at h
  rcases h with rfl | rfl | rfl | rfl | rfl | rfl | rfl | rfl <;> rfl
theorem is_table_spec {z : Str} (h : Tab z) : d_is_table [.str z] = .ok (.bl true) := by
  refine runF_ret (e := [some (.str z), none]) ?_ rfl
  show b_is_table [some (.str z), none] = _
  unfold b_is_table
  have h1 : oIsi "str" (.str z) = some (.bl true) := rfl
  have hlc := lcGo_map (vs := [1]) (g := gSet 1) (c := mYes) (e := e2 oIn (eVar 1) (eTup (aCons (eC c_HOME) (aCons (eC c_OUT) aNil)))) (fun _ => .bl true) (w := [some (.str z), none]) (ds := z.cps.toList.map fun c => .str ⟨#[c]⟩) (by rw [List.length_map]; exact Nat.le_trans (show z.cps.toList.length ≤ 24 by rw [Array.length_toList]; exact h.le) (by decide)) (by
    intro d m
    obtain ⟨c, hc, rfl⟩ := List.mem_map.mp m
    refine ⟨_, rfl, _, rfl, [some (.str z), some (.str ⟨#[c]⟩)], ?_, rfl⟩
    have : (eTup (aCons (eC c_HOME) (aCons (eC c_OUT) aNil))) [some (.str z), some (.str ⟨#[c]⟩)] = .ok (.tup [.str "h", .str "o"]) [some (.str z), some (.str ⟨#[c]⟩)] := rfl
    show ((eVar 1) [some (.str z), some (.str ⟨#[c]⟩)]).bind _ = _
    rw [show (eVar 1) [some (.str z), some (.str ⟨#[c]⟩)] = .ok (.str ⟨#[c]⟩) [some (.str z), some (.str ⟨#[c]⟩)] from rfl, Out.bind_ok, this, Out.bind_ok, inT_signs (h.s c hc)]
    rfl)
  have hall : oAll (.lst ((z.cps.toList.map fun c => D.str ⟨#[c]⟩).map fun _ => D.bl true)) = some (.bl true) := by
    have e : (z.cps.toList.map fun c => D.str ⟨#[c]⟩).map (fun _ => D.bl true) = (z.cps.toList.map fun _ => true).map D.bl := by rw [List.map_map, List.map_map]; rfl
    rw [e]
    show (blsOf _).map _ = _
    rw [blsOf_map]
    simp
  have ht : (mOr (mNot (mTest (e1 (oIsi "str") (eVar 0)))) (mTest (e2 oNotIn (eA (A1 oLen) (aCons (eVar 0) aNil)) (eC c_LENGTHS)))) [some (.str z), none] = .ok false [some (.str z), none] := by
    simp only [ap_mOr, ap_mNot, ap_mTest, ap_e1, ap_eVar, List.getElem?_cons_zero, Out.bind_ok, h1, Out.opt_some, dd_boo, Bool.not_true, Bool.false_eq_true, if_false, ap_e2, ap_eA, ap_aCons, ap_aNil, ap_A1, oLen_str z (by have := h.le; omega), ap_eC, inT_d24 h.l]
  rw [ap_sSeq, ap_sIf, ht]
  simp only [Out.fl_ok, Bool.false_eq_true, if_false, ap_sNext, Fl.bind_next]
  rw [ap_sRet, ap_eA, ap_aCons, ap_eLc, ap_iSeqM]
  rw [show (eVar 0) [some (.str z), none] = .ok (.str z) [some (.str z), none] from rfl, Out.bind_ok, dd_itS, Out.opt_some, Out.bind_ok]
  have hlc' : lcGo [1] (gSet 1) mYes (e2 oIn (eVar 1) (eTup (aCons (eC c_HOME) (aCons (eC c_OUT) aNil)))) (z.cps.toList.map fun c => .str ⟨#[c]⟩) [] (wipeE [some (.str z), none] [1]) = _ := hlc
  rw [hlc', Out.bind_ok, Out.bind_ok, ap_aNil, Out.bind_ok, Out.bind_ok, ap_A1, hall]
  rfl
end K14
/-! M14f -/
namespace K14
open PySem PySem.Spec PyProof.Rows L2 Mir
theorem le_pair (a b : Int × Int) : oLe (pairD a) (pairD b) = some (.bl (leB a b)) := by
  have e : leInts [a.1, a.2] [b.1, b.2] = leB a b := by
    rw [Bool.eq_iff_iff, leB_iff]
    unfold leInts
    simp only [List.length_cons, List.length_nil, Ob.lexAt, List.getD_cons_zero, List.getD_cons_succ]
    by_cases h1 : a.1 = b.1
    · by_cases h2 : a.2 = b.2
      · simp [Ob.lexAt, h1, h2]
      · simp [Ob.lexAt, h1, h2]
    · simp [Ob.lexAt, h1]; omega
  unfold oLe Mir.pairD
  dsimp only
  rw [show intsOf [D.int a.1, .int a.2] = some [a.1, a.2] from rfl, Option.bind_some, show intsOf [D.int b.1, .int b.2] = some [b.1, b.2] from rfl, Option.bind_some, e]
theorem leB_false {a b : Int × Int} (h : ltP2 b a) : leB a b = false := by
  rw [Bool.eq_false_iff]
  intro z
  rw [leB_iff] at z
  unfold ltP2 at h
  omega
theorem isiT (ds : List D) : oIsi "tuple" (.tup ds) = some (.bl true) := rfl
theorem call_iii {env e1 : Mir.Env} {ar : AM} {v lo hi : Int} (h : ar env = .ok [.int v, .int lo, .int hi] e1) : eCall d_is_int_in [] ar env = .ok (.bl (decide (lo ≤ v) && decide (v ≤ hi))) e1 := by
  rw [ap_eCall, h, Out.bind_ok, List.append_nil, is_int_in_spec]
  rfl
theorem pw_at {cs : List Int} (h : cs.Pairwise (· < ·)) {i : Nat} {a b : Int} (h1 : cs[i]? = some a) (h2 : cs[i + 1]? = some b) : a < b := by
  obtain ⟨l1, e1⟩ := List.getElem?_eq_some_iff.mp h1
  obtain ⟨l2, e2⟩ := List.getElem?_eq_some_iff.mp h2
  have := List.pairwise_iff_getElem.mp h i (i + 1) l1 l2 (Nat.lt_succ_self i)
  rw [e1, e2] at this
  exact this
theorem pw_atP {cs : List (Int × Int)} (h : cs.Pairwise ltP2) {i : Nat} {a b : Int × Int} (h1 : cs[i]? = some a) (h2 : cs[i + 1]? = some b) : ltP2 a b := by
  obtain ⟨l1, e1⟩ := List.getElem?_eq_some_iff.mp h1
  obtain ⟨l2, e2⟩ := List.getElem?_eq_some_iff.mp h2
  have := List.pairwise_iff_getElem.mp h i (i + 1) l1 l2 (Nat.lt_succ_self i)
  rw [e1, e2] at this
  exact this
theorem check_persons_spec {part : D} {cs : List Int} {n : Int} (h1 : cs.Pairwise (· < ·)) (h2 : ∀ c ∈ cs, 0 ≤ c ∧ c < n) : d_check_persons [part, .tup (cs.map .int), .int n] = .ok .non := by
  obtain ⟨env', q1, a, b, q2⟩ := forGo_at (g := gTupleM [(gSet 3), (gSet 4)]) (b := sIf (mOr (mNot (mTest (eCall d_is_int_in [] (aCons (eVar 4) (aCons (eC (.int 0)) (aCons (e2 oSub (eVar 2) (eC (.int 1))) aNil)))))) (mAnd (mTest (e2 oGtI (eVar 3) (eC (.int 0)))) (mTest (e2 oLe (eVar 4) (e2 oIx (eVar 1) (e2 oSub (eVar 3) (eC (.int 1)))))))) sBad sNext)
    (total := enumL 0 (cs.map .int)) (fun done env => ∃ a b : Option D, env = [some part, some (.tup (cs.map .int)), some (.int n), a, b]) (ds := enumL 0 (cs.map .int)) (done := []) (env := [some part, some (.tup (cs.map .int)), some (.int n), none, none]) rfl ⟨none, none, rfl⟩ (by
      rintro done d rest env ht ⟨a, b, rfl⟩
      obtain ⟨x, hx, rfl⟩ := enumL_at ht
      obtain ⟨c, hc, rfl⟩ : ∃ c, cs[done.length]? = some c ∧ x = .int c := by
        rw [List.getElem?_map] at hx
        cases q : cs[done.length]? with
        | none => rw [q] at hx; cases hx
        | some c => rw [q] at hx; cases hx; exact ⟨c, rfl, rfl⟩
      have hm := h2 c (List.mem_of_getElem? hc)
      refine ⟨[some part, some (.tup (cs.map .int)), some (.int n), some (.int done.length), some (.int c)], rfl, _, .inl ?_, some (.int done.length), some (.int c), rfl⟩
      have t1 : (mTest (eCall d_is_int_in [] (aCons (eVar 4) (aCons (eC (.int 0)) (aCons (e2 oSub (eVar 2) (eC (.int 1))) aNil))))) [some part, some (.tup (cs.map .int)), some (.int n), some (.int done.length), some (.int c)] = .ok true [some part, some (.tup (cs.map .int)), some (.int n), some (.int done.length), some (.int c)] := by
        have hA : (aCons (eVar 4) (aCons (eC (.int 0)) (aCons (e2 oSub (eVar 2) (eC (.int 1))) aNil))) [some part, some (.tup (cs.map .int)), some (.int n), some (.int done.length), some (.int c)] = .ok [.int c, .int 0, .int (n - 1)] [some part, some (.tup (cs.map .int)), some (.int n), some (.int done.length), some (.int c)] := rfl
        rw [ap_mTest, call_iii hA, decide_eq_true hm.1, decide_eq_true (show c ≤ n - 1 by omega)]
        rfl
      have t2 : (mAnd (mTest (e2 oGtI (eVar 3) (eC (.int 0)))) (mTest (e2 oLe (eVar 4) (e2 oIx (eVar 1) (e2 oSub (eVar 3) (eC (.int 1))))))) [some part, some (.tup (cs.map .int)), some (.int n), some (.int done.length), some (.int c)] = .ok false [some part, some (.tup (cs.map .int)), some (.int n), some (.int done.length), some (.int c)] := by
        have t3 : (mTest (e2 oGtI (eVar 3) (eC (.int 0)))) [some part, some (.tup (cs.map .int)), some (.int n), some (.int done.length), some (.int c)] = .ok (decide ((0 : Int) < done.length)) [some part, some (.tup (cs.map .int)), some (.int n), some (.int done.length), some (.int c)] := rfl
        rw [ap_mAnd, t3, Out.bind_ok]
        by_cases z : (0 : Int) < done.length
        · rw [decide_eq_true z, if_pos rfl]
          obtain ⟨j, hj⟩ : ∃ j, done.length = j + 1 := ⟨done.length - 1, by omega⟩
          rw [hj] at hc
          obtain ⟨c0, hc0⟩ : ∃ c0, cs[j]? = some c0 := by
            have := (List.getElem?_eq_some_iff.mp hc).1
            exact ⟨cs[j], List.getElem?_eq_getElem (by omega)⟩
          have hlt := pw_at h1 hc0 hc
          have t4 : (e2 oIx (eVar 1) (e2 oSub (eVar 3) (eC (.int 1)))) [some part, some (.tup (cs.map .int)), some (.int n), some (.int done.length), some (.int c)] = .ok (.int c0) [some part, some (.tup (cs.map .int)), some (.int n), some (.int done.length), some (.int c)] := by
            show Out.opt (atI (cs.map D.int) ((done.length : Int) - 1)) _ = _
            rw [atI_at (j := j) (v := .int c0) (by rw [List.getElem?_map, hc0]; rfl) (by omega)]
            rfl
          rw [ap_mTest, ap_e2, show (eVar 4) [some part, some (.tup (cs.map .int)), some (.int n), some (.int done.length), some (.int c)] = .ok (.int c) [some part, some (.tup (cs.map .int)), some (.int n), some (.int done.length), some (.int c)] from rfl, Out.bind_ok, t4, Out.bind_ok, oLe_int, decide_eq_false (by omega)]
          rfl
        · rw [decide_eq_false z]
          rfl
      rw [ap_sIf, ap_mOr, ap_mNot, t1]
      simp only [Out.bind_ok, Bool.not_true, Bool.false_eq_true, if_false]
      rw [t2]
      rfl)
  refine runF_next (e := env') ?_ rfl
  show b_check_persons [some part, some (.tup (cs.map .int)), some (.int n), none, none] = _
  unfold b_check_persons
  have t0 : (mNot (mTest (e1 (oIsi "tuple") (eVar 1)))) [some part, some (.tup (cs.map .int)), some (.int n), none, none] = .ok false [some part, some (.tup (cs.map .int)), some (.int n), none, none] := rfl
  rw [ap_sSeq, ap_sIf, t0, Out.fl_ok]
  simp only [Bool.false_eq_true, if_false, ap_sNext, Fl.bind_next]
  rw [ap_sFor, ap_iEnumT, show (eVar 1) [some part, some (.tup (cs.map .int)), some (.int n), none, none] = .ok (.tup (cs.map .int)) [some part, some (.tup (cs.map .int)), some (.int n), none, none] from rfl, Out.bind_ok, dd_isT, Out.opt_some, Out.bind_ok, Out.fl_ok]
  exact q1
theorem is_reminder_spec {r : Int × Int} {M n : Int} (h1 : 0 ≤ r.1) (h2 : r.1 < M) (h3 : 0 ≤ r.2) (h4 : r.2 < n) : d_is_reminder [pairD r, .int M, .int n] = .ok (.bl true) := by
  refine runF_ret (e := [some (pairD r), some (.int M), some (.int n)]) ?_ rfl
  show b_is_reminder [some (pairD r), some (.int M), some (.int n)] = _
  unfold b_is_reminder
  have t0 : (mOr (mNot (mTest (e1 (oIsi "tuple") (eVar 0)))) (mTest (e2 oNe (eA (A1 oLen) (aCons (eVar 0) aNil)) (eC (.int 2))))) [some (pairD r), some (.int M), some (.int n)] = .ok false [some (pairD r), some (.int M), some (.int n)] := by
    have x1 : oIsi "tuple" (pairD r) = some (.bl true) := rfl
    have x2 : oLen (pairD r) = some (.int 2) := rfl
    simp only [ap_mOr, ap_mNot, ap_mTest, ap_e1, ap_eVar, List.getElem?_cons_zero, Out.bind_ok, x1, Out.opt_some, dd_boo, Bool.not_true, Bool.false_eq_true, if_false, ap_e2, ap_eA, ap_aCons, ap_aNil, ap_A1, x2, ap_eC, oNe_int]
    rfl
  rw [ap_sSeq, ap_sIf, t0, Out.fl_ok]
  simp only [Bool.false_eq_true, if_false, ap_sNext, Fl.bind_next]
  have t1 : (eCall d_is_int_in [] (aCons (e2 oIx (eVar 0) (eC (.int 0))) (aCons (eC (.int 0)) (aCons (e2 oSub (eVar 1) (eC (.int 1))) aNil)))) [some (pairD r), some (.int M), some (.int n)] = .ok (.bl true) [some (pairD r), some (.int M), some (.int n)] := by
    have hA : (aCons (e2 oIx (eVar 0) (eC (.int 0))) (aCons (eC (.int 0)) (aCons (e2 oSub (eVar 1) (eC (.int 1))) aNil))) [some (pairD r), some (.int M), some (.int n)] = .ok [.int r.1, .int 0, .int (M - 1)] [some (pairD r), some (.int M), some (.int n)] := rfl
    rw [call_iii hA, decide_eq_true h1, decide_eq_true (show r.1 ≤ M - 1 by omega)]
    rfl
  have t2 : (eCall d_is_int_in [] (aCons (e2 oIx (eVar 0) (eC (.int 1))) (aCons (eC (.int 0)) (aCons (e2 oSub (eVar 2) (eC (.int 1))) aNil)))) [some (pairD r), some (.int M), some (.int n)] = .ok (.bl true) [some (pairD r), some (.int M), some (.int n)] := by
    have hA : (aCons (e2 oIx (eVar 0) (eC (.int 1))) (aCons (eC (.int 0)) (aCons (e2 oSub (eVar 2) (eC (.int 1))) aNil))) [some (pairD r), some (.int M), some (.int n)] = .ok [.int r.2, .int 0, .int (n - 1)] [some (pairD r), some (.int M), some (.int n)] := rfl
    rw [call_iii hA, decide_eq_true h3, decide_eq_true (show r.2 ≤ n - 1 by omega)]
    rfl
  rw [ap_sRet, ap_eAndV, t1, Out.bind_ok, dd_boo, Out.opt_some, Out.bind_ok, if_pos rfl, t2]
  rfl
end K14
/-! M14g -/
namespace K14
open PySem PySem.Spec PyProof.Rows L2 Mir
def Pt.env (p : Pt) (a b c d : Option Mir.D) : Mir.Env := [some (.ins 0 []), some (.tup (p.ts.map .str)), some (.int p.keys), some (.tup (p.cs.map .int)), some (.tup (p.rs.map pairD)), a, b, c, d]
theorem get_strs {ts : List Str} {i : Nat} {x : D} (h : (ts.map D.str)[i]? = some x) : ∃ z, ts[i]? = some z ∧ x = .str z := by
  rw [List.getElem?_map] at h
  cases q : ts[i]? with
  | none => rw [q] at h; cases h
  | some z => rw [q] at h; cases h; exact ⟨z, rfl, rfl⟩
theorem get_pairs {ts : List (Int × Int)} {i : Nat} {x : D} (h : (ts.map Mir.pairD)[i]? = some x) : ∃ z, ts[i]? = some z ∧ x = Mir.pairD z := by
  rw [List.getElem?_map] at h
  cases q : ts[i]? with
  | none => rw [q] at h; cases h
  | some z => rw [q] at h; cases h; exact ⟨z, rfl, rfl⟩
theorem init_tables {p : Pt} (h : p.Ok) : ∃ M i t, (sFor (Mir.iEnumT (eVar 1)) (gTupleM [(gSet 6), (gSet 7)]) (sSeq (sIf (mOr (mTest (e2 oEq (eVar 6) (eC c_MAX_PERSONS))) (mNot (mTest (eCall d_is_table [] (aCons (eVar 7) aNil))))) sBad sNext)
  (sAsg (eCall d_common_multiple [] (aCons (eVar 5) (aCons (eA (A1 oLen) (aCons (eVar 7) aNil)) aNil))) (gSet 5)))) (p.env (some (.int 1)) none none none) = .next (p.env (some (.int M)) i t none) ∧ M ∈ D24 ∧ Good p.ts M := by
  obtain ⟨env', q1, M, i, t, q2, q3, q4⟩ := forGo_at (g := gTupleM [(gSet 6), (gSet 7)]) (b := sSeq (sIf (mOr (mTest (e2 oEq (eVar 6) (eC c_MAX_PERSONS))) (mNot (mTest (eCall d_is_table [] (aCons (eVar 7) aNil))))) sBad sNext)
      (sAsg (eCall d_common_multiple [] (aCons (eVar 5) (aCons (eA (A1 oLen) (aCons (eVar 7) aNil)) aNil))) (gSet 5)))
    (total := enumL 0 (p.ts.map .str)) (fun done env => ∃ (M : Int) (i t : Option D), env = p.env (some (.int M)) i t none ∧ M ∈ D24 ∧ ∀ j z, j < done.length → p.ts[j]? = some z → (z.length : Int) ∣ M) (ds := enumL 0 (p.ts.map .str)) (done := []) (env := p.env (some (.int 1)) none none none) rfl
    ⟨1, none, none, rfl, by decide, fun j z hj => by cases hj⟩ (by
      rintro done d rest env ht ⟨M, i, t, rfl, m1, m2⟩
      obtain ⟨x, hx, rfl⟩ := enumL_at ht
      obtain ⟨z, hz, rfl⟩ := get_strs hx
      have hT := h.tt z (List.mem_of_getElem? hz)
      have hlt := (List.getElem?_eq_some_iff.mp hz).1
      have h6 := h.t6
      obtain ⟨m, c1, c2, c3, c4⟩ := cm_spec m1 hT.l
      refine ⟨p.env (some (.int M)) (some (.int done.length)) (some (.str z)) none, rfl, p.env (some (.int m)) (some (.int done.length)) (some (.str z)) none, .inl ?_, m, _, _, rfl, c2, fun j y hj hy => ?_⟩
      · have t1 : (mTest (e2 oEq (eVar 6) (eC c_MAX_PERSONS))) (p.env (some (.int M)) (some (.int done.length)) (some (.str z)) none) = .ok false (p.env (some (.int M)) (some (.int done.length)) (some (.str z)) none) := by
          have e : (e2 oEq (eVar 6) (eC c_MAX_PERSONS)) (p.env (some (.int M)) (some (.int done.length)) (some (.str z)) none) = Out.opt (oEq (.int done.length) (.int 6)) (p.env (some (.int M)) (some (.int done.length)) (some (.str z)) none) := rfl
          rw [ap_mTest, e, oEq_int, decide_eq_false (by omega)]
          rfl
        have t2 : (mTest (eCall d_is_table [] (aCons (eVar 7) aNil))) (p.env (some (.int M)) (some (.int done.length)) (some (.str z)) none) = .ok true (p.env (some (.int M)) (some (.int done.length)) (some (.str z)) none) := by
          have hA : (aCons (eVar 7) aNil) (p.env (some (.int M)) (some (.int done.length)) (some (.str z)) none) = .ok [.str z] (p.env (some (.int M)) (some (.int done.length)) (some (.str z)) none) := rfl
          rw [ap_mTest, ap_eCall, hA, Out.bind_ok, List.append_nil, is_table_spec hT]
          rfl
        have hA : (aCons (eVar 5) (aCons (eA (A1 oLen) (aCons (eVar 7) aNil)) aNil)) (p.env (some (.int M)) (some (.int done.length)) (some (.str z)) none) = .ok [.int M, .int z.length] (p.env (some (.int M)) (some (.int done.length)) (some (.str z)) none) := by
          have e : (eA (A1 oLen) (aCons (eVar 7) aNil)) (p.env (some (.int M)) (some (.int done.length)) (some (.str z)) none) = Out.opt (oLen (.str z)) (p.env (some (.int M)) (some (.int done.length)) (some (.str z)) none) := rfl
          rw [ap_aCons, show (eVar 5) (p.env (some (.int M)) (some (.int done.length)) (some (.str z)) none) = .ok (.int M) (p.env (some (.int M)) (some (.int done.length)) (some (.str z)) none) from rfl, Out.bind_ok, ap_aCons, e, oLen_str z (by have := hT.le; omega)]
          rfl
        rw [ap_sSeq, ap_sIf, ap_mOr, t1, Out.bind_ok]
        simp only [Bool.false_eq_true, if_false]
        rw [ap_mNot, t2, Out.bind_ok, Out.fl_ok]
        simp only [Bool.not_true, Bool.false_eq_true, if_false, ap_sNext, Fl.bind_next]
        rw [ap_sAsg, ap_eCall, hA, Out.bind_ok, List.append_nil, c1]
        rfl
      · rw [List.length_append] at hj
        simp only [List.length_cons, List.length_nil] at hj
        by_cases e : j = done.length
        · subst e
          rw [hz] at hy
          cases hy
          exact c4
        · exact Int.dvd_trans (m2 j y (by omega) hy) c3)
  refine ⟨M, i, t, ?_, q3, fun z m => ?_⟩
  · rw [ap_sFor, ap_iEnumT, show (eVar 1) (p.env (some (.int 1)) none none none) = .ok (.tup (p.ts.map .str)) (p.env (some (.int 1)) none none none) from rfl, Out.bind_ok, dd_isT, Out.opt_some, Out.bind_ok, Out.fl_ok, q1, q2]
  · obtain ⟨j, hj⟩ := List.mem_iff_getElem?.mp m
    refine q4 j z ?_ hj
    rw [enumL_len, List.length_map]
    exact (List.getElem?_eq_some_iff.mp hj).1
theorem init_reminders {p : Pt} (h : p.Ok) {M : Int} (hM : 1 ≤ M) (hG : Good p.ts M) {i0 t0 : Option D} : ∃ i r, (sFor (Mir.iEnumT (eVar 4)) (gTupleM [(gSet 6), (gSet 8)]) (sSeq (sIf (mOr (mTest (e2 oEq (eVar 6) (eC c_MAX_REMINDERS))) (mNot (mTest (eCall d_is_reminder [] (aCons (eVar 8) (aCons (eVar 5) (aCons (eA (A1 oLen) (aCons (eVar 1) aNil)) aNil))))))) sBad sNext)
  (sIf (mAnd (mTest (e2 oGtI (eVar 6) (eC (.int 0)))) (mTest (e2 oLe (eVar 8) (e2 oIx (eVar 4) (e2 oSub (eVar 6) (eC (.int 1))))))) sBad sNext))) (p.env (some (.int M)) i0 t0 none) = .next (p.env (some (.int M)) i t0 r) := by
  obtain ⟨env', q1, i, r, q2⟩ := forGo_at (g := gTupleM [(gSet 6), (gSet 8)]) (b := sSeq (sIf (mOr (mTest (e2 oEq (eVar 6) (eC c_MAX_REMINDERS))) (mNot (mTest (eCall d_is_reminder [] (aCons (eVar 8) (aCons (eVar 5) (aCons (eA (A1 oLen) (aCons (eVar 1) aNil)) aNil))))))) sBad sNext)
      (sIf (mAnd (mTest (e2 oGtI (eVar 6) (eC (.int 0)))) (mTest (e2 oLe (eVar 8) (e2 oIx (eVar 4) (e2 oSub (eVar 6) (eC (.int 1))))))) sBad sNext))
    (total := enumL 0 (p.rs.map pairD)) (fun done env => ∃ i r : Option D, env = p.env (some (.int M)) i t0 r) (ds := enumL 0 (p.rs.map pairD)) (done := []) (env := p.env (some (.int M)) i0 t0 none) rfl ⟨_, _, rfl⟩ (by
      rintro done d rest env ht ⟨i, r, rfl⟩
      obtain ⟨x, hx, rfl⟩ := enumL_at ht
      obtain ⟨z, hz, rfl⟩ := get_pairs hx
      have hR := h.rr z (List.mem_of_getElem? hz)
      have hlt := (List.getElem?_eq_some_iff.mp hz).1
      have h10 := h.rn
      generalize hE : p.env (some (.int M)) (some (.int done.length)) t0 (some (pairD z)) = e9
      refine ⟨e9, by rw [← hE]; rfl, e9, .inl ?_, _, _, hE.symm⟩
      have t1 : (mTest (e2 oEq (eVar 6) (eC c_MAX_REMINDERS))) e9 = .ok false e9 := by
        have e : (e2 oEq (eVar 6) (eC c_MAX_REMINDERS)) e9 = Out.opt (oEq (.int done.length) (.int 10)) e9 := by rw [← hE]; rfl
        rw [ap_mTest, e, oEq_int, decide_eq_false (by omega)]
        rfl
      have t2 : (mTest (eCall d_is_reminder [] (aCons (eVar 8) (aCons (eVar 5) (aCons (eA (A1 oLen) (aCons (eVar 1) aNil)) aNil))))) e9 = .ok true e9 := by
        have hA : (aCons (eVar 8) (aCons (eVar 5) (aCons (eA (A1 oLen) (aCons (eVar 1) aNil)) aNil))) e9 = .ok [pairD z, .int M, .int ((p.ts.map D.str).length : Nat)] e9 := by rw [← hE]; rfl
        rw [ap_mTest, ap_eCall, hA, Out.bind_ok, List.append_nil, is_reminder_spec hR.1 (hR.2.1 M hM hG) hR.2.2.1 (by rw [List.length_map]; exact hR.2.2.2)]
        rfl
      have t3 : (mAnd (mTest (e2 oGtI (eVar 6) (eC (.int 0)))) (mTest (e2 oLe (eVar 8) (e2 oIx (eVar 4) (e2 oSub (eVar 6) (eC (.int 1))))))) e9 = .ok false e9 := by
        have t3 : (mTest (e2 oGtI (eVar 6) (eC (.int 0)))) e9 = .ok (decide ((0 : Int) < done.length)) e9 := by rw [← hE]; rfl
        rw [ap_mAnd, t3, Out.bind_ok]
        by_cases c : (0 : Int) < done.length
        · rw [decide_eq_true c, if_pos rfl]
          obtain ⟨j, hj⟩ : ∃ j, done.length = j + 1 := ⟨done.length - 1, by omega⟩
          rw [hj] at hz
          obtain ⟨c0, hc0⟩ : ∃ c0, p.rs[j]? = some c0 := by
            have := (List.getElem?_eq_some_iff.mp hz).1
            exact ⟨p.rs[j], List.getElem?_eq_getElem (by omega)⟩
          have hlt := pw_atP h.rl hc0 hz
          have t4 : (e2 oIx (eVar 4) (e2 oSub (eVar 6) (eC (.int 1)))) e9 = .ok (pairD c0) e9 := by
            have e : (e2 oIx (eVar 4) (e2 oSub (eVar 6) (eC (.int 1)))) e9 = Out.opt (atI (p.rs.map Mir.pairD) ((done.length : Int) - 1)) e9 := by rw [← hE]; rfl
            rw [e, atI_at (j := j) (v := Mir.pairD c0) (by rw [List.getElem?_map, hc0]; rfl) (by omega)]
            rfl
          have t5 : (eVar 8) e9 = .ok (pairD z) e9 := by rw [← hE]; rfl
          rw [ap_mTest, ap_e2, t5, Out.bind_ok, t4, Out.bind_ok, le_pair, leB_false hlt]
          rfl
        · rw [decide_eq_false c]
          rfl
      rw [ap_sSeq, ap_sIf, ap_mOr, t1, Out.bind_ok]
      simp only [Bool.false_eq_true, if_false]
      rw [ap_mNot, t2, Out.bind_ok, Out.fl_ok]
      simp only [Bool.not_true, Bool.false_eq_true, if_false, ap_sNext, Fl.bind_next]
      rw [ap_sIf, t3]
      rfl)
  refine ⟨i, r, ?_⟩
  rw [ap_sFor, ap_iEnumT, show (eVar 4) (p.env (some (.int M)) i0 t0 none) = .ok (.tup (p.rs.map pairD)) (p.env (some (.int M)) i0 t0 none) from rfl, Out.bind_ok, dd_isT, Out.opt_some, Out.bind_ok, Out.fl_ok, q1, q2]
def Pt.H (p : Pt) (M : Int) : Mir.D := .ins 0 [.tup (p.ts.map .str), .int p.keys, .tup (p.cs.map .int), .tup (p.rs.map pairD), .int M]
theorem eqT_ne {ts : List Str} (h : ∀ z ∈ ts, signs z) (hn : 1 ≤ ts.length) : oEq (.tup (ts.map .str)) (.tup []) = some (.bl false) := by
  unfold oEq oEqB
  simp only [(fit_strs h).2, fit_nilT, Bool.and_self, if_true, Option.map_some]
  cases ts with
  | nil => simp at hn
  | cons z ts => simp [D.eqb, D.eqbL]
theorem init_spec {p : Pt} (h : p.Ok) : ∃ M, d_House__init_ (.ins 0 []) [.tup (p.ts.map .str), .int p.keys, .tup (p.cs.map .int), .tup (p.rs.map pairD)] = .ok .non (p.H M) ∧ M ∈ D24 ∧ Good p.ts M := by
  obtain ⟨M, i, t, eT, m1, m2⟩ := init_tables h
  obtain ⟨i2, r, e2'⟩ := init_reminders h (d24_range m1).1 m2 (i0 := i) (t0 := t)
  refine ⟨M, ?_, m1, m2⟩
  refine runF0_next (e := [some (p.H M), some (.tup (p.ts.map .str)), some (.int p.keys), some (.tup (p.cs.map .int)), some (.tup (p.rs.map pairD)), some (.int M), i2, t, r]) ?_ rfl rfl
  show b_House__init_ (p.env none none none none) = _
  unfold b_House__init_
  have s1 : (mOr (mNot (mTest (e1 (oIsi "tuple") (eVar 1)))) (mTest (e2 oEq (eVar 1) (eTup aNil)))) (p.env none none none none) = .ok false (p.env none none none none) := by
    have a1 : (mNot (mTest (e1 (oIsi "tuple") (eVar 1)))) (p.env none none none none) = .ok false (p.env none none none none) := rfl
    have a2 : (e2 oEq (eVar 1) (eTup aNil)) (p.env none none none none) = Out.opt (oEq (.tup (p.ts.map .str)) (.tup [])) (p.env none none none none) := rfl
    rw [ap_mOr, a1, Out.bind_ok]
    simp only [Bool.false_eq_true, if_false]
    rw [ap_mTest, a2, eqT_ne (fun z m => (h.tt z m).s) h.t0]
    rfl
  rw [ap_sSeq, ap_sIf, s1, Out.fl_ok]
  simp only [Bool.false_eq_true, if_false]
  rw [ap_sNext, Fl.bind_next]
  have s2 : (sAsg (eC (.int 1)) (gSet 5)) (p.env none none none none) = .next (p.env (some (.int 1)) none none none) := rfl
  rw [ap_sSeq, s2, Fl.bind_next, ap_sSeq, eT, Fl.bind_next]
  have s3 : (mNot (mTest (eCall d_is_int_in [] (aCons (eVar 2) (aCons (eC (.int 0)) (aCons (eC c_MAX_KEYS) aNil)))))) (p.env (some (.int M)) i t none) = .ok false (p.env (some (.int M)) i t none) := by
    have hA : (aCons (eVar 2) (aCons (eC (.int 0)) (aCons (eC c_MAX_KEYS) aNil))) (p.env (some (.int M)) i t none) = .ok [.int p.keys, .int 0, .int 9] (p.env (some (.int M)) i t none) := rfl
    rw [ap_mNot, ap_mTest, call_iii hA, decide_eq_true h.k0, decide_eq_true h.k9]
    rfl
  rw [ap_sSeq, ap_sIf, s3, Out.fl_ok]
  simp only [Bool.false_eq_true, if_false]
  rw [ap_sNext, Fl.bind_next]
  have s4 : (sDrop (eCall d_check_persons [] (aCons (eC (.str "careful")) (aCons (eVar 3) (aCons (eA (A1 oLen) (aCons (eVar 1) aNil)) aNil))))) (p.env (some (.int M)) i t none) = .next (p.env (some (.int M)) i t none) := by
    have hA : (aCons (eC (.str "careful")) (aCons (eVar 3) (aCons (eA (A1 oLen) (aCons (eVar 1) aNil)) aNil))) (p.env (some (.int M)) i t none) = .ok [.str "careful", .tup (p.cs.map .int), .int ((p.ts.map D.str).length : Nat)] (p.env (some (.int M)) i t none) := rfl
    rw [ap_sDrop, ap_eCall, hA, Out.bind_ok, List.append_nil, check_persons_spec h.cl (fun c m => by rw [List.length_map]; exact h.cr c m)]
    rfl
  rw [ap_sSeq, s4, Fl.bind_next]
  have s5 : (mNot (mTest (e1 (oIsi "tuple") (eVar 4)))) (p.env (some (.int M)) i t none) = .ok false (p.env (some (.int M)) i t none) := rfl
  rw [ap_sSeq, ap_sIf, s5, Out.fl_ok]
  simp only [Bool.false_eq_true, if_false]
  rw [ap_sNext, Fl.bind_next, ap_sSeq, e2', Fl.bind_next]
  rfl
end K14
/-! M14m -/
namespace K14
open PySem PySem.Spec PyProof.Rows L2 Mir
theorem cs_le {p : Pt} (h : p.Ok) : (p.cs.length : Int) ≤ p.ts.length := by
  have key : ∀ (cs : List Int) (lo hi : Int), cs.Pairwise (· < ·) → (∀ c ∈ cs, lo ≤ c ∧ c < hi) → lo ≤ hi → (cs.length : Int) ≤ hi - lo := by
    intro cs
    induction cs with
    | nil => intro lo hi _ _ h; simp; omega
    | cons c cs ih =>
      intro lo hi h1 h2 h3
      have hc := h2 c List.mem_cons_self
      have := ih (c + 1) hi (List.pairwise_cons.mp h1).2 (fun x m => ⟨by have := (List.pairwise_cons.mp h1).1 x m; omega, (h2 x (List.mem_cons_of_mem _ m)).2⟩) (by omega)
      rw [List.length_cons]
      omega
  have := key p.cs 0 p.ts.length h.cl h.cr (by omega)
  omega
/-! ### the text: it is there -/
theorem num_len : ∀ n : Fin 100, ((toString ((n.val : Nat) : Int) : String) : Str).length ≤ 3 := by decide +kernel
def num (i : Int) : Str := (toString i : String)
theorem num_le {i : Int} (h0 : 0 ≤ i) (h1 : i < 100) : (num i).length ≤ 3 := by
  have := num_len ⟨i.toNat, by omega⟩
  rw [show ((i.toNat : Nat) : Int) = i by omega] at this
  exact this
theorem oStr_num {i : Int} (h0 : 0 ≤ i) (h1 : i < 100) : oStr (.int i) = some (.str (num i)) := by
  unfold oStr
  dsimp only
  rw [if_pos (Nat.lt_of_le_of_lt (Nat.log2_le_self _) (by omega))]
  rfl
theorem str_append_len (a b : Str) : (a ++ b).length = a.length + b.length := by
  show (a.cps ++ b.cps).size = _
  rw [Array.size_append]
  rfl
theorem oAdd_str {a b : Str} (h : a.length + b.length ≤ 100000) : oAdd (.str a) (.str b) = some (.str (a ++ b)) := by
  unfold oAdd
  dsimp only
  rw [if_pos h]
theorem joinL_len (s : List Nat) : ∀ ps : List (List Nat), (TL.joinL s ps).length ≤ (ps.map (·.length)).sum + ps.length * s.length
  | [] => Nat.zero_le _
  | [p] => by show p.length ≤ p.length + 0 + 1 * s.length; omega
  | p :: q :: r => by
    have ih := joinL_len s (q :: r)
    show (p ++ (s ++ TL.joinL s (q :: r))).length ≤ (p.length + ((q :: r).map (·.length)).sum) + ((q :: r).length + 1) * s.length
    rw [List.length_append, List.length_append, Nat.add_mul]
    omega
theorem join_len (s : Str) (ys : List Str) : (Txt.join s ys).length ≤ (ys.map (·.length)).sum + ys.length * s.length := by
  have h := SX.join_S s.cps.toList (ys.map fun y => y.cps.toList)
  have e : (ys.map fun y => y.cps.toList).map SX.S = ys := by
    rw [List.map_map]
    have : (SX.S ∘ fun y : Str => y.cps.toList) = id := funext fun y => SX.S_tl y
    rw [this, List.map_id]
  rw [e, SX.S_tl] at h
  rw [h, SX.S_len]
  have := joinL_len s.cps.toList (ys.map fun y => y.cps.toList)
  rw [List.map_map, List.length_map, Array.length_toList] at this
  have e2 : ((fun x : List Nat => x.length) ∘ fun y : Str => y.cps.toList) = fun y : Str => y.length := funext fun y => Array.length_toList
  rw [e2] at this
  exact this
theorem oJoin_some {s : Str} {ys : List Str} (h : (ys.map (·.length)).sum + ys.length * s.length ≤ 100000) : oJoin (.str s) (.lst (ys.map .str)) = some (.str (Txt.join s ys)) := by
  unfold oJoin
  dsimp only
  rw [strsOf_map, Option.bind_some, if_pos h]
theorem sum_le {ys : List Str} {n : Nat} (h : ∀ y ∈ ys, y.length ≤ n) : (ys.map (·.length)).sum ≤ ys.length * n := by
  induction ys with
  | nil => exact Nat.zero_le _
  | cons y ys ih =>
    have h1 := ih fun x m => h x (List.mem_cons_of_mem _ m)
    have h2 := h y List.mem_cons_self
    rw [List.map_cons, List.sum_cons, List.length_cons, Nat.add_mul]
    omega
def remS (r : Int × Int) : Str := num r.1 ++ (":" : Str) ++ num r.2
def Pt.rows (p : Pt) : List (List Str) := ["tables" :: p.ts, ["keys", num p.keys], "careful" :: p.cs.map num, "remind" :: p.rs.map remS]
def Pt.text (p : Pt) : Str := Txt.join "\n" (p.rows.map (Txt.join " "))
theorem lit_len : ("tables" : Str).length ≤ 24 ∧ ("keys" : Str).length ≤ 24 ∧ ("careful" : Str).length ≤ 24 ∧ ("remind" : Str).length ≤ 24 ∧ (":" : Str).length = 1 ∧ (" " : Str).length = 1 ∧ ("\n" : Str).length = 1 := by decide +kernel
theorem rs_range {p : Pt} (h : p.Ok) {r : Int × Int} (m : r ∈ p.rs) : (0 ≤ r.1 ∧ r.1 < 100) ∧ 0 ≤ r.2 ∧ r.2 < 100 := by
  have w := h.rr r m
  have h24 := w.2.1 24 (by decide) (good24 h.tt)
  have := h.t6
  omega
theorem cs_range {p : Pt} (h : p.Ok) {c : Int} (m : c ∈ p.cs) : 0 ≤ c ∧ c < 100 := by
  have w := h.cr c m
  have := h.t6
  omega
theorem remS_len {r : Int × Int} (h : (0 ≤ r.1 ∧ r.1 < 100) ∧ 0 ≤ r.2 ∧ r.2 < 100) : (remS r).length ≤ 7 := by
  unfold remS
  rw [str_append_len, str_append_len, lit_len.2.2.2.2.1]
  have := num_le h.1.1 h.1.2
  have := num_le h.2.1 h.2.2
  omega
theorem rows_ok {p : Pt} (h : p.Ok) : ∀ row ∈ p.rows, row.length ≤ 11 ∧ ∀ y ∈ row, y.length ≤ 24 := by
  have h6 := h.t6
  have hc := cs_le h
  have hr := h.rn
  obtain ⟨l1, l2, l3, l4, _⟩ := lit_len
  intro row m
  unfold Pt.rows at m
  simp only [List.mem_cons, List.not_mem_nil, or_false] at m
  rcases m with rfl | rfl | rfl | rfl
  · refine ⟨by rw [List.length_cons]; omega, fun y m => ?_⟩
    rcases List.mem_cons.mp m with rfl | m
    · exact l1
    · exact (h.tt y m).le
  · refine ⟨by simp, fun y m => ?_⟩
    simp only [List.mem_cons, List.not_mem_nil, or_false] at m
    rcases m with rfl | rfl
    · exact l2
    · exact Nat.le_trans (num_le h.k0 (by have := h.k9; omega)) (by decide)
  · refine ⟨by rw [List.length_cons, List.length_map]; omega, fun y m => ?_⟩
    rcases List.mem_cons.mp m with rfl | m
    · exact l3
    · obtain ⟨c, mc, rfl⟩ := List.mem_map.mp m
      have := cs_range h mc
      exact Nat.le_trans (num_le this.1 this.2) (by decide)
  · refine ⟨by rw [List.length_cons, List.length_map]; omega, fun y m => ?_⟩
    rcases List.mem_cons.mp m with rfl | m
    · exact l4
    · obtain ⟨c, mc, rfl⟩ := List.mem_map.mp m
      exact Nat.le_trans (remS_len (rs_range h mc)) (by decide)
theorem row_sum {row : List Str} (h : row.length ≤ 11 ∧ ∀ y ∈ row, y.length ≤ 24) : (row.map (·.length)).sum + row.length * (" " : Str).length ≤ 275 := by
  have h1 := sum_le h.2
  rw [lit_len.2.2.2.2.2.1]
  have : row.length * 24 ≤ 11 * 24 := Nat.mul_le_mul_right _ h.1
  omega
def joinD (d : D) : D := match d with
  | .lst ds => match strsOf ds with
    | some ys => .str (Txt.join " " ys)
    | none => .non
  | _ => .non
theorem text_spec {p : Pt} (h : p.Ok) (M : Int) : d_House_text [p.H M] = .ok (.str p.text) := by
  have h6 := h.t6
  have hcs := cs_le h
  have hrn := h.rn
  let rem : List D := (p.rs.map remS).map .str
  let R : List D := p.rows.map fun row => .lst (row.map .str)
  refine runF_ret (e := [some (p.H M), some (.lst rem), some (.lst R), none, none, none]) ?_ rfl
  show b_House_text [some (p.H M), none, none, none, none, none] = _
  unfold b_House_text
  have s1 : (sAsg (eLc [3, 4] (iSeqM (eFld 0 3 (eVar 0))) (gTupleM [(gSet 3), (gSet 4)]) mYes (e2 oAdd (e2 oAdd (eA (A1 oStr) (aCons (eVar 3) aNil)) (eC (.str ":"))) (eA (A1 oStr) (aCons (eVar 4) aNil)))) (gSet 1)) [some (p.H M), none, none, none, none, none] = .next [some (p.H M), some (.lst rem), none, none, none, none] := by
    have q := lcGo_map (vs := [3, 4]) (g := gTupleM [(gSet 3), (gSet 4)]) (c := mYes) (e := e2 oAdd (e2 oAdd (eA (A1 oStr) (aCons (eVar 3) aNil)) (eC (.str ":"))) (eA (A1 oStr) (aCons (eVar 4) aNil))) (fun d => match pairOf d with | some r => .str (remS r) | none => .non) (w := [some (p.H M), none, none, none, none, none]) (ds := p.rs.map Mir.pairD) (by rw [List.length_map]; omega) (by
      intro d m
      obtain ⟨r, mr, rfl⟩ := List.mem_map.mp m
      have hr := rs_range h mr
      refine ⟨_, rfl, _, rfl, [some (p.H M), none, none, some (.int r.1), some (.int r.2), none], ?_, rfl⟩
      have n1 := num_le hr.1.1 hr.1.2
      have n2 := num_le hr.2.1 hr.2.2
      have e1 : (eA (A1 oStr) (aCons (eVar 3) aNil)) [some (p.H M), none, none, some (.int r.1), some (.int r.2), none] = .ok (.str (num r.1)) [some (p.H M), none, none, some (.int r.1), some (.int r.2), none] := by
        show Out.opt (oStr (.int r.1)) _ = _
        rw [oStr_num hr.1.1 hr.1.2]
        rfl
      have e2' : (eA (A1 oStr) (aCons (eVar 4) aNil)) [some (p.H M), none, none, some (.int r.1), some (.int r.2), none] = .ok (.str (num r.2)) [some (p.H M), none, none, some (.int r.1), some (.int r.2), none] := by
        show Out.opt (oStr (.int r.2)) _ = _
        rw [oStr_num hr.2.1 hr.2.2]
        rfl
      show (e2 oAdd (e2 oAdd (eA (A1 oStr) (aCons (eVar 3) aNil)) (eC (.str ":"))) (eA (A1 oStr) (aCons (eVar 4) aNil))) [some (p.H M), none, none, some (.int r.1), some (.int r.2), none] = _
      rw [ap_e2, ap_e2, e1, Out.bind_ok, ap_eC, Out.bind_ok, oAdd_str (by rw [lit_len.2.2.2.2.1]; omega), Out.opt_some, Out.bind_ok, e2', Out.bind_ok, oAdd_str (by rw [str_append_len, lit_len.2.2.2.2.1]; omega)]
      rfl)
    have q' : lcGo [3, 4] (gTupleM [(gSet 3), (gSet 4)]) mYes (e2 oAdd (e2 oAdd (eA (A1 oStr) (aCons (eVar 3) aNil)) (eC (.str ":"))) (eA (A1 oStr) (aCons (eVar 4) aNil))) (p.rs.map Mir.pairD) [] (wipeE [some (p.H M), none, none, none, none, none] [3, 4]) = _ := q
    have e3 : (p.rs.map Mir.pairD).map (fun d => match pairOf d with | some r => D.str (remS r) | none => .non) = rem := by
      show _ = (p.rs.map remS).map D.str
      rw [List.map_map, List.map_map]
      rfl
    rw [ap_sAsg, ap_eLc, ap_iSeqM, show (eFld 0 3 (eVar 0)) [some (p.H M), none, none, none, none, none] = .ok (.tup (p.rs.map Mir.pairD)) [some (p.H M), none, none, none, none, none] from rfl, Out.bind_ok, dd_itT, Out.opt_some, Out.bind_ok, q', Out.bind_ok, e3]
    rfl
  rw [ap_sSeq, s1, Fl.bind_next]
  have hk : oStr (.int p.keys) = some (.str (num p.keys)) := oStr_num h.k0 (by have := h.k9; omega)
  have s2 : (sOwn (eLst (aCons (eLst (aCons (eC (.str "tables")) (aStar (eFld 0 0 (eVar 0)) aNil))) (aCons (eLst (aCons (eC (.str "keys")) (aCons (eA (A1 oStr) (aCons (eFld 0 1 (eVar 0)) aNil)) aNil))) aNil))) 2) [some (p.H M), some (.lst rem), none, none, none, none] = .next [some (p.H M), some (.lst rem), some (.lst [.lst ((("tables" : Str) :: p.ts).map .str), .lst (([("keys" : Str), num p.keys]).map .str)]), none, none, none] := by
    have e1 : (eLst (aCons (eC (.str "tables")) (aStar (eFld 0 0 (eVar 0)) aNil))) [some (p.H M), some (.lst rem), none, none, none, none] = .ok (.lst ((("tables" : Str) :: p.ts).map .str)) [some (p.H M), some (.lst rem), none, none, none, none] := by
      have : (aCons (eC (.str "tables")) (aStar (eFld 0 0 (eVar 0)) aNil)) [some (p.H M), some (.lst rem), none, none, none, none] = .ok (.str "tables" :: (p.ts.map D.str ++ [])) [some (p.H M), some (.lst rem), none, none, none, none] := rfl
      rw [ap_eLst, this, Out.bind_ok, List.append_nil, if_pos (by rw [List.length_cons, List.length_map]; omega)]
      rfl
    have e2' : (eLst (aCons (eC (.str "keys")) (aCons (eA (A1 oStr) (aCons (eFld 0 1 (eVar 0)) aNil)) aNil))) [some (p.H M), some (.lst rem), none, none, none, none] = .ok (.lst (([("keys" : Str), num p.keys]).map .str)) [some (p.H M), some (.lst rem), none, none, none, none] := by
      have : (eA (A1 oStr) (aCons (eFld 0 1 (eVar 0)) aNil)) [some (p.H M), some (.lst rem), none, none, none, none] = .ok (.str (num p.keys)) [some (p.H M), some (.lst rem), none, none, none, none] := by
        show Out.opt (oStr (.int p.keys)) _ = _
        rw [hk]
        rfl
      rw [ap_eLst, ap_aCons, ap_eC, Out.bind_ok, ap_aCons, this, Out.bind_ok, ap_aNil]
      rfl
    rw [ap_sOwn, ap_eLst, ap_aCons, e1, Out.bind_ok, ap_aCons, e2', Out.bind_ok, ap_aNil]
    rfl
  rw [ap_sSeq, s2, Fl.bind_next]
  have s3 : (sApp 2 (e2 oAdd (eLst (aCons (eC (.str "careful")) aNil)) (eLc [4] (iSeqM (eFld 0 2 (eVar 0))) (gSet 4) mYes (eA (A1 oStr) (aCons (eVar 4) aNil))))) [some (p.H M), some (.lst rem), some (.lst [.lst ((("tables" : Str) :: p.ts).map .str), .lst (([("keys" : Str), num p.keys]).map .str)]), none, none, none] = .next [some (p.H M), some (.lst rem), some (.lst [.lst ((("tables" : Str) :: p.ts).map .str), .lst (([("keys" : Str), num p.keys]).map .str), .lst ((("careful" : Str) :: p.cs.map num).map .str)]), none, none, none] := by
    generalize hE : [some (p.H M), some (.lst rem), some (.lst [.lst ((("tables" : Str) :: p.ts).map .str), .lst (([("keys" : Str), num p.keys]).map .str)]), none, none, none] = e9
    have q := lcGo_map (vs := [4]) (g := gSet 4) (c := mYes) (e := eA (A1 oStr) (aCons (eVar 4) aNil)) (fun d => match d with | .int c => .str (num c) | _ => .non) (w := e9) (ds := p.cs.map .int) (by rw [List.length_map]; omega) (by
      intro d m
      obtain ⟨c, mc, rfl⟩ := List.mem_map.mp m
      have hr := cs_range h mc
      refine ⟨_, rfl, _, rfl, e9.set 4 (some (.int c)), ?_, by rw [← hE]; rfl⟩
      have e : (eA (A1 oStr) (aCons (eVar 4) aNil)) (e9.set 4 (some (.int c))) = Out.opt (oStr (.int c)) (e9.set 4 (some (.int c))) := by rw [← hE]; rfl
      rw [e, oStr_num hr.1 hr.2]
      rfl)
    have hw : wipeE e9 [4] = e9 := by rw [← hE]; rfl
    have e3 : (p.cs.map D.int).map (fun d => match d with | .int c => D.str (num c) | _ => .non) = (p.cs.map num).map D.str := by
      rw [List.map_map, List.map_map]
      rfl
    have e4 : (eLc [4] (iSeqM (eFld 0 2 (eVar 0))) (gSet 4) mYes (eA (A1 oStr) (aCons (eVar 4) aNil))) e9 = .ok (.lst ((p.cs.map num).map D.str)) e9 := by
      have e : (eFld 0 2 (eVar 0)) e9 = .ok (.tup (p.cs.map .int)) e9 := by rw [← hE]; rfl
      rw [ap_eLc, ap_iSeqM, e, Out.bind_ok, dd_itT, Out.opt_some, Out.bind_ok, hw, q, Out.bind_ok, e3, ← hE]
      rfl
    have e5 : (e2 oAdd (eLst (aCons (eC (.str "careful")) aNil)) (eLc [4] (iSeqM (eFld 0 2 (eVar 0))) (gSet 4) mYes (eA (A1 oStr) (aCons (eVar 4) aNil)))) e9 = .ok (.lst ((("careful" : Str) :: p.cs.map num).map .str)) e9 := by
      have e : (eLst (aCons (eC (.str "careful")) aNil)) e9 = .ok (.lst [.str "careful"]) e9 := rfl
      rw [ap_e2, e, Out.bind_ok, e4, Out.bind_ok]
      unfold oAdd
      dsimp only
      rw [if_pos (by rw [List.length_map, List.length_map]; show 1 + _ ≤ 100000; omega)]
      rfl
    rw [ap_sApp, show e9[2]? = some (some (.lst [.lst ((("tables" : Str) :: p.ts).map .str), .lst (([("keys" : Str), num p.keys]).map .str)])) from by rw [← hE]; rfl]
    dsimp only
    rw [e5, Out.fl_ok, show e9[2]? = some (some (.lst [.lst ((("tables" : Str) :: p.ts).map .str), .lst (([("keys" : Str), num p.keys]).map .str)])) from by rw [← hE]; rfl, ← hE]
    rfl
  rw [ap_sSeq, s3, Fl.bind_next]
  have s4 : (sApp 2 (eLst (aCons (eC (.str "remind")) (aStar (eVar 1) aNil)))) [some (p.H M), some (.lst rem), some (.lst [.lst ((("tables" : Str) :: p.ts).map .str), .lst (([("keys" : Str), num p.keys]).map .str), .lst ((("careful" : Str) :: p.cs.map num).map .str)]), none, none, none] = .next [some (p.H M), some (.lst rem), some (.lst R), none, none, none] := by
    have e1 : (eLst (aCons (eC (.str "remind")) (aStar (eVar 1) aNil))) [some (p.H M), some (.lst rem), some (.lst [.lst ((("tables" : Str) :: p.ts).map .str), .lst (([("keys" : Str), num p.keys]).map .str), .lst ((("careful" : Str) :: p.cs.map num).map .str)]), none, none, none] = .ok (.lst ((("remind" : Str) :: p.rs.map remS).map .str)) [some (p.H M), some (.lst rem), some (.lst [.lst ((("tables" : Str) :: p.ts).map .str), .lst (([("keys" : Str), num p.keys]).map .str), .lst ((("careful" : Str) :: p.cs.map num).map .str)]), none, none, none] := by
      have : (aCons (eC (.str "remind")) (aStar (eVar 1) aNil)) [some (p.H M), some (.lst rem), some (.lst [.lst ((("tables" : Str) :: p.ts).map .str), .lst (([("keys" : Str), num p.keys]).map .str), .lst ((("careful" : Str) :: p.cs.map num).map .str)]), none, none, none] = .ok (.str "remind" :: (rem ++ [])) [some (p.H M), some (.lst rem), some (.lst [.lst ((("tables" : Str) :: p.ts).map .str), .lst (([("keys" : Str), num p.keys]).map .str), .lst ((("careful" : Str) :: p.cs.map num).map .str)]), none, none, none] := rfl
      rw [ap_eLst, this, Out.bind_ok, List.append_nil, if_pos (by show ((p.rs.map remS).map D.str).length + 1 ≤ 100000; rw [List.length_map, List.length_map]; omega)]
      rfl
    rw [ap_sApp]
    simp only [List.getElem?_cons_succ, List.getElem?_cons_zero]
    rw [e1, Out.fl_ok]
    rfl
  rw [ap_sSeq, s4, Fl.bind_next]
  have q := lcGo_map (vs := [5]) (g := gSet 5) (c := mYes) (e := eM1 oJoin (eC (.str " ")) (eVar 5)) joinD (w := [some (p.H M), some (.lst rem), some (.lst R), none, none, none]) (ds := R) (by show (p.rows.map _).length ≤ _; rw [List.length_map]; show 4 ≤ 100000; decide) (by
    intro d m
    obtain ⟨row, mr, rfl⟩ := List.mem_map.mp m
    refine ⟨_, rfl, _, rfl, [some (p.H M), some (.lst rem), some (.lst R), none, none, some (.lst (row.map .str))], ?_, rfl⟩
    have e : (eM1 oJoin (eC (.str " ")) (eVar 5)) [some (p.H M), some (.lst rem), some (.lst R), none, none, some (.lst (row.map .str))] = Out.opt (oJoin (.str " ") (.lst (row.map .str))) [some (p.H M), some (.lst rem), some (.lst R), none, none, some (.lst (row.map .str))] := rfl
    show (eM1 oJoin (eC (.str " ")) (eVar 5)) [some (p.H M), some (.lst rem), some (.lst R), none, none, some (.lst (row.map .str))] = _
    rw [e, oJoin_some (Nat.le_trans (row_sum (rows_ok h row mr)) (by decide))]
    unfold joinD
    dsimp only
    rw [strsOf_map]
    rfl)
  have e3 : R.map joinD = (p.rows.map (Txt.join " ")).map D.str := by
    show (p.rows.map fun row => D.lst (row.map .str)).map joinD = _
    rw [List.map_map, List.map_map]
    refine List.map_congr_left fun row _ => ?_
    show joinD (.lst (row.map .str)) = _
    unfold joinD
    dsimp only
    rw [strsOf_map]
    rfl
  have q' : lcGo [5] (gSet 5) mYes (eM1 oJoin (eC (.str " ")) (eVar 5)) R [] (wipeE [some (p.H M), some (.lst rem), some (.lst R), none, none, none] [5]) = _ := q
  have hsum : ((p.rows.map (Txt.join " ")).map (·.length)).sum + (p.rows.map (Txt.join " ")).length * ("\n" : Str).length ≤ 100000 := by
    have h1 := sum_le (ys := p.rows.map (Txt.join " ")) (n := 275) (fun y m => by
      obtain ⟨row, mr, rfl⟩ := List.mem_map.mp m
      exact Nat.le_trans (join_len " " row) (row_sum (rows_ok h row mr)))
    have h2 : (p.rows.map (Txt.join " ")).length = 4 := rfl
    rw [h2] at h1 ⊢
    rw [lit_len.2.2.2.2.2.2]
    omega
  rw [ap_sRet, ap_eUp, ap_eM1, ap_eC, Out.bind_ok, dd_isS, if_pos rfl, ap_eLc, ap_iLst, show (eVar 2) [some (p.H M), some (.lst rem), some (.lst R), none, none, none] = .ok (.lst R) [some (p.H M), some (.lst rem), some (.lst R), none, none, none] from rfl, Out.bind_ok, dd_isL, Out.opt_some, Out.bind_ok, q', Out.bind_ok, e3, Out.bind_ok, oJoin_some hsum]
  rfl
theorem house_spec {p : Pt} (h : p.Ok) : ∃ M, d_law_house [p.D] = .ok (p.H M) := by
  obtain ⟨M, e, _⟩ := init_spec h
  refine ⟨M, runF_ret (e := [some p.D]) ?_ rfl⟩
  show b_law_house [some p.D] = _
  unfold b_law_house
  have hA : (aCons (e2 oIx (eVar 0) (eC (.int 0))) (aCons (e2 oIx (eVar 0) (eC (.int 1))) (aCons (e2 oIx (eVar 0) (eC (.int 2))) (aCons (e2 oIx (eVar 0) (eC (.int 3))) aNil)))) [some p.D] = .ok [.tup (p.ts.map .str), .int p.keys, .tup (p.cs.map .int), .tup (p.rs.map Mir.pairD)] [some p.D] := rfl
  rw [ap_sRet, ap_eMake, hA, Out.bind_ok, List.append_nil, e]
  rfl
theorem equal_int (n : Nat) (v : Int) : d_law_equal (n + 1) [.int v, .int v] = .ok (.bl true) := by
  refine runF_ret (e := [some (.int v), some (.int v), none]) ?_ rfl
  show b_law_equal (d_law_equal n) [some (.int v), some (.int v), none] = _
  unfold b_law_equal
  have x1 : oIsN (.int v) .non = some (.bl false) := rfl
  have x2 : oIsi "bool" (.int v) = some (.bl false) := rfl
  have x3 : oIsi "int" (.int v) = some (.bl true) := rfl
  simp only [ap_sSeq, ap_sIf, ap_mTest, ap_e2, ap_e1, ap_eVar, ap_eC, List.getElem?_cons_zero, List.getElem?_cons_succ, Out.bind_ok, x1, x2, x3, Out.opt_some, dd_boo, Out.fl_ok, Bool.false_eq_true, if_false, if_true, ap_sNext, Fl.bind_next, ap_sRet, ap_eAndV, ap_eNotV, Bool.not_false, oEq_int, decide_true, Fl.bind_ret]
theorem equal_ints (n : Nat) (xs : List Int) (hl : xs.length ≤ 1000) : d_law_equal (n + 2) [.lst (xs.map .int), .lst (xs.map .int)] = .ok (.bl true) := by
  refine runF_ret (e := [some (.lst (xs.map .int)), some (.lst (xs.map .int)), none]) ?_ rfl
  show b_law_equal (d_law_equal (n + 1)) [some (.lst (xs.map .int)), some (.lst (xs.map .int)), none] = _
  unfold b_law_equal
  generalize hE : ([some (.lst (xs.map .int)), some (.lst (xs.map .int)), none] : Mir.Env) = e3
  have u1 : ∀ (T : String) (b : Bool), oIsi T (.lst (xs.map .int)) = some (.bl b) → (e1 (oIsi T) (eVar 1)) e3 = .ok (.bl b) e3 := fun T b h => by
    rw [ap_e1, show (eVar 1) e3 = .ok (.lst (xs.map .int)) e3 from by rw [← hE]; rfl, Out.bind_ok, h]
    rfl
  have u0 : ∀ (T : String) (b : Bool), oIsi T (.lst (xs.map .int)) = some (.bl b) → (e1 (oIsi T) (eVar 0)) e3 = .ok (.bl b) e3 := fun T b h => by
    rw [ap_e1, show (eVar 0) e3 = .ok (.lst (xs.map .int)) e3 from by rw [← hE]; rfl, Out.bind_ok, h]
    rfl
  have t1 : (mTest (e2 oIsN (eVar 1) (eC .non))) e3 = .ok false e3 := by rw [← hE]; rfl
  have t2 : ∀ (T : String), oIsi T (.lst (xs.map .int)) = some (.bl false) → (mTest (e1 (oIsi T) (eVar 1))) e3 = .ok false e3 := fun T h => by
    rw [ap_mTest, u1 T _ h]
    rfl
  have t3 : ∀ (T : String) (b : Bool), oIsi T (.lst (xs.map .int)) = some (.bl b) → (mTest (e2 oNe (e1 (oIsi T) (eVar 1)) (e1 (oIsi T) (eVar 0)))) e3 = .ok false e3 := fun T b h => by
    rw [ap_mTest, ap_e2, u1 T b h, Out.bind_ok, u0 T b h, Out.bind_ok]
    cases b <;> rfl
  have t4 : (mTest (e2 oNe (eA (A1 oLen) (aCons (eVar 0) aNil)) (eA (A1 oLen) (aCons (eVar 1) aNil)))) e3 = .ok false e3 := by
    have e : (e2 oNe (eA (A1 oLen) (aCons (eVar 0) aNil)) (eA (A1 oLen) (aCons (eVar 1) aNil))) e3 = Out.opt (oNe (.int ((xs.map D.int).length : Nat)) (.int ((xs.map D.int).length : Nat))) e3 := by rw [← hE]; rfl
    rw [ap_mTest, e, oNe_int, decide_eq_true rfl]
    rfl
  rw [ap_sSeq, ap_sIf, t1, Out.fl_ok]
  simp only [Bool.false_eq_true, if_false]
  rw [ap_sNext, Fl.bind_next, ap_sSeq, ap_sIf, t2 "bool" rfl, Out.fl_ok]
  simp only [Bool.false_eq_true, if_false]
  rw [ap_sNext, Fl.bind_next, ap_sSeq, ap_sIf, t2 "int" rfl, Out.fl_ok]
  simp only [Bool.false_eq_true, if_false]
  rw [ap_sNext, Fl.bind_next, ap_sSeq, ap_sIf, t2 "str" rfl, Out.fl_ok]
  simp only [Bool.false_eq_true, if_false]
  rw [ap_sNext, Fl.bind_next, ap_sSeq, ap_sIf, t3 "tuple" false rfl, Out.fl_ok]
  simp only [Bool.false_eq_true, if_false]
  rw [ap_sNext, Fl.bind_next, ap_sSeq, ap_sIf, t3 "list" true rfl, Out.fl_ok]
  simp only [Bool.false_eq_true, if_false]
  rw [ap_sNext, Fl.bind_next, ap_sSeq, ap_sIf, t4, Out.fl_ok]
  simp only [Bool.false_eq_true, if_false]
  rw [ap_sNext, Fl.bind_next]
  have hw : wipeE e3 [2] = e3 := by rw [← hE]; rfl
  obtain ⟨ys, env', q1, q2, q3⟩ := lcGo_at (vs := [2]) (g := gSet 2) (c := mYes) (e := eCall (d_law_equal (n + 1)) [] (aCons (e2 oIx (eVar 0) (eVar 2)) (aCons (e2 oIx (eVar 1) (eVar 2)) aNil))) (total := rangeL 0 xs.length) (by rw [rangeL_len]; omega)
    (fun done acc env => env = e3 ∧ acc = (done.map fun _ => true).map D.bl) (ds := rangeL 0 xs.length) (done := []) (acc := []) (env := e3) rfl ⟨rfl, rfl⟩ (Nat.le_refl _) (by
      rintro done acc d rest env ht ⟨rfl, rfl⟩
      obtain ⟨rfl, hlt⟩ := rangeL_at ht
      obtain ⟨c, hc⟩ : ∃ c, xs[done.length]? = some c := ⟨xs[done.length], List.getElem?_eq_getElem hlt⟩
      have hx : atI (xs.map D.int) (0 + (done.length : Int)) = some (.int c) := atI_at (j := done.length) (by rw [List.getElem?_map, hc]; rfl) (by omega)
      have hA : (aCons (e2 oIx (eVar 0) (eVar 2)) (aCons (e2 oIx (eVar 1) (eVar 2)) aNil)) (env.set 2 (some (.int (0 + done.length)))) = .ok [.int c, .int c] (env.set 2 (some (.int (0 + done.length)))) := by
        have e : (e2 oIx (eVar 0) (eVar 2)) (env.set 2 (some (.int (0 + done.length)))) = Out.opt (atI (xs.map D.int) (0 + (done.length : Int))) (env.set 2 (some (.int (0 + done.length)))) := by rw [← hE]; rfl
        have e' : (e2 oIx (eVar 1) (eVar 2)) (env.set 2 (some (.int (0 + done.length)))) = Out.opt (atI (xs.map D.int) (0 + (done.length : Int))) (env.set 2 (some (.int (0 + done.length)))) := by rw [← hE]; rfl
        rw [ap_aCons, e, hx, Out.opt_some, Out.bind_ok, ap_aCons, e', hx]
        rfl
      refine ⟨_, rfl, true, _, rfl, fun x => (by cases x), fun _ => ⟨.bl true, env.set 2 (some (.int (0 + done.length))), ?_, by rw [← hE]; rfl, by simp⟩⟩
      rw [ap_eCall, hA, Out.bind_ok, List.append_nil, equal_int]
      rfl)
  have hI : (iRng1M (aCons (eA (A1 oLen) (aCons (eVar 1) aNil)) aNil)) e3 = .ok (rangeL 0 xs.length) e3 := by
    have e : (aCons (eA (A1 oLen) (aCons (eVar 1) aNil)) aNil) e3 = .ok [.int ((xs.map D.int).length : Nat)] e3 := by rw [← hE]; rfl
    rw [ap_iRng1M, e, Out.bind_ok, List.length_map, rng1_len hl]
    rfl
  have hr : resE e3 e3 [2] = e3 := by rw [← hE]; rfl
  rw [ap_sRet, ap_eA, ap_aCons, ap_eLc, hI, Out.bind_ok, hw, q1, Out.bind_ok, Out.bind_ok, ap_aNil, Out.bind_ok, Out.bind_ok, ap_A1, q2, q3, hr]
  show Out.fl (Out.opt ((blsOf (((rangeL 0 xs.length).map fun _ => true).map D.bl)).map fun ns => D.bl (ns.all id)) _) _ = _
  rw [blsOf_map]
  have : (((rangeL 0 xs.length).map fun _ => true).all id) = true := by simp
  simp only [Option.map_some, this]
  rfl
end K14
/-! M14n -/
namespace K14
open PySem PySem.Spec PyProof.Rows L2 Mir
def isInt (o : FO) (i : Int) : Bool := match o with
  | .ok (.int j) => j == i
  | _ => false
theorem read_number_tab : ∀ n : Fin 100, isInt (d_read_number [.str (num ((n.val : Nat) : Int))]) ((n.val : Nat) : Int) = true := by decide +kernel
theorem isInt_eq {o : FO} {i : Int} (h : isInt o i = true) : o = .ok (.int i) := by
  unfold isInt at h
  split at h
  · rename_i j
    rw [eq_of_beq h]
  · cases h
theorem read_number_spec {i : Int} (h0 : 0 ≤ i) (h1 : i < 100) : d_read_number [.str (num i)] = .ok (.int i) := by
  have := isInt_eq (read_number_tab ⟨i.toNat, by omega⟩)
  rw [show ((i.toNat : Nat) : Int) = i by omega] at this
  exact this
theorem num_digits : ∀ n : Fin 100, (num ((n.val : Nat) : Int)).cps.toList.all (fun c => decide (48 ≤ c) && decide (c ≤ 57)) = true := by decide +kernel
theorem num_chars {i : Int} (h0 : 0 ≤ i) (h1 : i < 100) : ∀ c ∈ (num i).cps.toList, 48 ≤ c ∧ c ≤ 57 := by
  have := num_digits ⟨i.toNat, by omega⟩
  rw [show ((i.toNat : Nat) : Int) = i by omega, List.all_eq_true] at this
  intro c m
  have := this c m
  simpa using this
theorem lit_eq : ("\n" : Str) = SX.S [10] ∧ (" " : Str) = SX.S [32] ∧ (":" : Str) = SX.S [58] := ⟨by kernel_rfl, by kernel_rfl, by kernel_rfl⟩
theorem mem_joinL (s : List Nat) : ∀ (ps : List (List Nat)) (c : Nat), c ∈ TL.joinL s ps → c ∈ s ∨ ∃ p ∈ ps, c ∈ p
  | [], _, h => by cases h
  | [p], c, h => .inr ⟨p, List.mem_cons_self, h⟩
  | p :: q :: r, c, h => by
    have h : c ∈ p ++ (s ++ TL.joinL s (q :: r)) := h
    rcases List.mem_append.mp h with h | h
    · exact .inr ⟨p, List.mem_cons_self, h⟩
    · rcases List.mem_append.mp h with h | h
      · exact .inl h
      · rcases mem_joinL s (q :: r) c h with h | ⟨x, m, h⟩
        · exact .inl h
        · exact .inr ⟨x, List.mem_cons_of_mem _ m, h⟩
theorem map_S (ys : List Str) : (ys.map fun y => y.cps.toList).map SX.S = ys := by
  rw [List.map_map]
  have : (SX.S ∘ fun y : Str => y.cps.toList) = id := funext fun y => SX.S_tl y
  rw [this, List.map_id]
theorem join_chars {k : Nat} {ys : List Str} {c : Nat} (h : c ∈ (Txt.join (SX.S [k]) ys).cps.toList) : c = k ∨ ∃ y ∈ ys, c ∈ y.cps.toList := by
  have e := SX.join_S [k] (ys.map fun y => y.cps.toList)
  rw [map_S] at e
  rw [e] at h
  rcases mem_joinL [k] _ c (by simpa [SX.S] using h) with h | ⟨x, m, h⟩
  · exact .inl (List.mem_singleton.mp h)
  · obtain ⟨y, my, rfl⟩ := List.mem_map.mp m
    exact .inr ⟨y, my, h⟩
/-- what is joined is split again -/
theorem split_join {k : Nat} (hk : k < 256) {ys : List Str} (hne : ys ≠ []) (h : ∀ y ∈ ys, k ∉ y.cps.toList) : Txt.split (Txt.join (SX.S [k]) ys) (SX.S [k]) = ys := by
  have e := SX.join_S [k] (ys.map fun y => y.cps.toList)
  rw [map_S] at e
  rw [e, SX.split_S (by simp) (by simp [hk]), SX.spl_join (by simpa using hne) (fun p m => by
    obtain ⟨y, my, rfl⟩ := List.mem_map.mp m
    exact h y my), map_S]
theorem lit_chars : (("tables" : Str).cps.toList ++ ("keys" : Str).cps.toList ++ ("careful" : Str).cps.toList ++ ("remind" : Str).cps.toList).all (fun c => decide (97 ≤ c)) = true := by decide +kernel
end K14
/-! M14p -/
namespace K14
open PySem PySem.Spec PyProof.Rows L2 Mir
theorem word_ne : (("keys" : Str) ≠ "tables" ∧ ("keys" : Str) ≠ "remind") ∧ (("careful" : Str) ≠ "tables" ∧ ("careful" : Str) ≠ "remind" ∧ ("careful" : Str) ≠ "keys") ∧ ("remind" : Str) ≠ "tables" := by decide +kernel
theorem inN_ints (ns : List Int) : oIn .non (.lst (ns.map .int)) = some (.bl false) := by
  have e : oInB .non (.lst (ns.map .int)) = some false := by
    unfold oInB
    have f1 : D.non.fit = true := rfl
    simp only [f1, fit_ints, Bool.and_self, if_true]
    congr 1
    rw [List.any_map]
    rw [List.any_eq_false]
    intro x _ z
    cases z
  unfold oIn
  rw [e]
  rfl
theorem is_word_spec {z : Str} (h : Tab z) : d_is_word [.str z] = .ok (.bl true) := by
  have hne : z ≠ "" := fun e => by
    have := h.pos
    rw [e] at this
    exact absurd this (by decide +kernel)
  refine runF_ret (e := [some (.str z), none]) ?_ rfl
  show b_is_word [some (.str z), none] = _
  unfold b_is_word
  have hlc := lcGo_map (vs := [1]) (g := gSet 1) (c := mYes) (e := e2 oIn (eVar 1) (eTup (aCons (eC c_HOME) (aCons (eC c_OUT) aNil)))) (fun _ => .bl true) (w := [some (.str z), none]) (ds := z.cps.toList.map fun c => .str ⟨#[c]⟩) (by rw [List.length_map]; exact Nat.le_trans (show z.cps.toList.length ≤ 24 by rw [Array.length_toList]; exact h.le) (by decide)) (by
    intro d m
    obtain ⟨c, hc, rfl⟩ := List.mem_map.mp m
    refine ⟨_, rfl, _, rfl, [some (.str z), some (.str ⟨#[c]⟩)], ?_, rfl⟩
    have : (eTup (aCons (eC c_HOME) (aCons (eC c_OUT) aNil))) [some (.str z), some (.str ⟨#[c]⟩)] = .ok (.tup [.str "h", .str "o"]) [some (.str z), some (.str ⟨#[c]⟩)] := rfl
    show ((eVar 1) [some (.str z), some (.str ⟨#[c]⟩)]).bind _ = _
    rw [show (eVar 1) [some (.str z), some (.str ⟨#[c]⟩)] = .ok (.str ⟨#[c]⟩) [some (.str z), some (.str ⟨#[c]⟩)] from rfl, Out.bind_ok, this, Out.bind_ok, inT_signs (h.s c hc)]
    rfl)
  have hall : oAll (.lst ((z.cps.toList.map fun c => D.str ⟨#[c]⟩).map fun _ => D.bl true)) = some (.bl true) := by
    have e : (z.cps.toList.map fun c => D.str ⟨#[c]⟩).map (fun _ => D.bl true) = (z.cps.toList.map fun _ => true).map D.bl := by rw [List.map_map, List.map_map]; rfl
    rw [e]
    show (blsOf _).map _ = _
    rw [blsOf_map]
    simp
  have t1 : (e2 oNe (eVar 0) (eC (.str ""))) [some (.str z), none] = .ok (.bl true) [some (.str z), none] := by
    have e : (e2 oNe (eVar 0) (eC (.str ""))) [some (.str z), none] = Out.opt (oNe (.str z) (.str "")) [some (.str z), none] := rfl
    rw [e, oNe_str, decide_eq_false hne]
    rfl
  have hlc' : lcGo [1] (gSet 1) mYes (e2 oIn (eVar 1) (eTup (aCons (eC c_HOME) (aCons (eC c_OUT) aNil)))) (z.cps.toList.map fun c => .str ⟨#[c]⟩) [] (wipeE [some (.str z), none] [1]) = _ := hlc
  rw [ap_sRet, ap_eAndV, t1, Out.bind_ok, dd_boo, Out.opt_some, Out.bind_ok, if_pos rfl, ap_eA, ap_aCons, ap_eLc, ap_iSeqM, show (eVar 0) [some (.str z), none] = .ok (.str z) [some (.str z), none] from rfl, Out.bind_ok, dd_itS, Out.opt_some, Out.bind_ok, hlc', Out.bind_ok, Out.bind_ok, ap_aNil, Out.bind_ok, Out.bind_ok, ap_A1, hall]
  rfl
theorem all_true (ds : List D) : oAll (.lst (ds.map fun _ => D.bl true)) = some (.bl true) := by
  have e : ds.map (fun _ => D.bl true) = (ds.map fun _ => true).map D.bl := by rw [List.map_map]; rfl
  rw [e]
  show (blsOf _).map _ = _
  rw [blsOf_map]
  simp
theorem any_false (ds : List D) : oAny (.lst (ds.map fun _ => D.bl false)) = some (.bl false) := by
  have e : ds.map (fun _ => D.bl false) = (ds.map fun _ => false).map D.bl := by rw [List.map_map]; rfl
  rw [e]
  show (blsOf _).map _ = _
  rw [blsOf_map]
  simp
theorem part_tables {ts : List Str} (ht : ∀ z ∈ ts, Tab z) (hl : ts.length ≤ 1000) : d_read_part [.str "tables", .lst (ts.map .str)] = .ok (.tup (ts.map .str)) := by
  generalize hE : ([some (.str "tables"), some (.lst (ts.map .str)), none, none, none, none, none] : Mir.Env) = e7
  refine runF_ret (e := e7) ?_ rfl
  show b_read_part [some (.str "tables"), some (.lst (ts.map .str)), none, none, none, none, none] = _
  rw [hE]
  unfold b_read_part
  have t1 : (mTest (e2 oEq (eVar 0) (eC (.str "tables")))) e7 = .ok true e7 := by
    have e : (e2 oEq (eVar 0) (eC (.str "tables"))) e7 = Out.opt (oEq (.str "tables") (.str "tables")) e7 := by rw [← hE]; rfl
    rw [ap_mTest, e, oEq_str, decide_eq_true rfl]
    rfl
  have q := lcGo_map (vs := [4]) (g := gSet 4) (c := mYes) (e := eCall d_is_word [] (aCons (eVar 4) aNil)) (fun _ => .bl true) (w := e7) (ds := ts.map .str) (by rw [List.length_map]; omega) (by
    intro d m
    obtain ⟨z, mz, rfl⟩ := List.mem_map.mp m
    refine ⟨_, rfl, _, rfl, e7.set 4 (some (.str z)), ?_, by rw [← hE]; rfl⟩
    have hA : (aCons (eVar 4) aNil) (e7.set 4 (some (.str z))) = .ok [.str z] (e7.set 4 (some (.str z))) := by rw [← hE]; rfl
    rw [ap_eCall, hA, Out.bind_ok, List.append_nil, is_word_spec (ht z mz)]
    rfl)
  have hw : wipeE e7 [4] = e7 := by rw [← hE]; rfl
  have hr : resE e7 e7 [4] = e7 := by rw [← hE]; rfl
  have t2 : (mTest (eA (A1 oAll) (aCons (eLc [4] (iSeqM (eVar 1)) (gSet 4) mYes (eCall d_is_word [] (aCons (eVar 4) aNil))) aNil))) e7 = .ok true e7 := by
    rw [ap_mTest, ap_eA, ap_aCons, ap_eLc, ap_iSeqM, show (eVar 1) e7 = .ok (.lst (ts.map .str)) e7 from by rw [← hE]; rfl, Out.bind_ok, dd_itL, Out.opt_some, Out.bind_ok, hw, q, Out.bind_ok, Out.bind_ok, ap_aNil, Out.bind_ok, Out.bind_ok, ap_A1, all_true, hr]
    rfl
  have t3 : (eA (A1 oTuple) (aCons (eVar 1) aNil)) e7 = .ok (.tup (ts.map .str)) e7 := by rw [← hE]; rfl
  rw [ap_sSeq, ap_sIf, t1, Out.fl_ok, if_pos rfl, ap_sRet, ap_eIf, t2, Out.bind_ok, if_pos rfl, t3]
  rfl
/-- [read_number(part) for part in parts] -/
theorem numbers_lc {w : Str} {ns : List Int} (hn : ∀ c ∈ ns, 0 ≤ c ∧ c < 100) (hl : ns.length ≤ 1000) : (sAsg (eLc [4] (iSeqM (eVar 1)) (gSet 4) mYes (eCall d_read_number [] (aCons (eVar 4) aNil))) (gSet 2)) [some (.str w), some (.lst ((ns.map num).map .str)), none, none, none, none, none] = .next [some (.str w), some (.lst ((ns.map num).map .str)), some (.lst (ns.map .int)), none, none, none, none] := by
  generalize hE : ([some (.str w), some (.lst ((ns.map num).map .str)), none, none, none, none, none] : Mir.Env) = e7
  have q := lcGo_inv (vs := [4]) (g := gSet 4) (c := mYes) (e := eCall d_read_number [] (aCons (eVar 4) aNil)) (fun done acc env => env = e7 ∧ ∃ a : List Int, done = (a.map num).map .str ∧ acc = a.map .int ∧ (∃ b, ns = a ++ b)) (ds := []) (done := []) (acc := []) (env := e7)
  have q2 : ∀ (b a : List Int), ns = a ++ b → lcGo [4] (gSet 4) mYes (eCall d_read_number [] (aCons (eVar 4) aNil)) ((b.map num).map .str) (a.map .int) e7 = .ok (ns.map .int) e7 := by
    intro b
    induction b with
    | nil => intro a h; rw [List.append_nil] at h; rw [h]; rfl
    | cons x b ih =>
      intro a h
      have hx := hn x (by rw [h]; simp)
      have hA : (aCons (eVar 4) aNil) (e7.set 4 (some (.str (num x)))) = .ok [.str (num x)] (e7.set 4 (some (.str (num x)))) := by rw [← hE]; rfl
      have hc : (eCall d_read_number [] (aCons (eVar 4) aNil)) (e7.set 4 (some (.str (num x)))) = .ok (.int x) (e7.set 4 (some (.str (num x)))) := by
        rw [ap_eCall, hA, Out.bind_ok, List.append_nil, read_number_spec hx.1 hx.2]
        rfl
      have hw : wipeE (e7.set 4 (some (.str (num x)))) [4] = e7 := by rw [← hE]; rfl
      have hlen : a.length < 100000 := by
        have := congrArg List.length h
        rw [List.length_append] at this
        omega
      show lcGo [4] (gSet 4) mYes (eCall d_read_number [] (aCons (eVar 4) aNil)) (.str (num x) :: (b.map num).map .str) (a.map .int) e7 = _
      unfold lcGo
      rw [ap_gSet]
      dsimp only
      rw [ap_mYes, Out.noX_ok, Out.bind_ok, if_pos rfl, hc, Out.noX_ok, Out.bind_ok, if_pos (by rw [List.length_map]; exact hlen), hw]
      have := ih (a ++ [x]) (by rw [h]; simp)
      rw [List.map_append] at this
      exact this
  have hw : wipeE e7 [4] = e7 := by rw [← hE]; rfl
  have q3 := q2 ns [] rfl
  rw [ap_sAsg, ap_eLc, ap_iSeqM, show (eVar 1) e7 = .ok (.lst ((ns.map num).map .str)) e7 from by rw [← hE]; rfl, Out.bind_ok, dd_itL, Out.opt_some, Out.bind_ok, hw]
  have q4 : lcGo [4] (gSet 4) mYes (eCall d_read_number [] (aCons (eVar 4) aNil)) ((ns.map num).map .str) [] e7 = _ := q3
  rw [q4, ← hE]
  rfl
theorem test_eq {w v : Str} {e : Mir.Env} {b : Bool} (h0 : e[0]? = some (some (.str w))) (h : decide (w = v) = b) : (mTest (e2 oEq (eVar 0) (eC (.str v)))) e = .ok b e := by
  rw [ap_mTest, ap_e2, ap_eVar, h0]
  dsimp only
  rw [Out.bind_ok, ap_eC, Out.bind_ok, oEq_str, h]
  rfl
theorem part_keys {k : Int} (h0 : 0 ≤ k) (h1 : k < 100) : d_read_part [.str "keys", .lst [.str (num k)]] = .ok (.int k) := by
  have hn := numbers_lc (w := "keys") (ns := [k]) (fun c m => by rw [List.mem_singleton.mp m]; exact ⟨h0, h1⟩) (by simp)
  refine runF_ret (e := [some (.str "keys"), some (.lst [.str (num k)]), some (.lst [.int k]), none, none, none, none]) ?_ rfl
  show b_read_part [some (.str "keys"), some (.lst [.str (num k)]), none, none, none, none, none] = _
  unfold b_read_part
  have t1 := test_eq (w := "keys") (v := "tables") (e := [some (.str "keys"), some (.lst [.str (num k)]), none, none, none, none, none]) rfl (decide_eq_false word_ne.1.1)
  have t2 := test_eq (w := "keys") (v := "remind") (e := [some (.str "keys"), some (.lst [.str (num k)]), none, none, none, none, none]) rfl (decide_eq_false word_ne.1.2)
  rw [ap_sSeq, ap_sIf, t1, Out.fl_ok]
  simp only [Bool.false_eq_true, if_false]
  rw [ap_sNext, Fl.bind_next, ap_sSeq, ap_sIf, t2, Out.fl_ok]
  simp only [Bool.false_eq_true, if_false]
  rw [ap_sNext, Fl.bind_next, ap_sSeq]
  have hn' : (sAsg (eLc [4] (iSeqM (eVar 1)) (gSet 4) mYes (eCall d_read_number [] (aCons (eVar 4) aNil))) (gSet 2)) [some (.str "keys"), some (.lst [.str (num k)]), none, none, none, none, none] = .next [some (.str "keys"), some (.lst [.str (num k)]), some (.lst ([k].map .int)), none, none, none, none] := hn
  rw [hn', Fl.bind_next]
  generalize hE : ([some (.str "keys"), some (.lst [.str (num k)]), some (.lst ([k].map .int)), none, none, none, none] : Mir.Env) = e7
  have t3 : (mTest (e2 oIn (eC .non) (eVar 2))) e7 = .ok false e7 := by
    have e : (e2 oIn (eC .non) (eVar 2)) e7 = Out.opt (oIn .non (.lst ([k].map .int))) e7 := by rw [← hE]; rfl
    rw [ap_mTest, e, inN_ints]
    rfl
  have t4 := test_eq (w := "keys") (v := "keys") (e := e7) (by rw [← hE]; rfl) (decide_eq_true rfl)
  have t5 : (mTest (e2 oNe (eA (A1 oLen) (aCons (eVar 2) aNil)) (eC (.int 1)))) e7 = .ok false e7 := by
    have e : (e2 oNe (eA (A1 oLen) (aCons (eVar 2) aNil)) (eC (.int 1))) e7 = Out.opt (oNe (.int 1) (.int 1)) e7 := by rw [← hE]; rfl
    rw [ap_mTest, e, oNe_int]
    rfl
  rw [ap_sSeq, ap_sIf, ap_mOr, t3, Out.bind_ok]
  simp only [Bool.false_eq_true, if_false]
  rw [ap_mAnd, t4, Out.bind_ok, if_pos rfl, t5, Out.fl_ok]
  simp only [Bool.false_eq_true, if_false]
  rw [ap_sNext, Fl.bind_next, ap_sRet, ap_eIf, t4, Out.bind_ok, if_pos rfl, ← hE]
  rfl
theorem part_careful {ns : List Int} (hn : ∀ c ∈ ns, 0 ≤ c ∧ c < 100) (hl : ns.length ≤ 1000) : d_read_part [.str "careful", .lst ((ns.map num).map .str)] = .ok (.tup (ns.map .int)) := by
  refine runF_ret (e := [some (.str "careful"), some (.lst ((ns.map num).map .str)), some (.lst (ns.map .int)), none, none, none, none]) ?_ rfl
  show b_read_part [some (.str "careful"), some (.lst ((ns.map num).map .str)), none, none, none, none, none] = _
  unfold b_read_part
  have t1 := test_eq (w := "careful") (v := "tables") (e := [some (.str "careful"), some (.lst ((ns.map num).map .str)), none, none, none, none, none]) rfl (decide_eq_false word_ne.2.1.1)
  have t2 := test_eq (w := "careful") (v := "remind") (e := [some (.str "careful"), some (.lst ((ns.map num).map .str)), none, none, none, none, none]) rfl (decide_eq_false word_ne.2.1.2.1)
  rw [ap_sSeq, ap_sIf, t1, Out.fl_ok]
  simp only [Bool.false_eq_true, if_false]
  rw [ap_sNext, Fl.bind_next, ap_sSeq, ap_sIf, t2, Out.fl_ok]
  simp only [Bool.false_eq_true, if_false]
  rw [ap_sNext, Fl.bind_next, ap_sSeq, numbers_lc hn hl, Fl.bind_next]
  generalize hE : ([some (.str "careful"), some (.lst ((ns.map num).map .str)), some (.lst (ns.map .int)), none, none, none, none] : Mir.Env) = e7
  have t3 : (mTest (e2 oIn (eC .non) (eVar 2))) e7 = .ok false e7 := by
    have e : (e2 oIn (eC .non) (eVar 2)) e7 = Out.opt (oIn .non (.lst (ns.map .int))) e7 := by rw [← hE]; rfl
    rw [ap_mTest, e, inN_ints]
    rfl
  have t4 := test_eq (w := "careful") (v := "keys") (e := e7) (by rw [← hE]; rfl) (decide_eq_false word_ne.2.1.2.2)
  rw [ap_sSeq, ap_sIf, ap_mOr, t3, Out.bind_ok]
  simp only [Bool.false_eq_true, if_false]
  rw [ap_mAnd, t4, Out.bind_ok]
  simp only [Bool.false_eq_true, if_false, Out.fl_ok]
  rw [ap_sNext, Fl.bind_next, ap_sRet, ap_eIf, t4, Out.bind_ok]
  simp only [Bool.false_eq_true, if_false]
  rw [← hE]
  rfl
end K14
/-! M14q -/
namespace K14
open PySem PySem.Spec PyProof.Rows L2 Mir
/-- a map whose each step is told by a list beside it -/
theorem lcGo_list {α : Type} {vs : List Nat} {g : GM} {c : TM} {e : EM} {w : Mir.Env} (f h : α → D) (hst : ∀ x : α, ∀ P : α → Prop, True) : ∀ (b : List α) (acc : List D), (∀ x ∈ b, ∃ e1, g (f x) w = some e1 ∧ ∃ e2, c e1 = .ok true e2 ∧ ∃ e3, e e2 = .ok (h x) e3 ∧ wipeE e3 vs = w) → acc.length + b.length ≤ 100000 →
    lcGo vs g c e (b.map f) acc w = .ok (acc ++ b.map h) w
  | [], acc, _, _ => by rw [List.map_nil, List.map_nil, List.append_nil]; rfl
  | x :: b, acc, hs, hl => by
    obtain ⟨e1, h1, e2, h2, e3, h3, h4⟩ := hs x List.mem_cons_self
    rw [List.length_cons] at hl
    rw [List.map_cons]
    unfold lcGo
    rw [h1]
    dsimp only
    rw [h2, Out.noX_ok, Out.bind_ok, if_pos rfl, h3, Out.noX_ok, Out.bind_ok, if_pos (by omega), h4, lcGo_list f h hst b (acc ++ [h x]) (fun y m => hs y (List.mem_cons_of_mem _ m)) (by rw [List.length_append]; simp only [List.length_cons, List.length_nil]; omega)]
    simp
theorem colon_ne : ((":" : Str).length == 0) = false ∧ (" " : Str).length = 1 ∧ ((" " : Str).length == 0) = false ∧ (("\n" : Str).length == 0) = false := by decide +kernel
theorem remS_join (r : Int × Int) : remS r = Txt.join (SX.S [58]) [num r.1, num r.2] := by
  have h := SX.join_S [58] [(num r.1).cps.toList, (num r.2).cps.toList]
  have e : ([(num r.1).cps.toList, (num r.2).cps.toList]).map SX.S = [num r.1, num r.2] := by
    show [SX.S _, SX.S _] = _
    rw [SX.S_tl, SX.S_tl]
  rw [e] at h
  rw [h]
  unfold remS
  rw [lit_eq.2.2]
  have e2 : num r.1 = SX.S (num r.1).cps.toList := (SX.S_tl _).symm
  have e3 : num r.2 = SX.S (num r.2).cps.toList := (SX.S_tl _).symm
  rw [e2, e3, SX.S_cat, SX.S_cat]
  simp [TL.joinL]
theorem split_colon {r : Int × Int} (h : (0 ≤ r.1 ∧ r.1 < 100) ∧ 0 ≤ r.2 ∧ r.2 < 100) : oSplit (.str (remS r)) (.str ":") = some (.lst ([num r.1, num r.2].map .str)) := by
  have hl := remS_len h
  unfold oSplit
  dsimp only
  rw [if_pos ⟨colon_ne.1, by omega⟩, lit_eq.2.2, remS_join, split_join (by decide) (by simp) (fun y m => by
    simp only [List.mem_cons, List.not_mem_nil, or_false] at m
    rcases m with rfl | rfl
    · intro z
      have := num_chars h.1.1 h.1.2 58 z
      omega
    · intro z
      have := num_chars h.2.1 h.2.2 58 z
      omega)]
theorem part_remind {rs : List (Int × Int)} (hn : ∀ r ∈ rs, (0 ≤ r.1 ∧ r.1 < 100) ∧ 0 ≤ r.2 ∧ r.2 < 100) (hl : rs.length ≤ 1000) : d_read_part [.str "remind", .lst ((rs.map remS).map .str)] = .ok (.tup (rs.map Mir.pairD)) := by
  let S1 : D := .lst ((rs.map remS).map .str)
  let pl : Int × Int → D := fun r => .lst ([num r.1, num r.2].map .str)
  let nl : Int × Int → D := fun r => .lst ([r.1, r.2].map .int)
  have t1 := test_eq (w := "remind") (v := "tables") (e := [some (.str "remind"), some S1, none, none, none, none, none]) rfl (decide_eq_false word_ne.2.2)
  have t2 := test_eq (w := "remind") (v := "remind") (e := [some (.str "remind"), some S1, none, none, none, none, none]) rfl (decide_eq_true rfl)
  have s1 : (sAsg (eLc [4] (iSeqM (eVar 1)) (gSet 4) mYes (eM1 oSplit (eVar 4) (eC (.str ":")))) (gSet 3)) [some (.str "remind"), some S1, none, none, none, none, none] = .next [some (.str "remind"), some S1, none, some (.lst (rs.map pl)), none, none, none] := by
    have q := lcGo_list (vs := [4]) (g := gSet 4) (c := mYes) (e := eM1 oSplit (eVar 4) (eC (.str ":"))) (w := [some (.str "remind"), some S1, none, none, none, none, none]) (fun r : Int × Int => D.str (remS r)) pl (fun _ _ => trivial) rs [] (fun r m => ⟨_, rfl, _, rfl, [some (.str "remind"), some S1, none, none, some (.str (remS r)), none, none], by
      show Out.opt (oSplit (.str (remS r)) (.str ":")) _ = _
      rw [split_colon (hn r m)]
      rfl, rfl⟩) (by simp only [List.length_nil]; omega)
    have e : (iSeqM (eVar 1)) [some (.str "remind"), some S1, none, none, none, none, none] = .ok (rs.map fun r => .str (remS r)) [some (.str "remind"), some S1, none, none, none, none, none] := by
      show Out.opt (some ((rs.map remS).map D.str)) _ = _
      rw [List.map_map]
      rfl
    have q' : lcGo [4] (gSet 4) mYes (eM1 oSplit (eVar 4) (eC (.str ":"))) (rs.map fun r => .str (remS r)) [] (wipeE [some (.str "remind"), some S1, none, none, none, none, none] [4]) = _ := q
    rw [ap_sAsg, ap_eLc, e, Out.bind_ok, q', Out.bind_ok]
    rfl
  have s2 : (sAsg (eLc [5] (iSeqM (eVar 3)) (gSet 5) mYes (eLc [6] (iSeqM (eVar 5)) (gSet 6) mYes (eCall d_read_number [] (aCons (eVar 6) aNil)))) (gSet 2)) [some (.str "remind"), some S1, none, some (.lst (rs.map pl)), none, none, none] = .next [some (.str "remind"), some S1, some (.lst (rs.map nl)), some (.lst (rs.map pl)), none, none, none] := by
    have q := lcGo_list (vs := [5]) (g := gSet 5) (c := mYes) (e := eLc [6] (iSeqM (eVar 5)) (gSet 6) mYes (eCall d_read_number [] (aCons (eVar 6) aNil))) (w := [some (.str "remind"), some S1, none, some (.lst (rs.map pl)), none, none, none]) pl nl (fun _ _ => trivial) rs [] (fun r m => ⟨_, rfl, _, rfl, [some (.str "remind"), some S1, none, some (.lst (rs.map pl)), none, some (pl r), none], by
      have hr := hn r m
      have q2 := lcGo_list (vs := [6]) (g := gSet 6) (c := mYes) (e := eCall d_read_number [] (aCons (eVar 6) aNil)) (w := [some (.str "remind"), some S1, none, some (.lst (rs.map pl)), none, some (pl r), none]) (fun i : Int => D.str (num i)) D.int (fun _ _ => trivial) [r.1, r.2] [] (fun i mi => ⟨_, rfl, _, rfl, [some (.str "remind"), some S1, none, some (.lst (rs.map pl)), none, some (pl r), some (.str (num i))], by
        have hi : 0 ≤ i ∧ i < 100 := by
          simp only [List.mem_cons, List.not_mem_nil, or_false] at mi
          rcases mi with rfl | rfl
          · exact hr.1
          · exact hr.2
        show (eCall d_read_number [] (aCons (eVar 6) aNil)) [some (.str "remind"), some S1, none, some (.lst (rs.map pl)), none, some (pl r), some (.str (num i))] = _
        have hA : (aCons (eVar 6) aNil) [some (.str "remind"), some S1, none, some (.lst (rs.map pl)), none, some (pl r), some (.str (num i))] = .ok [.str (num i)] [some (.str "remind"), some S1, none, some (.lst (rs.map pl)), none, some (pl r), some (.str (num i))] := rfl
        rw [ap_eCall, hA, Out.bind_ok, List.append_nil, read_number_spec hi.1 hi.2]
        rfl, rfl⟩) (by simp)
      have q2' : lcGo [6] (gSet 6) mYes (eCall d_read_number [] (aCons (eVar 6) aNil)) [.str (num r.1), .str (num r.2)] [] (wipeE [some (.str "remind"), some S1, none, some (.lst (rs.map pl)), none, some (pl r), none] [6]) = _ := q2
      show (eLc [6] (iSeqM (eVar 5)) (gSet 6) mYes (eCall d_read_number [] (aCons (eVar 6) aNil))) [some (.str "remind"), some S1, none, some (.lst (rs.map pl)), none, some (pl r), none] = _
      rw [ap_eLc, show (iSeqM (eVar 5)) [some (.str "remind"), some S1, none, some (.lst (rs.map pl)), none, some (pl r), none] = .ok [.str (num r.1), .str (num r.2)] [some (.str "remind"), some S1, none, some (.lst (rs.map pl)), none, some (pl r), none] from rfl, Out.bind_ok, q2', Out.bind_ok]
      rfl, rfl⟩) (by simp only [List.length_nil]; omega)
    have q' : lcGo [5] (gSet 5) mYes (eLc [6] (iSeqM (eVar 5)) (gSet 6) mYes (eCall d_read_number [] (aCons (eVar 6) aNil))) (rs.map pl) [] (wipeE [some (.str "remind"), some S1, none, some (.lst (rs.map pl)), none, none, none] [5]) = _ := q
    rw [ap_sAsg, ap_eLc, show (iSeqM (eVar 3)) [some (.str "remind"), some S1, none, some (.lst (rs.map pl)), none, none, none] = .ok (rs.map pl) [some (.str "remind"), some S1, none, some (.lst (rs.map pl)), none, none, none] from rfl, Out.bind_ok, q', Out.bind_ok]
    rfl
  generalize hE : ([some (.str "remind"), some S1, some (.lst (rs.map nl)), some (.lst (rs.map pl)), none, none, none] : Mir.Env) = e7 at s2
  have hw : wipeE e7 [5] = e7 := by rw [← hE]; rfl
  have hr : resE e7 e7 [5] = e7 := by rw [← hE]; rfl
  have hi : (iSeqM (eVar 2)) e7 = .ok (rs.map nl) e7 := by rw [← hE]; rfl
  have t3 : (mTest (eA (A1 oAny) (aCons (eLc [5] (iSeqM (eVar 2)) (gSet 5) mYes (eOrV (e2 oNe (eA (A1 oLen) (aCons (eVar 5) aNil)) (eC (.int 2))) (e2 oIn (eC .non) (eVar 5)))) aNil))) e7 = .ok false e7 := by
    have q := lcGo_list (vs := [5]) (g := gSet 5) (c := mYes) (e := eOrV (e2 oNe (eA (A1 oLen) (aCons (eVar 5) aNil)) (eC (.int 2))) (e2 oIn (eC .non) (eVar 5))) (w := e7) nl (fun _ => D.bl false) (fun _ _ => trivial) rs [] (fun r m => ⟨_, rfl, _, rfl, e7.set 5 (some (nl r)), by
      have a1 : (e2 oNe (eA (A1 oLen) (aCons (eVar 5) aNil)) (eC (.int 2))) (e7.set 5 (some (nl r))) = .ok (.bl false) (e7.set 5 (some (nl r))) := by
        have e : (e2 oNe (eA (A1 oLen) (aCons (eVar 5) aNil)) (eC (.int 2))) (e7.set 5 (some (nl r))) = Out.opt (oNe (.int 2) (.int 2)) (e7.set 5 (some (nl r))) := by rw [← hE]; rfl
        rw [e, oNe_int]
        rfl
      have a2 : (e2 oIn (eC .non) (eVar 5)) (e7.set 5 (some (nl r))) = .ok (.bl false) (e7.set 5 (some (nl r))) := by
        have e : (e2 oIn (eC .non) (eVar 5)) (e7.set 5 (some (nl r))) = Out.opt (oIn .non (.lst ([r.1, r.2].map .int))) (e7.set 5 (some (nl r))) := by rw [← hE]; rfl
        rw [e, inN_ints]
        rfl
      rw [ap_eOrV, a1, Out.bind_ok, dd_boo, Out.opt_some, Out.bind_ok]
      simp only [Bool.false_eq_true, if_false]
      exact a2, by rw [← hE]; rfl⟩) (by simp only [List.length_nil]; omega)
    rw [ap_mTest, ap_eA, ap_aCons, ap_eLc, hi, Out.bind_ok, hw, q, Out.bind_ok, Out.bind_ok, ap_aNil, Out.bind_ok, Out.bind_ok, ap_A1, hr]
    have := any_false (rs.map nl)
    rw [List.map_map] at this
    have e : ([] ++ rs.map fun _ => D.bl false) = rs.map ((fun _ => D.bl false) ∘ nl) := rfl
    rw [e, this]
    rfl
  have t4 : (eA (A1 oTuple) (aCons (eLc [5] (iSeqM (eVar 2)) (gSet 5) mYes (eA (A1 oTuple) (aCons (eVar 5) aNil))) aNil)) e7 = .ok (.tup (rs.map Mir.pairD)) e7 := by
    have q := lcGo_list (vs := [5]) (g := gSet 5) (c := mYes) (e := eA (A1 oTuple) (aCons (eVar 5) aNil)) (w := e7) nl Mir.pairD (fun _ _ => trivial) rs [] (fun r m => ⟨_, rfl, _, rfl, e7.set 5 (some (nl r)), by rw [← hE]; rfl, by rw [← hE]; rfl⟩) (by simp only [List.length_nil]; omega)
    rw [ap_eA, ap_aCons, ap_eLc, hi, Out.bind_ok, hw, q, Out.bind_ok, Out.bind_ok, ap_aNil, Out.bind_ok, Out.bind_ok, hr]
    rfl
  refine runF_ret (e := e7) ?_ rfl
  show b_read_part [some (.str "remind"), some S1, none, none, none, none, none] = _
  unfold b_read_part
  rw [ap_sSeq, ap_sIf, t1, Out.fl_ok]
  simp only [Bool.false_eq_true, if_false]
  rw [ap_sNext, Fl.bind_next, ap_sSeq, ap_sIf, t2, Out.fl_ok, if_pos rfl, ap_sSeq, s1, Fl.bind_next, ap_sSeq, s2, Fl.bind_next, ap_sSeq, ap_sIf, t3, Out.fl_ok]
  simp only [Bool.false_eq_true, if_false]
  rw [ap_sNext, Fl.bind_next, ap_sRet, t4]
  rfl
end K14
/-! M14r -/
namespace K14
open PySem PySem.Spec PyProof.Rows L2 Mir
theorem word_chars {p : Pt} (h : p.Ok) : ∀ row ∈ p.rows, ∀ y ∈ row, ∀ c ∈ y.cps.toList, 48 ≤ c := by
  have hlit := lit_chars
  rw [List.all_eq_true] at hlit
  have lit : ∀ c, c ∈ ("tables" : Str).cps.toList ++ ("keys" : Str).cps.toList ++ ("careful" : Str).cps.toList ++ ("remind" : Str).cps.toList → 48 ≤ c := fun c m => by
    have := hlit c m
    have : 97 ≤ c := by simpa using this
    omega
  intro row m y my c mc
  unfold Pt.rows at m
  simp only [List.mem_cons, List.not_mem_nil, or_false] at m
  rcases m with rfl | rfl | rfl | rfl
  · rcases List.mem_cons.mp my with rfl | my
    · exact lit c (by simp only [List.mem_append]; exact .inl (.inl (.inl mc)))
    · rcases (h.tt y my).s c mc with rfl | rfl <;> decide
  · simp only [List.mem_cons, List.not_mem_nil, or_false] at my
    rcases my with rfl | rfl
    · exact lit c (by simp only [List.mem_append]; exact .inl (.inl (.inr mc)))
    · exact (num_chars h.k0 (by have := h.k9; omega) c mc).1
  · rcases List.mem_cons.mp my with rfl | my
    · exact lit c (by simp only [List.mem_append]; exact .inl (.inr mc))
    · obtain ⟨i, mi, rfl⟩ := List.mem_map.mp my
      have := cs_range h mi
      exact (num_chars this.1 this.2 c mc).1
  · rcases List.mem_cons.mp my with rfl | my
    · exact lit c (by simp only [List.mem_append]; exact .inr mc)
    · obtain ⟨r, mr, rfl⟩ := List.mem_map.mp my
      have hr := rs_range h mr
      rw [remS_join] at mc
      rcases join_chars mc with rfl | ⟨z, mz, hz⟩
      · decide
      · simp only [List.mem_cons, List.not_mem_nil, or_false] at mz
        rcases mz with rfl | rfl
        · exact (num_chars hr.1.1 hr.1.2 c hz).1
        · exact (num_chars hr.2.1 hr.2.2 c hz).1
theorem split_row {row : List Str} (hne : row ≠ []) (h : ∀ y ∈ row, ∀ c ∈ y.cps.toList, 48 ≤ c) (hl : (Txt.join " " row).length ≤ 100000) : oSplit (.str (Txt.join " " row)) (.str " ") = some (.lst (row.map .str)) := by
  unfold oSplit
  dsimp only
  rw [if_pos ⟨colon_ne.2.2.1, hl⟩, lit_eq.2.1, split_join (by decide) hne (fun y m z => by have := h y m 32 z; omega)]
theorem split_text {p : Pt} (h : p.Ok) : oSplit (.str p.text) (.str "\n") = some (.lst ((p.rows.map (Txt.join " ")).map .str)) := by
  have hl : p.text.length ≤ 100000 := by
    unfold Pt.text
    have h0 := join_len "\n" (p.rows.map (Txt.join " "))
    have h1 := sum_le (ys := p.rows.map (Txt.join " ")) (n := 275) (fun y m => by
      obtain ⟨row, mr, rfl⟩ := List.mem_map.mp m
      exact Nat.le_trans (join_len " " row) (row_sum (rows_ok h row mr)))
    have h2 : (p.rows.map (Txt.join " ")).length = 4 := rfl
    rw [h2] at h1 h0
    rw [lit_len.2.2.2.2.2.2] at h0
    omega
  unfold oSplit
  dsimp only
  rw [if_pos ⟨colon_ne.2.2.2, hl⟩]
  unfold Pt.text
  rw [lit_eq.1, split_join (by decide) (by unfold Pt.rows; simp) (fun y m z => by
    obtain ⟨row, mr, rfl⟩ := List.mem_map.mp m
    rw [lit_eq.2.1] at z
    rcases join_chars z with z | ⟨x, mx, hx⟩
    · cases z
    · have := word_chars h row mr x mx 10 hx
      omega)]
theorem cut1 (x : D) (xs : List D) : Mir.cutD (x :: xs) (some 1) none = xs := by
  unfold Mir.cutD
  rw [show HT.sIx (x :: xs).length 0 (some 1) = min 1 (x :: xs).length from HT.sIx_nat (x :: xs).length 0 1, HT.sIx_none, show min 1 (x :: xs).length = 1 by rw [List.length_cons]; omega]
  show List.take ((x :: xs).length - 1) xs = xs
  rw [List.length_cons, Nat.add_sub_cancel]
  exact List.take_length
def P8 (t : Str) (ls : List D) (ps : List D) (a b c d : Option D) : Mir.Env := [some (.cls 0), some (.str t), some (.lst ls), some (.lst ps), a, b, c, d]
theorem parse_step {t : Str} {ls ps : List D} {i : Nat} {w : Str} {tail : List Str} {v : D} {c d : Option D} (h1 : ls[i]? = some (.str (Txt.join " " (w :: tail)))) (h2 : ∀ y ∈ w :: tail, ∀ c ∈ y.cps.toList, 48 ≤ c) (h3 : (Txt.join " " (w :: tail)).length ≤ 100000)
    (h4 : d_read_part [.str w, .lst (tail.map .str)] = .ok v) (h5 : v.isN = false) (h6 : ps.length ≤ 1000) :
    (sSeq (sAsg (eIf (mTest (e2 oLtI (eVar 4) (eA (A1 oLen) (aCons (eVar 2) aNil)))) (eM1 oSplit (e2 oIx (eVar 2) (eVar 4)) (eC (.str " "))) (eLst (aCons (eC (.str "")) aNil))) (gSet 6))
  (sSeq (sAsg (eCall d_read_part [] (aCons (eVar 5) (aCons (eSl oSl (eVar 6) (pSome (eC (.int 1))) pNone) aNil))) (gSet 7))
  (sSeq (sIf (mOr (mTest (e2 oNe (e2 oIx (eVar 6) (eC (.int 0))) (eVar 5))) (mTest (e2 oIsN (eVar 7) (eC .non)))) sBad sNext)
  (sApp 3 (eVar 7))))) (P8 t ls ps (some (.int i)) (some (.str w)) c d) = .next (P8 t ls (ps ++ [v]) (some (.int i)) (some (.str w)) (some (.lst ((w :: tail).map .str))) (some v)) := by
  have hi := (List.getElem?_eq_some_iff.mp h1).1
  generalize hE : P8 t ls ps (some (.int i)) (some (.str w)) c d = e9
  have t1 : (mTest (e2 oLtI (eVar 4) (eA (A1 oLen) (aCons (eVar 2) aNil)))) e9 = .ok true e9 := by
    have e : (mTest (e2 oLtI (eVar 4) (eA (A1 oLen) (aCons (eVar 2) aNil)))) e9 = .ok (decide (((i : Nat) : Int) < (ls.length : Nat))) e9 := by rw [← hE]; rfl
    rw [e, decide_eq_true (by omega)]
  have t2 : (eM1 oSplit (e2 oIx (eVar 2) (eVar 4)) (eC (.str " "))) e9 = .ok (.lst ((w :: tail).map .str)) e9 := by
    have e : (e2 oIx (eVar 2) (eVar 4)) e9 = Out.opt (atI ls ((i : Nat) : Int)) e9 := by rw [← hE]; rfl
    rw [ap_eM1, e, atI_nn h1, Out.opt_some, Out.bind_ok, dd_isS, if_pos rfl, ap_eC, Out.bind_ok, split_row (by simp) h2 h3]
    rfl
  have s1 : (sAsg (eIf (mTest (e2 oLtI (eVar 4) (eA (A1 oLen) (aCons (eVar 2) aNil)))) (eM1 oSplit (e2 oIx (eVar 2) (eVar 4)) (eC (.str " "))) (eLst (aCons (eC (.str "")) aNil))) (gSet 6)) e9 = .next (P8 t ls ps (some (.int i)) (some (.str w)) (some (.lst ((w :: tail).map .str))) d) := by
    rw [ap_sAsg, ap_eIf, t1, Out.bind_ok, if_pos rfl, t2, Out.fl_ok, ← hE]
    rfl
  rw [ap_sSeq, s1, Fl.bind_next]
  generalize hF : P8 t ls ps (some (.int i)) (some (.str w)) (some (.lst ((w :: tail).map .str))) d = f9
  have s2 : (sAsg (eCall d_read_part [] (aCons (eVar 5) (aCons (eSl oSl (eVar 6) (pSome (eC (.int 1))) pNone) aNil))) (gSet 7)) f9 = .next (P8 t ls ps (some (.int i)) (some (.str w)) (some (.lst ((w :: tail).map .str))) (some v)) := by
    have hA : (aCons (eVar 5) (aCons (eSl oSl (eVar 6) (pSome (eC (.int 1))) pNone) aNil)) f9 = .ok [.str w, .lst (tail.map .str)] f9 := by
      have e : (aCons (eVar 5) (aCons (eSl oSl (eVar 6) (pSome (eC (.int 1))) pNone) aNil)) f9 = .ok [.str w, .lst (Mir.cutD (.str w :: tail.map .str) (some 1) none)] f9 := by rw [← hF]; rfl
      rw [e, cut1]
    rw [ap_sAsg, ap_eCall, hA, Out.bind_ok, List.append_nil, h4, ← hF]
    rfl
  rw [ap_sSeq, s2, Fl.bind_next]
  generalize hG : P8 t ls ps (some (.int i)) (some (.str w)) (some (.lst ((w :: tail).map .str))) (some v) = g9
  have t3 : (mTest (e2 oNe (e2 oIx (eVar 6) (eC (.int 0))) (eVar 5))) g9 = .ok false g9 := by
    have e : (e2 oIx (eVar 6) (eC (.int 0))) g9 = .ok (.str w) g9 := by
      have e : (e2 oIx (eVar 6) (eC (.int 0))) g9 = Out.opt (atI (.str w :: tail.map .str) 0) g9 := by rw [← hG]; rfl
      rw [e, atI_c0]
      rfl
    have e' : (eVar 5) g9 = .ok (.str w) g9 := by rw [← hG]; rfl
    rw [ap_mTest, ap_e2, e, Out.bind_ok, e', Out.bind_ok, oNe_str, decide_eq_true rfl]
    rfl
  have t4 : (mTest (e2 oIsN (eVar 7) (eC .non))) g9 = .ok false g9 := by
    have e : (e2 oIsN (eVar 7) (eC .non)) g9 = .ok (.bl v.isN) g9 := by rw [← hG]; rfl
    rw [ap_mTest, e, h5]
    rfl
  rw [ap_sSeq, ap_sIf, ap_mOr, t3, Out.bind_ok]
  simp only [Bool.false_eq_true, if_false]
  rw [t4, Out.fl_ok]
  simp only [Bool.false_eq_true, if_false]
  rw [ap_sNext, Fl.bind_next, ap_sApp, ← hG]
  show (if ps.length < 100000 then _ else _) = _
  rw [if_pos (by omega)]
  rfl
theorem parse_spec {p : Pt} (h : p.Ok) : ∃ M, d_House_parse [.cls 0, .str p.text] = .ok (p.H M) := by
  obtain ⟨M, eM, _⟩ := init_spec h
  have hcs := cs_le h
  have h6 := h.t6
  refine ⟨M, ?_⟩
  let ls : List D := (p.rows.map (Txt.join " ")).map .str
  have hb : ∀ row ∈ p.rows, (Txt.join " " row).length ≤ 100000 := fun row m => Nat.le_trans (Nat.le_trans (join_len " " row) (row_sum (rows_ok h row m))) (by decide)
  have hw := word_chars h
  have m0 : ("tables" :: p.ts : List Str) ∈ p.rows := by unfold Pt.rows; simp
  have m1 : ([("keys" : Str), num p.keys]) ∈ p.rows := by unfold Pt.rows; simp
  have m2 : (("careful" : Str) :: p.cs.map num) ∈ p.rows := by unfold Pt.rows; simp
  have m3 : (("remind" : Str) :: p.rs.map remS) ∈ p.rows := by unfold Pt.rows; simp
  have st0 := fun c d => parse_step (t := p.text) (ls := ls) (ps := []) (i := 0) (w := "tables") (tail := p.ts) (c := c) (d := d) rfl (hw _ m0) (hb _ m0) (part_tables h.tt (by omega)) rfl (Nat.zero_le _)
  have st1 := fun c d => parse_step (t := p.text) (ls := ls) (ps := [.tup (p.ts.map .str)]) (i := 1) (w := "keys") (tail := [num p.keys]) (c := c) (d := d) rfl (hw _ m1) (hb _ m1) (part_keys h.k0 (by have := h.k9; omega)) rfl (by simp)
  have st2 := fun c d => parse_step (t := p.text) (ls := ls) (ps := [.tup (p.ts.map .str), .int p.keys]) (i := 2) (w := "careful") (tail := p.cs.map num) (c := c) (d := d) rfl (hw _ m2) (hb _ m2) (part_careful (fun c m => cs_range h m) (by omega)) rfl (by simp)
  have st3 := fun c d => parse_step (t := p.text) (ls := ls) (ps := [.tup (p.ts.map .str), .int p.keys, .tup (p.cs.map .int)]) (i := 3) (w := "remind") (tail := p.rs.map remS) (c := c) (d := d) rfl (hw _ m3) (hb _ m3) (part_remind (fun r m => rs_range h m) (by have := h.rn; omega)) rfl (by simp)
  let B : SM := (sSeq (sAsg (eIf (mTest (e2 oLtI (eVar 4) (eA (A1 oLen) (aCons (eVar 2) aNil)))) (eM1 oSplit (e2 oIx (eVar 2) (eVar 4)) (eC (.str " "))) (eLst (aCons (eC (.str "")) aNil))) (gSet 6))
  (sSeq (sAsg (eCall d_read_part [] (aCons (eVar 5) (aCons (eSl oSl (eVar 6) (pSome (eC (.int 1))) pNone) aNil))) (gSet 7))
  (sSeq (sIf (mOr (mTest (e2 oNe (e2 oIx (eVar 6) (eC (.int 0))) (eVar 5))) (mTest (e2 oIsN (eVar 7) (eC .non)))) sBad sNext)
  (sApp 3 (eVar 7)))))
  have go : ∀ (i : Int) (w : Str) (ds ps ps' : List D) (a b c d a' b' c' d' : Option D), B (P8 p.text ls ps (some (.int i)) (some (.str w)) c d) = .next (P8 p.text ls ps' a' b' c' d') →
      forGo (gTupleM [(gSet 4), (gSet 5)]) B (.tup [.int i, .str w] :: ds) (P8 p.text ls ps a b c d) = forGo (gTupleM [(gSet 4), (gSet 5)]) B ds (P8 p.text ls ps' a' b' c' d') := fun i w ds ps ps' a b c d a' b' c' d' hB => by
    show (match B (P8 p.text ls ps (some (.int i)) (some (.str w)) c d) with | .next e' => _ | .cont e' => _ | .brk e' => _ | .ret x e' => _ | .exc x e' => _ | .bad => _ : Fl) = _
    rw [hB]
  have loop : (sFor (Mir.iEnumT (eTup (aCons (eC (.str "tables")) (aCons (eC (.str "keys")) (aCons (eC (.str "careful")) (aCons (eC (.str "remind")) aNil)))))) (gTupleM [(gSet 4), (gSet 5)]) B) (P8 p.text ls [] none none none none) = .next (P8 p.text ls [.tup (p.ts.map .str), .int p.keys, .tup (p.cs.map .int), .tup (p.rs.map Mir.pairD)] (some (.int (3 : Nat))) (some (.str "remind")) (some (.lst ((("remind" : Str) :: p.rs.map remS).map .str))) (some (.tup (p.rs.map Mir.pairD)))) := by
    have hI : (Mir.iEnumT (eTup (aCons (eC (.str "tables")) (aCons (eC (.str "keys")) (aCons (eC (.str "careful")) (aCons (eC (.str "remind")) aNil)))))) (P8 p.text ls [] none none none none) = .ok [.tup [.int (0 : Nat), .str "tables"], .tup [.int (1 : Nat), .str "keys"], .tup [.int (2 : Nat), .str "careful"], .tup [.int (3 : Nat), .str "remind"]] (P8 p.text ls [] none none none none) := rfl
    rw [ap_sFor, hI, Out.fl_ok]
    exact (go _ _ _ _ _ _ _ _ _ _ _ _ _ (st0 none none)).trans ((go _ _ _ _ _ _ _ _ _ _ _ _ _ (st1 _ _)).trans ((go _ _ _ _ _ _ _ _ _ _ _ _ _ (st2 _ _)).trans ((go _ _ _ _ _ _ _ _ _ _ _ _ _ (st3 _ _)).trans rfl)))
  refine runF_ret (e := P8 p.text ls [.tup (p.ts.map .str), .int p.keys, .tup (p.cs.map .int), .tup (p.rs.map Mir.pairD)] (some (.int (3 : Nat))) (some (.str "remind")) (some (.lst ((("remind" : Str) :: p.rs.map remS).map .str))) (some (.tup (p.rs.map Mir.pairD)))) ?_ rfl
  show b_House_parse [some (.cls 0), some (.str p.text), none, none, none, none, none, none] = _
  unfold b_House_parse
  have s0 : (sAsg (eM1 oSplit (eVar 1) (eC (.str "\n"))) (gSet 2)) [some (.cls 0), some (.str p.text), none, none, none, none, none, none] = .next [some (.cls 0), some (.str p.text), some (.lst ls), none, none, none, none, none] := by
    have e : (eM1 oSplit (eVar 1) (eC (.str "\n"))) [some (.cls 0), some (.str p.text), none, none, none, none, none, none] = Out.opt (oSplit (.str p.text) (.str "\n")) [some (.cls 0), some (.str p.text), none, none, none, none, none, none] := rfl
    rw [ap_sAsg, e, split_text h]
    rfl
  have s1 : (sOwn (eLst aNil) 3) [some (.cls 0), some (.str p.text), some (.lst ls), none, none, none, none, none] = .next (P8 p.text ls [] none none none none) := rfl
  rw [ap_sSeq, s0, Fl.bind_next, ap_sSeq, s1, Fl.bind_next, ap_sSeq]
  have loop' : (sFor (Mir.iEnumT (eTup (aCons (eC (.str "tables")) (aCons (eC (.str "keys")) (aCons (eC (.str "careful")) (aCons (eC (.str "remind")) aNil)))))) (gTupleM [(gSet 4), (gSet 5)]) (sSeq (sAsg (eIf (mTest (e2 oLtI (eVar 4) (eA (A1 oLen) (aCons (eVar 2) aNil)))) (eM1 oSplit (e2 oIx (eVar 2) (eVar 4)) (eC (.str " "))) (eLst (aCons (eC (.str "")) aNil))) (gSet 6))
  (sSeq (sAsg (eCall d_read_part [] (aCons (eVar 5) (aCons (eSl oSl (eVar 6) (pSome (eC (.int 1))) pNone) aNil))) (gSet 7))
  (sSeq (sIf (mOr (mTest (e2 oNe (e2 oIx (eVar 6) (eC (.int 0))) (eVar 5))) (mTest (e2 oIsN (eVar 7) (eC .non)))) sBad sNext)
  (sApp 3 (eVar 7)))))) (P8 p.text ls [] none none none none) = _ := loop
  rw [loop', Fl.bind_next]
  generalize hE : P8 p.text ls [.tup (p.ts.map .str), .int p.keys, .tup (p.cs.map .int), .tup (p.rs.map Mir.pairD)] (some (.int (3 : Nat))) (some (.str "remind")) (some (.lst ((("remind" : Str) :: p.rs.map remS).map .str))) (some (.tup (p.rs.map Mir.pairD))) = e9
  have t1 : (mTest (e2 oGtI (eA (A1 oLen) (aCons (eVar 2) aNil)) (eA (A1 oLen) (aCons (eVar 3) aNil)))) e9 = .ok false e9 := by rw [← hE]; rfl
  have t2 : (eMakeS 0 0 d_House__init_ (eVar 3)) e9 = .ok (p.H M) e9 := by
    have e0 : e9[0]? = some (some (.cls 0)) := by rw [← hE]; rfl
    have e3 : (eVar 3) e9 = .ok (.lst [.tup (p.ts.map .str), .int p.keys, .tup (p.cs.map .int), .tup (p.rs.map Mir.pairD)]) e9 := by rw [← hE]; rfl
    rw [ap_eMakeS, e0]
    dsimp only
    rw [if_pos rfl, e3, Out.bind_ok, dd_seqL, Out.opt_some, Out.bind_ok, eM]
    rfl
  rw [ap_sSeq, ap_sIf, t1, Out.fl_ok]
  simp only [Bool.false_eq_true, if_false]
  rw [ap_sNext, Fl.bind_next, ap_sRet, t2]
  rfl
end K14
/-! M14s -/
namespace K14
open PySem PySem.Spec PyProof.Rows L2 Mir
theorem equal_str (n : Nat) (v : Str) : d_law_equal (n + 1) [.str v, .str v] = .ok (.bl true) := by
  refine runF_ret (e := [some (.str v), some (.str v), none]) ?_ rfl
  show b_law_equal (d_law_equal n) [some (.str v), some (.str v), none] = _
  unfold b_law_equal
  have x1 : oIsN (.str v) .non = some (.bl false) := rfl
  have x2 : oIsi "bool" (.str v) = some (.bl false) := rfl
  have x3 : oIsi "int" (.str v) = some (.bl false) := rfl
  have x4 : oIsi "str" (.str v) = some (.bl true) := rfl
  simp only [ap_sSeq, ap_sIf, ap_mTest, ap_e2, ap_e1, ap_eVar, ap_eC, List.getElem?_cons_zero, List.getElem?_cons_succ, Out.bind_ok, x1, x2, x3, x4, Out.opt_some, dd_boo, Out.fl_ok, Bool.false_eq_true, if_false, if_true, ap_sNext, Fl.bind_next, ap_sRet, ap_eAndV, oEq_str, decide_true, Fl.bind_ret]
theorem equal_X (n : Nat) (X : D) (ds : List D) (bt bl : Bool) (hl : ds.length ≤ 1000) (i0 : oIsN X .non = some (.bl false)) (i1 : oIsi "bool" X = some (.bl false)) (i2 : oIsi "int" X = some (.bl false)) (i3 : oIsi "str" X = some (.bl false)) (i4 : oIsi "tuple" X = some (.bl bt)) (i5 : oIsi "list" X = some (.bl bl))
    (i6 : oLen X = some (.int (ds.length : Nat))) (i7 : ∀ i, oIx X (.int i) = atI ds i) (h : ∀ d ∈ ds, d_law_equal n [d, d] = .ok (.bl true)) : d_law_equal (n + 1) [X, X] = .ok (.bl true) := by
  refine runF_ret (e := [some X, some X, none]) ?_ rfl
  show b_law_equal (d_law_equal n) [some X, some X, none] = _
  unfold b_law_equal
  have v0 : ∀ o : Option D, (eVar 0) [some X, some X, o] = .ok X [some X, some X, o] := fun _ => rfl
  have v1 : ∀ o : Option D, (eVar 1) [some X, some X, o] = .ok X [some X, some X, o] := fun _ => rfl
  have u1 : ∀ (T : String) (b : Bool), oIsi T X = some (.bl b) → (e1 (oIsi T) (eVar 1)) [some X, some X, none] = .ok (.bl b) [some X, some X, none] := fun T b h => by
    rw [ap_e1, v1, Out.bind_ok, h]
    rfl
  have u0 : ∀ (T : String) (b : Bool), oIsi T X = some (.bl b) → (e1 (oIsi T) (eVar 0)) [some X, some X, none] = .ok (.bl b) [some X, some X, none] := fun T b h => by
    rw [ap_e1, v0, Out.bind_ok, h]
    rfl
  have t1 : (mTest (e2 oIsN (eVar 1) (eC .non))) [some X, some X, none] = .ok false [some X, some X, none] := by
    rw [ap_mTest, ap_e2, v1, Out.bind_ok, ap_eC, Out.bind_ok, i0]
    rfl
  have t2 : ∀ (T : String), oIsi T X = some (.bl false) → (mTest (e1 (oIsi T) (eVar 1))) [some X, some X, none] = .ok false [some X, some X, none] := fun T h => by
    rw [ap_mTest, u1 T _ h]
    rfl
  have t3 : ∀ (T : String) (b : Bool), oIsi T X = some (.bl b) → (mTest (e2 oNe (e1 (oIsi T) (eVar 1)) (e1 (oIsi T) (eVar 0)))) [some X, some X, none] = .ok false [some X, some X, none] := fun T b h => by
    rw [ap_mTest, ap_e2, u1 T b h, Out.bind_ok, u0 T b h, Out.bind_ok]
    cases b <;> rfl
  have l0 : (eA (A1 oLen) (aCons (eVar 0) aNil)) [some X, some X, none] = .ok (.int (ds.length : Nat)) [some X, some X, none] := by
    rw [ap_eA, ap_aCons, v0, Out.bind_ok, ap_aNil, Out.bind_ok, Out.bind_ok, ap_A1, i6]
    rfl
  have l1 : (eA (A1 oLen) (aCons (eVar 1) aNil)) [some X, some X, none] = .ok (.int (ds.length : Nat)) [some X, some X, none] := by
    rw [ap_eA, ap_aCons, v1, Out.bind_ok, ap_aNil, Out.bind_ok, Out.bind_ok, ap_A1, i6]
    rfl
  have t4 : (mTest (e2 oNe (eA (A1 oLen) (aCons (eVar 0) aNil)) (eA (A1 oLen) (aCons (eVar 1) aNil)))) [some X, some X, none] = .ok false [some X, some X, none] := by
    rw [ap_mTest, ap_e2, l0, Out.bind_ok, l1, Out.bind_ok, oNe_int, decide_eq_true rfl]
    rfl
  rw [ap_sSeq, ap_sIf, t1, Out.fl_ok]
  simp only [Bool.false_eq_true, if_false]
  rw [ap_sNext, Fl.bind_next, ap_sSeq, ap_sIf, t2 "bool" i1, Out.fl_ok]
  simp only [Bool.false_eq_true, if_false]
  rw [ap_sNext, Fl.bind_next, ap_sSeq, ap_sIf, t2 "int" i2, Out.fl_ok]
  simp only [Bool.false_eq_true, if_false]
  rw [ap_sNext, Fl.bind_next, ap_sSeq, ap_sIf, t2 "str" i3, Out.fl_ok]
  simp only [Bool.false_eq_true, if_false]
  rw [ap_sNext, Fl.bind_next, ap_sSeq, ap_sIf, t3 "tuple" bt i4, Out.fl_ok]
  simp only [Bool.false_eq_true, if_false]
  rw [ap_sNext, Fl.bind_next, ap_sSeq, ap_sIf, t3 "list" bl i5, Out.fl_ok]
  simp only [Bool.false_eq_true, if_false]
  rw [ap_sNext, Fl.bind_next, ap_sSeq, ap_sIf, t4, Out.fl_ok]
  simp only [Bool.false_eq_true, if_false]
  rw [ap_sNext, Fl.bind_next]
  obtain ⟨ys, env', q1, q2, q3⟩ := lcGo_at (vs := [2]) (g := gSet 2) (c := mYes) (e := eCall (d_law_equal n) [] (aCons (e2 oIx (eVar 0) (eVar 2)) (aCons (e2 oIx (eVar 1) (eVar 2)) aNil))) (total := rangeL 0 ds.length) (by rw [rangeL_len]; omega)
    (fun done acc env => env = [some X, some X, none] ∧ acc = (done.map fun _ => true).map D.bl) (ds := rangeL 0 ds.length) (done := []) (acc := []) (env := [some X, some X, none]) rfl ⟨rfl, rfl⟩ (Nat.le_refl _) (by
      rintro done acc d rest env ht ⟨rfl, rfl⟩
      obtain ⟨rfl, hlt⟩ := rangeL_at ht
      obtain ⟨c, hc⟩ : ∃ c, ds[done.length]? = some c := ⟨ds[done.length], List.getElem?_eq_getElem hlt⟩
      have hx : atI ds (0 + (done.length : Int)) = some c := atI_at (j := done.length) hc (by omega)
      have v2 : (eVar 2) [some X, some X, some (.int (0 + done.length))] = .ok (.int (0 + done.length)) [some X, some X, some (.int (0 + done.length))] := rfl
      have hA : (aCons (e2 oIx (eVar 0) (eVar 2)) (aCons (e2 oIx (eVar 1) (eVar 2)) aNil)) [some X, some X, some (.int (0 + done.length))] = .ok [c, c] [some X, some X, some (.int (0 + done.length))] := by
        rw [ap_aCons, ap_e2, v0, Out.bind_ok, v2, Out.bind_ok, i7, hx, Out.opt_some, Out.bind_ok, ap_aCons, ap_e2, v1, Out.bind_ok, v2, Out.bind_ok, i7, hx]
        rfl
      refine ⟨_, rfl, true, _, rfl, fun x => (by cases x), fun _ => ⟨.bl true, [some X, some X, some (.int (0 + done.length))], ?_, rfl, by simp⟩⟩
      show (eCall (d_law_equal n) [] (aCons (e2 oIx (eVar 0) (eVar 2)) (aCons (e2 oIx (eVar 1) (eVar 2)) aNil))) [some X, some X, some (.int (0 + done.length))] = _
      rw [ap_eCall, hA, Out.bind_ok, List.append_nil, h c (List.mem_of_getElem? hc)]
      rfl)
  have hI : (iRng1M (aCons (eA (A1 oLen) (aCons (eVar 1) aNil)) aNil)) [some X, some X, none] = .ok (rangeL 0 ds.length) [some X, some X, none] := by
    rw [ap_iRng1M, ap_aCons, l1, Out.bind_ok, ap_aNil, Out.bind_ok, Out.bind_ok, rng1_len hl]
    rfl
  have q1' : lcGo [2] (gSet 2) mYes (eCall (d_law_equal n) [] (aCons (e2 oIx (eVar 0) (eVar 2)) (aCons (e2 oIx (eVar 1) (eVar 2)) aNil))) (rangeL 0 ds.length) [] (wipeE [some X, some X, none] [2]) = _ := q1
  rw [ap_sRet, ap_eA, ap_aCons, ap_eLc, hI, Out.bind_ok, q1', Out.bind_ok, Out.bind_ok, ap_aNil, Out.bind_ok, Out.bind_ok, ap_A1, q2, q3]
  show Out.fl (Out.opt ((blsOf (((rangeL 0 ds.length).map fun _ => true).map D.bl)).map fun ns => D.bl (ns.all id)) _) _ = _
  rw [blsOf_map]
  have : (((rangeL 0 ds.length).map fun _ => true).all id) = true := by simp
  simp only [Option.map_some, this]
  rfl
theorem equal_lst (n : Nat) {ds : List D} (hl : ds.length ≤ 1000) (h : ∀ d ∈ ds, d_law_equal n [d, d] = .ok (.bl true)) : d_law_equal (n + 1) [.lst ds, .lst ds] = .ok (.bl true) := equal_X n (.lst ds) ds false true hl rfl rfl rfl rfl rfl rfl rfl (fun _ => rfl) h
theorem equal_tup (n : Nat) {ds : List D} (hl : ds.length ≤ 1000) (h : ∀ d ∈ ds, d_law_equal n [d, d] = .ok (.bl true)) : d_law_equal (n + 1) [.tup ds, .tup ds] = .ok (.bl true) := equal_X n (.tup ds) ds true false hl rfl rfl rfl rfl rfl rfl rfl (fun _ => rfl) h
theorem equal_parts {p : Pt} (h : p.Ok) : d_law_equal 4 [.lst [.tup (p.ts.map .str), .int p.keys, .tup (p.cs.map .int), .tup (p.rs.map Mir.pairD)], .lst [.tup (p.ts.map .str), .int p.keys, .tup (p.cs.map .int), .tup (p.rs.map Mir.pairD)]] = .ok (.bl true) := by
  have h6 := h.t6
  have hcs := cs_le h
  have hrn := h.rn
  refine equal_lst 3 (by simp) fun d m => ?_
  simp only [List.mem_cons, List.not_mem_nil, or_false] at m
  rcases m with rfl | rfl | rfl | rfl
  · exact equal_tup 2 (by rw [List.length_map]; omega) fun d m => by
      obtain ⟨z, _, rfl⟩ := List.mem_map.mp m
      exact equal_str 1 z
  · exact equal_int 2 p.keys
  · exact equal_tup 2 (by rw [List.length_map]; omega) fun d m => by
      obtain ⟨z, _, rfl⟩ := List.mem_map.mp m
      exact equal_int 1 z
  · exact equal_tup 2 (by rw [List.length_map]; omega) fun d m => by
      obtain ⟨z, _, rfl⟩ := List.mem_map.mp m
      exact equal_tup 1 (by simp) fun d m => by
        simp only [List.mem_cons, List.not_mem_nil, or_false] at m
        rcases m with rfl | rfl
        · exact equal_int 0 _
        · exact equal_int 0 _
theorem equal_two (t : Str) : d_law_equal 4 [.lst [.str t, .str t], .lst [.str t, .str t]] = .ok (.bl true) := equal_lst 3 (by simp) fun d m => by
  simp only [List.mem_cons, List.not_mem_nil, or_false] at m
  rcases m with rfl | rfl <;> exact equal_str 2 t
def E11 (o : D) (x2 x3 x4 x5 x6 : Option D) : Mir.Env := [none, some o, x2, x3, x4, x5, x6, none, none, none, none]
end K14
/-! M14t -/
namespace K14
open PySem PySem.Spec PyProof.Rows L2 Mir
theorem rows_law {p : Pt} (h : p.Ok) {o : D} {x2 x4 x5 x6 : Option D} : (sSeq (sOwn (eLst (aCons (e2 oAdd (eLst (aCons (eC (.str "tables")) aNil)) (eA (A1 oList) (aCons (e2 oIx (eVar 3) (eC (.int 0))) aNil))) (aCons (eLst (aCons (eC (.str "keys")) (aCons (eA (A1 oStr) (aCons (e2 oIx (eVar 3) (eC (.int 1))) aNil)) aNil))) (aCons (e2 oAdd (eLst (aCons (eC (.str "careful")) aNil)) (eLc [8] (iSeqM (e2 oIx (eVar 3) (eC (.int 2)))) (gSet 8) mYes (eA (A1 oStr) (aCons (eVar 8) aNil)))) aNil)))) 4)
  (sApp 4 (e2 oAdd (eLst (aCons (eC (.str "remind")) aNil)) (eLc [9, 10] (iSeqM (e2 oIx (eVar 3) (eC (.int 3)))) (gTupleM [(gSet 9), (gSet 10)]) mYes (e2 oAdd (e2 oAdd (eA (A1 oStr) (aCons (eVar 9) aNil)) (eC (.str ":"))) (eA (A1 oStr) (aCons (eVar 10) aNil))))))) (E11 o x2 (some p.D) x4 x5 x6) = .next (E11 o x2 (some p.D) (some (.lst (p.rows.map fun row => .lst (row.map .str)))) x5 x6) := by
  have h6 := h.t6
  have hcs := cs_le h
  have hrn := h.rn
  have addS : ∀ xs ys : List Str, xs.length + ys.length ≤ 1000 → oAdd (.lst (xs.map .str)) (.lst (ys.map .str)) = some (.lst ((xs ++ ys).map .str)) := fun xs ys hl => by
    unfold oAdd
    dsimp only
    rw [if_pos (by rw [List.length_map, List.length_map]; omega), List.map_append]
  have s1 : (sOwn (eLst (aCons (e2 oAdd (eLst (aCons (eC (.str "tables")) aNil)) (eA (A1 oList) (aCons (e2 oIx (eVar 3) (eC (.int 0))) aNil))) (aCons (eLst (aCons (eC (.str "keys")) (aCons (eA (A1 oStr) (aCons (e2 oIx (eVar 3) (eC (.int 1))) aNil)) aNil))) (aCons (e2 oAdd (eLst (aCons (eC (.str "careful")) aNil)) (eLc [8] (iSeqM (e2 oIx (eVar 3) (eC (.int 2)))) (gSet 8) mYes (eA (A1 oStr) (aCons (eVar 8) aNil)))) aNil)))) 4) (E11 o x2 (some p.D) x4 x5 x6) = .next (E11 o x2 (some p.D) (some (.lst [.lst ((("tables" : Str) :: p.ts).map .str), .lst (([("keys" : Str), num p.keys]).map .str), .lst ((("careful" : Str) :: p.cs.map num).map .str)])) x5 x6) := by
    generalize hE : E11 o x2 (some p.D) x4 x5 x6 = e9
    have c1 : (e2 oAdd (eLst (aCons (eC (.str "tables")) aNil)) (eA (A1 oList) (aCons (e2 oIx (eVar 3) (eC (.int 0))) aNil))) e9 = .ok (.lst ((("tables" : Str) :: p.ts).map .str)) e9 := by
      have e : (e2 oAdd (eLst (aCons (eC (.str "tables")) aNil)) (eA (A1 oList) (aCons (e2 oIx (eVar 3) (eC (.int 0))) aNil))) e9 = Out.opt (oAdd (.lst ([("tables" : Str)].map .str)) (.lst (p.ts.map .str))) e9 := by rw [← hE]; rfl
      rw [e, addS _ _ (by simp only [List.length_cons, List.length_nil]; omega)]
      rfl
    have c2 : (eLst (aCons (eC (.str "keys")) (aCons (eA (A1 oStr) (aCons (e2 oIx (eVar 3) (eC (.int 1))) aNil)) aNil))) e9 = .ok (.lst (([("keys" : Str), num p.keys]).map .str)) e9 := by
      have e : (eA (A1 oStr) (aCons (e2 oIx (eVar 3) (eC (.int 1))) aNil)) e9 = Out.opt (oStr (.int p.keys)) e9 := by rw [← hE]; rfl
      rw [ap_eLst, ap_aCons, ap_eC, Out.bind_ok, ap_aCons, e, oStr_num h.k0 (by have := h.k9; omega), Out.opt_some, Out.bind_ok, ap_aNil]
      rfl
    have q := lcGo_list (vs := [8]) (g := gSet 8) (c := mYes) (e := eA (A1 oStr) (aCons (eVar 8) aNil)) (w := e9) D.int (fun i => D.str (num i)) (fun _ _ => trivial) p.cs [] (fun i mi => ⟨_, rfl, _, rfl, e9.set 8 (some (.int i)), by
      have e : (eA (A1 oStr) (aCons (eVar 8) aNil)) (e9.set 8 (some (.int i))) = Out.opt (oStr (.int i)) (e9.set 8 (some (.int i))) := by rw [← hE]; rfl
      rw [e, oStr_num (cs_range h mi).1 (cs_range h mi).2]
      rfl, by rw [← hE]; rfl⟩) (by simp only [List.length_nil]; omega)
    have c3 : (e2 oAdd (eLst (aCons (eC (.str "careful")) aNil)) (eLc [8] (iSeqM (e2 oIx (eVar 3) (eC (.int 2)))) (gSet 8) mYes (eA (A1 oStr) (aCons (eVar 8) aNil)))) e9 = .ok (.lst ((("careful" : Str) :: p.cs.map num).map .str)) e9 := by
      have i1 : (iSeqM (e2 oIx (eVar 3) (eC (.int 2)))) e9 = .ok (p.cs.map .int) e9 := by rw [← hE]; rfl
      have hw : wipeE e9 [8] = e9 := by rw [← hE]; rfl
      have hr : resE e9 e9 [8] = e9 := by rw [← hE]; rfl
      have e0 : (eLst (aCons (eC (.str "careful")) aNil)) e9 = .ok (.lst ([("careful" : Str)].map .str)) e9 := rfl
      have e8 : ([] ++ p.cs.map fun i => D.str (num i)) = (p.cs.map num).map .str := by rw [List.map_map]; rfl
      rw [ap_e2, e0, Out.bind_ok, ap_eLc, i1, Out.bind_ok, hw, q, Out.bind_ok, hr, Out.bind_ok, e8, addS _ _ (by simp only [List.length_cons, List.length_nil, List.length_map]; omega)]
      rfl
    rw [ap_sOwn, ap_eLst, ap_aCons, c1, Out.bind_ok, ap_aCons, c2, Out.bind_ok, ap_aCons, c3, Out.bind_ok, ap_aNil, ← hE]
    rfl
  have s2 : (sApp 4 (e2 oAdd (eLst (aCons (eC (.str "remind")) aNil)) (eLc [9, 10] (iSeqM (e2 oIx (eVar 3) (eC (.int 3)))) (gTupleM [(gSet 9), (gSet 10)]) mYes (e2 oAdd (e2 oAdd (eA (A1 oStr) (aCons (eVar 9) aNil)) (eC (.str ":"))) (eA (A1 oStr) (aCons (eVar 10) aNil)))))) (E11 o x2 (some p.D) (some (.lst [.lst ((("tables" : Str) :: p.ts).map .str), .lst (([("keys" : Str), num p.keys]).map .str), .lst ((("careful" : Str) :: p.cs.map num).map .str)])) x5 x6) = .next (E11 o x2 (some p.D) (some (.lst (p.rows.map fun row => .lst (row.map .str)))) x5 x6) := by
    generalize hE : E11 o x2 (some p.D) (some (.lst [.lst ((("tables" : Str) :: p.ts).map .str), .lst (([("keys" : Str), num p.keys]).map .str), .lst ((("careful" : Str) :: p.cs.map num).map .str)])) x5 x6 = e9
    have q := lcGo_list (vs := [9, 10]) (g := gTupleM [(gSet 9), (gSet 10)]) (c := mYes) (e := e2 oAdd (e2 oAdd (eA (A1 oStr) (aCons (eVar 9) aNil)) (eC (.str ":"))) (eA (A1 oStr) (aCons (eVar 10) aNil))) (w := e9) Mir.pairD (fun r => D.str (remS r)) (fun _ _ => trivial) p.rs [] (fun r mr => ⟨_, rfl, _, rfl, (e9.set 9 (some (.int r.1))).set 10 (some (.int r.2)), by
      have hr := rs_range h mr
      have n1 := num_le hr.1.1 hr.1.2
      have n2 := num_le hr.2.1 hr.2.2
      have e1 : (eA (A1 oStr) (aCons (eVar 9) aNil)) ((e9.set 9 (some (.int r.1))).set 10 (some (.int r.2))) = Out.opt (oStr (.int r.1)) ((e9.set 9 (some (.int r.1))).set 10 (some (.int r.2))) := by rw [← hE]; rfl
      have e2' : (eA (A1 oStr) (aCons (eVar 10) aNil)) ((e9.set 9 (some (.int r.1))).set 10 (some (.int r.2))) = Out.opt (oStr (.int r.2)) ((e9.set 9 (some (.int r.1))).set 10 (some (.int r.2))) := by rw [← hE]; rfl
      rw [ap_e2, ap_e2, e1, oStr_num hr.1.1 hr.1.2, Out.opt_some, Out.bind_ok, ap_eC, Out.bind_ok, oAdd_str (by rw [lit_len.2.2.2.2.1]; omega), Out.opt_some, Out.bind_ok, e2', oStr_num hr.2.1 hr.2.2, Out.opt_some, Out.bind_ok, oAdd_str (by rw [str_append_len, lit_len.2.2.2.2.1]; omega)]
      rfl, by rw [← hE]; rfl⟩) (by simp only [List.length_nil]; omega)
    have c3 : (e2 oAdd (eLst (aCons (eC (.str "remind")) aNil)) (eLc [9, 10] (iSeqM (e2 oIx (eVar 3) (eC (.int 3)))) (gTupleM [(gSet 9), (gSet 10)]) mYes (e2 oAdd (e2 oAdd (eA (A1 oStr) (aCons (eVar 9) aNil)) (eC (.str ":"))) (eA (A1 oStr) (aCons (eVar 10) aNil))))) e9 = .ok (.lst ((("remind" : Str) :: p.rs.map remS).map .str)) e9 := by
      have i1 : (iSeqM (e2 oIx (eVar 3) (eC (.int 3)))) e9 = .ok (p.rs.map Mir.pairD) e9 := by rw [← hE]; rfl
      have hw : wipeE e9 [9, 10] = e9 := by rw [← hE]; rfl
      have hr : resE e9 e9 [9, 10] = e9 := by rw [← hE]; rfl
      have e0 : (eLst (aCons (eC (.str "remind")) aNil)) e9 = .ok (.lst ([("remind" : Str)].map .str)) e9 := rfl
      have e8 : ([] ++ p.rs.map fun r => D.str (remS r)) = (p.rs.map remS).map .str := by rw [List.map_map]; rfl
      rw [ap_e2, e0, Out.bind_ok, ap_eLc, i1, Out.bind_ok, hw, q, Out.bind_ok, hr, Out.bind_ok, e8, addS _ _ (by simp only [List.length_cons, List.length_nil, List.length_map]; omega)]
      rfl
    have e4 : e9[4]? = some (some (.lst [.lst ((("tables" : Str) :: p.ts).map .str), .lst (([("keys" : Str), num p.keys]).map .str), .lst ((("careful" : Str) :: p.cs.map num).map .str)])) := by rw [← hE]; rfl
    rw [ap_sApp, e4]
    dsimp only
    rw [c3, Out.fl_ok, e4, ← hE]
    rfl
  rw [ap_sSeq, s1, Fl.bind_next]
  exact s2
theorem text_law {p : Pt} (h : p.Ok) {o : D} {x2 x5 x6 : Option D} : (sAsg (eUp (eM1 oJoin (eC (.str "\n")) (eLc [7] (iLst (eVar 4)) (gSet 7) mYes (eM1 oJoin (eC (.str " ")) (eVar 7))))) (gSet 5)) (E11 o x2 (some p.D) (some (.lst (p.rows.map fun row => .lst (row.map .str)))) x5 x6) = .next (E11 o x2 (some p.D) (some (.lst (p.rows.map fun row => .lst (row.map .str)))) (some (.str p.text)) x6) := by
  generalize hE : E11 o x2 (some p.D) (some (.lst (p.rows.map fun row => .lst (row.map .str)))) x5 x6 = e9
  have q := lcGo_list (vs := [7]) (g := gSet 7) (c := mYes) (e := eM1 oJoin (eC (.str " ")) (eVar 7)) (w := e9) (fun row : List Str => D.lst (row.map .str)) (fun row => D.str (Txt.join " " row)) (fun _ _ => trivial) p.rows [] (fun row mr => ⟨_, rfl, _, rfl, e9.set 7 (some (.lst (row.map .str))), by
    have e : (eM1 oJoin (eC (.str " ")) (eVar 7)) (e9.set 7 (some (.lst (row.map .str)))) = Out.opt (oJoin (.str " ") (.lst (row.map .str))) (e9.set 7 (some (.lst (row.map .str)))) := by rw [← hE]; rfl
    rw [e, oJoin_some (Nat.le_trans (row_sum (rows_ok h row mr)) (by decide))]
    rfl, by rw [← hE]; rfl⟩) (by show 0 + 4 ≤ 100000; decide)
  have hw : wipeE e9 [7] = e9 := by rw [← hE]; rfl
  have hr : resE e9 e9 [7] = e9 := by rw [← hE]; rfl
  have i1 : (iLst (eVar 4)) e9 = .ok (p.rows.map fun row => .lst (row.map .str)) e9 := by rw [← hE]; rfl
  have e8 : ([] ++ p.rows.map fun row => D.str (Txt.join " " row)) = (p.rows.map (Txt.join " ")).map .str := by rw [List.map_map]; rfl
  have hsum : ((p.rows.map (Txt.join " ")).map (·.length)).sum + (p.rows.map (Txt.join " ")).length * ("\n" : Str).length ≤ 100000 := by
    have h1 := sum_le (ys := p.rows.map (Txt.join " ")) (n := 275) (fun y m => by
      obtain ⟨row, mr, rfl⟩ := List.mem_map.mp m
      exact Nat.le_trans (join_len " " row) (row_sum (rows_ok h row mr)))
    have h2 : (p.rows.map (Txt.join " ")).length = 4 := rfl
    rw [h2] at h1 ⊢
    rw [lit_len.2.2.2.2.2.2]
    omega
  rw [ap_sAsg, ap_eUp, ap_eM1, ap_eC, Out.bind_ok, dd_isS, if_pos rfl, ap_eLc, i1, Out.bind_ok, hw, q, Out.bind_ok, hr, Out.bind_ok, e8, oJoin_some hsum, ← hE]
  rfl
theorem law_math (ns : List Int) (_ : ns.length ≤ 63) : ∃ e, b_law (env1 9 (rndL ns 14)) = .ret (.bl true) e := by
  have ho : Rnd (.lst ((rndL ns 14).map .int)) := ⟨_, rfl, by unfold rndL; simp⟩
  obtain ⟨env', q1, o', y2, y3, y4, y5, y6, q2, _⟩ := forGo_at (g := gSet 2) (total := rangeL 0 5) (fun done env => ∃ (o' : D) (y2 y3 y4 y5 y6 : Option D), env = E11 o' y2 y3 y4 y5 y6 ∧ Rnd o') (ds := rangeL 0 5) (done := []) (env := env1 9 (rndL ns 14)) rfl
    ⟨_, none, none, none, none, none, rfl, ho⟩ (b := (sSeq (sAsg (eCallO d_law_parts 1 (aCons (eC (.int 6)) aNil)) (gSet 3))
      (sSeq (sOwn (eLst (aCons (e2 oAdd (eLst (aCons (eC (.str "tables")) aNil)) (eA (A1 oList) (aCons (e2 oIx (eVar 3) (eC (.int 0))) aNil))) (aCons (eLst (aCons (eC (.str "keys")) (aCons (eA (A1 oStr) (aCons (e2 oIx (eVar 3) (eC (.int 1))) aNil)) aNil))) (aCons (e2 oAdd (eLst (aCons (eC (.str "careful")) aNil)) (eLc [8] (iSeqM (e2 oIx (eVar 3) (eC (.int 2)))) (gSet 8) mYes (eA (A1 oStr) (aCons (eVar 8) aNil)))) aNil)))) 4)
      (sSeq (sApp 4 (e2 oAdd (eLst (aCons (eC (.str "remind")) aNil)) (eLc [9, 10] (iSeqM (e2 oIx (eVar 3) (eC (.int 3)))) (gTupleM [(gSet 9), (gSet 10)]) mYes (e2 oAdd (e2 oAdd (eA (A1 oStr) (aCons (eVar 9) aNil)) (eC (.str ":"))) (eA (A1 oStr) (aCons (eVar 10) aNil))))))
      (sSeq (sAsg (eUp (eM1 oJoin (eC (.str "\n")) (eLc [7] (iLst (eVar 4)) (gSet 7) mYes (eM1 oJoin (eC (.str " ")) (eVar 7))))) (gSet 5))
      (sSeq (sAsg (eCMeth 0 d_House_parse (aCons (eVar 5) aNil)) (gSet 6))
      (sSeq (sIf (mNot (mTest (eCall (d_law_equal 4) [] (aCons (eLst (aCons (eProp 0 d_House_text (eVar 6)) (aCons (eProp 0 d_House_text (eCall d_law_house [] (aCons (eVar 3) aNil))) aNil))) (aCons (eLst (aCons (eVar 5) (aCons (eVar 5) aNil))) aNil))))) (sRet (eC (.bl false))) sNext)
      (sIf (mNot (mTest (eCall (d_law_equal 4) [] (aCons (eLst (aCons (eFld 0 0 (eVar 6)) (aCons (eFld 0 1 (eVar 6)) (aCons (eFld 0 2 (eVar 6)) (aCons (eFld 0 3 (eVar 6)) aNil))))) (aCons (eA (A1 oList) (aCons (eVar 3) aNil)) aNil))))) (sRet (eC (.bl false))) sNext)))))))) (by
      rintro done d rest env ht ⟨o, y2, y3, y4, y5, y6, rfl, hr⟩
      obtain ⟨p, o', e1, hp, ho'⟩ := parts_spec hr
      obtain ⟨M, hM⟩ := house_spec hp
      obtain ⟨M2, hM2⟩ := parse_spec hp
      let RW : D := .lst (p.rows.map fun row => .lst (row.map .str))
      refine ⟨E11 o (some d) y3 y4 y5 y6, rfl, E11 o' (some d) (some p.D) (some RW) (some (.str p.text)) (some (p.H M2)), .inl ?_, o', some d, _, _, _, _, rfl, ho'⟩
      have s1 : (sAsg (eCallO d_law_parts 1 (aCons (eC (.int 6)) aNil)) (gSet 3)) (E11 o (some d) y3 y4 y5 y6) = .next (E11 o' (some d) (some p.D) y4 y5 y6) := by
        rw [ap_sAsg, ap_eCallO]
        show Out.fl (match d_law_parts o [.int 6] with | .ok d o => Out.ok d _ | .exc x o => .exc x _ | .bad => .bad) _ = _
        rw [e1]
        rfl
      have hrows := rows_law hp (o := o') (x2 := some d) (x4 := y4) (x5 := y5) (x6 := y6)
      rw [ap_sSeq] at hrows
      rw [ap_sSeq, s1, Fl.bind_next, ap_sSeq]
      -- the rows
      cases hs : (sOwn (eLst (aCons (e2 oAdd (eLst (aCons (eC (.str "tables")) aNil)) (eA (A1 oList) (aCons (e2 oIx (eVar 3) (eC (.int 0))) aNil))) (aCons (eLst (aCons (eC (.str "keys")) (aCons (eA (A1 oStr) (aCons (e2 oIx (eVar 3) (eC (.int 1))) aNil)) aNil))) (aCons (e2 oAdd (eLst (aCons (eC (.str "careful")) aNil)) (eLc [8] (iSeqM (e2 oIx (eVar 3) (eC (.int 2)))) (gSet 8) mYes (eA (A1 oStr) (aCons (eVar 8) aNil)))) aNil)))) 4) (E11 o' (some d) (some p.D) y4 y5 y6) with
      | next e2' =>
        rw [hs, Fl.bind_next] at hrows
        rw [Fl.bind_next, ap_sSeq, hrows, Fl.bind_next, ap_sSeq, text_law hp, Fl.bind_next]
        generalize hE : E11 o' (some d) (some p.D) (some (.lst (p.rows.map fun row => .lst (row.map .str)))) (some (.str p.text)) y6 = e9
        have s5 : (sAsg (eCMeth 0 d_House_parse (aCons (eVar 5) aNil)) (gSet 6)) e9 = .next (E11 o' (some d) (some p.D) (some RW) (some (.str p.text)) (some (p.H M2))) := by
          have hA : (aCons (eVar 5) aNil) e9 = .ok [.str p.text] e9 := by rw [← hE]; rfl
          rw [ap_sAsg, ap_eCMeth, hA, Out.bind_ok, hM2, ← hE]
          rfl
        rw [ap_sSeq, s5, Fl.bind_next]
        generalize hF : E11 o' (some d) (some p.D) (some RW) (some (.str p.text)) (some (p.H M2)) = f9
        have v6 : (eVar 6) f9 = .ok (p.H M2) f9 := by rw [← hF]; rfl
        have d1 : (eProp 0 d_House_text (eVar 6)) f9 = .ok (.str p.text) f9 := by
          rw [ap_eProp, v6, Out.bind_ok, text_spec hp]
          rfl
        have d2 : (eProp 0 d_House_text (eCall d_law_house [] (aCons (eVar 3) aNil))) f9 = .ok (.str p.text) f9 := by
          have hA : (aCons (eVar 3) aNil) f9 = .ok [p.D] f9 := by rw [← hF]; rfl
          rw [ap_eProp, ap_eCall, hA, Out.bind_ok, List.append_nil, hM, FO.out_ok, Out.bind_ok, text_spec hp]
          rfl
        have t1 : (mTest (eCall (d_law_equal 4) [] (aCons (eLst (aCons (eProp 0 d_House_text (eVar 6)) (aCons (eProp 0 d_House_text (eCall d_law_house [] (aCons (eVar 3) aNil))) aNil))) (aCons (eLst (aCons (eVar 5) (aCons (eVar 5) aNil))) aNil)))) f9 = .ok true f9 := by
          have a1 : (eLst (aCons (eProp 0 d_House_text (eVar 6)) (aCons (eProp 0 d_House_text (eCall d_law_house [] (aCons (eVar 3) aNil))) aNil))) f9 = .ok (.lst [.str p.text, .str p.text]) f9 := by
            rw [ap_eLst, ap_aCons, d1, Out.bind_ok, ap_aCons, d2, Out.bind_ok, ap_aNil]
            rfl
          have a2 : (aCons (eLst (aCons (eVar 5) (aCons (eVar 5) aNil))) aNil) f9 = .ok [.lst [.str p.text, .str p.text]] f9 := by rw [← hF]; rfl
          rw [ap_mTest, ap_eCall, ap_aCons, a1, Out.bind_ok, a2, Out.bind_ok, Out.bind_ok, List.append_nil, equal_two]
          rfl
        have t2 : (mTest (eCall (d_law_equal 4) [] (aCons (eLst (aCons (eFld 0 0 (eVar 6)) (aCons (eFld 0 1 (eVar 6)) (aCons (eFld 0 2 (eVar 6)) (aCons (eFld 0 3 (eVar 6)) aNil))))) (aCons (eA (A1 oList) (aCons (eVar 3) aNil)) aNil)))) f9 = .ok true f9 := by
          have hA : (aCons (eLst (aCons (eFld 0 0 (eVar 6)) (aCons (eFld 0 1 (eVar 6)) (aCons (eFld 0 2 (eVar 6)) (aCons (eFld 0 3 (eVar 6)) aNil))))) (aCons (eA (A1 oList) (aCons (eVar 3) aNil)) aNil)) f9 = .ok [.lst [.tup (p.ts.map .str), .int p.keys, .tup (p.cs.map .int), .tup (p.rs.map Mir.pairD)], .lst [.tup (p.ts.map .str), .int p.keys, .tup (p.cs.map .int), .tup (p.rs.map Mir.pairD)]] f9 := by rw [← hF]; rfl
          rw [ap_mTest, ap_eCall, hA, Out.bind_ok, List.append_nil, equal_parts hp]
          rfl
        rw [ap_sSeq, ap_sIf, ap_mNot, t1, Out.bind_ok, Out.fl_ok]
        simp only [Bool.not_true, Bool.false_eq_true, if_false]
        rw [ap_sNext, Fl.bind_next, ap_sIf, ap_mNot, t2, Out.bind_ok, Out.fl_ok]
        rfl
      | _ => rw [hs] at hrows; cases hrows)
  refine ⟨E11 o' y2 y3 y4 y5 y6, ?_⟩
  unfold b_law
  have hI : (iRng1M (aCons (eC (.int 5)) aNil)) (env1 9 (rndL ns 14)) = .ok (rangeL 0 5) (env1 9 (rndL ns 14)) := rfl
  rw [ap_sSeq, ap_sFor, hI, Out.fl_ok, q1, q2]
  rfl
end K14
/-! E14 -/
open PySem PySem.W PyProof.Rows
set_option maxRecDepth 100000 in
set_option maxHeartbeats 0 in
theorem PySem.Challenge.cw_doorkeys_k14_texts_of_houses_holds : PySem.Challenge.rw_doorkeys_k14_texts_of_houses.Holds := by
  w_on; o_law; k_head; (case hw => w_witness2)
  k_fill
  refine L2.walk_of (l := PySem.Challenge.rw_doorkeys_k14_texts_of_houses) (n := 63) (k := 6) (x := "_law_script") (CX := fun _ => L2.CX0) (sp := fun w => Mir.spLaw _) rfl (by decide) rfl ⟨rfl, by decide, by decide⟩ (fun w h Y => PySem.W.kIn_of Y) ?F (fun _ _ a ns hl _ hS => ⟨a, ns, rfl, hS, hl, fun _ => rfl⟩) (fun _ _ _ _ _ h => h)
  case F =>
    intro w mg fa h KX G hmg
    refine K14.law_end ?facts hmg K14.law_math
    refine' K14.all_mk KX G ?a_House ?a_is_int_in ?l_is_int_in ?c_is_int_in ?k_is_int_in ?a_is_table ?l_is_table ?c_is_table ?k_is_table ?a_common_multiple ?l_common_multiple ?c_common_multiple ?k_common_multiple ?a_check_persons ?l_check_persons ?c_check_persons ?k_check_persons ?a_is_reminder ?l_is_reminder ?c_is_reminder ?k_is_reminder ?a_House__init_ ?i_House__init_ ?l_House__init_ ?c_House__init_ ?k_House__init_ ?a_read_number ?l_read_number ?c_read_number ?k_read_number ?a_is_word ?l_is_word ?c_is_word ?k_is_word ?a_read_part ?l_read_part ?c_read_part ?k_read_part ?fp_House_parse ?pc_House_parse ?ca_House_parse ?fi_House_parse ?l_House_parse ?c_House_parse ?k_House_parse ?pa_House_text ?pg_House_text ?pt_House_text ?pc_House_text ?l_House_text ?c_House_text ?k_House_text ?a_law_below ?l_law_below ?c_law_below ?k_law_below ?a_law_table ?l_law_table ?c_law_table ?k_law_table ?a_law_length ?l_law_length ?c_law_length ?k_law_length ?a_law_parts ?l_law_parts ?c_law_parts ?k_law_parts ?a_law_equal ?l_law_equal ?c_law_equal ?k_law_equal ?a_law_house ?l_law_house ?c_law_house ?k_law_house ?a_law_random ?l_law_random ?c_law_random ?k_law_random ?a_law ?l_law ?c_law ?k_law ?pg_House ?hd_House ?po_House ?sa_House ?rd_House ?ga_House ?mk_House ?kc_House ?na_House_tables ?na_House_key_count ?na_House_careful ?na_House_reminders ?na_House_length ?z_abs ?z_all ?z_any ?z_bool ?z_enumerate ?z_int ?z_isinstance ?z_len ?z_list ?z_range ?z_sorted ?z_str ?z_tuple ?u_MAX_PERSONS ?u_LENGTHS ?l_LENGTHS ?u_MAX_KEYS ?u_MAX_REMINDERS ?u_HOME ?u_OUT ?u_DIGITS ?u_MAX_DIGITS ?lT_House__init_ ?le0_House__init_ ?le1_House__init_
    (case a_House => k_is); (case a_is_int_in => k_is); (case l_is_int_in => k_is); (case c_is_int_in => k_is); (case k_is_int_in => k_is); (case a_is_table => k_is)
    (case l_is_table => k_is); (case c_is_table => k_is); (case k_is_table => k_is); (case a_common_multiple => k_is); (case l_common_multiple => k_is); (case c_common_multiple => k_is)
    (case k_common_multiple => k_is); (case a_check_persons => k_is); (case l_check_persons => k_is); (case c_check_persons => k_is); (case k_check_persons => k_is); (case a_is_reminder => k_is)
    (case l_is_reminder => k_is); (case c_is_reminder => k_is); (case k_is_reminder => k_is); (case a_House__init_ => k_is); (case i_House__init_ => k_is); (case l_House__init_ => k_is)
    (case c_House__init_ => k_is); (case k_House__init_ => k_is); (case a_read_number => k_is); (case l_read_number => k_is); (case c_read_number => k_is); (case k_read_number => k_is)
    (case a_is_word => k_is); (case l_is_word => k_is); (case c_is_word => k_is); (case k_is_word => k_is); (case a_read_part => k_is); (case l_read_part => k_is)
    (case c_read_part => k_is); (case k_read_part => k_is); (case fp_House_parse => k_is); (case pc_House_parse => k_is); (case ca_House_parse => k_is); (case fi_House_parse => k_is)
    (case l_House_parse => k_is); (case c_House_parse => k_is); (case k_House_parse => k_is); (case pa_House_text => k_is); (case pg_House_text => k_is); (case pt_House_text => k_is)
    (case pc_House_text => k_is); (case l_House_text => k_is); (case c_House_text => k_is); (case k_House_text => k_is); (case a_law_below => k_is); (case l_law_below => k_is)
    (case c_law_below => k_is); (case k_law_below => k_is); (case a_law_table => k_is); (case l_law_table => k_is); (case c_law_table => k_is); (case k_law_table => k_is)
    (case a_law_length => k_is); (case l_law_length => k_is); (case c_law_length => k_is); (case k_law_length => k_is); (case a_law_parts => k_is); (case l_law_parts => k_is)
    (case c_law_parts => k_is); (case k_law_parts => k_is); (case a_law_equal => k_is); (case l_law_equal => k_is); (case c_law_equal => k_is); (case k_law_equal => k_is)
    (case a_law_house => k_is); (case l_law_house => k_is); (case c_law_house => k_is); (case k_law_house => k_is); (case a_law_random => k_is); (case l_law_random => k_is)
    (case c_law_random => k_is); (case k_law_random => k_is); (case a_law => k_is); (case l_law => k_is); (case c_law => k_is); (case k_law => k_is)
    (case pg_House => k_is); (case hd_House => k_is); (case po_House => k_is); (case sa_House => k_is); (case rd_House => k_is); (case ga_House => k_is)
    (case mk_House => k_is); (case kc_House => k_is); (case na_House_tables => k_is); (case na_House_key_count => k_is); (case na_House_careful => k_is); (case na_House_reminders => k_is)
    (case na_House_length => k_is); (case z_abs => k_is); (case z_all => k_is); (case z_any => k_is); (case z_bool => k_is); (case z_enumerate => k_is)
    (case z_int => k_is); (case z_isinstance => k_is); (case z_len => k_is); (case z_list => k_is); (case z_range => k_is); (case z_sorted => k_is)
    (case z_str => k_is); (case z_tuple => k_is); (case u_MAX_PERSONS => k_is); (case u_LENGTHS => k_is); (case l_LENGTHS => k_is); (case u_MAX_KEYS => k_is)
    (case u_MAX_REMINDERS => k_is); (case u_HOME => k_is); (case u_OUT => k_is); (case u_DIGITS => k_is); (case u_MAX_DIGITS => k_is); (case lT_House__init_ => k_is)
    (case le0_House__init_ => k_is); (case le1_House__init_ => k_is)

import PyProof.Rows.All
import Wide.All
import OpenK.AllK
import Wide.FinOn
import HandS.ForMost
import HandS.ForExc
import HandS.Deep
import HandS.IsInst
import HandS.Defaults
import HandS.HeadHook2
import HandS.Lambda
import HandS.TupAny
import HandS.TupMul
import HandS.Wide
import KE.DataEq
import KE.DataCmp
import HandS.Rev
import HandS.Zip
import HandS.Style
import HandS.RevTup
import HandS.Conv
import HandS.More
import KE.GoesMore
import HandS.ExcOwn
import HandS.WordsExc
import HandS.ExcIs
import HandS.HeadWalk
import HandS.HeadHook4
import HandS.Head2
import KE.KDictPairs
import Lean
import KE.KNestM
import HandS.Head0
import HandS.Head1
import HandS.HeadHook3
import PySem.Challenge.RW_linkedpapers_k13_whole_faults_of_units
/-! ## Pm1 -/
set_option Elab.async false
set_option linter.all false
set_option maxRecDepth 100000
set_option maxHeartbeats 2000000
/-! Pm1: data, owned things, what stands for what in the abstract heap, results, the readings rdD, rdT, rdO, rdA, rdS. -/
namespace Pm
open PySem PySem.Spec L2

abbrev D := PyData
abbrev Fr := PySem.W.Frag
/-- the tables of code objects that lambdas are laid in, each with the name of its code objects -/
class TabCtx where
  T : List (Addr × Str)
variable [TabCtx]
def TbOk (H : Hp) : Prop := ∀ p ∈ TabCtx.T, LamX.TabS H p.1 p.2
/-- what an owner may change -/
def Mu : HO → Prop
  | .lst _ => True
  | .dK _ => True
  | .dT _ => True
  | .ins _ _ _ => True
  | _ => False
def NoTbl (o : HO) : Prop := ∀ ps, o ≠ .tbl ps

/-! ### frozen data -/
/-- a list that nobody changes any more -/
def FzL (K : Fr) (H : Hp) (a : Addr) (xs : List V) : Prop := (∃ o, H a = some (.frz o (.lst xs))) ∨ SqL K (fun _ => none) a xs
mutual
def RelD (K : Fr) (H : Hp) : D → V → Prop
  | .none, v => v = .non
  | .bool b, v => v = .bl b
  | .int i, v => v = .int i
  | .str s, v => v = .str s
  | .tuple ds, v => ∃ a xs, v = .ref a ∧ SqT K H a xs ∧ ds.length ≤ sizeLine ∧ RelDs K H ds xs
  | .list ds, v => ∃ a xs, v = .ref a ∧ FzL K H a xs ∧ ds.length ≤ sizeLine ∧ RelDs K H ds xs
  | .dict kvs, v => kvs = [] ∧ ∃ a o, v = .ref a ∧ H a = some (.frz o (.dK []))
def RelDs (K : Fr) (H : Hp) : List D → List V → Prop
  | [], vs => vs = []
  | d :: ds, vs => ∃ x r, vs = x :: r ∧ RelD K H d x ∧ RelDs K H ds r
end
/-- tuples and frozen things stay -/
structure Ext (H H' : Hp) : Prop where
  tup : ∀ a xs, H a = some (.tup xs) → H' a = some (.tup xs)
  frz : ∀ a o u, H a = some (.frz o u) → H' a = some (.frz o u)
  tab : TbOk H → TbOk H'
theorem Ext.refl (H : Hp) : Ext H H := ⟨fun _ _ h => h, fun _ _ _ h => h, id⟩
theorem Ext.trans {H H1 H2 : Hp} (a : Ext H H1) (b : Ext H1 H2) : Ext H H2 := ⟨fun x y h => b.tup x y (a.tup x y h), fun x y z h => b.frz x y z (a.frz x y z h), fun h => b.tab (a.tab h)⟩
section
variable {K : Fr} {H H' : Hp}
theorem Ext.sqT (e : Ext H H') {a : Addr} {xs : List V} (h : SqT K H a xs) : SqT K H' a xs := by
  rcases h with (h | ⟨o, h⟩) | h
  · exact .inl (.inl (e.tup _ _ h))
  · exact .inl (.inr ⟨o, e.frz _ _ _ h⟩)
  · exact .inr h
theorem Ext.fzL (e : Ext H H') {a : Addr} {xs : List V} (h : FzL K H a xs) : FzL K H' a xs := by
  rcases h with ⟨o, h⟩ | h
  · exact .inl ⟨o, e.frz _ _ _ h⟩
  · exact .inr h
theorem FzL.sqL {a : Addr} {xs : List V} (h : FzL K H a xs) : SqL K H a xs := by
  rcases h with ⟨o, h⟩ | (h | h)
  · exact .inl (.inr ⟨o, h⟩)
  · rcases h with h | ⟨o, h⟩ <;> cases h
  · exact .inr h
mutual
theorem RelD.ext (e : Ext H H') : ∀ (d : D) (v : V), RelD K H d v → RelD K H' d v
  | .none, _, h => h
  | .bool _, _, h => h
  | .int _, _, h => h
  | .str _, _, h => h
  | .tuple ds, v, h => by
    obtain ⟨a, xs, e1, h1, h2, h3⟩ := h
    exact ⟨a, xs, e1, e.sqT h1, h2, RelDs.ext e ds xs h3⟩
  | .list ds, v, h => by
    obtain ⟨a, xs, e1, h1, h2, h3⟩ := h
    exact ⟨a, xs, e1, e.fzL h1, h2, RelDs.ext e ds xs h3⟩
  | .dict _, _, h => by
    obtain ⟨e1, a, o, e2, h1⟩ := h
    exact ⟨e1, a, o, e2, e.frz _ _ _ h1⟩
theorem RelDs.ext (e : Ext H H') : ∀ (ds : List D) (vs : List V), RelDs K H ds vs → RelDs K H' ds vs
  | [], _, h => h
  | d :: ds, vs, h => by
    obtain ⟨x, r, e1, h1, h2⟩ := h
    exact ⟨x, r, e1, RelD.ext e d x h1, RelDs.ext e ds r h2⟩
end
theorem RelDs.length : ∀ {ds : List D} {vs : List V}, RelDs K H ds vs → ds.length = vs.length
  | [], _, h => by cases (show _ = _ from h); rfl
  | d :: ds, vs, h => by
    obtain ⟨x, r, rfl, _, h2⟩ := h
    rw [List.length_cons, List.length_cons, RelDs.length h2]
theorem RelDs.nil : RelDs K H [] [] := rfl
theorem RelDs.cons {d : D} {ds : List D} {v : V} {vs : List V} (h1 : RelD K H d v) (h2 : RelDs K H ds vs) : RelDs K H (d :: ds) (v :: vs) := ⟨v, vs, rfl, h1, h2⟩
theorem RelDs.append : ∀ {ds es : List D} {vs ws : List V}, RelDs K H ds vs → RelDs K H es ws → RelDs K H (ds ++ es) (vs ++ ws)
  | [], _, _, _, h, h' => by cases (show _ = _ from h); exact h'
  | d :: ds, es, vs, ws, h, h' => by
    obtain ⟨x, r, rfl, h1, h2⟩ := h
    exact ⟨x, r ++ ws, rfl, h1, RelDs.append h2 h'⟩
theorem RelDs.get : ∀ {ds : List D} {vs : List V} {i : Nat} {d : D}, RelDs K H ds vs → ds[i]? = some d → ∃ v, vs[i]? = some v ∧ RelD K H d v
  | [], _, _, _, _, e => by simp at e
  | d :: ds, vs, 0, d', h, e => by
    obtain ⟨x, r, rfl, h1, h2⟩ := h
    simp at e; subst e
    exact ⟨x, rfl, h1⟩
  | d :: ds, vs, i + 1, d', h, e => by
    obtain ⟨x, r, rfl, h1, h2⟩ := h
    obtain ⟨v, e1, e2⟩ := RelDs.get (i := i) h2 (by simpa using e)
    exact ⟨v, by simpa using e1, e2⟩
theorem RelDs.getV : ∀ {ds : List D} {vs : List V} {i : Nat} {v : V}, RelDs K H ds vs → vs[i]? = some v → ∃ d, ds[i]? = some d ∧ RelD K H d v
  | [], _, _, _, h, e => by cases (show _ = _ from h); simp at e
  | d :: ds, vs, 0, v, h, e => by
    obtain ⟨x, r, rfl, h1, h2⟩ := h
    simp at e; subst e
    exact ⟨d, rfl, h1⟩
  | d :: ds, vs, i + 1, v, h, e => by
    obtain ⟨x, r, rfl, h1, h2⟩ := h
    obtain ⟨v, e1, e2⟩ := RelDs.getV (i := i) h2 (by simpa using e)
    exact ⟨v, by simpa using e1, e2⟩
theorem RelDs.take : ∀ {ds : List D} {vs : List V} (n : Nat), RelDs K H ds vs → RelDs K H (ds.take n) (vs.take n)
  | [], _, n, h => by cases (show _ = _ from h); simp; rfl
  | _ :: _, vs, 0, h => by simp; rfl
  | d :: ds, vs, n + 1, h => by
    obtain ⟨x, r, rfl, h1, h2⟩ := h
    simp only [List.take_succ_cons]
    exact ⟨x, _, rfl, h1, RelDs.take n h2⟩
theorem RelDs.drop : ∀ {ds : List D} {vs : List V} (n : Nat), RelDs K H ds vs → RelDs K H (ds.drop n) (vs.drop n)
  | [], _, n, h => by cases (show _ = _ from h); simp; rfl
  | _ :: _, vs, 0, h => by simpa using h
  | d :: ds, vs, n + 1, h => by
    obtain ⟨x, r, rfl, h1, h2⟩ := h
    simp only [List.drop_succ_cons]
    exact RelDs.drop n h2
theorem RelDs.set : ∀ {ds : List D} {vs : List V} {d : D} {v : V} (i : Nat), RelDs K H ds vs → RelD K H d v → RelDs K H (ds.set i d) (vs.set i v)
  | [], _, _, _, _, h, _ => by cases (show _ = _ from h); simp; rfl
  | _ :: _, vs, _, _, 0, h, h' => by
    obtain ⟨x, r, rfl, h1, h2⟩ := h
    exact ⟨_, _, rfl, h', h2⟩
  | d :: ds, vs, _, _, n + 1, h, h' => by
    obtain ⟨x, r, rfl, h1, h2⟩ := h
    exact ⟨_, _, rfl, h1, RelDs.set n h2 h'⟩
theorem RelDs.dropLast : ∀ {ds : List D} {vs : List V}, RelDs K H ds vs → RelDs K H ds.dropLast vs.dropLast := fun {ds vs} h => by
  rw [List.dropLast_eq_take, List.dropLast_eq_take, h.length]
  exact h.take _
theorem RelDs.eraseIdx : ∀ {ds : List D} {vs : List V} (i : Nat), RelDs K H ds vs → RelDs K H (ds.eraseIdx i) (vs.eraseIdx i) := fun {ds vs} i h => by
  rw [List.eraseIdx_eq_take_drop_succ, List.eraseIdx_eq_take_drop_succ]
  exact (h.take _).append (h.drop _)
theorem RelDs.reverse : ∀ {ds : List D} {vs : List V}, RelDs K H ds vs → RelDs K H ds.reverse vs.reverse
  | [], _, h => by cases (show _ = _ from h); rfl
  | d :: ds, vs, h => by
    obtain ⟨x, r, rfl, h1, h2⟩ := h
    rw [List.reverse_cons, List.reverse_cons]
    exact (RelDs.reverse h2).append (.cons h1 .nil)
theorem RelDs.rep {ds : List D} {vs : List V} (h : RelDs K H ds vs) : ∀ k : Nat, RelDs K H (List.replicate k ds).flatten (List.replicate k vs).flatten
  | 0 => rfl
  | k + 1 => by
    rw [List.replicate_succ, List.replicate_succ, List.flatten_cons, List.flatten_cons]
    exact h.append (RelDs.rep h k)
/-- pairs: the same key, data -/
def RelKv {κ : Type} (K : Fr) (H : Hp) : List (κ × D) → List (κ × V) → Prop
  | [], ps => ps = []
  | (k, d) :: r, ps => ∃ x pr, ps = (k, x) :: pr ∧ RelD K H d x ∧ RelKv K H r pr
theorem RelKv.ext {κ : Type} (e : Ext H H') : ∀ (kvs : List (κ × D)) (ps : List (κ × V)), RelKv K H kvs ps → RelKv K H' kvs ps
  | [], _, h => h
  | (k, d) :: r, ps, h => by
    obtain ⟨x, pr, e1, h1, h2⟩ := h
    exact ⟨x, pr, e1, RelD.ext e d x h1, RelKv.ext e r pr h2⟩
theorem RelKv.length {κ : Type} : ∀ {kvs : List (κ × D)} {ps : List (κ × V)}, RelKv K H kvs ps → kvs.length = ps.length
  | [], _, h => by cases (show _ = _ from h); rfl
  | (k, d) :: r, ps, h => by
    obtain ⟨x, pr, rfl, _, h2⟩ := h
    rw [List.length_cons, List.length_cons, RelKv.length h2]
end

/-! ### owned things -/
inductive Own where
  | sl (i : Nat)
  | tmp
  | arg (k : Nat)
  deriving DecidableEq
/-- who owns what: the slot (or the value in hand), and which of its objects -/
abbrev OW := Addr → Option (Own × Nat)
inductive F where
  | d (x : D)
  | l (xs : List D)
  | mk (kvs : List (Key × D))
  | t (xs : List D)
inductive O where
  | f (x : F)
  | ll (xss : List (List D))
  | ob (c : Str) (fs : List (Str × F))
abbrev Env := List (Option O)
abbrev O.d (x : D) : O := .f (.d x)
abbrev O.l (xs : List D) : O := .f (.l xs)
abbrev O.mk (kvs : List (Key × D)) : O := .f (.mk kvs)

section
variable (K : Fr) (H : Hp) (ow : OW) (w : Own)
def RelF (j : Nat) : F → V → Prop
  | .d x, v => RelD K H x v
  | .l ds, v => ∃ a xs, v = .ref a ∧ ow a = some (w, j) ∧ H a = some (.lst xs) ∧ RelDs K H ds xs
  | .mk kvs, v => ∃ a ps, v = .ref a ∧ ow a = some (w, j) ∧ H a = some (.dK ps) ∧ RelKv K H kvs ps
  | .t ds, v => ∃ a xs o, v = .ref a ∧ o.dict = none ∧ H a = some (.frz o (.tup xs)) ∧ RelDs K H ds xs
def RelFs : Nat → List (Str × F) → List (Str × V) → Prop
  | _, [], ps => ps = []
  | j, (n, f) :: r, ps => ∃ x pr, ps = (n, x) :: pr ∧ RelF K H ow w j f x ∧ RelFs (j + 1) r pr
def RelLl : Nat → List (List D) → List V → Prop
  | _, [], ps => ps = []
  | j, xs :: r, ps => ∃ x pr, ps = x :: pr ∧ RelF K H ow w j (.l xs) x ∧ RelLl (j + 1) r pr
def RelO : O → V → Prop
  | .f x, v => RelF K H ow w 0 x v
  | .ll xss, v => ∃ a ps, v = .ref a ∧ ow a = some (w, 0) ∧ H a = some (.lst ps) ∧ RelLl K H ow w 1 xss ps
  | .ob c fs, v => ∃ a dx ps, v = .ref a ∧ ow a = some (w, 0) ∧ H a = some (.ins (He.ga K c) dx ps) ∧ RelFs K H ow w 1 fs ps
end

/-- what one heap keeps of another: the addresses of an owner as they stand, frozen data -/
structure Kp (H : Hp) (ow : OW) (w : Own) (H' : Hp) (ow' : OW) (w' : Own) : Prop where
  ext : Ext H H'
  own : ∀ a j, ow a = some (w, j) → ∀ o, H a = some o → NoTbl o → H' a = some o ∧ ow' a = some (w', j)
section
variable {K : Fr} {H H' : Hp} {ow ow' : OW} {w w' : Own}
theorem RelF.kp (k : Kp H ow w H' ow' w') {j : Nat} : ∀ {f : F} {v : V}, RelF K H ow w j f v → RelF K H' ow' w' j f v
  | .d x, _, h => RelD.ext k.ext x _ h
  | .l ds, _, h => by
    obtain ⟨a, xs, e, h1, h2, h3⟩ := h
    obtain ⟨q1, q2⟩ := k.own a j h1 _ h2 (fun _ e => nomatch e)
    exact ⟨a, xs, e, q2, q1, RelDs.ext k.ext _ _ h3⟩
  | .mk ds, _, h => by
    obtain ⟨a, xs, e, h1, h2, h3⟩ := h
    obtain ⟨q1, q2⟩ := k.own a j h1 _ h2 (fun _ e => nomatch e)
    exact ⟨a, xs, e, q2, q1, RelKv.ext k.ext _ _ h3⟩
  | .t ds, _, h => by
    obtain ⟨a, xs, o, e, h1, h2, h3⟩ := h
    exact ⟨a, xs, o, e, h1, k.ext.frz _ _ _ h2, RelDs.ext k.ext _ _ h3⟩
theorem RelFs.kp (k : Kp H ow w H' ow' w') : ∀ {j : Nat} {fs : List (Str × F)} {ps : List (Str × V)}, RelFs K H ow w j fs ps → RelFs K H' ow' w' j fs ps
  | _, [], _, h => h
  | j, (n, f) :: r, ps, h => by
    obtain ⟨x, pr, e, h1, h2⟩ := h
    exact ⟨x, pr, e, h1.kp k, RelFs.kp k h2⟩
theorem RelLl.kp (k : Kp H ow w H' ow' w') : ∀ {j : Nat} {fs : List (List D)} {ps : List V}, RelLl K H ow w j fs ps → RelLl K H' ow' w' j fs ps
  | _, [], _, h => h
  | j, f :: r, ps, h => by
    obtain ⟨x, pr, e, h1, h2⟩ := h
    exact ⟨x, pr, e, h1.kp k, RelLl.kp k h2⟩
theorem RelO.kp (k : Kp H ow w H' ow' w') : ∀ {o : O} {v : V}, RelO K H ow w o v → RelO K H' ow' w' o v
  | .f x, _, h => RelF.kp k h
  | .ll xss, _, h => by
    obtain ⟨a, ps, e, h1, h2, h3⟩ := h
    obtain ⟨q1, q2⟩ := k.own a 0 h1 _ h2 (fun _ e => nomatch e)
    exact ⟨a, ps, e, q2, q1, h3.kp k⟩
  | .ob c fs, _, h => by
    obtain ⟨a, dx, ps, e, h1, h2, h3⟩ := h
    obtain ⟨q1, q2⟩ := k.own a 0 h1 _ h2 (fun _ e => nomatch e)
    exact ⟨a, dx, ps, e, q2, q1, h3.kp k⟩
end

/-! ### the slots -/
structure RelE (K : Fr) (H : Hp) (ow : OW) (env : Env) (σ : L2.St) : Prop where
  tab : TbOk H
  len : σ.length = env.length
  rel : ∀ i o, env[i]? = some (some o) → ∃ v, σ[i]? = some (some v) ∧ RelO K H ow (.sl i) o v

/-- from one state of the heap and its owners to a later one -/
structure StepS (H : Hp) (ow : OW) (H' : Hp) (ow' : OW) : Prop where
  keep : ∀ a o, H a = some o → ow a = none → NoTbl o → H' a = some o
  sub : ∀ a, ow' a ≠ none → ow a ≠ none ∨ ∀ o, H a = some o → ¬ NoTbl o
  ext : Ext H H'
/-- .., what waits as an argument kept too -/
structure Step (H : Hp) (ow : OW) (H' : Hp) (ow' : OW) : Prop where
  keep : ∀ a o, H a = some o → ow a = none → NoTbl o → H' a = some o
  sub : ∀ a, ow' a ≠ none → ow a ≠ none ∨ ∀ o, H a = some o → ¬ NoTbl o
  ext : Ext H H'
  hold : ∀ a k j o, ow a = some (.arg k, j) → H a = some o → NoTbl o → H' a = some o ∧ ow' a = some (.arg k, j)
theorem Step.s {H H' : Hp} {ow ow' : OW} (s : Step H ow H' ow') : StepS H ow H' ow' := ⟨s.keep, s.sub, s.ext⟩
theorem Step.refl (H : Hp) (ow : OW) : Step H ow H ow := ⟨fun _ _ h _ _ => h, fun _ h => .inl h, Ext.refl H, fun _ _ _ _ h e _ => ⟨e, h⟩⟩
theorem StepS.refl (H : Hp) (ow : OW) : StepS H ow H ow := (Step.refl H ow).s
/-- what nobody owns and is there stays nobody's -/
theorem StepS.free {H H' : Hp} {ow ow' : OW} {a : Addr} {o : HO} (s : StepS H ow H' ow') (h : H a = some o) (nt : NoTbl o) (n : ow a = none) : ow' a = none := by
  cases q : ow' a with
  | none => rfl
  | some w =>
    rcases s.sub a (by rw [q]; exact fun z => nomatch z) with y | y
    · exact absurd n y
    · exact absurd nt (y o h)
theorem StepS.trans {H H1 H2 : Hp} {ow ow1 ow2 : OW} (s : StepS H ow H1 ow1) (t : StepS H1 ow1 H2 ow2) : StepS H ow H2 ow2 where
  keep := fun a o h n nt => t.keep a o (s.keep a o h n nt) (s.free h nt n) nt
  sub := fun a h => by
    by_cases n : ow a = none
    · right
      intro o ho nt
      have z := s.free ho nt n
      rcases t.sub a h with x | x
      · exact x z
      · exact x o (s.keep a o ho n nt) nt
    · exact .inl n
  ext := s.ext.trans t.ext
theorem Step.trans {H H1 H2 : Hp} {ow ow1 ow2 : OW} (s : Step H ow H1 ow1) (t : Step H1 ow1 H2 ow2) : Step H ow H2 ow2 :=
  ⟨(s.s.trans t.s).keep, (s.s.trans t.s).sub, s.ext.trans t.ext, fun a k j o h e nt => by
    obtain ⟨h1, h2⟩ := s.hold a k j o h e nt
    exact t.hold a k j o h2 h1 nt⟩
/-- new objects alone -/
def New (H H' : Hp) : Prop := ∀ a o, H a = some o → H' a = some o
theorem New.refl (H : Hp) : New H H := fun _ _ h => h
theorem New.trans {H H1 H2 : Hp} (a : New H H1) (b : New H1 H2) : New H H2 := fun x o h => b x o (a x o h)
theorem New.upd {H : Hp} {p : Addr} {o : HO} (h : H p = none) : New H (upd H p o) := fun a u e => by
  rw [upd_ne (ne_of_none e h)]
  exact e
theorem New.ext {H H' : Hp} (n : New H H') : Ext H H' := ⟨fun a xs h => n a _ h, fun a o u h => n a _ h, fun t p hp => (t p hp).ext n⟩
theorem New.step {H H' : Hp} (n : New H H') (ow : OW) : Step H ow H' ow := ⟨fun a o h _ _ => n a o h, fun _ h => .inl h, n.ext, fun a _ _ o h e _ => ⟨n a o e, h⟩⟩
theorem New.kp {H H' : Hp} (n : New H H') (ow : OW) (w : Own) : Kp H ow w H' ow w := ⟨n.ext, fun a j h o e _ => ⟨n a o e, h⟩⟩
theorem New.relE {K : Fr} {H H' : Hp} {ow : OW} {env : Env} {σ : L2.St} (n : New H H') (r : RelE K H ow env σ) : RelE K H' ow env σ :=
  ⟨n.ext.tab r.tab, r.len, fun i o e => by
    obtain ⟨v, h1, h2⟩ := r.rel i o e
    exact ⟨v, h1, h2.kp (n.kp ow (.sl i))⟩⟩

/-! ### results -/
inductive R (α : Type) where
  | ok (a : α) (e : Env)
  | exc (c : Str) (e : Env)
abbrev M (α : Type) := Env → Option (R α)
namespace M
def ret {α : Type} (a : α) : M α := fun e => some (.ok a e)
def lift {α : Type} (a : Option α) : M α := fun e => a.map fun x => .ok x e
end M
def bnd {α β : Type} (m : M α) (k : α → M β) : M β := fun e => match m e with
  | none => none
  | some (.exc c e') => some (.exc c e')
  | some (.ok a e') => k a e'

/-- what is wanted behind a result: post of the value, the wish W of an exception -/
def okR (K : Fr) (W : WX) (σ : L2.St) (H : Hp) (ow : OW) {α : Type} (post : α → Hp → OW → Prop) : R α → Prop
  | .ok a env' => ∀ H' ow', RelE K H' ow' env' σ → Step H ow H' ow' → post a H' ow'
  | .exc c env' => ∀ H' ow', RelE K H' ow' env' σ → Step H ow H' ow' → W (.ref (He.ga K c)) none σ H'
theorem okR.step {K : Fr} {W : WX} {σ : L2.St} {H H1 : Hp} {ow ow1 : OW} {α : Type} {post : α → Hp → OW → Prop} {r : R α} (h : okR K W σ H ow post r) (s : Step H ow H1 ow1) : okR K W σ H1 ow1 post r := by
  cases r with
  | ok a e => exact fun H' ow' r t => h H' ow' r (s.trans t)
  | exc c e => exact fun H' ow' r t => h H' ow' r (s.trans t)
def rdG (K : Fr) (W : WX) {α : Type} (m : M α) (σ : L2.St) (H : Hp) (post : α → Hp → OW → Prop) : Prop := ∃ env ow r, RelE K H ow env σ ∧ m env = some r ∧ okR K W σ H ow post r
def rdD (K : Fr) (W : WX) (m : M D) : TE := fun σ H Q => rdG K W m σ H fun d H' _ => ∀ v, RelD K H' d v → Q v H'
def rdT (K : Fr) (W : WX) (m : M Bool) : TT := fun σ H Q => rdG K W m σ H fun b H' _ => Q b H'
def rdO (K : Fr) (W : WX) (m : M O) : TE := fun σ H Q => rdG K W m σ H fun o H' ow' => ∀ v, RelO K H' ow' .tmp o v → Q v H'
def rdAs (K : Fr) (W : WX) (m : M (List D)) : TA := fun σ H Q => rdG K W m σ H fun ds H' _ => ∀ vs, RelDs K H' ds vs → Q vs H'
/-- the first part, then the second -/
theorem rdG.bind {K : Fr} {W : WX} {α β : Type} {m : M α} {k : α → M β} {σ : L2.St} {H : Hp} {post : β → Hp → OW → Prop} (h : rdG K W (bnd m k) σ H post) :
    rdG K W m σ H fun a H1 ow1 => ∃ env1 r, RelE K H1 ow1 env1 σ ∧ k a env1 = some r ∧ okR K W σ H1 ow1 post r := by
  obtain ⟨env, ow, r, rel, e, q⟩ := h
  unfold bnd at e
  cases z : m env with
  | none => rw [z] at e; cases e
  | some r1 =>
    cases r1 with
    | exc c e' =>
      rw [z] at e
      cases Option.some.inj e
      exact ⟨env, ow, _, rel, z, q⟩
    | ok a e' =>
      rw [z] at e
      exact ⟨env, ow, _, rel, z, fun H' ow' r' s' => ⟨e', r, r', e, q.step s'⟩⟩
theorem rdG.mono {K : Fr} {W : WX} {α : Type} {m : M α} {σ : L2.St} {H : Hp} {post post' : α → Hp → OW → Prop} (h : rdG K W m σ H post) (f : ∀ a H' ow', post a H' ow' → post' a H' ow') : rdG K W m σ H post' := by
  obtain ⟨env, ow, r, rel, e, q⟩ := h
  refine ⟨env, ow, r, rel, e, ?_⟩
  cases r with
  | ok a e => exact fun H' ow' r t => f _ _ _ (q H' ow' r t)
  | exc c e => exact q
theorem rdG.monoX {K : Fr} {W : WX} {α : Type} {m : M α} {σ : L2.St} {H : Hp} {post post' : α → Hp → OW → Prop} (h : rdG K W m σ H post) (f : ∀ a H' ow', Ext H H' → post a H' ow' → post' a H' ow') : rdG K W m σ H post' := by
  obtain ⟨env, ow, r, rel, e, q⟩ := h
  refine ⟨env, ow, r, rel, e, ?_⟩
  cases r with
  | ok a e => exact fun H' ow' r t => f _ _ _ t.ext (q H' ow' r t)
  | exc c e => exact q
theorem rdG.of {K : Fr} {W : WX} {α : Type} {k : M α} {σ : L2.St} {H : Hp} {ow : OW} {post : α → Hp → OW → Prop} (h : ∃ env1 r, RelE K H ow env1 σ ∧ k env1 = some r ∧ okR K W σ H ow post r) : rdG K W k σ H post := by
  obtain ⟨env1, r, a, b, c⟩ := h
  exact ⟨env1, ow, r, a, b, c⟩

/-! ### weaker readings -/
section
variable {X : Cx}
theorem PEimp {e : Expr} {t t' : TE} (h : PE X e t) (f : ∀ σ H Q, t' σ H Q → t σ H Q) : PE X e t' := ⟨fun pins s σ H Q I q => h.run pins s σ H Q I (f σ H Q q)⟩
theorem PTimp {e : Expr} {t t' : TT} (h : PT X e t) (f : ∀ σ H Q, t' σ H Q → t σ H Q) : PT X e t' := ⟨fun pins s σ H Q I q => h.run pins s σ H Q I (f σ H Q q)⟩
theorem PAimp {e : List Expr} {t t' : TA} (h : PA X e t) (f : ∀ σ H Q, t' σ H Q → t σ H Q) : PA X e t' := ⟨fun pos pins s σ H Q I q => h.run pos pins s σ H Q I (f σ H Q q)⟩
theorem PSimp {st : Stmt} {t t' : TS} (h : PS X st t) (f : ∀ D σ H, t' D σ H → t D σ H) : PS X st t' := ⟨fun pins s σ H D I q => h.run pins s σ H D I (f D σ H q)⟩
theorem PSsimp {st : List Stmt} {t t' : TS} (h : PSs X st t) (f : ∀ D σ H, t' D σ H → t D σ H) : PSs X st t' := ⟨fun pins s σ H D I q => h.run pins s σ H D I (f D σ H q)⟩

/-- the ghost step: what an expression gives is frozen -/
def tFrz (t : TE) : TE := fun σ H Q => t σ H fun v H1 => ∃ a u, v = .ref a ∧ H1 a = some u ∧ Mut (some u) ∧ ∀ o, Q v (upd H1 a (.frz o u))
theorem pe_frz {e : Expr} {t : TE} (h : PE X e t) : PE X e (tFrz t) := by
  refine ⟨fun pins s σ H Q I q => ?_⟩
  refine thn (h.run pins s σ H _ I q) fun v s1 ⟨x, H1, I1, r1, a, u, e1, h1, mu, q1⟩ => ?_
  obtain ⟨od, I2⟩ := I1.lock h1 mu
  exact ⟨x, _, I2, r1, q1 od⟩
end
end Pm

/-! ## Pm2 -/
set_option Elab.async false
set_option linter.all false
set_option maxRecDepth 100000
set_option maxHeartbeats 2000000
/-! Pm2: data as the library reads them; operators, comparisons, subscripts over data. -/
namespace Pm
open PySem PySem.Spec L2
variable [TabCtx]

/-! ### data that may be read now -/
mutual
theorem RelD.dp {K : Fr} {H : Hp} : ∀ (d : D) (v : V), d.plain = true → RelD K H d v → Dp K H v d
  | .none, _, _, h => by cases (show _ = _ from h); exact .non
  | .bool b, _, _, h => by cases (show _ = _ from h); exact .bl b
  | .int b, _, _, h => by cases (show _ = _ from h); exact .int b
  | .str b, _, _, h => by cases (show _ = _ from h); exact .str b
  | .tuple ds, v, p, h => by
    obtain ⟨a, xs, rfl, h1, _, h3⟩ := h
    simp only [PyData.plain] at p
    exact .tup h1 (RelDs.dp ds xs p h3)
  | .list ds, v, p, h => by
    obtain ⟨a, xs, rfl, h1, _, h3⟩ := h
    simp only [PyData.plain] at p
    exact .lst h1.sqL (RelDs.dp ds xs p h3)
  | .dict _, _, p, h => by simp only [PyData.plain] at p; cases p
theorem RelDs.dp {K : Fr} {H : Hp} : ∀ (ds : List D) (vs : List V), PyData.plainAll ds = true → RelDs K H ds vs → DpAll K H vs ds
  | [], _, _, h => by cases (show _ = _ from h); exact .nil
  | d :: ds, vs, p, h => by
    obtain ⟨x, r, rfl, h1, h2⟩ := h
    simp only [PyData.plainAll, Bool.and_eq_true] at p
    exact .cons (RelD.dp d x p.1 h1) (RelDs.dp ds r p.2 h2)
end
/-- data that may be read now: frozen, or a list that its owner holds -/
def BD (K : Fr) (H : Hp) (d : D) (v : V) : Prop := RelD K H d v ∨ ∃ ds a xs, d = .list ds ∧ v = .ref a ∧ H a = some (.lst xs) ∧ RelDs K H ds xs
section
variable {K : Fr} {H : Hp} {d : D} {v : V}
theorem BD.of (h : RelD K H d v) : BD K H d v := .inl h
theorem BD.dp (h : BD K H d v) (p : d.plain = true) : Dp K H v d := by
  rcases h with h | ⟨ds, a, xs, rfl, rfl, h1, h2⟩
  · exact RelD.dp d v p h
  · simp only [PyData.plain] at p
    exact .lst (SqL.of h1) (RelDs.dp ds xs p h2)
theorem BD.list {ds : List D} (h : BD K H (.list ds) v) : ∃ a xs, v = .ref a ∧ SqL K H a xs ∧ RelDs K H ds xs := by
  rcases h with ⟨a, xs, e, h1, _, h3⟩ | ⟨ds', a, xs, e, rfl, h1, h2⟩
  · exact ⟨a, xs, e, h1.sqL, h3⟩
  · cases e
    exact ⟨a, xs, rfl, SqL.of h1, h2⟩
theorem BD.tuple {ds : List D} (h : BD K H (.tuple ds) v) : ∃ a xs, v = .ref a ∧ SqT K H a xs ∧ RelDs K H ds xs := by
  rcases h with ⟨a, xs, e, h1, _, h3⟩ | ⟨ds', a, xs, e, _⟩
  · exact ⟨a, xs, e, h1, h3⟩
  · cases e
theorem BD.int {i : Int} (h : BD K H (.int i) v) : v = .int i := by
  rcases h with h | ⟨_, _, _, e, _⟩
  · exact h
  · cases e
theorem BD.str {i : Str} (h : BD K H (.str i) v) : v = .str i := by
  rcases h with h | ⟨_, _, _, e, _⟩
  · exact h
  · cases e
theorem BD.bool {i : Bool} (h : BD K H (.bool i) v) : v = .bl i := by
  rcases h with h | ⟨_, _, _, e, _⟩
  · exact h
  · cases e
theorem BD.none (h : BD K H .none v) : v = .non := by
  rcases h with h | ⟨_, _, _, e, _⟩
  · exact h
  · cases e
end
def BDs (K : Fr) (H : Hp) : List D → List V → Prop
  | [], vs => vs = []
  | d :: ds, vs => ∃ x r, vs = x :: r ∧ BD K H d x ∧ BDs K H ds r
def isNoneD : D → Bool
  | .none => true
  | _ => false
section
variable {X : Cx} {pins : List (Addr × Obj)} {σ : L2.St} {H : Hp} {s : Shared}
theorem BD.reads (I : Inv X pins σ H s) {d : D} {v : V} {u : Value} (h : BD X.K H d v) (p : d.plain = true) (r : RelV v u) : ∃ as, Reads s.heap u d as := Dp.reads I d v u (h.dp p) r
end

/-! ### operators by values -/
section
variable (X : Cx)
def Op2 (f : Value → Value → Sem Value) (g : D → D → Option D) : Prop :=
  OpR X f fun x y H Q => ∃ a b d, BD X.K H a x ∧ BD X.K H b y ∧ g a b = some d ∧ ∀ v H', RelD X.K H' d v → New H H' → Q v H'
def Ix2 (g : D → D → Option D) : Prop :=
  IxR X fun x y H Q => ∃ a b d, BD X.K H a x ∧ BD X.K H b y ∧ g a b = some d ∧ ∀ v H', RelD X.K H' d v → New H H' → Q v H'
def Un1 (f : Value → Sem Value) (g : D → Option D) : Prop :=
  UnR X f fun x H Q => ∃ a d, BD X.K H a x ∧ g a = some d ∧ ∀ v H', RelD X.K H' d v → New H H' → Q v H'
def Sl1 (g : D → Option Int → Option Int → Option D) : Prop :=
  SlR X fun x lo hi H Q => ∃ a d, BD X.K H a x ∧ g a lo hi = some d ∧ ∀ v H', RelD X.K H' d v → New H H' → Q v H'
/-- a call of a built-in by values -/
def Cl (f : Value) (g : List D → Option D) : Prop :=
  CallR X f fun xs H Q => ∃ as d, BDs X.K H as xs ∧ g as = some d ∧ ∀ v H', RelD X.K H' d v → New H H' → Q v H'
end
section
variable {X : Cx}

/-- without dicts, not both deep -/
def okEq (a b : D) : Prop := min a.depth b.depth ≤ 64 ∧ a.plain = true ∧ b.plain = true
instance (a b : D) : Decidable (okEq a b) := inferInstanceAs (Decidable (_ ∧ _ ∧ _))
def eqS (a b : D) : Option D := if okEq a b then some (.bool (PyData.eqv a b)) else none
def neS (a b : D) : Option D := if okEq a b then some (.bool (!PyData.eqv a b)) else none
theorem o2_eq (hu : X.A.units + 100 < cLine) : Op2 X (compareOp .Eq) eqS := by
  intro pins s σ H x y v u Q I rx ry ⟨a, b, d, ha, hb, hg, q⟩
  unfold eqS at hg
  split at hg
  · rename_i hd'
    obtain ⟨hd, pa, pb⟩ := hd'
    cases hg
    obtain ⟨as, r1⟩ := ha.reads I pa rx
    obtain ⟨bs, r2⟩ := hb.reads I pb ry
    exact SeqAt.eq_plain r1 r2 pa pb (by omega) ⟨.bl _, H, I, rfl, q _ H rfl (New.refl H)⟩
  · cases hg
theorem o2_ne (hu : X.A.units + 100 < cLine) : Op2 X (compareOp .NotEq) neS := by
  intro pins s σ H x y v u Q I rx ry ⟨a, b, d, ha, hb, hg, q⟩
  unfold neS at hg
  split at hg
  · rename_i hd'
    obtain ⟨hd, pa, pb⟩ := hd'
    cases hg
    obtain ⟨as, r1⟩ := ha.reads I pa rx
    obtain ⟨bs, r2⟩ := hb.reads I pb ry
    exact SeqAt.ne_plain r1 r2 pa pb (by omega) ⟨.bl _, H, I, rfl, q _ H rfl (New.refl H)⟩
  · cases hg
/-- in, not in -/
def inS (a b : D) : Option D := match b with
  | .list xs => if min (PyData.depthAll xs) a.depth ≤ 64 ∧ a.plain = true ∧ PyData.plainAll xs = true then some (.bool (xs.any fun y => PyData.eqv y a)) else none
  | .tuple xs => if min (PyData.depthAll xs) a.depth ≤ 64 ∧ a.plain = true ∧ PyData.plainAll xs = true then some (.bool (xs.any fun y => PyData.eqv y a)) else none
  | .str z => (match a with
    | .str y => some (.bool (!(Builtin.Str.occurrences z y 0 z.length 1).isEmpty))
    | _ => none)
  | _ => none
def notD : D → Option D
  | .bool b => some (.bool (!b))
  | _ => none
def notInS (a b : D) : Option D := (inS a b).bind notD
theorem o2_in (hu : X.A.units + 100 < cLine) : Op2 X (compareOp .In) inS := by
  intro pins s σ H x y v u Q I rx ry ⟨a, b, d, ha, hb, hg, q⟩
  unfold inS at hg
  split at hg
  · split at hg
    · rename_i hd
      obtain ⟨hd, pa, hp⟩ := hd
      cases hg
      obtain ⟨as, r1⟩ := ha.reads I pa rx
      obtain ⟨bs, r2⟩ := hb.reads I (by simp only [PyData.plain]; exact hp) ry
      exact SeqAt.in_list_data r2 r1 hp pa (by omega) ⟨.bl _, H, I, rfl, q _ H rfl (New.refl H)⟩
    · cases hg
  · split at hg
    · rename_i hd
      obtain ⟨hd, pa, hp⟩ := hd
      cases hg
      obtain ⟨as, r1⟩ := ha.reads I pa rx
      obtain ⟨bs, r2⟩ := hb.reads I (by simp only [PyData.plain]; exact hp) ry
      exact SeqAt.in_tuple_data r2 r1 hp pa (by omega) ⟨.bl _, H, I, rfl, q _ H rfl (New.refl H)⟩
    · cases hg
  · split at hg
    · cases hg
      cases hb.str
      cases ha.str
      exact op_in_str pins s σ H _ _ v u Q I rx ry ⟨_, _, rfl, rfl, q _ H rfl (New.refl H)⟩
    · cases hg
  · cases hg
theorem o2_notIn (hu : X.A.units + 100 < cLine) : Op2 X (compareOp .NotIn) notInS := by
  intro pins s σ H x y v u Q I rx ry ⟨a, b, d, ha, hb, hg, q⟩
  unfold notInS inS at hg
  split at hg
  · split at hg
    · rename_i hd
      obtain ⟨hd, pa, hp⟩ := hd
      cases hg
      obtain ⟨as, r1⟩ := ha.reads I pa rx
      obtain ⟨bs, r2⟩ := hb.reads I (by simp only [PyData.plain]; exact hp) ry
      exact SeqAt.notIn_list_data r2 r1 hp pa (by omega) ⟨.bl _, H, I, rfl, q _ H rfl (New.refl H)⟩
    · cases hg
  · split at hg
    · rename_i hd
      obtain ⟨hd, pa, hp⟩ := hd
      cases hg
      obtain ⟨as, r1⟩ := ha.reads I pa rx
      obtain ⟨bs, r2⟩ := hb.reads I (by simp only [PyData.plain]; exact hp) ry
      exact SeqAt.notIn_tuple_data r2 r1 hp pa (by omega) ⟨.bl _, H, I, rfl, q _ H rfl (New.refl H)⟩
    · cases hg
  · split at hg
    · cases hg
      cases hb.str
      cases ha.str
      exact op_notin_str pins s σ H _ _ v u Q I rx ry ⟨_, _, rfl, rfl, q _ H rfl (New.refl H)⟩
    · cases hg
  · cases hg
/-- <, <=, >, >= of alike data (whole numbers: by themselves) -/
def okCmp (a b : D) : Bool := PySem.W.alike a b && (match a with | .none => false | _ => true) && decide (min a.depth b.depth ≤ 64) && a.plain && b.plain
def ltS (a b : D) : Option D := match a, b with
  | .int i, .int j => some (.bool (decide (i < j)))
  | a, b => if okCmp a b = true then some (.bool (PySem.W.dataLt a b)) else none
def gtS (a b : D) : Option D := match a, b with
  | .int i, .int j => some (.bool (decide (j < i)))
  | a, b => if okCmp a b = true then some (.bool (PySem.W.dataLt b a)) else none
def leS (a b : D) : Option D := match a, b with
  | .int i, .int j => some (.bool (decide (i ≤ j)))
  | a, b => if okCmp a b = true then some (.bool (!PySem.W.dataLt b a)) else none
def geS (a b : D) : Option D := match a, b with
  | .int i, .int j => some (.bool (decide (j ≤ i)))
  | a, b => if okCmp a b = true then some (.bool (!PySem.W.dataLt a b)) else none
theorem okCmp.parts {a b : D} (h : okCmp a b = true) : PySem.W.alike a b = true ∧ a ≠ .none ∧ min a.depth b.depth ≤ 64 ∧ a.plain = true ∧ b.plain = true := by
  unfold okCmp at h
  rw [Bool.and_eq_true, Bool.and_eq_true, Bool.and_eq_true, Bool.and_eq_true, decide_eq_true_eq] at h
  obtain ⟨⟨⟨⟨h1, h2⟩, h3⟩, h4⟩, h5⟩ := h
  refine ⟨h1, ?_, h3, h4, h5⟩
  rintro rfl
  cases h2
theorem o2_lt (hu : X.A.units + 100 < cLine) : Op2 X (compareOp .Lt) ltS := by
  intro pins s σ H x y v u Q I rx ry ⟨a, b, d, ha, hb, hg, q⟩
  unfold ltS at hg
  split at hg
  · cases hg
    cases ha.int
    cases hb.int
    exact op_lt pins s σ H _ _ v u Q I rx ry ⟨_, _, rfl, rfl, q _ H rfl (New.refl H)⟩
  · split at hg
    · rename_i ok
      cases hg
      obtain ⟨h1, h2, h3, pa, pb⟩ := okCmp.parts ok
      obtain ⟨as, r1⟩ := ha.reads I pa rx
      obtain ⟨bs, r2⟩ := hb.reads I pb ry
      exact PySem.W.lt_data r1 r2 h1 h2 (by omega) ⟨.bl _, H, I, rfl, q _ H rfl (New.refl H)⟩
    · cases hg
theorem o2_gt (hu : X.A.units + 100 < cLine) : Op2 X (compareOp .Gt) gtS := by
  intro pins s σ H x y v u Q I rx ry ⟨a, b, d, ha, hb, hg, q⟩
  unfold gtS at hg
  split at hg
  · cases hg
    cases ha.int
    cases hb.int
    exact op_gt pins s σ H _ _ v u Q I rx ry ⟨_, _, rfl, rfl, q _ H rfl (New.refl H)⟩
  · split at hg
    · rename_i ok
      cases hg
      obtain ⟨h1, h2, h3, pa, pb⟩ := okCmp.parts ok
      obtain ⟨as, r1⟩ := ha.reads I pa rx
      obtain ⟨bs, r2⟩ := hb.reads I pb ry
      exact PySem.W.gt_data r1 r2 h1 h2 (by omega) ⟨.bl _, H, I, rfl, q _ H rfl (New.refl H)⟩
    · cases hg
theorem o2_le (hu : X.A.units + 100 < cLine) : Op2 X (compareOp .LtE) leS := by
  intro pins s σ H x y v u Q I rx ry ⟨a, b, d, ha, hb, hg, q⟩
  unfold leS at hg
  split at hg
  · cases hg
    cases ha.int
    cases hb.int
    exact op_le pins s σ H _ _ v u Q I rx ry ⟨_, _, rfl, rfl, q _ H rfl (New.refl H)⟩
  · split at hg
    · rename_i ok
      cases hg
      obtain ⟨h1, h2, h3, pa, pb⟩ := okCmp.parts ok
      obtain ⟨as, r1⟩ := ha.reads I pa rx
      obtain ⟨bs, r2⟩ := hb.reads I pb ry
      exact PySem.W.le_data r1 r2 h1 h2 (by omega) ⟨.bl _, H, I, rfl, q _ H rfl (New.refl H)⟩
    · cases hg
theorem o2_ge (hu : X.A.units + 100 < cLine) : Op2 X (compareOp .GtE) geS := by
  intro pins s σ H x y v u Q I rx ry ⟨a, b, d, ha, hb, hg, q⟩
  unfold geS at hg
  split at hg
  · cases hg
    cases ha.int
    cases hb.int
    exact op_ge pins s σ H _ _ v u Q I rx ry ⟨_, _, rfl, rfl, q _ H rfl (New.refl H)⟩
  · split at hg
    · rename_i ok
      cases hg
      obtain ⟨h1, h2, h3, pa, pb⟩ := okCmp.parts ok
      obtain ⟨as, r1⟩ := ha.reads I pa rx
      obtain ⟨bs, r2⟩ := hb.reads I pb ry
      exact PySem.W.ge_data r1 r2 h1 h2 (by omega) ⟨.bl _, H, I, rfl, q _ H rfl (New.refl H)⟩
    · cases hg
/-- is None, is True, ..: of None, truths -/
def isS (a b : D) : Option D := match b with
  | .none => some (.bool (isNoneD a))
  | _ => none
def isNotS (a b : D) : Option D := (isS a b).bind notD
theorem BD.none_iff {K : Fr} {H : Hp} {a : D} {x : V} (h : BD K H a x) : decide (x = .non) = isNoneD a := by
  rcases h with h | ⟨ds, b, xs, rfl, rfl, _⟩
  · cases a with
    | none => cases (show _ = _ from h); rfl
    | bool b => cases (show _ = _ from h); rfl
    | int b => cases (show _ = _ from h); rfl
    | str b => cases (show _ = _ from h); rfl
    | tuple ds => obtain ⟨b, xs, rfl, _⟩ := h; rfl
    | list ds => obtain ⟨b, xs, rfl, _⟩ := h; rfl
    | dict ds => obtain ⟨_, b, o, rfl, _⟩ := h; rfl
  · rfl
theorem o2_is : Op2 X (compareOp .Is) isS := by
  intro pins s σ H x y v u Q I rx ry ⟨a, b, d, ha, hb, hg, q⟩
  unfold isS at hg
  split at hg
  · cases hg
    cases hb.none
    refine op_isN pins s σ H _ _ v u Q I rx ry ⟨rfl, q _ H ?_ (New.refl H)⟩
    rw [ha.none_iff]
    rfl
  · cases hg
theorem o2_isNot : Op2 X (compareOp .IsNot) isNotS := by
  intro pins s σ H x y v u Q I rx ry ⟨a, b, d, ha, hb, hg, q⟩
  unfold isNotS isS at hg
  split at hg
  · cases hg
    cases hb.none
    refine op_notN pins s σ H _ _ v u Q I rx ry ⟨rfl, q _ H ?_ (New.refl H)⟩
    rw [ha.none_iff]
    rfl
  · cases hg

/-! ### numbers, texts, tuples -/
def addS (a b : D) : Option D := match a, b with
  | .int i, .int j => some (.int (i + j))
  | .str i, .str j => if i.length + j.length ≤ sizeLine then some (.str (i ++ j)) else none
  | .tuple xs, .tuple ys => if xs.length + ys.length ≤ sizeLine then some (.tuple (xs ++ ys)) else none
  | _, _ => none
theorem o2_add : Op2 X (binaryOp .Add) addS := by
  intro pins s σ H x y v u Q I rx ry ⟨a, b, d, ha, hb, hg, q⟩
  unfold addS at hg
  split at hg
  · cases hg
    cases ha.int
    cases hb.int
    exact op_add pins s σ H _ _ v u Q I rx ry ⟨_, _, rfl, rfl, q _ H rfl (New.refl H)⟩
  · split at hg
    · rename_i hz
      cases hg
      cases ha.str
      cases hb.str
      exact op_add_str pins s σ H _ _ v u Q I rx ry ⟨_, _, rfl, rfl, hz, q _ H rfl (New.refl H)⟩
    · cases hg
  · split at hg
    · rename_i xs ys hz
      cases hg
      obtain ⟨p, vs, rfl, h1, h2⟩ := ha.tuple
      obtain ⟨p', ws, rfl, h1', h2'⟩ := hb.tuple
      have l1 := h2.length
      have l2 := h2'.length
      refine op_catA pins s σ H _ _ v u Q I rx ry ⟨p, p', vs, ws, rfl, rfl, h1, h1', by omega, fun e => ?_, fun _ e => ?_, fun _ _ t ht => ?_⟩
      · have e2 : xs = [] := by rw [← List.length_eq_zero_iff, l1, e]; rfl
        subst e2
        exact q _ H ⟨p', ws, rfl, h1', by simpa using hz, h2'⟩ (New.refl H)
      · have e2 : ys = [] := by rw [← List.length_eq_zero_iff, l2, e]; rfl
        subst e2
        rw [List.append_nil] at q
        exact q _ H ⟨p, vs, rfl, h1, by simpa using hz, h2⟩ (New.refl H)
      · have n : New H (upd H t (.tup (vs ++ ws))) := New.upd ht
        exact q _ _ ⟨t, _, rfl, SqT.of upd_same, by rw [List.length_append]; exact hz, (RelDs.ext n.ext _ _ h2).append (RelDs.ext n.ext _ _ h2')⟩ n
    · cases hg
  · cases hg
def subS (a b : D) : Option D := match a, b with
  | .int i, .int j => some (.int (i - j))
  | _, _ => none
theorem o2_sub : Op2 X (binaryOp .Sub) subS := by
  intro pins s σ H x y v u Q I rx ry ⟨a, b, d, ha, hb, hg, q⟩
  unfold subS at hg
  split at hg
  · cases hg
    cases ha.int
    cases hb.int
    exact op_sub pins s σ H _ _ v u Q I rx ry ⟨_, _, rfl, rfl, q _ H rfl (New.refl H)⟩
  · cases hg
def smallI (i : Int) : Bool := decide (-(2 ^ 64) < i) && decide (i < 2 ^ 64)
end
theorem tuple_mul1 (l : Addr) (us : Array Value) (n : Nat) (dd : Option Addr) (sl : Array (Option Value)) (u : Tok) :
    Meets (Builtin.«tuple.__mul__» ⟨[.ref l, .int 1 u], []⟩) (fun _ R s => s.heap.get? l = some { cls := .type "tuple", dict := dd, data := .seq us n, slots := sl } ∧ R (.ok (.ret (.ref l))) s) :=
  .of_wp fun P w A R s y => by
    obtain ⟨hp, g, d, tk, os⟩ := s
    obtain ⟨k1, y⟩ := y
    have q1 := AutoSeq1.idx_int
    wp_walk using wpAny_loadPart' k1
    exact ⟨_, rfl, y⟩
section
variable {X : Cx}
theorem op_rep1 : OpR X (binaryOp .Mult) (fun x y H Q => ∃ l xs, x = .ref l ∧ y = .int 1 ∧ SqT X.K H l xs ∧ Q (.ref l) H) := by
  intro pins s σ H x y v u Q I rx ry ⟨l, xs, e1, e2, hT, q⟩
  subst e1 e2
  cases rx
  obtain ⟨t, rfl⟩ := ry
  obtain ⟨its, r, ⟨⟨cls, dd, data, sl⟩, ho, hc, n, hd⟩, hs⟩ := I.tuple hT
  cases hc
  cases hd
  exact wpAny_binaryOp_repeat_ref (T := "tuple") (U := "int") (by decide) ⟨_, ho, rfl⟩ (fun s' => typeIs_int s' 1 t) noFill_tuple_mul F.fills_int_mul F.slot_int_rmul repeat_tuple F.slot_int_index.lookup
    (call_meets F.slot_int_rmul (typeIs_int s 1 t) F.entry_int_rmul (F.args_int_rmul_2 _ _) (int_rmul_tuple 1 t l its.toArray n dd sl)
      ⟨ho, rfl, ⟨_, ho, rfl⟩, call_meets F.slot_tuple_mul ⟨_, ho, rfl⟩ F.entry_tuple_mul (F.args_tuple_mul_2 _ _) (tuple_mul1 l its.toArray n dd sl t) ⟨ho, .ref l, H, I, rfl, q⟩⟩)
def mulS (a b : D) : Option D := match a, b with
  | .int i, .int j => if (smallI i || smallI j) = true then some (.int (i * j)) else none
  | .tuple xs, .int k => if k = 1 then some (.tuple xs) else if k ≤ 0 ∨ xs = [] then none else if k ≤ 1000 ∧ xs.length ≤ 1000 then some (.tuple (List.replicate k.toNat xs).flatten) else none
  | _, _ => none
theorem o2_mul : Op2 X (binaryOp .Mult) mulS := by
  intro pins s σ H x y v u Q I rx ry ⟨a, b, d, ha, hb, hg, q⟩
  unfold mulS at hg
  split at hg
  · split at hg
    · rename_i hs
      cases hg
      cases ha.int
      cases hb.int
      refine op_mul pins s σ H _ _ v u Q I rx ry ⟨_, _, rfl, rfl, ?_, q _ H rfl (New.refl H)⟩
      rw [Bool.or_eq_true] at hs
      unfold smallI at hs
      rw [Bool.and_eq_true, Bool.and_eq_true, decide_eq_true_eq, decide_eq_true_eq, decide_eq_true_eq, decide_eq_true_eq] at hs
      exact hs
    · cases hg
  · split at hg
    · rename_i xs k hk
      cases hg
      subst hk
      cases hb.int
      obtain ⟨p, vs, rfl, p1, p2⟩ := ha.tuple
      refine op_rep1 pins s σ H _ _ v u Q I rx ry ⟨p, vs, rfl, rfl, p1, q _ H ⟨p, vs, rfl, p1, ?_, p2⟩ (New.refl H)⟩
      obtain ⟨_, _, _, hz⟩ := I.tuple p1
      rw [p2.length]
      exact hz
    · split at hg
      · cases hg
      · split at hg
        · rename_i xs k h2 h1 h3
          cases hg
          cases hb.int
          obtain ⟨p, vs, rfl, p1, p2⟩ := ha.tuple
          have l1 := p2.length
          refine op_repT pins s σ H _ _ v u Q I rx ry ⟨p, k, vs, rfl, rfl, p1, ?_, by omega, h3.1, by omega, fun t ht => ?_⟩
          · rintro rfl
            exact h1 (.inr (List.length_eq_zero_iff.mp l1))
          · have n : New H (upd H t (.tup (List.replicate k.toNat vs).flatten)) := New.upd ht
            have hr := (RelDs.ext n.ext _ _ p2).rep k.toNat
            refine q _ _ ⟨t, _, rfl, SqT.of upd_same, ?_, hr⟩ n
            have e1 : (List.replicate k.toNat xs).flatten.length = k.toNat * xs.length := by simp
            rw [e1, sizeLine_eq]
            have k1 : k.toNat ≤ 1000 := by omega
            have := Nat.mul_le_mul k1 h3.2
            omega
        · cases hg
  · cases hg
def modS (a b : D) : Option D := match a, b with
  | .int i, .int j => if 0 < j then some (.int (i % j)) else none
  | _, _ => none
theorem o2_mod : Op2 X (binaryOp .Mod) modS := by
  intro pins s σ H x y v u Q I rx ry ⟨a, b, d, ha, hb, hg, q⟩
  unfold modS at hg
  split at hg
  · split at hg
    · rename_i hs
      cases hg
      cases ha.int
      cases hb.int
      exact op_mod pins s σ H _ _ v u Q I rx ry ⟨_, _, rfl, rfl, hs, q _ H rfl (New.refl H)⟩
    · cases hg
  · cases hg
def fdivS (a b : D) : Option D := match a, b with
  | .int i, .int j => if 0 < j ∧ j < 1073741824 then some (.int (i / j)) else none
  | _, _ => none
theorem o2_fdiv : Op2 X (binaryOp .FloorDiv) fdivS := by
  intro pins s σ H x y v u Q I rx ry ⟨a, b, d, ha, hb, hg, q⟩
  unfold fdivS at hg
  split at hg
  · split at hg
    · rename_i hs
      cases hg
      cases ha.int
      cases hb.int
      exact op_fdiv pins s σ H _ _ v u Q I rx ry ⟨_, _, rfl, rfl, hs, q _ H rfl (New.refl H)⟩
    · cases hg
  · cases hg
def smallE (i j : Int) : Bool := decide (0 ≤ j) && decide (j ≤ 1000000) && decide (i.natAbs < 2 ^ 64)
theorem smallE.parts {i j : Int} (h : smallE i j = true) : CPow i j := by
  unfold smallE at h
  rw [Bool.and_eq_true, Bool.and_eq_true, decide_eq_true_eq, decide_eq_true_eq, decide_eq_true_eq] at h
  exact ⟨h.1.1, h.1.2, h.2⟩
def powS (a b : D) : Option D := match a, b with
  | .int i, .int j => if smallE i j = true then some (.int (i ^ j.toNat)) else none
  | _, _ => none
theorem o2_pow : Op2 X (binaryOp .Pow) powS := by
  intro pins s σ H x y v u Q I rx ry ⟨a, b, d, ha, hb, hg, q⟩
  unfold powS at hg
  split at hg
  · split at hg
    · rename_i hs
      cases hg
      cases ha.int
      cases hb.int
      exact op_pow pins s σ H _ _ v u Q I rx ry ⟨_, _, rfl, rfl, smallE.parts hs, q _ H rfl (New.refl H)⟩
    · cases hg
  · cases hg
def shlS (a b : D) : Option D := match a, b with
  | .int i, .int j => if smallE i j = true then some (.int (i * 2 ^ j.toNat)) else none
  | _, _ => none
theorem o2_shl : Op2 X (binaryOp .LShift) shlS := by
  intro pins s σ H x y v u Q I rx ry ⟨a, b, d, ha, hb, hg, q⟩
  unfold shlS at hg
  split at hg
  · split at hg
    · rename_i hs
      cases hg
      cases ha.int
      cases hb.int
      exact op_shl pins s σ H _ _ v u Q I rx ry ⟨_, _, rfl, rfl, smallE.parts hs, q _ H rfl (New.refl H)⟩
    · cases hg
  · cases hg
def bitS (f : Int → Int → Int) (a b : D) : Option D := match a, b with
  | .int i, .int j => some (.int (f i j))
  | _, _ => none
theorem o2_bit {op : Operator} {f : Int → Int → Int} (h : OpR X (binaryOp op) (rI0 fun i j => .int (f i j))) : Op2 X (binaryOp op) (bitS f) := by
  intro pins s σ H x y v u Q I rx ry ⟨a, b, d, ha, hb, hg, q⟩
  unfold bitS at hg
  split at hg
  · cases hg
    cases ha.int
    cases hb.int
    exact h pins s σ H _ _ v u Q I rx ry ⟨_, _, rfl, rfl, q _ H rfl (New.refl H)⟩
  · cases hg
theorem o2_and : Op2 X (binaryOp .BitAnd) (bitS Builtin.bitAnd) := o2_bit op_and
theorem o2_or : Op2 X (binaryOp .BitOr) (bitS Builtin.bitOr) := o2_bit op_or
theorem o2_xor : Op2 X (binaryOp .BitXor) (bitS Builtin.bitXor) := o2_bit op_xor
def negS : D → Option D
  | .int i => some (.int (-i))
  | _ => none
theorem u1_neg : Un1 X (unaryOp .USub) negS := by
  intro pins s σ H x v Q I rx ⟨a, d, ha, hg, q⟩
  unfold negS at hg
  split at hg
  · cases hg
    cases ha.int
    exact un_neg pins s σ H _ v Q I rx ⟨_, rfl, q _ H rfl (New.refl H)⟩
  · cases hg

/-! ### subscripts -/
theorem atI_rel {K : Fr} {H : Hp} {ds : List D} {vs : List V} {i : Int} {d : D} (h : RelDs K H ds vs) (e : atI ds i = some d) : ∃ v, atI vs i = some v ∧ RelD K H d v := by
  unfold atI at e ⊢
  rw [h.length] at e
  cases z : ixN vs.length i with
  | none => rw [z] at e; cases e
  | some j =>
    rw [z] at e
    exact h.get e
def getS (a b : D) : Option D := match a, b with
  | .list ds, .int i => atI ds i
  | .tuple ds, .int i => atI ds i
  | .str z, .int i => if z.length ≤ sizeLine then (atI z.cps.toList i).map fun c => .str ⟨#[c]⟩ else none
  | _, _ => none
theorem i2_get : Ix2 X getS := by
  intro value slice pins s σ H x y v u Q I rx ry ⟨a, b, d, ha, hb, hg, q⟩ hs
  unfold getS at hg
  split at hg
  · cases hb.int
    obtain ⟨p, vs, rfl, h1, h2⟩ := ha.list
    obtain ⟨w, e1, e2⟩ := atI_rel h2 hg
    exact ix_list value slice pins s σ H _ _ v u Q I rx ry ⟨p, vs, _, w, rfl, rfl, h1, e1, q _ H e2 (New.refl H)⟩ hs
  · cases hb.int
    obtain ⟨p, vs, rfl, h1, h2⟩ := ha.tuple
    obtain ⟨w, e1, e2⟩ := atI_rel h2 hg
    exact ix_tup value slice pins s σ H _ _ v u Q I rx ry ⟨p, vs, _, w, rfl, rfl, h1, e1, q _ H e2 (New.refl H)⟩ hs
  · cases hb.int
    cases ha.str
    split at hg
    · rename_i z i hz
      cases e : atI z.cps.toList i with
      | none => rw [e] at hg; cases hg
      | some c =>
        rw [e] at hg
        cases Option.some.inj hg
        exact ix_str value slice pins s σ H _ _ v u Q I rx ry ⟨_, _, c, rfl, rfl, hz, e, q _ H rfl (New.refl H)⟩ hs
    · cases hg
  · cases hg
/-- the items of xs[lo:hi] -/
def cutD (xs : List D) (lo hi : Option Int) : List D := (xs.drop (HT.sIx xs.length 0 lo)).take (HT.sIx xs.length xs.length hi - HT.sIx xs.length 0 lo)
theorem RelDs.cut {K : Fr} {H : Hp} {ds : List D} {vs : List V} (h : RelDs K H ds vs) (lo hi : Option Int) : RelDs K H (cutD ds lo hi) (cutV vs lo hi) := by
  unfold cutD cutV
  rw [h.length]
  exact (h.drop _).take _
theorem cutD_length (xs : List D) (lo hi : Option Int) : (cutD xs lo hi).length ≤ xs.length := by
  unfold cutD
  rw [List.length_take, List.length_drop]
  omega
theorem cutD_whole {xs : List D} {lo hi : Option Int} (h : HT.sIx xs.length 0 lo = 0 ∧ HT.sIx xs.length xs.length hi = xs.length) : cutD xs lo hi = xs := by
  unfold cutD
  rw [h.1, h.2]
  simp
def cutS (a : D) (lo hi : Option Int) : Option D := match a with
  | .tuple ds => if ds.length ≤ sizeLine then some (.tuple (cutD ds lo hi)) else none
  | _ => none
theorem s1_cut : Sl1 X cutS := by
  intro pins s σ H x v vl vu lo hi sl Q I rx hs pl pu ⟨a, d, ha, hg, q⟩
  unfold cutS at hg
  split at hg
  · split at hg
    · rename_i ds hz
      cases hg
      obtain ⟨p, vs, rfl, h1, h2⟩ := ha.tuple
      refine sl_tupA pins s σ H _ v vl vu lo hi sl Q I rx hs pl pu ⟨p, vs, rfl, h1, fun e => ?_, fun _ t ht => ?_⟩
      · rw [← h2.length] at e
        rw [cutD_whole e] at q
        exact q _ H ⟨p, vs, rfl, h1, hz, h2⟩ (New.refl H)
      · have n : New H (upd H t (.tup (cutV vs lo hi))) := New.upd ht
        exact q _ _ ⟨t, _, rfl, SqT.of upd_same, Nat.le_trans (cutD_length ds lo hi) hz, (RelDs.ext n.ext _ _ h2).cut lo hi⟩ n
    · cases hg
  · cases hg
end
end Pm

/-! ## Pm3 -/
set_option Elab.async false
set_option linter.all false
set_option maxRecDepth 100000
set_option maxHeartbeats 2000000
/-! Pm3: expressions: names, constants, operators, tests, displays, subscripts, slices, built-ins of one and two arguments. -/
namespace Pm
open PySem PySem.Spec L2
variable [TabCtx]

/-! ### the owner's object is changed -/
section
variable {K : Fr} {H : Hp} {ow : OW} {env : Env} {σ : L2.St}
theorem Mu.notTup {u : HO} (m : Mu u) : ∀ xs, u ≠ .tup xs := fun xs e => by rw [e] at m; exact m
theorem Mu.notFrz {u : HO} (m : Mu u) : ∀ o z, u ≠ .frz o z := fun o z e => by rw [e] at m; exact m
theorem Mu.notTbl {u : HO} (m : Mu u) : NoTbl u := fun o e => by rw [e] at m; exact m
theorem Mu.notExt {u : HO} (m : Mu u) : ∀ φ, u ≠ .ext φ := fun o e => by rw [e] at m; exact m
theorem Mu.mut {u : HO} (m : Mu u) : Mut (some u) := by
  cases u <;> first | exact True.intro | exact m
theorem TbOk.upd {a : Addr} {u u' : HO} (h : H a = some u) (m : Mu u) (t : TbOk H) : TbOk (upd H a u') := fun p hp => by
  obtain ⟨ps, h1, h2, h3⟩ := t p hp
  have hP : p.1 ≠ a := fun q => by rw [q, h] at h1; exact m.notTbl _ (Option.some.inj h1)
  refine ⟨ps, by rw [upd_ne hP]; exact h1, h2, fun pos cv hc => ?_⟩
  obtain ⟨c, e, h4⟩ := h3 pos cv hc
  have hc' : c ≠ a := fun q => by rw [q, h] at h4; exact m.notExt _ (Option.some.inj h4)
  exact ⟨c, e, by rw [upd_ne hc']; exact h4⟩
theorem Ext.upd {a : Addr} {u u' : HO} (h : H a = some u) (m : Mu u) : Ext H (upd H a u') where
  tup := fun b xs e => by
    by_cases hb : b = a
    · rw [hb, h] at e
      exact absurd (Option.some.inj e) (m.notTup xs)
    · rw [upd_ne hb]; exact e
  frz := fun b o z e => by
    by_cases hb : b = a
    · rw [hb, h] at e
      exact absurd (Option.some.inj e) (m.notFrz o z)
    · rw [upd_ne hb]; exact e
  tab := TbOk.upd h m
theorem Step.upd {a : Addr} {u u' : HO} {i j : Nat} (h : H a = some u) (m : Mu u) (o : ow a = some (.sl i, j)) : Step H ow (upd H a u') ow where
  keep := fun b z e n _ => by
    have hb : b ≠ a := fun q => by rw [q, o] at n; cases n
    rw [upd_ne hb]; exact e
  sub := fun _ h => .inl h
  ext := Ext.upd h m
  hold := fun b k j z e he _ => by
    have hb : b ≠ a := fun q => by rw [q, o] at e; cases e
    rw [upd_ne hb]; exact ⟨he, e⟩
theorem Kp.upd {a : Addr} {u u' : HO} {w : Own} {j : Nat} (h : H a = some u) (m : Mu u) (o : ow a = some (w, j)) {w2 : Own} (hw : w2 ≠ w) : Kp H ow w2 (upd H a u') ow w2 where
  ext := Ext.upd h m
  own := fun b k e z he _ => by
    have hb : b ≠ a := fun q => by
      rw [q, o] at e
      injection e with e
      injection e with e1 e2
      exact hw e1.symm
    rw [upd_ne hb]
    exact ⟨he, e⟩
theorem RelE.upd {a : Addr} {u u' : HO} {i j : Nat} {o' : O} {v : V} (r : RelE K H ow env σ) (hi : i < env.length) (hs : σ[i]? = some (some v)) (h : H a = some u) (m : Mu u) (o : ow a = some (.sl i, j))
    (new : RelO K (upd H a u') ow (.sl i) o' v) : RelE K (upd H a u') ow (env.set i (some o')) σ where
  tab := TbOk.upd h m r.tab
  len := by rw [List.length_set]; exact r.len
  rel := fun k q e => by
    by_cases hk : k = i
    · subst hk
      rw [List.getElem?_set_self hi] at e
      cases e
      exact ⟨v, hs, new⟩
    · rw [List.getElem?_set_ne (Ne.symm hk)] at e
      obtain ⟨x, h1, h2⟩ := r.rel k q e
      refine ⟨x, h1, h2.kp (Kp.upd h m o fun z => hk ?_)⟩
      injection z
theorem ne_len {i : Nat} {o : Option O} (h : env[i]? = some o) : i < env.length := (List.getElem?_eq_some_iff.mp h).1
end

/-! ### what an expression makes -/
def cst (d : D) : M D := fun e => some (.ok d e)
def varD (i : Nat) : M D := fun e => match e[i]? with
  | some (some (.f (.d x))) => some (.ok x e)
  | _ => none
def slotB : O → Option D
  | .f (.d x) => some x
  | .f (.l xs) => some (.list xs)
  | _ => none
/-- the thing at a slot, to be read at once -/
def plc (i : Nat) : M D := fun e => match e[i]? with
  | some (some o) => (slotB o).map fun d => .ok d e
  | _ => none
/-- the thing at a slot, which nobody changes from now on -/
def frzV (i : Nat) : M D := fun e => match e[i]? with
  | some (some (.f (.d x))) => some (.ok x e)
  | some (some (.f (.l xs))) => some (.ok (.list xs) (e.set i (some (.d (.list xs)))))
  | _ => none
def asB : D → M Bool
  | .bool b => M.ret b
  | _ => fun _ => none
def op2 (g : D → D → Option D) (ma mb : M D) : M D := bnd ma fun a => bnd mb fun b => M.lift (g a b)
/-- the first operand stands at a slot -/
def op2p (g : D → D → Option D) (i : Nat) (mb : M D) : M D := bnd mb fun b => bnd (plc i) fun a => M.lift (g a b)
def op1 (g : D → Option D) (ma : M D) : M D := bnd ma fun a => M.lift (g a)
def tst (m : M D) : M Bool := bnd m asB
def andT (a b : M Bool) : M Bool := bnd a fun x => if x = true then b else M.ret false
def orT (a b : M Bool) : M Bool := bnd a fun x => if x = true then M.ret true else b
def notT (a : M Bool) : M Bool := bnd a fun x => M.ret (!x)
def andV (a b : M D) : M D := bnd (tst a) fun x => if x = true then b else cst (.bool false)
def orV (a b : M D) : M D := bnd (tst a) fun x => if x = true then cst (.bool true) else b
def notV (a : M D) : M D := bnd (tst a) fun x => cst (.bool (!x))
def ifV (t : M Bool) (a b : M D) : M D := bnd t fun x => if x = true then a else b
def chn (g g' : D → D → Option D) (ma mb mc : M D) : M D := bnd ma fun a => bnd mb fun b => bnd (bnd (M.lift (g a b)) asB) fun k => if k = true then bnd mc fun c => M.lift (g' b c) else cst (.bool false)
def args0 : M (List D) := M.ret []
def argsC (m : M D) (r : M (List D)) : M (List D) := bnd m fun d => bnd r fun ds => M.ret (d :: ds)
def tupM (m : M (List D)) : M D := bnd m fun ds => if ds.length ≤ sizeLine then cst (.tuple ds) else fun _ => none
def lstM (m : M (List D)) : M D := bnd m fun ds => if ds.length ≤ sizeLine then cst (.list ds) else fun _ => none
def call1 (g : List D → Option D) (m : M D) : M D := bnd m fun d => M.lift (g [d])
def call2 (g : List D → Option D) (m n : M D) : M D := bnd m fun d => bnd n fun d' => M.lift (g [d, d'])

def rdB (K : Fr) (W : WX) (m : M D) : TE := fun σ H Q => rdG K W m σ H fun d H' _ => ∀ v, BD K H' d v → Q v H'

section
variable {X : Cx} {W : WX} {e a b c : Expr} {pos : Pos} {m ma mb mc : M D} {t ta tb : M Bool}

theorem sim_b (h : PE X e (rdD X.K W m)) : PE X e (rdB X.K W m) := PEimp h fun σ H Q q => q.mono fun d H' ow' p v r => p v (.of r)

/-- a value that is known -/
theorem rdG.const {K : Fr} {α : Type} {σ : L2.St} {H : Hp} {a : α} {post : α → Hp → OW → Prop} (h : rdG K W (M.ret a) σ H post) : ∃ ow, post a H ow := by
  obtain ⟨env, ow, r, rel, e, q⟩ := h
  cases Option.some.inj e
  exact ⟨ow, q H ow rel (Step.refl H ow)⟩
theorem rdG.lift {K : Fr} {α : Type} {σ : L2.St} {H : Hp} {a : Option α} {post : α → Hp → OW → Prop} (h : rdG K W (M.lift a) σ H post) : ∃ x, a = some x ∧ ∀ H', New H H' → ∃ ow, post x H' ow := by
  obtain ⟨env, ow, r, rel, e, q⟩ := h
  unfold M.lift at e
  cases a with
  | none => cases e
  | some x =>
    cases Option.some.inj e
    exact ⟨x, rfl, fun H' n => ⟨ow, q H' ow (n.relE rel) (n.step ow)⟩⟩

/-! ### names, constants -/
theorem sim_var (i : Nat) {x : Str} (hN : X.N[i]? = some x := by rfl) (hv : Vis X.env.scope x := by first | exact Or.inl rfl | exact Or.inr (Or.inl rfl) | exact Or.inr (Or.inr rfl)) (hd : (x == ("__debug__" : Str)) = false := by decide)
    (hcd : (x == ("__classdict__" : Str)) = false := by decide) : PE X (.Name x pos) (rdD X.K W (varD i)) := PEimp (pe_var hN hv hd hcd) fun σ H Q ⟨env, ow, r, rel, e, q⟩ => by
  unfold varD at e
  split at e
  · rename_i x he
    cases Option.some.inj e
    obtain ⟨v, h1, h2⟩ := rel.rel i _ he
    exact ⟨v, h1, q H ow rel (Step.refl H ow) v h2⟩
  · cases e
theorem sim_plc (i : Nat) {x : Str} (hN : X.N[i]? = some x := by rfl) (hv : Vis X.env.scope x := by first | exact Or.inl rfl | exact Or.inr (Or.inl rfl) | exact Or.inr (Or.inr rfl)) (hd : (x == ("__debug__" : Str)) = false := by decide)
    (hcd : (x == ("__classdict__" : Str)) = false := by decide) : PE X (.Name x pos) (rdB X.K W (plc i)) := PEimp (pe_var hN hv hd hcd) fun σ H Q ⟨env, ow, r, rel, e, q⟩ => by
  unfold plc at e
  split at e
  · rename_i o he
    obtain ⟨v, h1, h2⟩ := rel.rel i _ he
    cases z : slotB o with
    | none => rw [z] at e; cases e
    | some d =>
      rw [z] at e
      cases Option.some.inj e
      refine ⟨v, h1, q H ow rel (Step.refl H ow) v ?_⟩
      unfold slotB at z
      split at z
      · cases Option.some.inj z
        exact .inl h2
      · cases Option.some.inj z
        obtain ⟨p, vs, e1, e2, e3, e4⟩ := h2
        exact .inr ⟨_, p, vs, rfl, e1, e3, e4⟩
      · cases z
  · cases e
/-- of a slot and its place: what the slot's reading gives -/
theorem plc_at {K : Fr} {i : Nat} {σ : L2.St} {H : Hp} {v : V} {post : D → Hp → OW → Prop} (hs : σ[i]? = some (some v)) (h : rdG K W (plc i) σ H post) : ∃ d ow, BD K H d v ∧ post d H ow := by
  obtain ⟨env, ow, r, rel, e, q⟩ := h
  unfold plc at e
  split at e
  · rename_i o he
    obtain ⟨v', h1, h2⟩ := rel.rel i _ he
    rw [hs] at h1
    cases h1
    cases z : slotB o with
    | none => rw [z] at e; cases e
    | some d =>
      rw [z] at e
      cases Option.some.inj e
      refine ⟨d, ow, ?_, q H ow rel (Step.refl H ow)⟩
      unfold slotB at z
      split at z
      · cases Option.some.inj z
        exact .inl h2
      · cases Option.some.inj z
        obtain ⟨p, vs, e1, e2, e3, e4⟩ := h2
        exact .inr ⟨_, p, vs, rfl, e1, e3, e4⟩
      · cases z
  · cases e
theorem PEor {t t' : TE} (h : PE X e t) (h' : PE X e t') : PE X e (fun σ H Q => t σ H Q ∨ t' σ H Q) := ⟨fun pins s σ H Q I q => q.elim (h.run pins s σ H Q I) (h'.run pins s σ H Q I)⟩
/-- a name whose list stays as it is from now on; the list has to be within the line -/
theorem sim_frz (i : Nat) {x : Str} (hN : X.N[i]? = some x := by rfl) (hv : Vis X.env.scope x := by first | exact Or.inl rfl | exact Or.inr (Or.inl rfl) | exact Or.inr (Or.inr rfl)) (hd : (x == ("__debug__" : Str)) = false := by decide)
    (hcd : (x == ("__classdict__" : Str)) = false := by decide) : PE X (.Name x pos) (rdD X.K W (frzV i)) := by
  refine ⟨fun pins s σ H Q I ⟨env, ow, r, rel, e, q⟩ => ?_⟩
  unfold frzV at e
  split at e
  · rename_i x he
    cases Option.some.inj e
    obtain ⟨v, h1, h2⟩ := rel.rel i _ he
    exact (pe_var hN hv hd hcd).run pins s σ H Q I ⟨v, h1, q H ow rel (Step.refl H ow) v h2⟩
  · rename_i xs he
    cases Option.some.inj e
    obtain ⟨v, h1, p, vs, e1, e2, e3, e4⟩ := rel.rel i _ he
    subst e1
    obtain ⟨_, _, _, hz⟩ := I.list (SqL.of e3)
    refine (pe_frz (pe_var hN hv hd hcd)).run pins s σ H Q I ⟨.ref p, h1, p, _, rfl, e3, True.intro, fun o => ?_⟩
    have x0 : Ext H (upd H p (.frz o (.lst vs))) := Ext.upd e3 True.intro
    have rd : RelD X.K (upd H p (.frz o (.lst vs))) (.list xs) (.ref p) := ⟨p, vs, rfl, .inl ⟨o, upd_same⟩, by rw [e4.length]; exact hz, RelDs.ext x0 _ _ e4⟩
    exact q _ ow (rel.upd (ne_len he) h1 e3 True.intro e2 rd) (Step.upd e3 True.intro e2) (.ref p) rd
  · cases e
theorem sim_cst {d : D} {v : V} (h : PE X e (tC v)) (r : ∀ H, RelD X.K H d v) : PE X e (rdD X.K W (cst d)) := PEimp h fun σ H Q q => by
  obtain ⟨ow, p⟩ := rdG.const q
  exact p v (r H)
theorem sim_int {i j} : PE X (.Constant (.int i) j pos) (rdD X.K W (cst (.int i))) := sim_cst pe_int fun _ => rfl
theorem sim_bl {i j} : PE X (.Constant (.bool i) j pos) (rdD X.K W (cst (.bool i))) := sim_cst pe_bl fun _ => rfl
theorem sim_non {j} : PE X (.Constant .none j pos) (rdD X.K W (cst .none)) := sim_cst pe_non fun _ => rfl
theorem sim_str {i j} : PE X (.Constant (.str i) j pos) (rdD X.K W (cst (.str i))) := sim_cst pe_str fun _ => rfl
/-- a module's name -/
theorem sim_glob {x : Str} {v : V} {u : Value} {d : D} (hg : Gl X x) (hm : X.mg x = some u) (r : RelV v u) (rd : ∀ H, RelD X.K H d v) (hd : (x == ("__debug__" : Str)) = false := by decide) : PE X (.Name x pos) (rdD X.K W (cst d)) := sim_cst (pe_glob hg hm r hd) rd

/-! ### operators -/
theorem rdG.op2 {K : Fr} {g : D → D → Option D} {σ : L2.St} {H : Hp} {Q : VK} (h : rdG K W (op2 g ma mb) σ H fun d H' _ => ∀ v, RelD K H' d v → Q v H') :
    rdD K W ma σ H fun x H1 => rdB K W mb σ H1 fun y H2 => ∃ a b d, BD K H2 a x ∧ BD K H2 b y ∧ g a b = some d ∧ ∀ v H', RelD K H' d v → New H2 H' → Q v H' := by
  refine h.bind.mono fun a H1 ow1 h1 x rx => ?_
  obtain ⟨env1, r, rel1, e1, q1⟩ := h1
  have hb : rdG K W (bnd mb fun b => M.lift (g a b)) σ H1 (fun d H' _ => ∀ v, RelD K H' d v → Q v H') := ⟨env1, ow1, r, rel1, e1, q1⟩
  obtain ⟨env, ow, r2, rel2, e2, q2⟩ := hb.bind
  refine ⟨env, ow, r2, rel2, e2, ?_⟩
  cases r2 with
  | exc c e => exact q2
  | ok b env2 =>
    intro H2 ow2 rl st y ry
    obtain ⟨env3, r3, rel3, e3, q3⟩ := q2 H2 ow2 rl st
    obtain ⟨d, hd, p⟩ := (show rdG K W (M.lift (g a b)) σ H2 (fun d H' _ => ∀ v, RelD K H' d v → Q v H') from ⟨env3, ow2, r3, rel3, e3, q3⟩).lift
    refine ⟨a, b, d, .inl (RelD.ext st.ext a x rx), ry, hd, fun v H' rv n => ?_⟩
    obtain ⟨_, p⟩ := p H' n
    exact p v rv
theorem rdG.op2p {K : Fr} {g : D → D → Option D} {i : Nat} {σ : L2.St} {H : Hp} {Q : VK} (h : rdG K W (op2p g i mb) σ H fun d H' _ => ∀ v, RelD K H' d v → Q v H') {x : V} (hx : σ[i]? = some (some x)) :
    rdB K W mb σ H fun y H2 => ∃ a b d, BD K H2 a x ∧ BD K H2 b y ∧ g a b = some d ∧ ∀ v H', RelD K H' d v → New H2 H' → Q v H' := by
  refine h.bind.mono fun b H1 ow1 h1 y ry => ?_
  obtain ⟨env1, r, rel1, e1, q1⟩ := h1
  have hb : rdG K W (bnd (plc i) fun a => M.lift (g a b)) σ H1 (fun d H' _ => ∀ v, RelD K H' d v → Q v H') := ⟨env1, ow1, r, rel1, e1, q1⟩
  obtain ⟨a, ow2, ba, env3, r3, rel3, e3, q3⟩ := plc_at hx hb.bind
  obtain ⟨d, hd, p⟩ := (show rdG K W (M.lift (g a b)) σ H1 (fun d H' _ => ∀ v, RelD K H' d v → Q v H') from ⟨env3, ow2, r3, rel3, e3, q3⟩).lift
  refine ⟨a, b, d, ba, ry, hd, fun v H' rv n => ?_⟩
  obtain ⟨_, p⟩ := p H' n
  exact p v rv
/-- the slot that op2p reads is filled -/
theorem sim_bin {op : Operator} {g : D → D → Option D} (ho : Op2 X (binaryOp op) g) (ha : PE X a (rdD X.K W ma)) (hb : PE X b (rdB X.K W mb)) : PE X (.BinOp a op b pos) (rdD X.K W (op2 g ma mb)) := PEimp (pe_op ho ha hb) fun σ H Q q => q.op2
theorem sim_cmp {op : CmpOp} {g : D → D → Option D} (ho : Op2 X (compareOp op) g) (ha : PE X a (rdD X.K W ma)) (hb : PE X b (rdB X.K W mb)) (hm : behindInMarks op b = false) : PE X (.Compare a [op] [b] pos) (rdD X.K W (op2 g ma mb)) :=
  PEimp (pe_cmpR ho ha hb hm) fun σ H Q q => q.op2
theorem sim_ix {g : D → D → Option D} (ho : Ix2 X g) (ha : PE X a (rdD X.K W ma)) (hb : PE X b (rdB X.K W mb)) (hs : PlainIx b) : PE X (.Subscript a b pos) (rdD X.K W (op2 g ma mb)) := PEimp (pe_ix ho ha hb hs) fun σ H Q q => q.op2
theorem sim_un {op : UnaryOp} {g : D → Option D} (ho : Un1 X (unaryOp op) g) (ha : PE X a (rdB X.K W ma)) : PE X (.UnaryOp op a pos) (rdD X.K W (op1 g ma)) := PEimp (pe_un ho ha) fun σ H Q q => by
  refine (rdG.bind q).mono fun a H1 ow1 h1 x rx => ?_
  obtain ⟨env1, r, rel1, e1, q1⟩ := h1
  obtain ⟨d, hd, p⟩ := (show rdG X.K W (M.lift (g a)) σ H1 (fun d H' _ => ∀ v, RelD X.K H' d v → Q v H') from ⟨env1, ow1, r, rel1, e1, q1⟩).lift
  refine ⟨a, d, rx, hd, fun v H' rv n => ?_⟩
  obtain ⟨_, p⟩ := p H' n
  exact p v rv
/-- a test whose value is a truth value -/
theorem rdG.tst {K : Fr} {σ : L2.St} {H : Hp} {Q : Bool → Hp → Prop} (h : rdT K W (tst m) σ H Q) : rdD K W m σ H fun x H1 => ∃ k, x = .bl k ∧ Q k H1 := by
  refine (rdG.bind h).mono fun d H1 ow1 h1 x rx => ?_
  obtain ⟨env1, r, rel1, e1, q1⟩ := h1
  unfold asB at e1
  split at e1
  · cases Option.some.inj e1
    exact ⟨_, rx, q1 H1 ow1 rel1 (Step.refl H1 ow1)⟩
  · cases e1
theorem sim_t (h : PE X e (rdD X.K W m)) (he : ∀ whole, isTrue e X.env whole = (do let v ← whole; standAt e.pos; holding [v] (truthy v)) := by intro _; rfl) : PT X e (rdT X.K W (tst m)) := PTimp (pt_val h he) fun σ H Q q => rdG.tst q
theorem sim_tcmp {op : CmpOp} {g : D → D → Option D} (ho : Op2 X (compareOp op) g) (ha : PE X a (rdD X.K W ma)) (hb : PE X b (rdB X.K W mb)) (hm : behindInMarks op b = false) : PT X (.Compare a [op] [b] pos) (rdT X.K W (tst (op2 g ma mb))) :=
  PTimp (pt_cmpR ho ha hb hm) fun σ H Q q => (rdG.tst q).op2
theorem sim_tand1 (ha : PT X a (rdT X.K W ta)) : PW X (.BoolOp .And [a] pos) (rdT X.K W ta) := pw_and1 ha
theorem sim_tor1 (ha : PT X a (rdT X.K W ta)) : PW X (.BoolOp .Or [a] pos) (rdT X.K W ta) := pw_or1 ha
theorem PWimp {e : Expr} {t t' : TT} (h : PW X e t) (f : ∀ σ H Q, t' σ H Q → t σ H Q) : PW X e t' := ⟨fun wh pins s σ H Q I q => h.run wh pins s σ H Q I (f σ H Q q)⟩
theorem rdG.ite {K : Fr} {α β : Type} {σ : L2.St} {H : Hp} {ow : OW} {post : β → Hp → OW → Prop} {k : α → M β} {x : α} (h : ∃ env1 r, RelE K H ow env1 σ ∧ k x env1 = some r ∧ okR K W σ H ow post r) : rdG K W (k x) σ H post := rdG.of h
theorem sim_tand {rest : List Expr} (ha : PT X a (rdT X.K W ta)) (hb : PW X (.BoolOp .And (b :: rest) pos) (rdT X.K W tb)) : PW X (.BoolOp .And (a :: b :: rest) pos) (rdT X.K W (andT ta tb)) := PWimp (pw_and ha hb) fun σ H Q q => by
  refine (rdG.bind q).mono fun x H1 ow1 h1 => ?_
  have h2 := rdG.of h1
  cases x with
  | true => exact h2
  | false =>
    obtain ⟨ow, p⟩ := rdG.const (a := false) h2
    exact p
theorem sim_tor {rest : List Expr} (ha : PT X a (rdT X.K W ta)) (hb : PW X (.BoolOp .Or (b :: rest) pos) (rdT X.K W tb)) : PW X (.BoolOp .Or (a :: b :: rest) pos) (rdT X.K W (orT ta tb)) := PWimp (pw_or ha hb) fun σ H Q q => by
  refine (rdG.bind q).mono fun x H1 ow1 h1 => ?_
  have h2 := rdG.of h1
  cases x with
  | false => exact h2
  | true =>
    obtain ⟨ow, p⟩ := rdG.const (a := true) h2
    exact p
theorem sim_tnot (ha : PT X a (rdT X.K W ta)) : PT X (.UnaryOp .Not a pos) (rdT X.K W (notT ta)) := PTimp (pt_not ha) fun σ H Q q => by
  refine (rdG.bind q).mono fun x H1 ow1 h1 => ?_
  obtain ⟨ow, p⟩ := rdG.const (rdG.of h1)
  exact p
/-! ### .. as values -/
theorem sim_one {op} (h : PE X a (rdD X.K W ma)) : PE X (.BoolOp op [a] pos) (rdD X.K W ma) := pe_one h
theorem sim_andV {rest : List Expr} (ha : PE X a (rdD X.K W ma)) (hb : PE X (.BoolOp .And (b :: rest) pos) (rdD X.K W mb)) : PE X (.BoolOp .And (a :: b :: rest) pos) (rdD X.K W (andV ma mb)) := PEimp (pe_and ha hb) fun σ H Q q => by
  refine (rdG.tst (Q := fun c H1 => if c = true then rdD X.K W mb σ H1 Q else Q (.bl false) H1) ?_)
  refine (rdG.bind q).mono fun x H1 ow1 h1 => ?_
  have h2 := rdG.of h1
  cases x with
  | true => exact h2
  | false =>
    obtain ⟨ow, p⟩ := rdG.const (a := PyData.bool false) h2
    exact p _ rfl
theorem sim_orV {rest : List Expr} (ha : PE X a (rdD X.K W ma)) (hb : PE X (.BoolOp .Or (b :: rest) pos) (rdD X.K W mb)) : PE X (.BoolOp .Or (a :: b :: rest) pos) (rdD X.K W (orV ma mb)) := PEimp (pe_or ha hb) fun σ H Q q => by
  refine (rdG.tst (Q := fun c H1 => if c = true then Q (.bl true) H1 else rdD X.K W mb σ H1 Q) ?_)
  refine (rdG.bind q).mono fun x H1 ow1 h1 => ?_
  have h2 := rdG.of h1
  cases x with
  | false => exact h2
  | true =>
    obtain ⟨ow, p⟩ := rdG.const (a := PyData.bool true) h2
    exact p _ rfl
theorem sim_notV (ha : PE X a (rdD X.K W ma)) : PE X (.UnaryOp .Not a pos) (rdD X.K W (notV ma)) := PEimp (pe_not ha) fun σ H Q q => by
  refine (rdG.tst (Q := fun c H1 => Q (.bl (!c)) H1) ?_)
  refine (rdG.bind q).mono fun x H1 ow1 h1 => ?_
  obtain ⟨ow, p⟩ := rdG.const (a := PyData.bool (!x)) (rdG.of h1)
  exact p _ rfl
theorem sim_ifV (ht : PT X c (rdT X.K W t)) (ha : PE X a (rdD X.K W ma)) (hb : PE X b (rdD X.K W mb)) : PE X (.IfExp c a b pos) (rdD X.K W (ifV t ma mb)) := PEimp (pe_ifExp ht ha hb) fun σ H Q q => by
  refine (rdG.bind q).mono fun x H1 ow1 h1 => ?_
  have h2 := rdG.of h1
  cases x with
  | true => exact h2
  | false => exact h2
/-! ### chains -/
theorem rdG.chn {K : Fr} {g g' : D → D → Option D} {σ : L2.St} {H : Hp} {Q : VK} (h : rdG K W (chn g g' ma mb mc) σ H fun d H' _ => ∀ v, RelD K H' d v → Q v H') :
    rdD K W ma σ H fun x H1 => rdD K W mb σ H1 fun y H2 => ∃ a b d, BD K H2 a x ∧ BD K H2 b y ∧ g a b = some d ∧ ∀ z H3, RelD K H3 d z → New H2 H3 → ∃ k, z = .bl k ∧
      (if k = true then rdB K W mc σ H3 fun w' H4 => ∃ a b d, BD K H4 a y ∧ BD K H4 b w' ∧ g' a b = some d ∧ ∀ v H', RelD K H' d v → New H4 H' → Q v H' else Q (.bl false) H3) := by
  refine h.bind.mono fun a H1 ow1 h1 x rx => ?_
  refine (rdG.bind (rdG.of h1)).monoX fun b H2 ow2 x2 h2 y ry => ?_
  have h3 := rdG.bind (rdG.of h2)
  have h4 := rdG.bind h3
  obtain ⟨d, hd, p⟩ := h4.lift
  refine ⟨a, b, d, .inl (RelD.ext x2 a x rx), .inl ry, hd, fun z H3 rz n3 => ?_⟩
  obtain ⟨ow3, p⟩ := p H3 n3
  have h5 := rdG.of p
  cases d with
  | bool k =>
    cases (show _ = _ from rz)
    refine ⟨k, rfl, ?_⟩
    obtain ⟨ow4, p4⟩ := rdG.const (a := k) h5
    have h6 := rdG.of p4
    cases k with
    | false =>
      obtain ⟨ow5, p5⟩ := rdG.const (a := PyData.bool false) h6
      exact p5 _ rfl
    | true =>
      refine (rdG.bind h6).monoX fun c H4 ow4 x4 h7 w' rw' => ?_
      obtain ⟨d', hd', p'⟩ := (rdG.of h7).lift
      refine ⟨b, c, d', .inl (RelD.ext x4 b y (RelD.ext n3.ext b y ry)), rw', hd', fun v H' rv n => ?_⟩
      obtain ⟨_, p'⟩ := p' H' n
      exact p' v rv
  | _ =>
    obtain ⟨_, _, _, _, e, _⟩ := h5
    cases e
theorem sim_chn {op op' : CmpOp} {g g' : D → D → Option D} (ho : Op2 X (compareOp op) g) (ho' : Op2 X (compareOp op') g') (ha : PE X a (rdD X.K W ma)) (hb : PE X b (rdD X.K W mb)) (hc : PE X c (rdB X.K W mc))
    (hm : lastMarks [op, op'] [b, c] = false := by with_unfolding_all rfl) : PE X (.Compare a [op, op'] [b, c] pos) (rdD X.K W (chn g g' ma mb mc)) := PEimp (pe_chain ho ho' ha hb hc hm) fun σ H Q q => by
  refine rdG.mono (rdG.chn q) fun a H1 ow1 h1 x rx => ?_
  refine rdG.mono (h1 x rx) fun b H2 ow2 h2 y ry => ?_
  obtain ⟨a', b', d, r1, r2, hd, p⟩ := h2 y ry
  refine ⟨a', b', d, r1, r2, hd, fun z H3 rz n => ?_⟩
  obtain ⟨k, e, p⟩ := p z H3 rz n
  refine ⟨k, e, ?_⟩
  cases k with
  | false => exact p
  | true => exact rdG.mono p fun c H4 ow4 h4 w' rw' => h4 w' rw'
theorem sim_tchn {op op' : CmpOp} {g g' : D → D → Option D} (ho : Op2 X (compareOp op) g) (ho' : Op2 X (compareOp op') g') (ha : PE X a (rdD X.K W ma)) (hb : PE X b (rdD X.K W mb)) (hc : PE X c (rdB X.K W mc))
    (hm : lastMarks [op, op'] [b, c] = false := by with_unfolding_all rfl) : PT X (.Compare a [op, op'] [b, c] pos) (rdT X.K W (tst (chn g g' ma mb mc))) := PTimp (pt_chain ho ho' ha hb hc hm) fun σ H Q q => by
  refine rdG.mono (rdG.chn (rdG.tst q)) fun a H1 ow1 h1 x rx => ?_
  refine rdG.mono (h1 x rx) fun b H2 ow2 h2 y ry => ?_
  obtain ⟨a', b', d, r1, r2, hd, p⟩ := h2 y ry
  refine ⟨a', b', d, r1, r2, hd, fun z H3 rz n => ?_⟩
  obtain ⟨k, e, p⟩ := p z H3 rz n
  refine ⟨k, e, ?_⟩
  cases k with
  | false => exact p
  | true => exact rdG.mono p fun c H4 ow4 h4 w' rw' => h4 w' rw'

/-! ### argument lists, displays -/
variable {es : List Expr} {mr : M (List D)}
theorem sim_pa0 : PA X [] (rdAs X.K W args0) := PAimp pa_nil fun σ H Q q => by
  obtain ⟨ow, p⟩ := rdG.const q
  exact p _ rfl
theorem sim_pa (ha : PE X e (rdD X.K W m)) (hr : PA X es (rdAs X.K W mr)) (hs : starEach (e :: es) X.env = (false, eval e X.env) :: starEach es X.env := by rfl) : PA X (e :: es) (rdAs X.K W (argsC m mr)) := PAimp (pa_cons ha hr hs) fun σ H Q q => by
  refine (rdG.bind q).mono fun d H1 ow1 h1 x rx => ?_
  refine (rdG.bind (rdG.of h1)).monoX fun ds H2 ow2 x2 h2 xs rxs => ?_
  obtain ⟨ow3, p⟩ := rdG.const (rdG.of h2)
  exact p _ (.cons (RelD.ext x2 d x rx) rxs)
theorem sim_tup {x1} (h : PA X es (rdAs X.K W mr)) : PE X (.Tuple es x1 pos) (rdD X.K W (tupM mr)) := PEimp (pe_tup h) fun σ H Q q => by
  refine (rdG.bind q).mono fun ds H1 ow1 h1 xs rxs => ?_
  have h2 := rdG.of h1
  split at h2
  · rename_i hz
    refine ⟨by rw [← rxs.length]; exact hz, fun p hp => ?_⟩
    obtain ⟨x, hx, pp⟩ := (show rdG X.K W (M.lift (some (PyData.tuple ds))) σ H1 _ from h2).lift
    cases hx
    have n : New H1 (upd H1 p (.tup xs)) := New.upd hp
    obtain ⟨_, pp⟩ := pp _ n
    exact pp _ ⟨p, xs, rfl, SqT.of upd_same, hz, RelDs.ext n.ext _ _ rxs⟩
  · obtain ⟨_, _, _, _, e, _⟩ := h2
    cases e
/-- a written list that stays as it is -/
theorem sim_lst (h : PA X es (rdAs X.K W mr)) : PE X (.List es pos) (rdD X.K W (lstM mr)) := PEimp (pe_frz (pe_lst h)) fun σ H Q q => by
  refine (rdG.bind q).mono fun ds H1 ow1 h1 xs rxs => ?_
  have h2 := rdG.of h1
  split at h2
  · rename_i hz
    refine ⟨by rw [← rxs.length]; exact hz, fun p hp => ⟨p, _, rfl, upd_same, True.intro, fun o => ?_⟩⟩
    rw [upd_upd]
    obtain ⟨x, hx, pp⟩ := (show rdG X.K W (M.lift (some (PyData.list ds))) σ H1 _ from h2).lift
    cases hx
    have n : New H1 (upd H1 p (.frz o (.lst xs))) := New.upd hp
    obtain ⟨_, pp⟩ := pp _ n
    exact pp _ ⟨p, xs, rfl, .inl ⟨o, upd_same⟩, hz, RelDs.ext n.ext _ _ rxs⟩
  · obtain ⟨_, _, _, _, e, _⟩ := h2
    cases e
/-! ### slices -/
def partM (m : M D) : M (Option Int) := bnd m fun d => match d with
  | .int i => M.ret (some i)
  | _ => fun _ => none
def noPart : M (Option Int) := M.ret none
def rdP (K : Fr) (W : WX) (m : M (Option Int)) : TO := fun σ H Q => rdG K W m σ H fun o H' _ => Q o H'
theorem sim_po0 : PO X none (rdP X.K W noPart) := ⟨fun pins s σ H Q I q => by
  obtain ⟨ow, p⟩ := rdG.const q
  exact po_none.run pins s σ H Q I p⟩
theorem sim_po (h : PE X e (rdD X.K W m)) : PO X (some e) (rdP X.K W (partM m)) := ⟨fun pins s σ H Q I q => (po_some h).run pins s σ H Q I (by
  refine (rdG.bind q).mono fun d H1 ow1 h1 x rx => ?_
  have h2 := rdG.of h1
  cases d with
  | int i =>
    obtain ⟨ow, p⟩ := rdG.const (a := some i) h2
    exact ⟨i, rx, p⟩
  | _ =>
    obtain ⟨_, _, _, _, e, _⟩ := h2
    cases e)⟩
def slM (g : D → Option Int → Option Int → Option D) (m : M D) (ml mh : M (Option Int)) : M D := bnd m fun d => bnd ml fun lo => bnd mh fun hi => M.lift (g d lo hi)
theorem sim_sl {g : D → Option Int → Option Int → Option D} {lo hi : Option Expr} {ml mh : M (Option Int)} {p2 : Pos} (hg : Sl1 X g) (he : PE X e (rdD X.K W m)) (hl : PO X lo (rdP X.K W ml)) (hh : PO X hi (rdP X.K W mh)) :
    PE X (.Subscript e (.Slice lo hi none p2) pos) (rdD X.K W (slM g m ml mh)) := PEimp (pe_slice hg he hl hh) fun σ H Q q => by
  refine (rdG.bind q).mono fun d H1 ow1 h1 x rx => ?_
  refine (rdG.bind (rdG.of h1)).monoX fun l H2 ow2 x2 h2 => ?_
  refine (rdG.bind (rdG.of h2)).monoX fun h H3 ow3 x3 h3 => ?_
  obtain ⟨r, hr, pp⟩ := (rdG.of h3).lift
  refine ⟨d, r, .inl (RelD.ext x3 d x (RelD.ext x2 d x rx)), hr, fun v H' rv n => ?_⟩
  obtain ⟨_, pp⟩ := pp H' n
  exact pp v rv

/-! ### built-ins by name, one or two arguments -/
theorem rdG.call1 {K : Fr} {g : List D → Option D} {σ : L2.St} {H : Hp} {Q : VK} (h : rdG K W (call1 g m) σ H fun d H' _ => ∀ v, RelD K H' d v → Q v H') :
    rdB K W m σ H fun x H1 => ∃ as d, BDs K H1 as [x] ∧ g as = some d ∧ ∀ v H', RelD K H' d v → New H1 H' → Q v H' := by
  refine (rdG.bind h).mono fun a H1 ow1 h1 x rx => ?_
  obtain ⟨r, hr, pp⟩ := (rdG.of h1).lift
  refine ⟨[a], r, ⟨x, [], rfl, rx, rfl⟩, hr, fun v H' rv n => ?_⟩
  obtain ⟨_, pp⟩ := pp H' n
  exact pp v rv
theorem sim_call1 {id : String} {x : Str} {p : Pos} {g : List D → Option D} (hc : Cl X (.builtin id) g) (hg : Gl X x) (hm : X.mg x = none) (hv : bootBuiltins x = some (.builtin id)) (ha : PE X e (rdB X.K W m)) (hn : x ≠ "__name__" := by decide) (hdb : (x == ("__debug__" : Str)) = false := by decide)
    (hs : starEach (e :: []) X.env = (false, eval e X.env) :: starEach [] X.env := by rfl) : PE X (.Call (.Name x p) [e] [] pos) (rdD X.K W (call1 g m)) :=
  PEimp (pe_callB hc hg hm hv (pa_cons ha pa_nil hs) hn hdb hs) fun σ H Q q => q.call1
theorem sim_callT1 {T : String} {x : Str} {p : Pos} {g : List D → Option D} (hc : Cl X (.type T) g) (hg : Gl X x) (hm : X.mg x = none) (hv : bootBuiltins x = some (.type T)) (ha : PE X e (rdB X.K W m)) (hn : x ≠ "__name__" := by decide) (hdb : (x == ("__debug__" : Str)) = false := by decide)
    (hs : starEach (e :: []) X.env = (false, eval e X.env) :: starEach [] X.env := by rfl) : PE X (.Call (.Name x p) [e] [] pos) (rdD X.K W (call1 g m)) :=
  PEimp (pe_callTy hc hg hm hv (pa_cons ha pa_nil hs) hn hdb hs) fun σ H Q q => q.call1
end
end Pm

/-! ## Pm4 -/
set_option Elab.async false
set_option linter.all false
set_option maxRecDepth 100000
set_option maxHeartbeats 2000000
/-! Pm4: statements, blocks, loops, comprehensions. -/
namespace Pm
open PySem PySem.Spec L2
variable [TabCtx]

inductive RS where
  | next (e : Env)
  | ret (o : O) (e : Env)
  | brk (e : Env)
  | cont (e : Env)
  | exc (c : Str) (e : Env)
abbrev MS := Env → Option RS
/-- the slots that np names stay -/
def Pin (np : Nat → Bool) (σ σ' : L2.St) : Prop := σ'.length = σ.length ∧ ∀ i, np i = true → σ'[i]? = σ[i]?
theorem Pin.refl (np : Nat → Bool) (σ : L2.St) : Pin np σ σ := ⟨rfl, fun _ _ => rfl⟩
theorem Pin.trans {np : Nat → Bool} {σ σ1 σ2 : L2.St} (a : Pin np σ σ1) (b : Pin np σ1 σ2) : Pin np σ σ2 := ⟨b.1.trans a.1, fun i h => (b.2 i h).trans (a.2 i h)⟩
def okS (K : Fr) (W : WX) (np : Nat → Bool) (D : Ends) (σ : L2.St) (H : Hp) (ow : OW) : RS → Prop
  | .next e' => ∀ σ' H' ow', RelE K H' ow' e' σ' → StepS H ow H' ow' → Pin np σ σ' → D.nx σ' H'
  | .brk e' => ∀ σ' H' ow', RelE K H' ow' e' σ' → StepS H ow H' ow' → Pin np σ σ' → D.bk σ' H'
  | .cont e' => ∀ σ' H' ow', RelE K H' ow' e' σ' → StepS H ow H' ow' → Pin np σ σ' → D.ct σ' H'
  | .ret o e' => ∀ v σ' H' ow', RelE K H' ow' e' σ' → RelO K H' ow' .tmp o v → StepS H ow H' ow' → Pin np σ σ' → D.rt v H'
  | .exc c e' => ∀ σ' H' ow', RelE K H' ow' e' σ' → StepS H ow H' ow' → Pin np σ σ' → W (.ref (He.ga K c)) none σ' H'
theorem okS.step {K : Fr} {W : WX} {np : Nat → Bool} {D : Ends} {σ σ1 : L2.St} {H H1 : Hp} {ow ow1 : OW} {r : RS} (h : okS K W np D σ H ow r) (s : StepS H ow H1 ow1) (p : Pin np σ σ1) : okS K W np D σ1 H1 ow1 r := by
  cases r with
  | next e => exact fun σ' H' ow' r t q => h σ' H' ow' r (s.trans t) (p.trans q)
  | brk e => exact fun σ' H' ow' r t q => h σ' H' ow' r (s.trans t) (p.trans q)
  | cont e => exact fun σ' H' ow' r t q => h σ' H' ow' r (s.trans t) (p.trans q)
  | ret o e => exact fun v σ' H' ow' r ro t q => h v σ' H' ow' r ro (s.trans t) (p.trans q)
  | exc c e => exact fun σ' H' ow' r t q => h σ' H' ow' r (s.trans t) (p.trans q)
def rdS (K : Fr) (W : WX) (np : Nat → Bool) (m : MS) : TS := fun D σ H => ∃ env ow r, RelE K H ow env σ ∧ m env = some r ∧ okS K W np D σ H ow r

/-! ### what statements make -/
def nxt : MS := fun e => some (.next e)
def seqS (a b : MS) : MS := fun e => match a e with
  | some (.next e') => b e'
  | r => r
/-- a value, then a statement that hangs on it -/
def bndS {α : Type} (m : M α) (k : α → MS) : MS := fun e => match m e with
  | none => none
  | some (.exc c e') => some (.exc c e')
  | some (.ok a e') => k a e'
def retD (m : M D) : MS := bndS m fun d e => some (.ret (.d d) e)
def retO (m : M O) : MS := bndS m fun o e => some (.ret o e)
def retN : MS := fun e => some (.ret (.d .none) e)
def dropS (m : M D) : MS := bndS m fun _ e => some (.next e)
def setS (i : Nat) (m : M D) : MS := bndS m fun d e => if i < e.length then some (.next (e.set i (some (.d d)))) else none
def setO (i : Nat) (m : M O) : MS := bndS m fun o e => if i < e.length then some (.next (e.set i (some o))) else none
def iteS (t : M Bool) (a b : MS) : MS := bndS t fun c => if c = true then a else b
def brkS : MS := fun e => some (.brk e)
def contS : MS := fun e => some (.cont e)
def raiseS (c : Str) : MS := fun e => some (.exc c e)
def whN (c : M Bool) (b : MS) : Nat → MS
  | 0 => fun _ => none
  | n + 1 => fun e => match c e with
    | none => none
    | some (.exc c e1) => some (.exc c e1)
    | some (.ok false e1) => some (.next e1)
    | some (.ok true e1) => match b e1 with
      | some (.next e2) => whN c b n e2
      | some (.cont e2) => whN c b n e2
      | some (.brk e2) => some (.next e2)
      | r => r
open Classical in
/-- some number of turns -/
noncomputable def whM (c : M Bool) (b : MS) : MS := fun e => if h : ∃ n r, whN c b n e = some r then whN c b h.choose e else none
theorem whN_mono {c : M Bool} {b : MS} : ∀ {n m : Nat} {e : Env} {r : RS}, whN c b n e = some r → n ≤ m → whN c b m e = some r
  | 0, _, _, _, h, _ => by cases h
  | n + 1, 0, _, _, _, h => absurd h (Nat.not_succ_le_zero n)
  | n + 1, m + 1, e, r, h, hm => by
    have hm' : n ≤ m := Nat.le_of_succ_le_succ hm
    unfold whN at h ⊢
    cases q : c e with
    | none => rw [q] at h; cases h
    | some z =>
      rw [q] at h
      cases z with
      | exc c e1 => exact h
      | ok k e1 =>
        cases k with
        | false => exact h
        | true =>
          simp only at h ⊢
          cases q2 : b e1 with
          | none => rw [q2] at h; exact h
          | some z2 =>
            rw [q2] at h
            cases z2 with
            | next e2 => exact whN_mono h hm'
            | cont e2 => exact whN_mono h hm'
            | brk e2 => exact h
            | ret o e2 => exact h
            | exc c e2 => exact h
theorem whM_of {c : M Bool} {b : MS} {n : Nat} {e : Env} {r : RS} (h : whN c b n e = some r) : whM c b e = some r := by
  have hx : ∃ n r, whN c b n e = some r := ⟨n, r, h⟩
  unfold whM
  rw [dif_pos hx]
  obtain ⟨r', h'⟩ := hx.choose_spec
  rcases Nat.le_total n hx.choose with l | l
  · exact whN_mono h l
  · have h2 := whN_mono h' l
    rw [h] at h2
    rw [h']
    exact h2.symm
theorem whM_to {c : M Bool} {b : MS} {e : Env} {r : RS} (h : whM c b e = some r) : ∃ n, whN c b n e = some r := by
  unfold whM at h
  split at h
  · exact ⟨_, h⟩
  · cases h
/-- one turn and the rest -/
theorem whM_eq (c : M Bool) (b : MS) (e : Env) : whM c b e = match c e with
    | none => none
    | some (.exc c e1) => some (.exc c e1)
    | some (.ok false e1) => some (.next e1)
    | some (.ok true e1) => match b e1 with
      | some (.next e2) => whM c b e2
      | some (.cont e2) => whM c b e2
      | some (.brk e2) => some (.next e2)
      | r => r := by
  have one : ∀ {e2 : Env}, (∀ n, whN c b (n + 1) e = whN c b n e2) → whM c b e = whM c b e2 := fun {e2} h => by
    cases z : whM c b e2 with
    | some r =>
      obtain ⟨n, hn⟩ := whM_to z
      exact whM_of (n := n + 1) ((h n).trans hn)
    | none =>
      cases y : whM c b e with
      | none => rfl
      | some r =>
        obtain ⟨n, hn⟩ := whM_to y
        cases n with
        | zero => cases hn
        | succ n =>
          rw [h n] at hn
          rw [whM_of hn] at z
          cases z
  have fin : ∀ {r : Option RS}, (∀ n, whN c b (n + 1) e = r) → whM c b e = r := fun {r} h => by
    cases r with
    | some r => exact whM_of (h 0)
    | none =>
      cases y : whM c b e with
      | none => rfl
      | some r =>
        obtain ⟨n, hn⟩ := whM_to y
        cases n with
        | zero => cases hn
        | succ n => rw [h n] at hn; cases hn
  cases q : c e with
  | none => exact fin fun n => by unfold whN; rw [q]
  | some z =>
    cases z with
    | exc c e1 => exact fin fun n => by unfold whN; rw [q]
    | ok k e1 =>
      cases k with
      | false => exact fin fun n => by unfold whN; rw [q]
      | true =>
        cases q2 : b e1 with
        | none => exact fin fun n => by unfold whN; rw [q]; simp only [q2]
        | some z2 =>
          cases z2 with
          | next e2 => simp only [q2]; exact one fun n => by conv => lhs; unfold whN; rw [q]; simp only [q2]
          | cont e2 => simp only [q2]; exact one fun n => by conv => lhs; unfold whN; rw [q]; simp only [q2]
          | brk e2 => exact fin fun n => by unfold whN; rw [q]; simp only [q2]
          | ret o e2 => exact fin fun n => by unfold whN; rw [q]; simp only [q2]
          | exc c e2 => exact fin fun n => by unfold whN; rw [q]; simp only [q2]
/-- how a loop's target takes an item -/
abbrev Bd := D → Env → Option Env
def nameB (i : Nat) : Bd := fun d e => if i < e.length then some (e.set i (some (.d d))) else none
def tupB : List Bd → List D → Env → Option Env
  | [], [], e => some e
  | b :: bs, d :: ds, e => (b d e).bind (tupB bs ds)
  | _, _, _ => none
def tupT (bs : List Bd) : Bd := fun d e => match d with
  | .tuple ds => tupB bs ds e
  | _ => none
def forL (bd : Bd) (b : MS) : List D → MS
  | [] => fun e => some (.next e)
  | d :: ds => fun e => match bd d e with
    | none => none
    | some e1 => match b e1 with
      | some (.next e2) => forL bd b ds e2
      | some (.cont e2) => forL bd b ds e2
      | some (.brk e2) => some (.next e2)
      | r => r
def forM (mi : M (List D)) (bd : Bd) (b : MS) : MS := bndS mi fun ds => forL bd b ds

section
variable {X : Cx} {W : WX} {np : Nat → Bool} {st : Stmt} {rest : List Stmt} {e c : Expr} {pos : Pos} {m : M D} {ms mr ma mb : MS} {t : M Bool}

theorem rdS.of {K : Fr} {D : Ends} {σ : L2.St} {H : Hp} {ow : OW} (h : ∃ env r, RelE K H ow env σ ∧ ms env = some r ∧ okS K W np D σ H ow r) : rdS K W np ms D σ H := by
  obtain ⟨env, r, h1, h2, h3⟩ := h
  exact ⟨env, ow, r, h1, h2, h3⟩
/-- the value first -/
theorem rdS.bnd {K : Fr} {α : Type} {m : M α} {k : α → MS} {D : Ends} {σ : L2.St} {H : Hp} (h : rdS K W np (bndS m k) D σ H) :
    rdG K W m σ H fun a H1 ow1 => ∃ env1 r, RelE K H1 ow1 env1 σ ∧ k a env1 = some r ∧ okS K W np D σ H1 ow1 r := by
  obtain ⟨env, ow, r, rel, e, q⟩ := h
  unfold bndS at e
  cases z : m env with
  | none => rw [z] at e; cases e
  | some r1 =>
    cases r1 with
    | exc c e' =>
      rw [z] at e
      cases Option.some.inj e
      exact ⟨env, ow, _, rel, z, fun H' ow' r' s' => q σ H' ow' r' s'.s (Pin.refl np σ)⟩
    | ok a e' =>
      rw [z] at e
      exact ⟨env, ow, _, rel, z, fun H' ow' r' s' => ⟨e', r, r', e, q.step s'.s (Pin.refl np σ)⟩⟩
theorem sim_nil : PSs X [] (rdS X.K W np nxt) := PSsimp pss_nil fun D σ H ⟨env, ow, r, rel, e, q⟩ => by
  cases Option.some.inj e
  exact q σ H ow rel (StepS.refl H ow) (Pin.refl np σ)
theorem sim_seq (h1 : PS X st (rdS X.K W np ma)) (h2 : PSs X rest (rdS X.K W np mb)) : PSs X (st :: rest) (rdS X.K W np (seqS ma mb)) := PSsimp (pss_cons h1 h2) fun D σ H ⟨env, ow, r, rel, e, q⟩ => by
  unfold seqS at e
  cases z : ma env with
  | none => rw [z] at e; cases e
  | some r1 =>
    rw [z] at e
    refine ⟨env, ow, r1, rel, z, ?_⟩
    cases r1 with
    | next e1 => exact fun σ' H' ow' r' s' p' => ⟨e1, ow', r, r', e, q.step s' p'⟩
    | brk e1 => cases Option.some.inj e; exact q
    | cont e1 => cases Option.some.inj e; exact q
    | ret o e1 => cases Option.some.inj e; exact q
    | exc c e1 => cases Option.some.inj e; exact q
theorem sim_one1 (h1 : PS X st (rdS X.K W np ma)) : PSs X [st] (rdS X.K W np ma) := pss_one h1
theorem sim_pass : PS X (.Pass pos) (rdS X.K W np nxt) := PSimp ps_pass fun D σ H ⟨env, ow, r, rel, e, q⟩ => by
  cases Option.some.inj e
  exact q σ H ow rel (StepS.refl H ow) (Pin.refl np σ)
theorem sim_break : PS X (.Break pos) (rdS X.K W np brkS) := PSimp ps_break fun D σ H ⟨env, ow, r, rel, e, q⟩ => by
  cases Option.some.inj e
  exact q σ H ow rel (StepS.refl H ow) (Pin.refl np σ)
theorem sim_cont : PS X (.Continue pos) (rdS X.K W np contS) := PSimp ps_continue fun D σ H ⟨env, ow, r, rel, e, q⟩ => by
  cases Option.some.inj e
  exact q σ H ow rel (StepS.refl H ow) (Pin.refl np σ)
theorem sim_ret (h : PE X e (rdD X.K W m)) : PS X (.Return (some e) pos) (rdS X.K W np (retD m)) := PSimp (ps_ret h) fun D σ H q => by
  refine q.bnd.mono fun d H1 ow1 ⟨env1, r, rel, e, q1⟩ v rv => ?_
  cases Option.some.inj e
  exact q1 v σ H1 ow1 rel rv (StepS.refl H1 ow1) (Pin.refl np σ)
theorem sim_retO {m : M O} (h : PE X e (rdO X.K W m)) : PS X (.Return (some e) pos) (rdS X.K W np (retO m)) := PSimp (ps_ret h) fun D σ H q => by
  refine q.bnd.mono fun d H1 ow1 ⟨env1, r, rel, e, q1⟩ v rv => ?_
  cases Option.some.inj e
  exact q1 v σ H1 ow1 rel rv (StepS.refl H1 ow1) (Pin.refl np σ)
theorem sim_retN : PS X (.Return none pos) (rdS X.K W np retN) := PSimp ps_retN fun D σ H ⟨env, ow, r, rel, e, q⟩ => by
  cases Option.some.inj e
  exact q .non σ H ow rel rfl (StepS.refl H ow) (Pin.refl np σ)
theorem sim_drop (h : PE X e (rdD X.K W m)) (hs : swapsWith e none pos.line X.env = pure false := by rfl) : PS X (.Expr e pos) (rdS X.K W np (dropS m)) := PSimp (ps_expr h hs) fun D σ H q => by
  refine rdG.mono (α := PyData) (post := fun d H' ow' => ∃ env1 r, RelE X.K H' ow' env1 σ ∧ some (RS.next env1) = some r ∧ okS X.K W np D σ H' ow' r) q.bnd fun d H1 ow1 ⟨env1, r, rel, e, q1⟩ v rv => ?_
  cases Option.some.inj e
  exact q1 σ H1 ow1 rel (StepS.refl H1 ow1) (Pin.refl np σ)
/-- a slot gets data -/
theorem RelE.setD {K : Fr} {H : Hp} {ow : OW} {env : Env} {σ : L2.St} {i : Nat} {d : D} {v : V} (r : RelE K H ow env σ) (hi : i < env.length) (rd : RelD K H d v) : RelE K H ow (env.set i (some (.d d))) (σ.set i (some v)) where
  tab := r.tab
  len := by rw [List.length_set, List.length_set]; exact r.len
  rel := fun k q e => by
    by_cases hk : k = i
    · subst hk
      rw [List.getElem?_set_self hi] at e
      cases e
      exact ⟨v, List.getElem?_set_self (by rw [r.len]; exact hi), rd⟩
    · rw [List.getElem?_set_ne (Ne.symm hk)] at e
      obtain ⟨x, h1, h2⟩ := r.rel k q e
      exact ⟨x, by rw [List.getElem?_set_ne (Ne.symm hk)]; exact h1, h2⟩
theorem Pin.set {i : Nat} {v : Option V} {σ : L2.St} (h : np i = false) : Pin np σ (σ.set i v) := ⟨List.length_set, fun k hk => by
  rw [List.getElem?_set_ne]
  rintro rfl
  rw [h] at hk
  cases hk⟩
/-- a slot gets what was in hand -/
def owSet (ow : OW) (i : Nat) : OW := fun a => match ow a with
  | some (.tmp, j) => some (.sl i, j)
  | some (.sl k, j) => if k = i then none else some (.sl k, j)
  | some (.arg k, j) => some (.arg k, j)
  | none => none
theorem owSet_some {ow : OW} {i : Nat} {a : Addr} (h : owSet ow i a ≠ none) : ow a ≠ none := fun e => h (by unfold owSet; rw [e])
theorem StepS.owSet {H : Hp} {ow : OW} (i : Nat) : StepS H ow H (owSet ow i) := ⟨fun _ _ h _ _ => h, fun _ h => .inl (owSet_some h), Ext.refl H⟩
theorem RelE.setO {K : Fr} {H : Hp} {ow : OW} {env : Env} {σ : L2.St} {i : Nat} {o : O} {v : V} (r : RelE K H ow env σ) (hi : i < env.length) (ro : RelO K H ow .tmp o v) : RelE K H (owSet ow i) (env.set i (some o)) (σ.set i (some v)) where
  tab := r.tab
  len := by rw [List.length_set, List.length_set]; exact r.len
  rel := fun k q e => by
    by_cases hk : k = i
    · subst hk
      rw [List.getElem?_set_self hi] at e
      cases e
      refine ⟨v, List.getElem?_set_self (by rw [r.len]; exact hi), ro.kp ⟨Ext.refl H, fun a j h o e _ => ⟨e, ?_⟩⟩⟩
      unfold Pm.owSet
      rw [h]
    · rw [List.getElem?_set_ne (Ne.symm hk)] at e
      obtain ⟨x, h1, h2⟩ := r.rel k q e
      refine ⟨x, by rw [List.getElem?_set_ne (Ne.symm hk)]; exact h1, h2.kp ⟨Ext.refl H, fun a j h o e _ => ⟨e, ?_⟩⟩⟩
      unfold Pm.owSet
      rw [h]
      exact if_neg hk
theorem sim_set {i : Nat} {x : Str} {pos' : Pos} (hnp : np i = false) (hN : X.N.Nodup) (hi : X.N[i]? = some x) (hx : Loc X.env.scope x) (h : PE X e (rdD X.K W m)) (hs : swapsWith e (some (.Name x pos')) pos.line X.env = pure false := by rfl)
    (hf : X.fn x = true ∨ X.env.scope.names.lookup x = some .local := by first | exact .inl rfl | exact .inr rfl | assumption) : PS X (.Assign [.Name x pos'] e pos) (rdS X.K W np (setS i m)) := PSimp (ps_set hN hi hx h hs hf) fun D σ H q => by
  refine q.bnd.mono fun d H1 ow1 ⟨env1, r, rel, e, q1⟩ v rv => ?_
  split at e
  · rename_i hl
    cases Option.some.inj e
    exact q1 _ H1 ow1 (rel.setD hl rv) (StepS.refl H1 ow1) (Pin.set hnp)
  · cases e
theorem sim_setO {i : Nat} {x : Str} {pos' : Pos} {m : M O} (hnp : np i = false) (hN : X.N.Nodup) (hi : X.N[i]? = some x) (hx : Loc X.env.scope x) (h : PE X e (rdO X.K W m)) (hs : swapsWith e (some (.Name x pos')) pos.line X.env = pure false := by rfl)
    (hf : X.fn x = true ∨ X.env.scope.names.lookup x = some .local := by first | exact .inl rfl | exact .inr rfl | assumption) : PS X (.Assign [.Name x pos'] e pos) (rdS X.K W np (setO i m)) := PSimp (ps_set hN hi hx h hs hf) fun D σ H q => by
  refine q.bnd.mono fun o H1 ow1 ⟨env1, r, rel, e, q1⟩ v rv => ?_
  split at e
  · rename_i hl
    cases Option.some.inj e
    exact q1 _ H1 _ (rel.setO hl rv) (StepS.owSet i) (Pin.set hnp)
  · cases e
theorem sim_if {a b : List Stmt} (ht : PT X c (rdT X.K W t)) (ha : PSs X a (rdS X.K W np ma)) (hb : PSs X b (rdS X.K W np mb)) : PS X (.If c a b pos) (rdS X.K W np (iteS t ma mb)) := PSimp (ps_if ht ha hb) fun D σ H q => by
  refine q.bnd.mono fun k H1 ow1 h1 => ?_
  cases k with
  | true => exact rdS.of h1
  | false => exact rdS.of h1
theorem sim_while {body : List Stmt} (hp : PassesOwn (model X.prog X.w) X.A X.env X.xe) (ht : PT X c (rdT X.K W t)) (hb : PSs X body (rdS X.K W np mb)) : PS X (.While c body [] pos) (rdS X.K W np (whM t mb)) := PSimp (ps_while hp ht hb) fun D σ H ⟨env, ow, r, rel, e, q⟩ => by
  obtain ⟨n0, e⟩ := whM_to e
  refine ⟨fun n σ H => ∃ env ow, RelE X.K H ow env σ ∧ whN t mb n env = some r ∧ okS X.K W np D σ H ow r, ⟨n0, env, ow, rel, e, q⟩, ?_⟩
  rintro n σ H ⟨env, ow, rel, e, q⟩
  cases n with
  | zero => cases e
  | succ n =>
    unfold whN at e
    cases z : t env with
    | none => rw [z] at e; cases e
    | some r1 =>
      refine ⟨env, ow, r1, rel, z, ?_⟩
      rw [z] at e
      cases r1 with
      | exc c e1 =>
        cases Option.some.inj e
        exact fun H' ow' r' s' => q σ H' ow' r' s'.s (Pin.refl np σ)
      | ok k e1 =>
        intro H1 ow1 rel1 s1'
        have s1 := s1'.s
        cases k with
        | false =>
          cases Option.some.inj e
          exact q σ H1 ow1 rel1 s1 (Pin.refl np σ)
        | true =>
          refine (if_pos rfl).mpr ?_
          simp only at e
          refine ⟨fun σ H => ∃ env ow, RelE X.K H ow env σ ∧ whN t mb n env = some r ∧ okS X.K W np D σ H ow r, fun σ' H' h => ⟨n, Nat.lt_succ_self n, h⟩, ?_⟩
          cases z2 : mb e1 with
          | none => rw [z2] at e; cases e
          | some r2 =>
            rw [z2] at e
            refine ⟨e1, ow1, r2, rel1, z2, ?_⟩
            cases r2 with
            | next e2 => exact fun σ' H' ow' r' s' p' => ⟨e2, ow', r', e, q.step (s1.trans s') p'⟩
            | cont e2 => exact fun σ' H' ow' r' s' p' => ⟨e2, ow', r', e, q.step (s1.trans s') p'⟩
            | brk e2 =>
              cases Option.some.inj e
              exact fun σ' H' ow' r' s' p' => q σ' H' ow' r' (s1.trans s') p'
            | ret o e2 =>
              cases Option.some.inj e
              exact fun v σ' H' ow' r' ro s' p' => q v σ' H' ow' r' ro (s1.trans s') p'
            | exc c e2 =>
              cases Option.some.inj e
              exact fun σ' H' ow' r' s' p' => q σ' H' ow' r' (s1.trans s') p'

/-! ### what a loop walks, as data -/
/-- J yields just these items, however the heap grows -/
structure ItD (K : Fr) (J : It) (H0 : Hp) (ds : List D) : Prop where
  go : ∀ i H d, Ext H0 H → ds[i]? = some d → J.go i H ∧ ∀ x H', J.yld i H x H' → RelD K H' d x ∧ New H H'
  stop : ∀ i H, Ext H0 H → ds.length ≤ i → J.stop i H
def rdI (K : Fr) (W : WX) (m : M (List D)) : TI := fun σ H R => rdG K W m σ H fun ds H' _ => ∀ J, ItD K J H' ds → R J H'
theorem PIimp {tg it : Expr} {t t' : TI} (h : PI X tg it t) (f : ∀ σ H R, t' σ H R → t σ H R) : PI X tg it t' := ⟨fun pins s σ H R I q => h.run pins s σ H R I (f σ H R q)⟩
/-- a target's reading -/
def rdBd (K : Fr) (np : Nat → Bool) (bd : Bd) : TG := fun v σ H Q => ∃ env ow d env', RelE K H ow env σ ∧ RelD K H d v ∧ bd d env = some env' ∧ ∀ σ', RelE K H ow env' σ' → Pin np σ σ' → Q σ' H
theorem PGimp {tg : Expr} {t t' : TG} (h : PG X tg t) (f : ∀ v σ H Q, t' v σ H Q → t v σ H Q) : PG X tg t' := ⟨fun pins s σ H v u Q I r q => h.run pins s σ H v u Q I r (f v σ H Q q)⟩
theorem PGsimp {tg : List Expr} {t t' : TGs} (h : PGs X tg t) (f : ∀ v σ H Q, t' v σ H Q → t v σ H Q) : PGs X tg t' := ⟨fun pins s σ H v u Q I r q => h.run pins s σ H v u Q I r (f v σ H Q q)⟩
theorem sim_gname {i : Nat} {x : Str} (hnp : np i = false) (hN : X.N.Nodup) (hi : X.N[i]? = some x) (hx : Loc X.env.scope x) (hf : X.fn x = true ∨ X.env.scope.names.lookup x = some .local := by first | exact .inl rfl | exact .inr rfl | assumption) :
    PG X (.Name x pos) (rdBd X.K np (nameB i)) := PGimp (pg_name hN hi hx hf) fun v σ H Q ⟨env, ow, d, env', rel, rd, e, q⟩ => by
  unfold nameB at e
  split at e
  · rename_i hl
    cases Option.some.inj e
    exact q _ (rel.setD hl rd) (Pin.set hnp)
  · cases e
def rdBds (K : Fr) (np : Nat → Bool) (bs : List Bd) : TGs := fun vs σ H Q => ∃ env ow ds env', RelE K H ow env σ ∧ RelDs K H ds vs ∧ tupB bs ds env = some env' ∧ ∀ σ', RelE K H ow env' σ' → Pin np σ σ' → Q σ' H
theorem sim_gs0 : PGs X [] (rdBds X.K np []) := PGsimp pgs_nil fun vs σ H Q ⟨env, ow, ds, env', rel, rd, e, q⟩ => by
  cases ds with
  | nil =>
    cases (show _ = _ from rd)
    cases Option.some.inj e
    exact ⟨rfl, q σ rel (Pin.refl np σ)⟩
  | cons d ds => cases e
theorem sim_gs {tg : Expr} {tgs : List Expr} {b : Bd} {bs : List Bd} (h1 : PG X tg (rdBd X.K np b)) (h2 : PGs X tgs (rdBds X.K np bs)) (hs : (assignEach (tg :: tgs) X.env).map (·.2) = assign tg X.env :: (assignEach tgs X.env).map (·.2) := by rfl) : PGs X (tg :: tgs) (rdBds X.K np (b :: bs)) := PGsimp (pgs_cons h1 h2 hs) fun vs σ H Q ⟨env, ow, ds, env', rel, rd, e, q⟩ => by
  cases ds with
  | nil => cases e
  | cons d ds =>
    obtain ⟨x, r, rfl, rd1, rd2⟩ := rd
    unfold tupB at e
    cases z : b d env with
    | none => rw [z] at e; cases e
    | some e1 =>
      rw [z] at e
      exact ⟨x, r, rfl, env, ow, d, e1, rel, rd1, z, fun σ1 rel1 p1 => ⟨e1, ow, ds, env', rel1, rd2, e, fun σ2 rel2 p2 => q σ2 rel2 (p1.trans p2)⟩⟩
theorem tupB_len : ∀ {bs : List Bd} {ds : List D} {e e' : Env}, tupB bs ds e = some e' → ds.length = bs.length
  | [], [], _, _, _ => rfl
  | [], _ :: _, _, _, h => by cases h
  | _ :: _, [], _, _, h => by cases h
  | b :: bs, d :: ds, e, e', h => by
    unfold tupB at h
    cases z : b d e with
    | none => rw [z] at h; cases h
    | some e1 =>
      rw [z] at h
      rw [List.length_cons, List.length_cons, tupB_len h]
theorem sim_gtup {es : List Expr} {k n : Nat} {bs : List Bd} (hc : X.calm = true) (h : PGs X es (rdBds X.K np bs)) (hl : bs.length = n) (hn : (assignEach es X.env).length = n := by rfl) (hst : (assignEach es X.env).findIdx? (·.1) = none := by rfl) :
    PG X (.Tuple es k pos) (rdBd X.K np (tupT bs)) := PGimp (pg_tup (n := n) hc h hn hst) fun v σ H Q ⟨env, ow, d, env', rel, rd, e, q⟩ => by
  unfold tupT at e
  split at e
  · rename_i ds
    obtain ⟨a, xs, rfl, h1, _, h3⟩ := rd
    exact ⟨a, xs, rfl, h1, by rw [← h3.length, tupB_len e, hl], env, ow, ds, env', rel, h3, e, q⟩
  · cases e
theorem sim_for {tg it : Expr} {body : List Stmt} {mi : M (List D)} {bd : Bd} (hp : PassesOwn (model X.prog X.w) X.A X.env X.xe) (hc : X.calm = true) (hi : PI X tg it (rdI X.K W mi)) (hg : PG X tg (rdBd X.K np bd)) (hb : PSs X body (rdS X.K W np mb))
    (hs : ∀ x, foldedSetIterable it X.env x = pure x := by intro _; rfl) : PS X (.For tg it body [] pos) (rdS X.K W np (forM mi bd mb)) := PSimp (ps_for hp hc hi hg hb hs) fun D σ H q => by
  refine q.bnd.mono fun ds H0 ow0 ⟨env0, r, rel0, e0, q0⟩ J hJ => ?_
  refine ⟨fun i n σ H => n = ds.length - i ∧ i ≤ ds.length ∧ Ext H0 H ∧ ∃ env ow, RelE X.K H ow env σ ∧ forL bd mb (ds.drop i) env = some r ∧ okS X.K W np D σ H ow r, ⟨ds.length, by simp, Nat.zero_le _, Ext.refl H0, env0, ow0, rel0, by simpa using e0, q0⟩, ?_⟩
  rintro i n σ H ⟨rfl, hi, x, env, ow, rel, e, q⟩
  by_cases hlt : i < ds.length
  · right
    obtain ⟨d, hd⟩ : ∃ d, ds[i]? = some d := ⟨_, List.getElem?_eq_getElem hlt⟩
    obtain ⟨g1, g2⟩ := hJ.go i H d x hd
    have ed : ds.drop i = d :: ds.drop (i + 1) := by
      rw [List.drop_eq_getElem_cons hlt]
      rw [List.getElem?_eq_getElem hlt] at hd
      rw [Option.some.inj hd]
    rw [ed] at e
    unfold forL at e
    refine ⟨g1, fun σ H => i + 1 ≤ ds.length ∧ Ext H0 H ∧ ∃ env ow, RelE X.K H ow env σ ∧ forL bd mb (ds.drop (i + 1)) env = some r ∧ okS X.K W np D σ H ow r, fun σ' H' h => ⟨ds.length - (i + 1), by omega, rfl, h⟩, fun v H' hy => ?_⟩
    obtain ⟨rd, nw⟩ := g2 v H' hy
    cases z : bd d env with
    | none => rw [z] at e; cases e
    | some e1 =>
      rw [z] at e
      simp only at e
      refine ⟨env, ow, d, e1, nw.relE rel, rd, z, fun σ1 rel1 p1 => ?_⟩
      cases z2 : mb e1 with
      | none => rw [z2] at e; cases e
      | some r2 =>
        rw [z2] at e
        have s0 : StepS H ow H' ow := (nw.step ow).s
        have x1 : Ext H0 H' := x.trans nw.ext
        refine ⟨e1, ow, r2, rel1, z2, ?_⟩
        cases r2 with
        | next e2 => exact fun σ' H2 ow' r' s' p' => ⟨hlt, x1.trans s'.ext, e2, ow', r', e, q.step (s0.trans s') (p1.trans p')⟩
        | cont e2 => exact fun σ' H2 ow' r' s' p' => ⟨hlt, x1.trans s'.ext, e2, ow', r', e, q.step (s0.trans s') (p1.trans p')⟩
        | brk e2 =>
          cases Option.some.inj e
          exact fun σ' H2 ow' r' s' p' => q σ' H2 ow' r' (s0.trans s') (p1.trans p')
        | ret o e2 =>
          cases Option.some.inj e
          exact fun v σ' H2 ow' r' ro s' p' => q v σ' H2 ow' r' ro (s0.trans s') (p1.trans p')
        | exc c e2 =>
          cases Option.some.inj e
          exact fun σ' H2 ow' r' s' p' => q σ' H2 ow' r' (s0.trans s') (p1.trans p')
  · left
    have ei : i = ds.length := by omega
    refine ⟨hJ.stop i H x (by omega), ?_⟩
    subst ei
    rw [List.drop_length] at e
    cases Option.some.inj e
    exact q σ H ow rel (StepS.refl H ow) (Pin.refl np σ)
/-! ### lists, tuples, ranges -/
def itemsM (m : M D) : M (List D) := bnd m fun d => match d with
  | .list ds => M.ret ds
  | .tuple ds => M.ret ds
  | _ => fun _ => none
theorem itd_list {K : Fr} {H0 : Hp} {a : Addr} {xs : List V} {ds : List D} (h : FzL K H0 a xs) (r : RelDs K H0 ds xs) : ItD K (Itl K a) H0 ds where
  go := fun i H d x hd => by
    obtain ⟨v, h1, h2⟩ := r.get hd
    refine ⟨⟨xs, v, (x.fzL h).sqL, h1⟩, fun y H' hy => ?_⟩
    obtain ⟨e, hy⟩ := hy
    subst e
    have h3 := hy xs (x.fzL h).sqL
    rw [h1] at h3
    cases h3
    exact ⟨RelD.ext x d _ h2, New.refl _⟩
  stop := fun i H x hl => ⟨xs, (x.fzL h).sqL, by rw [← r.length]; exact hl⟩
theorem itd_tup {K : Fr} {H0 : Hp} {a : Addr} {xs : List V} {ds : List D} (h : SqT K H0 a xs) (r : RelDs K H0 ds xs) : ItD K (Itt K a) H0 ds where
  go := fun i H d x hd => by
    obtain ⟨v, h1, h2⟩ := r.get hd
    refine ⟨⟨xs, v, x.sqT h, h1⟩, fun y H' hy => ?_⟩
    obtain ⟨e, hy⟩ := hy
    subst e
    have h3 := hy xs (x.sqT h)
    rw [h1] at h3
    cases h3
    exact ⟨RelD.ext x d _ h2, New.refl _⟩
  stop := fun i H x hl => ⟨xs, x.sqT h, by rw [← r.length]; exact hl⟩
theorem PIor {tg it : Expr} {t t' : TI} (h : PI X tg it t) (h' : PI X tg it t') : PI X tg it (fun σ H R => t σ H R ∨ t' σ H R) := ⟨fun pins s σ H R I q => q.elim (h.run pins s σ H R I) (h'.run pins s σ H R I)⟩
end
end Pm

/-! ## Pm5 -/
set_option Elab.async false
set_option linter.all false
set_option maxRecDepth 100000
set_option maxHeartbeats 2000000
/-! Pm5: what loops walk; comprehensions. -/
namespace Pm
open PySem PySem.Spec L2
variable [TabCtx]

section
variable {X : Cx} {W : WX} {np : Nat → Bool} {e tg : Expr} {pos p tpos : Pos} {m mb : M D} {mr : M (List D)} {t : M Bool} {elts : List Expr} {kk : Nat}
/-- the items of a list or a tuple -/
theorem sim_it (h : PE X e (rdD X.K W m)) : PI X tg e (rdI X.K W (itemsM m)) := PIimp (PIor (pi_list h) (pi_tup h)) fun σ H R q => by
  obtain ⟨env, ow, r, rel, e, z⟩ := rdG.bind (m := m) q
  cases r with
  | exc c e1 => exact .inl ⟨env, ow, _, rel, e, z⟩
  | ok d e1 =>
    cases d with
    | list ds =>
      refine .inl ⟨env, ow, _, rel, e, fun H' ow' rel' s' v rv => ?_⟩
      obtain ⟨a, xs, rfl, h1, h2, h3⟩ := rv
      obtain ⟨ow2, p⟩ := rdG.const (a := ds) (rdG.of (z H' ow' rel' s'))
      exact ⟨a, rfl, ⟨xs, h1.sqL⟩, p _ (itd_list h1 h3)⟩
    | tuple ds =>
      refine .inr ⟨env, ow, _, rel, e, fun H' ow' rel' s' v rv => ?_⟩
      obtain ⟨a, xs, rfl, h1, h2, h3⟩ := rv
      obtain ⟨ow2, p⟩ := rdG.const (a := ds) (rdG.of (z H' ow' rel' s'))
      exact ⟨a, rfl, ⟨xs, h1⟩, p _ (itd_tup h1 h3)⟩
    | _ =>
      refine .inl ⟨env, ow, _, rel, e, fun H' ow' rel' s' v rv => ?_⟩
      obtain ⟨_, _, _, _, e, _⟩ := rdG.of (z H' ow' rel' s')
      cases e
/-! ### texts -/
def strDs (x : Str) : List D := x.cps.toList.map fun c => .str ⟨#[c]⟩
def chrsM (m : M D) : M (List D) := bnd m fun d => match d with
  | .str x => M.ret (strDs x)
  | _ => fun _ => none
theorem sim_itStr (h : PE X e (rdD X.K W m)) : PI X tg e (rdI X.K W (chrsM m)) := PIimp (pi_str h) fun σ H R q => by
  refine (rdG.bind (m := m) q).mono fun d H1 ow1 h1 v rv => ?_
  cases d with
  | str x =>
    obtain ⟨ow2, p⟩ := rdG.const (a := strDs x) (rdG.of h1)
    refine ⟨x, rv, p _ ⟨fun i H d x0 hd => ?_, fun i H x0 hl => ?_⟩⟩
    · unfold strDs at hd
      rw [List.getElem?_map] at hd
      cases z : x.cps.toList[i]? with
      | none => rw [z] at hd; cases hd
      | some c =>
        rw [z] at hd
        cases Option.some.inj hd
        have hi : i < x.cps.size := by
          rw [← Array.length_toList]
          exact (List.getElem?_eq_some_iff.mp z).1
        refine ⟨hi, fun v H' hy => ?_⟩
        obtain ⟨rfl, c', h1, rfl⟩ := hy
        rw [← Array.getElem?_toList, z] at h1
        cases h1
        exact ⟨rfl, New.refl _⟩
    · unfold strDs at hl
      rw [List.length_map, Array.length_toList] at hl
      exact hl
  | _ =>
    obtain ⟨_, _, _, _, e, _⟩ := rdG.of h1
    cases e
/-! ### range -/
def upD (lo : Int) (n : Nat) : List D := (List.range n).map fun i => .int (lo + (i : Nat))
theorem itd_range {K : Fr} {H : Hp} (lo : Int) (n : Nat) : ItD K (Itr lo n) H (upD lo n) where
  go := fun i H d x0 hd => by
    unfold upD at hd
    rw [List.getElem?_map] at hd
    by_cases hi : i < n
    · rw [List.getElem?_range hi] at hd
      cases Option.some.inj hd
      exact ⟨hi, fun v H' hy => by
        obtain ⟨rfl, rfl⟩ := hy
        exact ⟨rfl, New.refl _⟩⟩
    · rw [List.getElem?_eq_none (by simpa using hi)] at hd
      cases hd
  stop := fun i H x0 hl => by
    unfold upD at hl
    simp at hl
    exact hl
def okR62 (i : Int) : Bool := decide (-(2 ^ 62) ≤ i) && decide (i < 2 ^ 62)
theorem okR62.parts {i : Int} (h : okR62 i = true) : -(2 ^ 62) ≤ i ∧ i < 2 ^ 62 := by
  unfold okR62 at h
  rw [Bool.and_eq_true, decide_eq_true_eq, decide_eq_true_eq] at h
  exact h
def rng1 (m : M (List D)) : M (List D) := bnd m fun ds => match ds with
  | [.int j] => if okR62 j = true then M.ret (upD 0 j.toNat) else fun _ => none
  | _ => fun _ => none
def rng2 (m : M (List D)) : M (List D) := bnd m fun ds => match ds with
  | [.int i, .int j] => if okR62 i = true ∧ okR62 j = true then M.ret (upD i (j - i).toNat) else fun _ => none
  | _ => fun _ => none
theorem sim_rng1 (hg : Gl X "range") (hm : X.mg "range" = none) (ha : PA X [e] (rdAs X.K W mr)) (hs : starEach [e] X.env = [(false, eval e X.env)] := by rfl) : PI X tg (.Call (.Name "range" p) [e] [] pos) (rdI X.K W (rng1 mr)) := PIimp (pi_range1 hg hm ha hs) fun σ H R q => by
  refine (rdG.bind (m := mr) q).mono fun ds H1 ow1 h1 vs rvs => ?_
  have h2 := rdG.of h1
  split at h2
  · rename_i j
    split at h2
    · rename_i hj
      obtain ⟨v, r, rfl, h3, h4⟩ := rvs
      cases (show _ = _ from h3)
      cases (show _ = _ from h4)
      obtain ⟨ow2, p⟩ := rdG.const h2
      exact ⟨j, rfl, (okR62.parts hj).1, (okR62.parts hj).2, p _ (itd_range 0 _)⟩
    · obtain ⟨_, _, _, _, e, _⟩ := h2
      cases e
  · obtain ⟨_, _, _, _, e, _⟩ := h2
    cases e
theorem sim_rng2 {e2 : Expr} (hg : Gl X "range") (hm : X.mg "range" = none) (ha : PA X [e, e2] (rdAs X.K W mr)) (hs : starEach [e, e2] X.env = [(false, eval e X.env), (false, eval e2 X.env)] := by rfl) (hs2 : starEach [e2] X.env = [(false, eval e2 X.env)] := by rfl) :
    PI X tg (.Call (.Name "range" p) [e, e2] [] pos) (rdI X.K W (rng2 mr)) := PIimp (pi_range2 hg hm ha hs hs2) fun σ H R q => by
  refine (rdG.bind (m := mr) q).mono fun ds H1 ow1 h1 vs rvs => ?_
  have h2 := rdG.of h1
  split at h2
  · rename_i i j
    split at h2
    · rename_i hj
      obtain ⟨v, r, rfl, h3, v2, r2, rfl, h4, h5⟩ := rvs
      cases (show _ = _ from h3)
      cases (show _ = _ from h4)
      cases (show _ = _ from h5)
      obtain ⟨ow2, p⟩ := rdG.const h2
      exact ⟨i, j, rfl, ⟨(okR62.parts hj.1).1, (okR62.parts hj.1).2, (okR62.parts hj.2).1, (okR62.parts hj.2).2⟩, p _ (itd_range i _)⟩
    · obtain ⟨_, _, _, _, e, _⟩ := h2
      cases e
  · obtain ⟨_, _, _, _, e, _⟩ := h2
    cases e
/-! ### zip -/
def zipD (xs ys : List D) : List D := (xs.zip ys).map fun p => .tuple [p.1, p.2]
def zipM (m : M (List D)) : M (List D) := bnd m fun ds => match ds with
  | [.list xs, .list ys] => M.ret (zipD xs ys)
  | [.tuple xs, .tuple ys] => M.ret (zipD xs ys)
  | _ => fun _ => none
theorem two_line : (2 : Nat) ≤ sizeLine := by decide
theorem RelD.pair {K : Fr} {H : Hp} {a b : D} {x y : V} {T : Addr} (n : H T = none) (h1 : RelD K H a x) (h2 : RelD K H b y) : RelD K (upd H T (.tup [x, y])) (.tuple [a, b]) (.ref T) := by
  have nw : New H (upd H T (.tup [x, y])) := New.upd n
  exact ⟨T, _, rfl, SqT.of upd_same, two_line, .cons (RelD.ext nw.ext _ _ h1) (.cons (RelD.ext nw.ext _ _ h2) .nil)⟩
theorem zipD_get {xs ys : List D} {i : Nat} {d : D} (h : (zipD xs ys)[i]? = some d) : ∃ a b, xs[i]? = some a ∧ ys[i]? = some b ∧ d = .tuple [a, b] := by
  unfold zipD at h
  rw [List.getElem?_map] at h
  cases z : (xs.zip ys)[i]? with
  | none => rw [z] at h; cases h
  | some q =>
    rw [z] at h
    cases Option.some.inj h
    rw [List.getElem?_zip_eq_some] at z
    exact ⟨q.1, q.2, z.1, z.2, rfl⟩
theorem sim_zip {e2 : Expr} (hg : Gl X "zip") (hm : X.mg "zip" = none) (ha : PA X [e, e2] (rdAs X.K W mr))
    (hs : starEach [e, e2] X.env = (false, eval e X.env) :: starEach [e2] X.env := by rfl) (hpl : (backTo pos (starEach [e2] X.env)).any (·.1) = false := by rfl) :
    PI X (.Tuple elts kk tpos) (.Call (.Name "zip" p) [e, e2] [] pos) (rdI X.K W (zipM mr)) := PIimp (RZ.pi_zipA hg hm ha hs hpl) fun σ H R q => by
  refine (rdG.bind (m := mr) q).mono fun ds H1 ow1 h1 vs rvs => ?_
  have h2 := rdG.of h1
  split at h2
  · rename_i xs ys
    obtain ⟨v, r, rfl, ⟨a, us, rfl, f1, _, g1⟩, v2, r2, rfl, ⟨b, ws, rfl, f2, _, g2⟩, h5⟩ := rvs
    cases (show _ = _ from h5)
    obtain ⟨ow2, p⟩ := rdG.const h2
    refine ⟨a, b, us, ws, rfl, .inl ⟨f1.sqL, f2.sqL, p _ ⟨fun i H' d x0 hd => ?_, fun i H' x0 hl => ?_⟩⟩⟩
    · obtain ⟨d1, d2, e1, e2, rfl⟩ := zipD_get hd
      obtain ⟨u1, k1, j1⟩ := g1.get e1
      obtain ⟨u2, k2, j2⟩ := g2.get e2
      refine ⟨⟨us, ws, u1, u2, (x0.fzL f1).sqL, (x0.fzL f2).sqL, k1, k2⟩, fun x H'' hy => ?_⟩
      obtain ⟨T, x1, y1, rfl, hT, rfl, q1, q2⟩ := hy
      rw [q1 _ (x0.fzL f1).sqL] at k1
      rw [q2 _ (x0.fzL f2).sqL] at k2
      cases k1
      cases k2
      exact ⟨RelD.pair hT (RelD.ext x0 _ _ j1) (RelD.ext x0 _ _ j2), New.upd hT⟩
    · refine ⟨us, ws, (x0.fzL f1).sqL, (x0.fzL f2).sqL, ?_⟩
      unfold zipD at hl
      rw [List.length_map, List.length_zip, g1.length, g2.length] at hl
      omega
  · rename_i xs ys
    obtain ⟨v, r, rfl, ⟨a, us, rfl, f1, _, g1⟩, v2, r2, rfl, ⟨b, ws, rfl, f2, _, g2⟩, h5⟩ := rvs
    cases (show _ = _ from h5)
    obtain ⟨ow2, p⟩ := rdG.const h2
    refine ⟨a, b, us, ws, rfl, .inr ⟨f1, f2, p _ ⟨fun i H' d x0 hd => ?_, fun i H' x0 hl => ?_⟩⟩⟩
    · obtain ⟨d1, d2, e1, e2, rfl⟩ := zipD_get hd
      obtain ⟨u1, k1, j1⟩ := g1.get e1
      obtain ⟨u2, k2, j2⟩ := g2.get e2
      refine ⟨⟨us, ws, u1, u2, x0.sqT f1, x0.sqT f2, k1, k2⟩, fun x H'' hy => ?_⟩
      obtain ⟨T, x1, y1, rfl, hT, rfl, q1, q2⟩ := hy
      rw [q1 _ (x0.sqT f1)] at k1
      rw [q2 _ (x0.sqT f2)] at k2
      cases k1
      cases k2
      exact ⟨RelD.pair hT (RelD.ext x0 _ _ j1) (RelD.ext x0 _ _ j2), New.upd hT⟩
    · refine ⟨us, ws, x0.sqT f1, x0.sqT f2, ?_⟩
      unfold zipD at hl
      rw [List.length_map, List.length_zip, g1.length, g2.length] at hl
      omega
  · obtain ⟨_, _, _, _, e, _⟩ := h2
    cases e
/-! ### list comprehensions -/
abbrev noX : WX := fun _ _ _ _ => False
def wipeE (e : Env) : List Nat → Env
  | [] => e
  | v :: vs => (wipeE e vs).set v none
def keepD : Option (Option O) → Option O
  | some (some (.f (.d x))) => some (.f (.d x))
  | _ => none
/-- the block's own slots as they were, where they held data -/
def backE (e0 e1 : Env) : List Nat → Env
  | [] => e1
  | v :: vs => (backE e0 e1 vs).set v (keepD e0[v]?)
def lcL (vs : List Nat) (bd : Bd) (mt : M Bool) (me : M D) : List D → List D → M (List D)
  | [], acc => fun e => some (.ok acc e)
  | d :: ds, acc => fun e => match bd d e with
    | none => none
    | some e1 => match mt e1 with
      | some (.ok true e2) => match me e2 with
        | some (.ok y e3) => if acc.length < sizeLine then lcL vs bd mt me ds (acc ++ [y]) (wipeE e3 vs) else none
        | _ => none
      | some (.ok false e2) => lcL vs bd mt me ds acc (wipeE e2 vs)
      | _ => none
def lcM (vs : List Nat) (mi : M (List D)) (bd : Bd) (mt : M Bool) (me : M D) : M D := bnd mi fun ds e => match lcL vs bd mt me ds [] (wipeE e vs) with
  | some (.ok acc e2) => some (.ok (.list acc) (backE e e2 vs))
  | _ => none
def allT : M Bool := M.ret true
/-- the slots outside vs -/
def offs (vs : List Nat) : Nat → Bool := fun i => !vs.contains i
theorem wipe_get (σ : L2.St) (i : Nat) : ∀ vs : List Nat, (wipe σ vs)[i]? = if i ∈ vs then (if i < σ.length then some none else none) else σ[i]?
  | [] => by simp [wipe]
  | v :: vs => by
    unfold wipe
    by_cases h : v = i
    · subst h
      rw [if_pos List.mem_cons_self]
      by_cases hl : v < σ.length
      · rw [if_pos hl, List.getElem?_set_self (by rw [wipe_length]; exact hl)]
      · rw [if_neg hl, List.getElem?_eq_none (by rw [List.length_set, wipe_length]; omega)]
    · rw [List.getElem?_set_ne h, wipe_get σ i vs]
      have : (i ∈ v :: vs) ↔ i ∈ vs := by
        rw [List.mem_cons]
        exact ⟨fun q => q.resolve_left (Ne.symm h), .inr⟩
      simp only [this]
theorem wipe_eq {σ σ' : L2.St} {vs : List Nat} (h : Pin (offs vs) σ σ') : wipe σ' vs = wipe σ vs := by
  refine List.ext_getElem? fun i => ?_
  rw [wipe_get, wipe_get, h.1]
  by_cases hi : i ∈ vs
  · rw [if_pos hi, if_pos hi]
  · rw [if_neg hi, if_neg hi, h.2 i (by unfold offs; simp [hi])]
theorem wipeE_get (e : Env) (i : Nat) {o : O} : ∀ {vs : List Nat}, (wipeE e vs)[i]? = some (some o) → i ∉ vs ∧ e[i]? = some (some o)
  | [], h => ⟨by simp, h⟩
  | v :: vs, h => by
    unfold wipeE at h
    by_cases hv : v = i
    · subst hv
      by_cases hl : v < (wipeE e vs).length
      · rw [List.getElem?_set_self hl] at h; cases h
      · rw [List.getElem?_eq_none (by rw [List.length_set]; omega)] at h; cases h
    · rw [List.getElem?_set_ne hv] at h
      obtain ⟨h1, h2⟩ := wipeE_get e i h
      exact ⟨by simp only [List.mem_cons, not_or]; exact ⟨Ne.symm hv, h1⟩, h2⟩
theorem wipeE_length (e : Env) : ∀ vs : List Nat, (wipeE e vs).length = e.length
  | [] => rfl
  | v :: vs => by unfold wipeE; rw [List.length_set, wipeE_length e vs]
theorem RelE.wipe {K : Fr} {H : Hp} {ow : OW} {env : Env} {σ : L2.St} (r : RelE K H ow env σ) (vs : List Nat) : RelE K H ow (wipeE env vs) (L2.wipe σ vs) where
  tab := r.tab
  len := by rw [wipe_length, wipeE_length]; exact r.len
  rel := fun i o h => by
    obtain ⟨h1, h2⟩ := wipeE_get env i h
    obtain ⟨v, h3, h4⟩ := r.rel i o h2
    exact ⟨v, by rw [wipe_get, if_neg h1]; exact h3, h4⟩
theorem backE_length (e0 e1 : Env) : ∀ vs : List Nat, (backE e0 e1 vs).length = e1.length
  | [] => rfl
  | v :: vs => by unfold backE; rw [List.length_set, backE_length e0 e1 vs]
theorem backE_get (e0 e1 : Env) (i : Nat) {o : O} : ∀ {vs : List Nat}, (backE e0 e1 vs)[i]? = some (some o) → (i ∈ vs ∧ ∃ x, o = .f (.d x) ∧ e0[i]? = some (some o)) ∨ (i ∉ vs ∧ e1[i]? = some (some o))
  | [], h => .inr ⟨by simp, h⟩
  | v :: vs, h => by
    unfold backE at h
    by_cases hv : v = i
    · subst hv
      by_cases hl : v < (backE e0 e1 vs).length
      · rw [List.getElem?_set_self hl] at h
        unfold keepD at h
        split at h
        · rename_i x z
          cases h
          exact .inl ⟨List.mem_cons_self, x, rfl, z⟩
        · cases h
      · rw [List.getElem?_eq_none (by rw [List.length_set]; omega)] at h; cases h
    · rw [List.getElem?_set_ne hv] at h
      rcases backE_get e0 e1 i h with ⟨h1, h2⟩ | ⟨h1, h2⟩
      · exact .inl ⟨List.mem_cons_of_mem _ h1, h2⟩
      · exact .inr ⟨by simp only [List.mem_cons, not_or]; exact ⟨Ne.symm hv, h1⟩, h2⟩
theorem RelE.back {K : Fr} {H H' : Hp} {ow ow' : OW} {e0 e1 : Env} {σ : L2.St} {vs : List Nat} (r0 : RelE K H ow e0 σ) (x : Ext H H') (r1 : RelE K H' ow' e1 (L2.wipe σ vs)) : RelE K H' ow' (backE e0 e1 vs) σ where
  tab := r1.tab
  len := by
    have := r1.len
    rw [wipe_length] at this
    rw [backE_length]
    exact this
  rel := fun i o h => by
    rcases backE_get e0 e1 i h with ⟨_, y, rfl, h2⟩ | ⟨h1, h2⟩
    · obtain ⟨v, h3, h4⟩ := r0.rel i _ h2
      exact ⟨v, h3, RelD.ext x y v h4⟩
    · obtain ⟨v, h3, h4⟩ := r1.rel i o h2
      rw [wipe_get, if_neg h1] at h3
      exact ⟨v, h3, h4⟩
/-- the owner's objects and the new list apart: D is nobody's -/
theorem sim_pts0 : PTs X [] (rdT X.K W allT) := ⟨fun pins s σ H Q I h => by
  obtain ⟨ow, p⟩ := rdG.const (a := true) h
  exact pts_nil.run pins s σ H Q I p⟩
theorem sim_pts1 (h : PT X e (rdT X.K W t)) : PTs X [e] (rdT X.K W t) := pts_one h
/-! ### an owner's map without what is not there -/
def trim (H : Hp) (ow : OW) : OW := fun a => if (H a).isSome then ow a else none
theorem trim_none {H : Hp} {ow : OW} {a : Addr} (h : H a = none) : trim H ow a = none := by
  unfold trim
  rw [h]
  rfl
theorem trim_kp (H : Hp) (ow : OW) (w : Own) : Kp H ow w H (trim H ow) w := ⟨Ext.refl H, fun a j h o e _ => ⟨e, by
  unfold trim
  rw [e]
  exact h⟩⟩
theorem trim_step (H : Hp) (ow : OW) : Step H ow H (trim H ow) := ⟨fun _ _ h _ _ => h, fun a h => by
  unfold trim at h
  split at h
  · exact .inl h
  · exact absurd rfl h, Ext.refl H, fun a k j o h e _ => ⟨e, by
    unfold trim
    rw [e]
    exact h⟩⟩
theorem RelE.kp {K : Fr} {H H' : Hp} {ow ow' : OW} {env : Env} {σ : L2.St} (r : RelE K H ow env σ) (k : ∀ i, Kp H ow (.sl i) H' ow' (.sl i)) : RelE K H' ow' env σ :=
  ⟨(k 0).ext.tab r.tab, r.len, fun i o h => by
    obtain ⟨v, h1, h2⟩ := r.rel i o h
    exact ⟨v, h1, h2.kp (k i)⟩⟩
/-- an object that nobody owns is changed -/
theorem kp_free {H : Hp} {ow : OW} {a : Addr} {u u' : HO} {w : Own} (h : H a = some u) (m : Mu u) (n : ow a = none) : Kp H ow w (upd H a u') ow w := ⟨Ext.upd h m, fun b j e o he _ => by
  have hb : b ≠ a := fun q => by rw [q, n] at e; cases e
  rw [upd_ne hb]
  exact ⟨he, e⟩⟩
/-- a new object that nobody owns yet is changed -/
theorem Step.updNew {H1 H : Hp} {ow1 ow : OW} {D : Addr} {u u' : HO} (s : Step H1 ow1 H ow) (hD : H1 D = none) (h : H D = some u) (m : Mu u) (n : ow D = none) : Step H1 ow1 (L2.upd H D u') ow where
  keep := fun a o h n nt => by
    have ha : a ≠ D := fun q => by rw [q, hD] at h; cases h
    rw [upd_ne ha]
    exact s.keep a o h n nt
  sub := s.sub
  ext := s.ext.trans (Ext.upd h m)
  hold := fun a k j o h e nt => by
    have ha : a ≠ D := fun q => by rw [q, hD] at e; cases e
    rw [upd_ne ha]
    exact s.hold a k j o h e nt
theorem Step.free {H H' : Hp} {ow ow' : OW} {D : Addr} {xs : List V} (s : Step H ow H' ow') (h : H D = some (.lst xs)) (n : ow D = none) : ow' D = none := s.s.free h (fun _ e => nomatch e) n
/-- the new list stays -/
theorem Step.kl {H H' : Hp} {ow ow' : OW} {D : Addr} {xs : List V} (s : Step H ow H' ow') (h : H D = some (.lst xs)) (n : ow D = none) : H' D = some (.lst xs) := s.keep D _ h n fun _ e => nomatch e
/-- the state of a comprehension at a turn -/
structure LcSt (K : Fr) (vs : List Nat) (bd : Bd) (mt : M Bool) (me : M D) (H1 : Hp) (ow1 : OW) (σ : L2.St) (D : Addr) (rest : List Pm.D) (out : List Pm.D) (e2 : Env) (H : Hp) : Prop where
  ex : ∃ env ow acc dacc, H D = some (.lst acc) ∧ ow D = none ∧ RelDs K H dacc acc ∧ dacc.length ≤ sizeLine ∧ RelE K H ow env (L2.wipe σ vs) ∧ lcL vs bd mt me rest dacc env = some (.ok out e2) ∧ Step H1 ow1 H ow
theorem lc_turn {K : Fr} {vs : List Nat} {bd : Bd} {mt : M Bool} {me : M D} {H1 : Hp} {ow1 : OW} {σ : L2.St} {D : Addr} {d : Pm.D} {rest out : List Pm.D} {e2 : Env} {H H' : Hp} {x : V} (hD : H1 D = none)
    (S : LcSt K vs bd mt me H1 ow1 σ D (d :: rest) out e2 H) (nw : New H H') (rd : RelD K H' d x) :
    rdBd K (offs vs) bd x (L2.wipe σ vs) H' fun σ2 H2 => L2.wipe σ2 vs = L2.wipe σ vs ∧ rdT K noX mt σ2 H2 fun b H3 =>
      if b = true then rdD K noX me σ2 H3 fun y H4 => ∃ acc, H4 D = some (.lst acc) ∧ acc.length < sizeLine ∧ LcSt K vs bd mt me H1 ow1 σ D rest out e2 (upd H4 D (.lst (acc ++ [y]))) else LcSt K vs bd mt me H1 ow1 σ D rest out e2 H3 := by
  obtain ⟨env, ow, acc, dacc, hd, no, ra, hz, rel, e, st0⟩ := S
  unfold lcL at e
  cases z : bd d env with
  | none => rw [z] at e; cases e
  | some e1 =>
    rw [z] at e
    refine ⟨env, ow, d, e1, nw.relE rel, rd, z, fun σ2 rel2 pin => ?_⟩
    have hw : L2.wipe σ2 vs = L2.wipe σ vs := by
      have := wipe_eq pin
      rw [this]
      refine List.ext_getElem? fun i => ?_
      rw [wipe_get, wipe_length, wipe_get]
      by_cases hi : i ∈ vs
      · rw [if_pos hi, if_pos hi]
      · rw [if_neg hi, if_neg hi]
    refine ⟨hw, ?_⟩
    have hd' : H' D = some (.lst acc) := nw D _ hd
    cases z2 : mt e1 with
    | none => simp only [z2] at e; cases e
    | some r2 =>
      refine ⟨e1, ow, r2, rel2, z2, ?_⟩
      cases r2 with
      | exc c e' => simp only [z2] at e; cases e
      | ok b e3 =>
        intro H3 ow3 rel3 st3
        simp only [z2] at e
        cases b with
        | false =>
          simp only at e
          refine (if_neg (by decide)).mpr ?_
          exact ⟨_, ow3, acc, dacc, st3.kl hd' no, st3.free hd' no, RelDs.ext (nw.ext.trans st3.ext) _ _ ra, hz, hw ▸ rel3.wipe vs, e, (st0.trans (nw.step ow)).trans st3⟩
        | true =>
          simp only at e
          refine (if_pos rfl).mpr ?_
          cases z3 : me e3 with
          | none => simp only [z3] at e; cases e
          | some r3 =>
            refine ⟨e3, ow3, r3, rel3, z3, ?_⟩
            cases r3 with
            | exc c e' => simp only [z3] at e; cases e
            | ok y e4 =>
              intro H4 ow4 rel4 st4 v rv
              simp only [z3] at e
              split at e
              · rename_i hlt
                have st := st3.trans st4
                have h4 := st.kl hd' no
                have n4 : ow4 D = none := st.free hd' no
                have xe : Ext H4 (upd H4 D (.lst (acc ++ [v]))) := Ext.upd h4 True.intro
                exact ⟨acc, h4, by rw [← ra.length]; exact hlt, _, ow4, acc ++ [v], dacc ++ [y], upd_same, n4, (RelDs.ext ((nw.ext.trans st.ext).trans xe) _ _ ra).append (.cons (RelD.ext xe _ _ rv) .nil), by rw [List.length_append]; exact hlt, (hw ▸ rel4.wipe vs).kp (fun i => kp_free h4 True.intro n4), e, ((st0.trans (nw.step ow)).trans st).updNew hD h4 True.intro n4⟩
              · cases e
/-- what is wanted when the list is made: its items, the block's slots as before -/
theorem lc_gen {K : Fr} {vs : List Nat} {mi : M (List D)} {bd : Bd} {mt : M Bool} {me : M D} {σ : L2.St} {H : Hp} {Q : VK} {α : Type} {f : List D → α} {post : α → Hp → OW → Prop}
    (h : rdG K W (bnd mi fun ds e => match lcL vs bd mt me ds [] (wipeE e vs) with
      | some (.ok acc e2) => some (.ok (f acc) (backE e e2 vs))
      | _ => none) σ H post)
    (fin : ∀ (a : α) (out : List D) (env : Env) (H0 : Hp) (ow0 : OW) (D : Addr) (H1 : Hp) (ow1 : OW) (acc : List V), a = f out → H0 D = none → H1 D = some (.lst acc) → ow1 D = none → RelDs K H1 out acc → out.length ≤ sizeLine → RelE K H1 ow1 env σ → Step H0 ow0 H1 ow1 →
      (∀ H' ow', RelE K H' ow' env σ → Step H0 ow0 H' ow' → post a H' ow') → Q (.ref D) H1) :
    tLc (rdI K W mi) (rdBd K (offs vs) bd) (rdT K noX mt) (rdD K noX me) vs σ H Q := by
  refine (rdG.bind (m := mi) h).mono fun ds H1 ow1 h1 J hJ D hD => ?_
  obtain ⟨e0, r, rel0, er, q⟩ := h1
  cases z : lcL vs bd mt me ds [] (wipeE e0 vs) with
  | none => simp only [z] at er; cases er
  | some r2 =>
    cases r2 with
    | exc c e => simp only [z] at er; cases er
    | ok out e2 =>
      simp only [z] at er
      cases Option.some.inj er
      refine ⟨fun i m H => m = ds.length - i ∧ i ≤ ds.length ∧ LcSt K vs bd mt me H1 (trim H1 ow1) σ D (ds.drop i) out e2 H, ⟨ds.length, by simp, Nat.zero_le _, ?_⟩, ?_⟩
      · exact ⟨_, trim H1 ow1, [], [], upd_same, trim_none hD, .nil, Nat.zero_le _, (New.upd hD).relE ((rel0.kp fun i => trim_kp H1 ow1 _).wipe vs), z, (New.upd hD).step _⟩
      · rintro i m H ⟨rfl, hi, S⟩
        by_cases hlt : i < ds.length
        · right
          obtain ⟨d, hd⟩ : ∃ d, ds[i]? = some d := ⟨_, List.getElem?_eq_getElem hlt⟩
          have ed : ds.drop i = d :: ds.drop (i + 1) := by
            rw [List.drop_eq_getElem_cons hlt]
            rw [List.getElem?_eq_getElem hlt] at hd
            rw [Option.some.inj hd]
          rw [ed] at S
          have S' := S
          obtain ⟨_, _, _, _, _, _, _, _, _, _, st⟩ := S'
          obtain ⟨g1, g2⟩ := hJ.go i H d st.ext hd
          refine ⟨g1, fun H => LcSt K vs bd mt me H1 (trim H1 ow1) σ D (ds.drop (i + 1)) out e2 H, fun H' h => ⟨ds.length - (i + 1), by omega, rfl, hlt, h⟩, fun x H' hy => ?_⟩
          obtain ⟨rd, nw⟩ := g2 x H' hy
          exact lc_turn hD S nw rd
        · left
          have ei : i = ds.length := by omega
          subst ei
          rw [List.drop_length] at S
          obtain ⟨env, ow, acc, dacc, hd, no, ra, hz, rel, e, st⟩ := S
          cases Option.some.inj e
          have st1 := (trim_step H1 ow1).trans st
          exact ⟨hJ.stop _ H st.ext (Nat.le_refl _), fin _ out _ H1 ow1 D H ow acc rfl hD hd no ra hz (RelE.back rel0 st.ext rel) st1 q⟩
/-- [..] frozen -/
theorem lc_run {K : Fr} {vs : List Nat} {mi : M (List D)} {bd : Bd} {mt : M Bool} {me : M D} {σ : L2.St} {H : Hp} {Q : VK} (h : rdG K W (lcM vs mi bd mt me) σ H fun d H' _ => ∀ v, RelD K H' d v → Q v H') :
    tLc (rdI K W mi) (rdBd K (offs vs) bd) (rdT K noX mt) (rdD K noX me) vs σ H fun v H1 => ∃ a u, v = .ref a ∧ H1 a = some u ∧ Mut (some u) ∧ ∀ o, Q v (upd H1 a (.frz o u)) :=
  lc_gen (f := PyData.list) h fun a out env H0 ow0 D H1 ow1 acc ea hD hd no ra hz rel st q => by
    subst ea
    refine ⟨D, _, rfl, hd, True.intro, fun o => ?_⟩
    have xe : Ext H1 (upd H1 D (.frz o (.lst acc))) := Ext.upd hd True.intro
    exact q _ ow1 (rel.kp fun i => kp_free hd True.intro no) (st.updNew hD hd True.intro no) _ ⟨D, acc, rfl, .inl ⟨o, upd_same⟩, hz, RelDs.ext xe _ _ ra⟩
/-- .. owned -/
def lcO (vs : List Nat) (mi : M (List D)) (bd : Bd) (mt : M Bool) (me : M D) : M O := bnd mi fun ds e => match lcL vs bd mt me ds [] (wipeE e vs) with
  | some (.ok acc e2) => some (.ok (.l acc) (backE e e2 vs))
  | _ => none
def owNew (ow : OW) (D : Addr) : OW := fun a => if a = D then some (.tmp, 0) else ow a
theorem owNew_kp {H : Hp} {ow : OW} {D : Addr} (n : ow D = none) (w : Own) : Kp H ow w H (owNew ow D) w := ⟨Ext.refl H, fun a j h o e _ => ⟨e, (if_neg fun q => by rw [q, n] at h; cases h).trans h⟩⟩
theorem Step.owNew {H H1 : Hp} {ow ow1 : OW} {D : Addr} (s : Step H ow H1 ow1) (hD : H D = none) : Step H ow H1 (owNew ow1 D) where
  keep := s.keep
  sub := fun a h => by
    by_cases ha : a = D
    · exact .inr fun o ho => by rw [ha, hD] at ho; cases ho
    · exact s.sub a fun q => h ((if_neg ha).trans q)
  ext := s.ext
  hold := fun a k j o h e nt => by
    have ha : a ≠ D := fun q => by rw [q, hD] at e; cases e
    obtain ⟨h1, h2⟩ := s.hold a k j o h e nt
    exact ⟨h1, (if_neg ha).trans h2⟩
theorem lc_runO {K : Fr} {vs : List Nat} {mi : M (List D)} {bd : Bd} {mt : M Bool} {me : M D} {σ : L2.St} {H : Hp} {Q : VK} (h : rdG K W (lcO vs mi bd mt me) σ H fun o H' ow' => ∀ v, RelO K H' ow' .tmp o v → Q v H') :
    tLc (rdI K W mi) (rdBd K (offs vs) bd) (rdT K noX mt) (rdD K noX me) vs σ H Q :=
  lc_gen (f := O.l) h fun a out env H0 ow0 D H1 ow1 acc ea hD hd no ra hz rel st q => by
    subst ea
    exact q H1 (Pm.owNew ow1 D) (rel.kp fun i => owNew_kp no _) (st.owNew hD) _ ⟨D, acc, rfl, if_pos rfl, hd, ra⟩
theorem sim_lc {elt iter : Expr} {ifs : List Expr} {scope : Scope} {own : List (Str × Nat)} {mi : M (List D)} {bd : Bd} {mt : M Bool} {me : M D} (hc : X.calm = true) (hN : X.N.Nodup) (hi : PI X tg iter (rdI X.K W mi)) (ok : BlkOk X.N X.env.scope scope own)
    (hg : ∀ (s : Shared) (H : Hp) (C : Addr) (cl : List (Str × Addr)) (fp : List Addr), PG (X.blk s H scope (compEnvC scope cl C X.env) fp) tg (rdBd X.K (offs (own.map (·.2))) bd))
    (ht : ∀ (s : Shared) (H : Hp) (C : Addr) (cl : List (Str × Addr)) (fp : List Addr), PTs (X.blk s H scope (compEnvC scope cl C X.env) fp) ifs (rdT X.K noX mt))
    (he : ∀ (s : Shared) (H : Hp) (C : Addr) (cl : List (Str × Addr)) (fp : List Addr), PE (X.blk s H scope (compEnvC scope cl C X.env) fp) elt (rdD X.K noX me)) (hs : ∀ x, foldedSetIterable iter X.env x = pure x := by intro _; rfl) :
    PE X (.ListComp elt [⟨tg, iter, ifs, 0⟩] scope pos) (rdD X.K W (lcM (own.map (·.2)) mi bd mt me)) := PEimp (pe_frz (pe_lc hc hN hi ok hg ht he hs)) fun σ H Q q => lc_run q
theorem sim_lcO {elt iter : Expr} {ifs : List Expr} {scope : Scope} {own : List (Str × Nat)} {mi : M (List D)} {bd : Bd} {mt : M Bool} {me : M D} (hc : X.calm = true) (hN : X.N.Nodup) (hi : PI X tg iter (rdI X.K W mi)) (ok : BlkOk X.N X.env.scope scope own)
    (hg : ∀ (s : Shared) (H : Hp) (C : Addr) (cl : List (Str × Addr)) (fp : List Addr), PG (X.blk s H scope (compEnvC scope cl C X.env) fp) tg (rdBd X.K (offs (own.map (·.2))) bd))
    (ht : ∀ (s : Shared) (H : Hp) (C : Addr) (cl : List (Str × Addr)) (fp : List Addr), PTs (X.blk s H scope (compEnvC scope cl C X.env) fp) ifs (rdT X.K noX mt))
    (he : ∀ (s : Shared) (H : Hp) (C : Addr) (cl : List (Str × Addr)) (fp : List Addr), PE (X.blk s H scope (compEnvC scope cl C X.env) fp) elt (rdD X.K noX me)) (hs : ∀ x, foldedSetIterable iter X.env x = pure x := by intro _; rfl) :
    PE X (.ListComp elt [⟨tg, iter, ifs, 0⟩] scope pos) (rdO X.K W (lcO (own.map (·.2)) mi bd mt me)) := PEimp (pe_lc hc hN hi ok hg ht he hs) fun σ H Q q => lc_runO q
/-- name = [..] on one line -/
theorem sim_setLc {i : Nat} {y : Str} {py spos : Pos} {elt iter : Expr} {ifs : List Expr} {scope : Scope} {own : List (Str × Nat)} {mi : M (List D)} {bd : Bd} {mt : M Bool} {me : M D} (hnp : np i = false) (hc : X.calm = true) (hN : X.N.Nodup) (hy : X.N[i]? = some y) (hyl : X.env.scope.names.lookup y = some .local)
    (hsw : swapsWith (.ListComp elt [⟨tg, iter, ifs, 0⟩] scope pos) (some (.Name y py)) spos.line X.env = pure true) (hi : PI X tg iter (rdI X.K W mi)) (ok : BlkOk X.N X.env.scope scope own)
    (hg : ∀ (s : Shared) (H : Hp) (C : Addr) (cl : List (Str × Addr)) (fp : List Addr), PG (X.blk s H scope (compEnvC scope cl C X.env) fp) tg (rdBd X.K (offs (own.map (·.2))) bd))
    (ht : ∀ (s : Shared) (H : Hp) (C : Addr) (cl : List (Str × Addr)) (fp : List Addr), PTs (X.blk s H scope (compEnvC scope cl C X.env) fp) ifs (rdT X.K noX mt))
    (he : ∀ (s : Shared) (H : Hp) (C : Addr) (cl : List (Str × Addr)) (fp : List Addr), PE (X.blk s H scope (compEnvC scope cl C X.env) fp) elt (rdD X.K noX me)) (hs : ∀ x, foldedSetIterable iter X.env x = pure x := by intro _; rfl) :
    PS X (.Assign [.Name y py] (.ListComp elt [⟨tg, iter, ifs, 0⟩] scope pos) spos) (rdS X.K W np (setO i (lcO (own.map (·.2)) mi bd mt me))) := PSimp (ps_setLc hc hN hy hyl hsw hi ok hg ht he hs) fun D σ H q => by
  refine lc_runO (rdG.mono (rdS.bnd q) fun o H1 ow1 h1 v rv => ?_)
  obtain ⟨env1, r, rel, e, q1⟩ := h1
  split at e
  · rename_i hl
    cases Option.some.inj e
    exact q1 _ H1 _ (rel.setO hl rv) (StepS.owSet i) (Pin.set hnp)
  · cases e
/-! ### two clauses -/
def lc2L (vs : List Nat) (bd : Bd) (mt : M Bool) (mi1 : M (List D)) (vs1 : List Nat) (bd1 : Bd) (mt1 : M Bool) (me : M D) : List D → List D → M (List D)
  | [], acc => fun e => some (.ok acc e)
  | d :: ds, acc => fun e => match bd d e with
    | none => none
    | some e1 => match mt e1 with
      | some (.ok true e2) => match mi1 e2 with
        | some (.ok ds1 e3) => match lcL vs1 bd1 mt1 me ds1 acc (wipeE e3 vs1) with
          | some (.ok acc' e4) => lc2L vs bd mt mi1 vs1 bd1 mt1 me ds acc' (wipeE e4 vs)
          | _ => none
        | _ => none
      | some (.ok false e2) => lc2L vs bd mt mi1 vs1 bd1 mt1 me ds acc (wipeE e2 vs)
      | _ => none
def lc2M (vs : List Nat) (mi : M (List D)) (bd : Bd) (mt : M Bool) (mi1 : M (List D)) (vs1 : List Nat) (bd1 : Bd) (mt1 : M Bool) (me : M D) : M D := bnd mi fun ds e => match lc2L vs bd mt mi1 vs1 bd1 mt1 me ds [] (wipeE e vs) with
  | some (.ok acc e2) => some (.ok (.list acc) (backE e e2 vs))
  | _ => none
structure Lc2St (K : Fr) (vs : List Nat) (bd : Bd) (mt : M Bool) (mi1 : M (List D)) (vs1 : List Nat) (bd1 : Bd) (mt1 : M Bool) (me : M D) (H1 : Hp) (ow1 : OW) (σ : L2.St) (D : Addr) (rest : List Pm.D) (out : List Pm.D) (e2 : Env) (H : Hp) : Prop where
  ex : ∃ env ow acc dacc, H D = some (.lst acc) ∧ ow D = none ∧ RelDs K H dacc acc ∧ dacc.length ≤ sizeLine ∧ RelE K H ow env (L2.wipe σ vs) ∧ lc2L vs bd mt mi1 vs1 bd1 mt1 me rest dacc env = some (.ok out e2) ∧ Step H1 ow1 H ow
theorem wipe_wipe {σ : L2.St} {vs1 vs : List Nat} (h : ∀ i ∈ vs1, i ∈ vs) : L2.wipe (L2.wipe σ vs1) vs = L2.wipe σ vs := by
  refine List.ext_getElem? fun i => ?_
  rw [wipe_get (L2.wipe σ vs1) i vs, wipe_get σ i vs, wipe_get σ i vs1, wipe_length]
  by_cases hi : i ∈ vs
  · rw [if_pos hi, if_pos hi]
  · rw [if_neg hi, if_neg hi, if_neg fun q => hi (h i q)]
theorem lc2_run {K : Fr} {vs : List Nat} {mi : M (List D)} {bd : Bd} {mt : M Bool} {mi1 : M (List D)} {vs1 : List Nat} {bd1 : Bd} {mt1 : M Bool} {me : M D} {σ : L2.St} {H : Hp} {Q : VK} (hv : ∀ i ∈ vs1, i ∈ vs)
    (h : rdG K W (lc2M vs mi bd mt mi1 vs1 bd1 mt1 me) σ H fun d H' _ => ∀ v, RelD K H' d v → Q v H') :
    tLc2 (rdI K W mi) (rdBd K (offs vs) bd) (rdT K noX mt) (rdI K noX mi1) (rdBd K (offs vs1) bd1) (rdT K noX mt1) (rdD K noX me) vs vs1 σ H fun v H1 => ∃ a u, v = .ref a ∧ H1 a = some u ∧ Mut (some u) ∧ ∀ o, Q v (upd H1 a (.frz o u)) := by
  refine (rdG.bind (m := mi) h).mono fun ds H1 ow1 h1 J hJ D hD => ?_
  obtain ⟨e0, r, rel0, er, q⟩ := h1
  cases z : lc2L vs bd mt mi1 vs1 bd1 mt1 me ds [] (wipeE e0 vs) with
  | none => simp only [z] at er; cases er
  | some r2 =>
    cases r2 with
    | exc c e => simp only [z] at er; cases er
    | ok out e2 =>
      simp only [z] at er
      cases Option.some.inj er
      refine ⟨fun i m H => m = ds.length - i ∧ i ≤ ds.length ∧ Lc2St K vs bd mt mi1 vs1 bd1 mt1 me H1 (trim H1 ow1) σ D (ds.drop i) out e2 H, ⟨ds.length, by simp, Nat.zero_le _, ?_⟩, ?_⟩
      · exact ⟨_, trim H1 ow1, [], [], upd_same, trim_none hD, .nil, Nat.zero_le _, (New.upd hD).relE ((rel0.kp fun i => trim_kp H1 ow1 _).wipe vs), z, (New.upd hD).step _⟩
      · rintro i m H ⟨rfl, hi, S⟩
        obtain ⟨env, ow, acc, dacc, hd, no, ra, hz, rel, e, st0⟩ := S
        by_cases hlt : i < ds.length
        · right
          obtain ⟨d, hd'⟩ : ∃ d, ds[i]? = some d := ⟨_, List.getElem?_eq_getElem hlt⟩
          have ed : ds.drop i = d :: ds.drop (i + 1) := by
            rw [List.drop_eq_getElem_cons hlt]
            rw [List.getElem?_eq_getElem hlt] at hd'
            rw [Option.some.inj hd']
          rw [ed] at e
          obtain ⟨g1, g2⟩ := hJ.go i H d st0.ext hd'
          refine ⟨g1, fun H => Lc2St K vs bd mt mi1 vs1 bd1 mt1 me H1 (trim H1 ow1) σ D (ds.drop (i + 1)) out e2 H, fun H' h => ⟨ds.length - (i + 1), by omega, rfl, hlt, h⟩, fun x H' hy => ?_⟩
          obtain ⟨rd, nw⟩ := g2 x H' hy
          unfold lc2L at e
          cases y : bd d env with
          | none => rw [y] at e; cases e
          | some e1 =>
            rw [y] at e
            refine ⟨env, ow, d, e1, nw.relE rel, rd, y, fun σ2 rel2 pin => ?_⟩
            have hw : L2.wipe σ2 vs = L2.wipe σ vs := (wipe_eq pin).trans (wipe_wipe fun _ q => q)
            refine ⟨hw, ?_⟩
            have hD' : H' D = some (.lst acc) := nw D _ hd
            cases y2 : mt e1 with
            | none => simp only [y2] at e; cases e
            | some r2 =>
              refine ⟨e1, ow, r2, rel2, y2, ?_⟩
              cases r2 with
              | exc c e' => simp only [y2] at e; cases e
              | ok b e3 =>
                intro H3 ow3 rel3 st3
                simp only [y2] at e
                have h3 := st3.kl hD' no
                have n3 := st3.free hD' no
                have s3 := (st0.trans (nw.step ow)).trans st3
                have ra3 := RelDs.ext (nw.ext.trans st3.ext) _ _ ra
                cases b with
                | false =>
                  simp only at e
                  refine (if_neg (by decide)).mpr ?_
                  exact ⟨_, ow3, acc, dacc, h3, n3, ra3, hz, hw ▸ rel3.wipe vs, e, s3⟩
                | true =>
                  simp only at e
                  refine (if_pos rfl).mpr ?_
                  cases y3 : mi1 e3 with
                  | none => simp only [y3] at e; cases e
                  | some r3 =>
                    refine ⟨e3, ow3, r3, rel3, y3, ?_⟩
                    cases r3 with
                    | exc c e' => simp only [y3] at e; cases e
                    | ok ds1 e4 =>
                      intro H4 ow4 rel4 st4 J1 hJ1
                      simp only [y3] at e
                      cases y4 : lcL vs1 bd1 mt1 me ds1 dacc (wipeE e4 vs1) with
                      | none => rw [y4] at e; cases e
                      | some r4 =>
                        rw [y4] at e
                        cases r4 with
                        | exc c e' => cases e
                        | ok acc' e5 =>
                          simp only at e
                          refine ⟨fun j k H => k = ds1.length - j ∧ j ≤ ds1.length ∧ Ext H4 H ∧ LcSt K vs1 bd1 mt1 me H1 (trim H1 ow1) σ2 D (ds1.drop j) acc' e5 H, ⟨ds1.length, by simp, Nat.zero_le _, Ext.refl _, _, ow4, acc, dacc, st4.kl h3 n3, st4.free h3 n3, RelDs.ext st4.ext _ _ ra3, hz, rel4.wipe vs1, y4, s3.trans st4⟩, ?_⟩
                          rintro j k H5 ⟨rfl, hj, x5, S⟩
                          by_cases hlt1 : j < ds1.length
                          · right
                            obtain ⟨d1, hd1⟩ : ∃ d, ds1[j]? = some d := ⟨_, List.getElem?_eq_getElem hlt1⟩
                            have ed1 : ds1.drop j = d1 :: ds1.drop (j + 1) := by
                              rw [List.drop_eq_getElem_cons hlt1]
                              rw [List.getElem?_eq_getElem hlt1] at hd1
                              rw [Option.some.inj hd1]
                            rw [ed1] at S
                            obtain ⟨k1, k2⟩ := hJ1.go j H5 d1 x5 hd1
                            refine ⟨k1, fun H => Ext H4 H ∧ LcSt K vs1 bd1 mt1 me H1 (trim H1 ow1) σ2 D (ds1.drop (j + 1)) acc' e5 H, fun H' h => ⟨ds1.length - (j + 1), by omega, rfl, hlt1, h.1, h.2⟩, fun x1 H6 hy1 => ?_⟩
                            obtain ⟨rd1, nw1⟩ := k2 x1 H6 hy1
                            obtain ⟨env', ow', d', ev, b1, b2, b3, b4⟩ := lc_turn hD S nw1 rd1
                            refine ⟨env', ow', d', ev, b1, b2, b3, fun σ3 r3 p3 => ?_⟩
                            obtain ⟨c1, c2⟩ := b4 σ3 r3 p3
                            refine ⟨c1, rdG.monoX c2 fun b H7 ow7 x7 c3 => ?_⟩
                            cases b with
                            | false => exact ⟨(x5.trans nw1.ext).trans x7, c3⟩
                            | true =>
                              refine rdG.monoX c3 fun yy H8 ow8 x8 c4 vv rv => ?_
                              obtain ⟨ac, f1, f2, f3⟩ := c4 vv rv
                              exact ⟨ac, f1, f2, (((x5.trans nw1.ext).trans x7).trans x8).trans (Ext.upd f1 True.intro), f3⟩
                          · left
                            have ej : j = ds1.length := by omega
                            subst ej
                            rw [List.drop_length] at S
                            obtain ⟨env5, ow5, acc5, dacc5, hd5, no5, ra5, hz5, rel5, e', st5⟩ := S
                            cases Option.some.inj e'
                            refine ⟨hJ1.stop _ H5 x5 (Nat.le_refl _), _, ow5, acc5, _, hd5, no5, ra5, hz5, ?_, e, st5⟩
                            have := rel5.wipe vs
                            rw [wipe_wipe hv, hw] at this
                            exact this
        · left
          have ei : i = ds.length := by omega
          subst ei
          rw [List.drop_length] at e
          cases Option.some.inj e
          have st1 := (trim_step H1 ow1).trans st0
          refine ⟨hJ.stop _ H st0.ext (Nat.le_refl _), D, _, rfl, hd, True.intro, fun o => ?_⟩
          have xe : Ext H (upd H D (.frz o (.lst acc))) := Ext.upd hd True.intro
          exact q _ ow (RelE.back rel0 (st0.ext.trans xe) (rel.kp fun i => kp_free hd True.intro no)) (st1.updNew hD hd True.intro no) _ ⟨D, acc, rfl, .inl ⟨o, upd_same⟩, hz, RelDs.ext xe _ _ ra⟩
theorem sim_lc2 {elt iter tg1 iter1 : Expr} {ifs ifs1 : List Expr} {scope : Scope} {own : List (Str × Nat)} {vs1 : List Nat} {mi mi1 : M (List D)} {bd bd1 : Bd} {mt mt1 : M Bool} {me : M D} (hc : X.calm = true) (hN : X.N.Nodup) (hi : PI X tg iter (rdI X.K W mi)) (ok : BlkOk X.N X.env.scope scope own) (hv : ∀ i ∈ vs1, i ∈ own.map (·.2))
    (hg : ∀ (s : Shared) (H : Hp) (C : Addr) (cl : List (Str × Addr)) (fp : List Addr), PG (X.blk s H scope (compEnvC scope cl C X.env) fp) tg (rdBd X.K (offs (own.map (·.2))) bd))
    (ht : ∀ (s : Shared) (H : Hp) (C : Addr) (cl : List (Str × Addr)) (fp : List Addr), PTs (X.blk s H scope (compEnvC scope cl C X.env) fp) ifs (rdT X.K noX mt))
    (hi1 : ∀ (s : Shared) (H : Hp) (C : Addr) (cl : List (Str × Addr)) (fp : List Addr), PI (X.blk s H scope (compEnvC scope cl C X.env) fp) tg1 iter1 (rdI X.K noX mi1))
    (hg1 : ∀ (s : Shared) (H : Hp) (C : Addr) (cl : List (Str × Addr)) (fp : List Addr), PG (X.blk s H scope (compEnvC scope cl C X.env) fp) tg1 (rdBd X.K (offs vs1) bd1))
    (ht1 : ∀ (s : Shared) (H : Hp) (C : Addr) (cl : List (Str × Addr)) (fp : List Addr), PTs (X.blk s H scope (compEnvC scope cl C X.env) fp) ifs1 (rdT X.K noX mt1))
    (he : ∀ (s : Shared) (H : Hp) (C : Addr) (cl : List (Str × Addr)) (fp : List Addr), PE (X.blk s H scope (compEnvC scope cl C X.env) fp) elt (rdD X.K noX me)) (hs : ∀ x, foldedSetIterable iter X.env x = pure x := by intro _; rfl) (hs1 : ∀ env x, foldedSetIterable iter1 env x = pure x := by intro _ _; rfl) :
    PE X (.ListComp elt [⟨tg, iter, ifs, 0⟩, ⟨tg1, iter1, ifs1, 0⟩] scope pos) (rdD X.K W (lc2M (own.map (·.2)) mi bd mt mi1 vs1 bd1 mt1 me)) := PEimp (pe_frz (pe_lc2 hc hN hi ok hv hg ht hi1 hg1 ht1 he hs hs1)) fun σ H Q q => lc2_run hv q
end
end Pm

/-! ## Pm6 -/
set_option Elab.async false
set_option linter.all false
set_option maxRecDepth 100000
set_option maxHeartbeats 2000000
/-! Pm6: functions: what they promise, calls, bodies. -/
namespace Pm
open PySem PySem.Spec L2
variable [TabCtx]

inductive RF where
  | ok (o : O) (as : List O)
  | exc (c : Str) (as : List O)
/-- a function over things: the arguments in; the result and the arguments as they are then -/
abbrev MF := List O → Option RF
def RelOs (K : Fr) (H : Hp) (ow : OW) (mk : Nat → Own) : Nat → List O → List V → Prop
  | _, [], vs => vs = []
  | j, o :: os, vs => ∃ x r, vs = x :: r ∧ RelO K H ow (mk j) o x ∧ RelOs K H ow mk (j + 1) os r
def okF (K : Fr) (vs : List V) (Q : VK) (E : XK) (H : Hp) (ow : OW) : RF → Prop
  | .ok o os' => ∀ v H' ow', RelOs K H' ow' .sl 0 os' vs → RelO K H' ow' .tmp o v → StepS H ow H' ow' → Q v H'
  | .exc c os' => ∀ H' ow', RelOs K H' ow' .sl 0 os' vs → StepS H ow H' ow' → E (.ref (He.ga K c)) none H'
/-- the promise: it does what mf does -/
def spM (K : Fr) (n : Nat) (mf : MF) : Sp := fun vs H Q E => vs.length = n ∧ TbOk H ∧ ∃ ow os r, RelOs K H ow .sl 0 os vs ∧ mf os = some r ∧ okF K vs Q E H ow r

/-! ### arguments -/
section
variable (K : Fr) (H : Hp) (σ : L2.St)
def RelA : List (Option Nat) → List D → List V → Prop
  | [], ds, vs => ds = [] ∧ vs = []
  | none :: sp, ds, vs => ∃ d dr v vr, ds = d :: dr ∧ vs = v :: vr ∧ RelD K H d v ∧ RelA sp dr vr
  | some i :: sp, ds, vs => ∃ v vr, vs = v :: vr ∧ σ[i]? = some (some v) ∧ RelA sp ds vr
end
def rdArg (K : Fr) (W : WX) (spec : List (Option Nat)) (m : M (List D)) : TA := fun σ H Q => rdG K W m σ H fun ds H' _ => ∀ vs, RelA K H' σ spec ds vs → Q vs H'
def hasS {α : Type} (i : Nat) (m : M α) : M α := fun e => match e[i]? with
  | some (some _) => m e
  | _ => none
def fill : List (Option Nat) → List D → Env → Option (List O)
  | [], [], _ => some []
  | none :: sp, d :: ds, e => (fill sp ds e).map (.f (.d d) :: ·)
  | some i :: sp, ds, e => match e[i]? with
    | some (some o) => (fill sp ds e).map (o :: ·)
    | _ => none
  | _, _, _ => none
def store : List (Option Nat) → List O → Env → Env
  | none :: sp, _ :: os, e => store sp os e
  | some i :: sp, o :: os, e => (store sp os e).set i (some o)
  | _, _, e => e
def callM (spec : List (Option Nat)) (m : M (List D)) (mf : MF) : M O := bnd m fun ds e => match fill spec ds e with
  | none => none
  | some os => match mf os with
    | none => none
    | some (.ok o os') => some (.ok o (store spec os' e))
    | some (.exc c os') => some (.exc c (store spec os' e))
def asD (m : M O) : M D := bnd m fun o => match o with
  | .f (.d d) => M.ret d
  | _ => fun _ => none
def callD (spec : List (Option Nat)) (m : M (List D)) (mf : MF) : M D := asD (callM spec m mf)

section
variable {X : Cx} {W : WX} {e : Expr} {es : List Expr} {pos p : Pos} {m : M D} {mr : M (List D)} {spec : List (Option Nat)}
theorem sim_ca0 : PA X [] (rdArg X.K W [] args0) := PAimp pa_nil fun σ H Q q => by
  obtain ⟨ow, p⟩ := rdG.const q
  exact p _ ⟨rfl, rfl⟩
theorem RelA.ext {K : Fr} {H H' : Hp} {σ : L2.St} (x : Ext H H') : ∀ {spec : List (Option Nat)} {ds : List D} {vs : List V}, RelA K H σ spec ds vs → RelA K H' σ spec ds vs
  | [], _, _, h => h
  | none :: sp, _, _, h => by
    obtain ⟨d, dr, v, vr, e1, e2, h1, h2⟩ := h
    exact ⟨d, dr, v, vr, e1, e2, RelD.ext x d v h1, RelA.ext x h2⟩
  | some i :: sp, _, _, h => by
    obtain ⟨v, vr, e1, h1, h2⟩ := h
    exact ⟨v, vr, e1, h1, RelA.ext x h2⟩
theorem sim_cad (ha : PE X e (rdD X.K W m)) (hr : PA X es (rdArg X.K W spec mr)) (hs : starEach (e :: es) X.env = (false, eval e X.env) :: starEach es X.env := by rfl) : PA X (e :: es) (rdArg X.K W (none :: spec) (argsC m mr)) := PAimp (pa_cons ha hr hs) fun σ H Q q => by
  refine (rdG.bind (m := m) q).mono fun d H1 ow1 h1 x rx => ?_
  refine (rdG.bind (m := mr) (rdG.of h1)).monoX fun ds H2 ow2 x2 h2 xs rxs => ?_
  obtain ⟨ow3, p⟩ := rdG.const (a := d :: ds) (rdG.of h2)
  exact p _ ⟨d, ds, x, xs, rfl, rfl, RelD.ext x2 d x rx, rxs⟩
theorem sim_cap (i : Nat) {x : Str} (hr : PA X es (rdArg X.K W spec mr)) (hN : X.N[i]? = some x := by rfl) (hv : Vis X.env.scope x := by first | exact Or.inl rfl | exact Or.inr (Or.inl rfl) | exact Or.inr (Or.inr rfl)) (hd : (x == ("__debug__" : Str)) = false := by decide)
    (hcd : (x == ("__classdict__" : Str)) = false := by decide) (hs : starEach (.Name x pos :: es) X.env = (false, eval (.Name x pos) X.env) :: starEach es X.env := by rfl) : PA X (.Name x pos :: es) (rdArg X.K W (some i :: spec) (hasS i mr)) := PAimp (pa_cons (pe_var hN hv hd hcd) hr hs) fun σ H Q q => by
  obtain ⟨env, ow, r, rel, e, q⟩ := q
  unfold hasS at e
  split at e
  · rename_i o he
    obtain ⟨v, h1, h2⟩ := rel.rel i o he
    exact ⟨v, h1, env, ow, r, rel, e, by
      cases r with
      | exc c e => exact q
      | ok ds e => exact fun H' ow' r' s' vs rv => q H' ow' r' s' _ ⟨v, vs, rfl, h1, rv⟩⟩
  · cases e
/-- the callee's map of owners, the caller's behind it -/
def toC (spec : List (Option Nat)) (ow : OW) : OW := fun a => match ow a with
  | some (.sl i, n) => (spec.idxOf? (some i)).map fun j => (.sl j, n)
  | _ => none
def fromC (spec : List (Option Nat)) (ow owc : OW) : OW := fun a => match owc a with
  | some (.sl j, n) => (match spec[j]? with
    | some (some i) => some (.sl i, n)
    | _ => none)
  | some (.tmp, n) => some (.tmp, n)
  | some (.arg _, _) => none
  | none => match ow a with
    | some (.sl i, n) => if some i ∈ spec then none else some (.sl i, n)
    | x => x
theorem toC_none {spec : List (Option Nat)} {ow : OW} {a : Addr} (h : ow a = none) : toC spec ow a = none := by
  unfold toC
  rw [h]
theorem fromC_none {spec : List (Option Nat)} {ow owc : OW} {a : Addr} (h : owc a = none) (h2 : fromC spec ow owc a ≠ none) : ow a ≠ none := fun q => h2 (by
  unfold fromC
  rw [h, q])
theorem fromC_step {spec : List (Option Nat)} {H H' : Hp} {ow owc : OW} (s : StepS H (toC spec ow) H' owc) : Step H ow H' (fromC spec ow owc) where
  keep := fun a o h n nt => s.keep a o h (toC_none n) nt
  sub := fun a h => by
    by_cases z : owc a = none
    · exact .inl (fromC_none z h)
    · rcases s.sub a z with y | y
      · exact .inl fun q => y (toC_none q)
      · exact .inr y
  ext := s.ext
  hold := fun a k j o h e nt => by
    have n : toC spec ow a = none := by
      unfold toC
      rw [h]
    refine ⟨s.keep a o e n nt, ?_⟩
    have z : owc a = none := s.free e nt n
    unfold fromC
    rw [z, h]
theorem store_get (i : Nat) {o : O} : ∀ {spec : List (Option Nat)} {os : List O} {e : Env}, (store spec os e)[i]? = some (some o) → (∃ j : Nat, spec[j]? = some (some i) ∧ os[j]? = some o) ∨ ((some i ∉ spec ∨ os.length < spec.length) ∧ e[i]? = some (some o))
  | [], os, e, h => .inr ⟨.inl (by simp), by cases os <;> exact h⟩
  | none :: sp, [], e, h => .inr ⟨.inr (by simp), h⟩
  | some k :: sp, [], e, h => .inr ⟨.inr (by simp), h⟩
  | none :: sp, o' :: os, e, h => by
    rcases store_get i (spec := sp) (os := os) (e := e) h with ⟨j, h1, h2⟩ | ⟨h1, h2⟩
    · exact .inl ⟨j + 1, by simpa using h1, by simpa using h2⟩
    · refine .inr ⟨?_, h2⟩
      rcases h1 with h1 | h1
      · exact .inl (by simpa using h1)
      · exact .inr (by simpa using h1)
  | some k :: sp, o' :: os, e, h => by
    have h : ((store sp os e).set k (some o'))[i]? = some (some o) := h
    by_cases hk : k = i
    · subst hk
      by_cases hl : k < (store sp os e).length
      · rw [List.getElem?_set_self hl] at h
        cases h
        exact .inl ⟨0, rfl, rfl⟩
      · rw [List.getElem?_eq_none (by rw [List.length_set]; omega)] at h; cases h
    · rw [List.getElem?_set_ne hk] at h
      rcases store_get i (spec := sp) (os := os) (e := e) h with ⟨j, h1, h2⟩ | ⟨h1, h2⟩
      · exact .inl ⟨j + 1, by simpa using h1, by simpa using h2⟩
      · refine .inr ⟨?_, h2⟩
        rcases h1 with h1 | h1
        · left
          simp only [List.mem_cons, not_or]
          exact ⟨fun q => hk (Option.some.inj q).symm, h1⟩
        · exact .inr (by simpa using h1)
theorem store_length : ∀ (spec : List (Option Nat)) (os : List O) (e : Env), (store spec os e).length = e.length
  | [], os, e => by cases os <;> rfl
  | none :: sp, [], e => rfl
  | some k :: sp, [], e => rfl
  | none :: sp, o' :: os, e => store_length sp os e
  | some k :: sp, o' :: os, e => by
    show ((store sp os e).set k (some o')).length = _
    rw [List.length_set]
    exact store_length sp os e
theorem RelOs.length {K : Fr} {H : Hp} {ow : OW} {mk : Nat → Own} : ∀ {j : Nat} {os : List O} {vs : List V}, RelOs K H ow mk j os vs → os.length = vs.length
  | _, [], _, h => by cases (show _ = _ from h); rfl
  | j, o :: os, vs, h => by
    obtain ⟨x, r, rfl, _, h2⟩ := h
    rw [List.length_cons, List.length_cons, RelOs.length h2]
theorem RelOs.get {K : Fr} {H : Hp} {ow : OW} {mk : Nat → Own} : ∀ {j k : Nat} {os : List O} {vs : List V} {o : O}, RelOs K H ow mk j os vs → os[k]? = some o → ∃ v, vs[k]? = some v ∧ RelO K H ow (mk (j + k)) o v
  | _, _, [], _, _, _, e => by simp at e
  | j, 0, o :: os, vs, o', h, e => by
    obtain ⟨x, r, rfl, h1, h2⟩ := h
    simp at e; subst e
    exact ⟨x, rfl, h1⟩
  | j, k + 1, o :: os, vs, o', h, e => by
    obtain ⟨x, r, rfl, h1, h2⟩ := h
    obtain ⟨v, e1, e2⟩ := RelOs.get (k := k) h2 (by simpa using e)
    exact ⟨v, by simpa using e1, by rw [show j + (k + 1) = j + 1 + k by omega]; exact e2⟩
theorem RelA.place {K : Fr} {H : Hp} {σ : L2.St} : ∀ {spec : List (Option Nat)} {ds : List D} {vs : List V} {j i : Nat}, RelA K H σ spec ds vs → spec[j]? = some (some i) → ∃ v, vs[j]? = some v ∧ σ[i]? = some (some v)
  | [], _, _, _, _, _, e => by simp at e
  | none :: sp, _, _, 0, _, _, e => by simp at e
  | none :: sp, _, _, j + 1, i, h, e => by
    obtain ⟨d, dr, v, vr, rfl, rfl, h1, h2⟩ := h
    obtain ⟨w, h3, h4⟩ := RelA.place (j := j) h2 (by simpa using e)
    exact ⟨w, by simpa using h3, h4⟩
  | some k :: sp, _, _, 0, i, h, e => by
    obtain ⟨v, vr, rfl, h1, h2⟩ := h
    simp at e; subst e
    exact ⟨v, rfl, h1⟩
  | some k :: sp, _, _, j + 1, i, h, e => by
    obtain ⟨v, vr, rfl, h1, h2⟩ := h
    obtain ⟨w, h3, h4⟩ := RelA.place (j := j) h2 (by simpa using e)
    exact ⟨w, by simpa using h3, h4⟩
/-- the arguments, as the callee has them -/
theorem relOs_fill {K : Fr} {H : Hp} {ow owc : OW} {env : Env} {σ : L2.St} (rel : RelE K H ow env σ) : ∀ {spec : List (Option Nat)} {ds : List D} {vs : List V} {os : List O} {j : Nat}, RelA K H σ spec ds vs → fill spec ds env = some os →
    (∀ k i, spec[k]? = some (some i) → ∀ a n, ow a = some (.sl i, n) → owc a = some (.sl (j + k), n)) → RelOs K H owc .sl j os vs
  | [], ds, vs, os, j, h, e, _ => by
    obtain ⟨rfl, rfl⟩ := h
    cases Option.some.inj e
    rfl
  | none :: sp, ds, vs, os, j, h, e, k => by
    obtain ⟨d, dr, v, vr, rfl, rfl, h1, h2⟩ := h
    have e : (fill sp dr env).map (O.f (.d d) :: ·) = some os := e
    cases z : fill sp dr env with
    | none => rw [z] at e; cases e
    | some os' =>
      rw [z] at e
      cases Option.some.inj e
      exact ⟨v, vr, rfl, h1, relOs_fill rel h2 z fun q i hq a n ha => by rw [show j + 1 + q = j + (q + 1) by omega]; exact k (q + 1) i (by simpa using hq) a n ha⟩
  | some i :: sp, ds, vs, os, j, h, e, k => by
    obtain ⟨v, vr, rfl, h1, h2⟩ := h
    unfold fill at e
    split at e
    · rename_i o he
      cases z : fill sp ds env with
      | none => rw [z] at e; cases e
      | some os' =>
        rw [z] at e
        cases Option.some.inj e
        obtain ⟨v', h3, h4⟩ := rel.rel i o he
        rw [h1] at h3
        cases h3
        exact ⟨v, vr, rfl, h4.kp ⟨Ext.refl H, fun a n ha o ho _ => ⟨ho, k 0 i rfl a n ha⟩⟩, relOs_fill rel h2 z fun q i hq a n ha => by rw [show j + 1 + q = j + (q + 1) by omega]; exact k (q + 1) i (by simpa using hq) a n ha⟩
    · cases e
theorem idxOf_nodup {i : Nat} : ∀ {spec : List (Option Nat)} {k : Nat}, (spec.filterMap id).Nodup → spec[k]? = some (some i) → spec.idxOf? (some i) = some k
  | [], _, _, h => by simp at h
  | x :: sp, 0, _, h => by
    simp at h; subst h
    simp [List.idxOf?, List.findIdx?_cons]
  | x :: sp, k + 1, hn, h => by
    have h' : sp[k]? = some (some i) := by simpa using h
    have hx : x ≠ some i := fun q => by
      subst q
      rw [List.filterMap_cons] at hn
      simp only [id] at hn
      rw [List.nodup_cons] at hn
      exact hn.1 (List.mem_filterMap.mpr ⟨some i, List.mem_of_getElem? h', rfl⟩)
    have hn' : (sp.filterMap id).Nodup := by
      cases x with
      | none => rw [List.filterMap_cons] at hn; exact hn
      | some q =>
        rw [List.filterMap_cons] at hn
        simp only [id] at hn
        rw [List.nodup_cons] at hn
        exact hn.2
    have ih := idxOf_nodup (k := k) hn' h'
    unfold List.idxOf? at ih ⊢
    rw [List.findIdx?_cons, ih]
    have : (x == some i) = false := by simpa using hx
    rw [this]
    rfl
theorem idxOf_mem {x : Option Nat} : ∀ {spec : List (Option Nat)}, x ∉ spec → spec.idxOf? x = none
  | [], _ => rfl
  | y :: sp, h => by
    simp only [List.mem_cons, not_or] at h
    have ih := idxOf_mem h.2
    unfold List.idxOf? at ih ⊢
    rw [List.findIdx?_cons, ih]
    have : (y == x) = false := by simpa using Ne.symm h.1
    rw [this]
    rfl
theorem relE_back {K : Fr} {H H' : Hp} {ow owc : OW} {env : Env} {σ : L2.St} {spec : List (Option Nat)} {ds : List D} {vs : List V} {os' : List O} (rel : RelE K H ow env σ) (ra : RelA K H σ spec ds vs) (hl : os'.length = spec.length) (ro : RelOs K H' owc .sl 0 os' vs) (s : StepS H (toC spec ow) H' owc) :
    RelE K H' (fromC spec ow owc) (store spec os' env) σ where
  tab := s.ext.tab rel.tab
  len := by rw [store_length]; exact rel.len
  rel := fun i o h => by
    rcases store_get i h with ⟨j, h1, h2⟩ | ⟨h1, h2⟩
    · obtain ⟨v, h3, h4⟩ := ra.place h1
      obtain ⟨v', h5, h6⟩ := ro.get h2
      rw [h3] at h5
      cases h5
      refine ⟨v, h4, h6.kp ⟨Ext.refl H', fun a n ha o ho _ => ⟨ho, ?_⟩⟩⟩
      rw [Nat.zero_add] at ha
      unfold fromC
      rw [ha]
      simp only [h1]
    · have hn : some i ∉ spec := h1.resolve_right (by omega)
      obtain ⟨v, h3, h4⟩ := rel.rel i o h2
      refine ⟨v, h3, h4.kp ⟨s.ext, fun a n ha o ho nt => ?_⟩⟩
      have nc : toC spec ow a = none := by
        unfold toC
        rw [ha]
        simp only [idxOf_mem hn]
        rfl
      refine ⟨s.keep a o ho nc nt, ?_⟩
      have z : owc a = none := s.free ho nt nc
      unfold fromC
      rw [z, ha]
      exact if_neg hn
theorem RelA.length {K : Fr} {H : Hp} {σ : L2.St} : ∀ {spec : List (Option Nat)} {ds : List D} {vs : List V}, RelA K H σ spec ds vs → vs.length = spec.length
  | [], _, _, h => by
    obtain ⟨_, rfl⟩ := h
    rfl
  | none :: sp, _, _, h => by
    obtain ⟨d, dr, v, vr, rfl, rfl, h1, h2⟩ := h
    rw [List.length_cons, List.length_cons, RelA.length h2]
  | some i :: sp, _, _, h => by
    obtain ⟨v, vr, rfl, h1, h2⟩ := h
    rw [List.length_cons, List.length_cons, RelA.length h2]
theorem call_sp {K : Fr} {mf : MF} {σ : L2.St} {H : Hp} {Q : VK} (hnd : (spec.filterMap id).Nodup) (h : rdG K W (callM spec mr mf) σ H fun o H' ow' => ∀ v, RelO K H' ow' .tmp o v → Q v H') :
    rdArg K W spec mr σ H fun vs H1 => spM K spec.length mf vs H1 Q (WE W σ) := by
  refine (rdG.bind (m := mr) h).mono fun ds H1 ow1 h1 vs ra => ?_
  obtain ⟨env, r, rel, e, q⟩ := h1
  cases z : fill spec ds env with
  | none => simp only [z] at e; cases e
  | some os =>
    simp only [z] at e
    have ro := relOs_fill (owc := toC spec ow1) (j := 0) rel ra z fun k i hk a n ha => by
      unfold toC
      rw [ha, Nat.zero_add]
      simp only [idxOf_nodup hnd hk]
      rfl
    refine ⟨ra.length, rel.tab, toC spec ow1, os, ?_⟩
    cases y : mf os with
    | none => rw [y] at e; cases e
    | some rf =>
      rw [y] at e
      refine ⟨rf, ro, rfl, ?_⟩
      cases rf with
      | ok o os' =>
        cases Option.some.inj e
        intro v H' ow' ro' rv st
        refine q H' _ (relE_back rel ra (by rw [ro'.length, ra.length]) ro' st) (fromC_step st) v (rv.kp ⟨Ext.refl H', fun a n ha o ho _ => ⟨ho, ?_⟩⟩)
        unfold fromC
        rw [ha]
      | exc c os' =>
        cases Option.some.inj e
        intro H' ow' ro' st
        exact q H' _ (relE_back rel ra (by rw [ro'.length, ra.length]) ro' st) (fromC_step st)
theorem sim_callO {k : Nat} {f : Addr} {fd : FuncData} {ps : List Str} {x : Str} {n : Nat} {mf : MF} (F : FnOk X.prog X.w X.K X.mg X.base (L2.CX X.prog X.w) k f fd ps (spM X.K n mf)) (hr : Room k X.A) (hx : Takes X W ∨ ∀ σ, PassesAt (L2.CX X.prog X.w) X σ (WE W σ)) (hg : Gl X x) (hm : X.mg x = some (.ref f)) (hk : PySem.W.keepIn X.K (.ref f) = true) (hb : Binds X.K fd ps []) (hnd : (spec.filterMap id).Nodup)
    (ha : PA X (e :: es) (rdArg X.K W spec mr)) (hl : spec.length = n := by rfl) (hdb : (x == ("__debug__" : Str)) = false := by decide) (he : starEach (e :: es) X.env = (false, eval e X.env) :: starEach es X.env := by rfl) (hpl : (backTo pos (starEach es X.env)).any (·.1) = false := by rfl) :
    PE X (.Call (.Name x p) (e :: es) [] pos) (rdO X.K W (callM spec mr mf)) := by
  subst hl
  exact PEimp (pe_callS F hr hg hm hk hb (hx.elim (fun tk σ => passAt tk σ) id) ha hdb he hpl) fun σ H Q q => call_sp hnd q
theorem sim_asD {mo : M O} (h : PE X e (rdO X.K W mo)) : PE X e (rdD X.K W (asD mo)) := PEimp h fun σ H Q q => by
  refine (rdG.bind (m := mo) q).mono fun o H1 ow1 h1 v rv => ?_
  have h2 := rdG.of h1
  split at h2
  · rename_i d
    obtain ⟨ow2, p⟩ := rdG.const (a := d) h2
    exact p v rv
  · obtain ⟨_, _, _, _, e, _⟩ := h2
    cases e
def asO (m : M D) : M O := bnd m fun d => M.ret (.f (.d d))
theorem sim_asO (h : PE X e (rdD X.K W m)) : PE X e (rdO X.K W (asO m)) := PEimp h fun σ H Q q => by
  refine (rdG.bind (m := m) q).mono fun d H1 ow1 h1 v rv => ?_
  obtain ⟨ow2, p⟩ := rdG.const (a := O.f (.d d)) (rdG.of h1)
  exact p v rv
end
/-! ### bodies -/
def env0 (n : Nat) (os : List O) : Env := os.map some ++ List.replicate (n - os.length) none
/-- the arguments behind the call: a place's as it is then, data as it was -/
def outs (np : Nat → Bool) (e : Env) : Nat → List O → Option (List O)
  | _, [] => some []
  | j, o :: os => match (if np j = true then (match e[j]? with
      | some (some o') => some o'
      | _ => none) else (match o with
      | .f (.d d) => some (.f (.d d))
      | _ => none)) with
    | some o' => (outs np e (j + 1) os).map (o' :: ·)
    | none => none
def bodyF (np : Nat → Bool) (n : Nat) (ms : MS) : MF := fun os => match ms (env0 n os) with
  | some (.next e) => (outs np e 0 os).map (RF.ok (.f (.d .none)))
  | some (.ret o e) => (outs np e 0 os).map (RF.ok o)
  | some (.exc c e) => (outs np e 0 os).map (RF.exc c)
  | _ => none
theorem relE_start {K : Fr} {H : Hp} {ow : OW} {N : List Str} {os : List O} {vs : List V} (t : TbOk H) (r : RelOs K H ow .sl 0 os vs) : RelE K H ow (env0 N.length os) (start N vs) where
  tab := t
  len := by
    unfold L2.start env0
    rw [List.length_append, List.length_append, List.length_map, List.length_map, List.length_replicate, List.length_replicate, r.length]
  rel := fun i o h => by
    unfold env0 at h
    by_cases hi : i < os.length
    · rw [List.getElem?_append_left (by rw [List.length_map]; exact hi), List.getElem?_map] at h
      cases z : os[i]? with
      | none => rw [z] at h; cases h
      | some o' =>
        rw [z] at h
        cases h
        obtain ⟨v, h1, h2⟩ := r.get z
        refine ⟨v, ?_, by rw [Nat.zero_add] at h2; exact h2⟩
        unfold L2.start
        rw [List.getElem?_append_left (by rw [List.length_map, ← r.length]; exact hi), List.getElem?_map, h1]
        rfl
    · rw [List.getElem?_append_right (by rw [List.length_map]; omega)] at h
      rw [List.getElem?_replicate] at h
      split at h <;> cases h
theorem outs_rel {K : Fr} {H H' : Hp} {ow ow' : OW} {np : Nat → Bool} {e : Env} {σ0 σ : L2.St} (x : Ext H H') (re : RelE K H' ow' e σ) (pin : Pin np σ0 σ) : ∀ {j : Nat} {os os' : List O} {vs : List V}, RelOs K H ow .sl j os vs → (∀ k v, vs[k]? = some v → σ0[j + k]? = some (some v)) → outs np e j os = some os' → RelOs K H' ow' .sl j os' vs
  | j, [], os', vs, r, _, h => by
    cases Option.some.inj h
    exact r
  | j, o :: os, os', vs, r, hs, h => by
    obtain ⟨v, vr, rfl, h1, h2⟩ := r
    unfold outs at h
    split at h
    · rename_i o' ho
      cases z : outs np e (j + 1) os with
      | none => rw [z] at h; cases h
      | some os2 =>
        rw [z] at h
        cases Option.some.inj h
        have s0 : σ0[j]? = some (some v) := hs 0 v rfl
        refine ⟨v, vr, rfl, ?_, outs_rel x re pin h2 (fun k w hk => by rw [show j + 1 + k = j + (k + 1) by omega]; exact hs (k + 1) w (by simpa using hk)) z⟩
        split at ho
        · rename_i hn
          split at ho
          · rename_i o2 he
            cases Option.some.inj ho
            obtain ⟨w, h3, h4⟩ := re.rel j _ he
            rw [pin.2 j hn, s0] at h3
            cases h3
            exact h4
          · cases ho
        · split at ho
          · rename_i d
            cases Option.some.inj ho
            exact RelD.ext x d v h1
          · cases ho
    · cases h
theorem body_sp {K : Fr} {np : Nat → Bool} {N : List Str} {n : Nat} {ms : MS} {vs : List V} {H : Hp} {Q : VK} {E : XK} (h : spM K n (bodyF np N.length ms) vs H Q E) :
    rdS K (fun cls d _ H => E cls d H) np ms { nx := fun _ H' => Q .non H', rt := Q } (start N vs) H := by
  obtain ⟨hl, tb, ow, os, r, ro, e, q⟩ := h
  have hs : ∀ k v, vs[k]? = some v → (start N vs)[0 + k]? = some (some v) := fun k v hk => by
    rw [Nat.zero_add]
    unfold L2.start
    rw [List.getElem?_append_left (by rw [List.length_map]; exact (List.getElem?_eq_some_iff.mp hk).1), List.getElem?_map, hk]
    rfl
  unfold bodyF at e
  cases z : ms (env0 N.length os) with
  | none => rw [z] at e; cases e
  | some rs =>
    rw [z] at e
    refine ⟨_, ow, rs, relE_start tb ro, z, ?_⟩
    cases rs with
    | next e' =>
      cases y : outs np e' 0 os with
      | none => simp only [y] at e; cases e
      | some os' =>
        simp only [y] at e
        cases Option.some.inj e
        exact fun σ' H' ow' r' s' p' => q .non H' ow' (outs_rel s'.ext r' p' ro hs y) rfl s'
    | ret o e' =>
      cases y : outs np e' 0 os with
      | none => simp only [y] at e; cases e
      | some os' =>
        simp only [y] at e
        cases Option.some.inj e
        exact fun v σ' H' ow' r' rv s' p' => q v H' ow' (outs_rel s'.ext r' p' ro hs y) rv s'
    | exc c e' =>
      cases y : outs np e' 0 os with
      | none => simp only [y] at e; cases e
      | some os' =>
        simp only [y] at e
        cases Option.some.inj e
        exact fun σ' H' ow' r' s' p' => q H' ow' (outs_rel s'.ext r' p' ro hs y) s'
    | brk e' => cases e
    | cont e' => cases e
section
variable {P : Program} {w : World} {K : PySem.W.Frag} {mg : Str → Option Value} {base : Heap} {x qual : Str} {params : Arguments} {body : List Stmt} {scope : Scope} {f : Addr} {fd : FuncData} {N ps : List Str}
/-- a def keeps the promise of its body -/
theorem fn_body {k n : Nat} {np : Nat → Bool} {ms : MS} {mf : MF} (F : FunD K x qual params body scope [] [] f fd) (S : FnScope N ps scope) (hmf : mf = bodyF np N.length ms) (hn : ps.length = n)
    (hb : ∀ (cdv : Value) (A : Around) (outer : List PySem.Env) (s : Shared) (H : Hp) (E : XK), Room k (A.deeper (PyProof.Rows.envOfC qual scope s.heap.objs.size f cdv)) → Takes (cxOf (L2.CX P w) P w K mg base N qual scope f cdv A outer s H E) (fun cls d _ H => E cls d H) →
      PSs (cxOf (L2.CX P w) P w K mg base N qual scope f cdv A outer s H E) body (rdS K (fun cls d _ H => E cls d H) np ms)) :
    FnOk P w K mg base (L2.CX P w) (k + 1) f fd ps (spM K n mf) := by
  subst hmf
  refine F.ok S (fun vs H Q E h => by rw [hn]; exact h.1) fun cdv A outer s H vs Q E hr hsp => ⟨_, hb cdv A outer s H E hr (takes_of rfl rfl rfl rfl), body_sp hsp⟩
theorem passNo {X : Cx} (σ : L2.St) : PassesAt (L2.CX X.prog X.w) X σ (WE noX σ) := fun _ _ _ _ _ _ c => by
  obtain ⟨_, _, _, _, _, _, _, _, _, _, _, _, h⟩ := c
  exact h.elim
/-- a promise of less -/
theorem spM_level {k j n : Nat} {mf : MF} (F : FnOk P w K mg base (L2.CX P w) j f fd ps (spM K n mf)) (h : j ≤ k) : FnOk P w K mg base (L2.CX P w) k f fd ps (spM K n mf) := F.mono h
end
end Pm

/-! ## Pm7 -/
set_option Elab.async false
set_option linter.all false
set_option maxRecDepth 100000
set_option maxHeartbeats 2000000
/-! Pm7: lists that are made anew; lists that their owner changes; built-in calls. -/
namespace Pm
open PySem PySem.Spec L2
variable [TabCtx]

/-! ### list.extend: any list or tuple behind it -/
section
variable {l b : Addr} {us ws : Array Value} {n n2 : Nat} {dct : Option Addr} {sl : Array (Option Value)}
open AutoSeq1 in
theorem meets_extL (h0 : ¬(!us.isEmpty && Builtin.List.listTooLong (us.size + ws.size)) = true) (h1 : us.size ≤ sizeLine) (h2 : us.size + ws.size ≤ sizeLine + 1) :
    Meets (Builtin.«list.extend» ⟨[.ref l, .ref b], []⟩) (fun _ R s => s.heap.get? l = some { cls := .type "list", dict := none, data := .seq us n, slots := #[] } ∧ s.heap.get? b = some { cls := .type "list", dict := dct, data := .seq ws n2, slots := sl } ∧
      R (.ok (.ret .none)) { s with heap := s.heap.update l (Obj.mapSeq fun q => q ++ ws), toks := s.toks }) := .of_wp fun P w A R s y => by
    obtain ⟨hp, g, d, tk, os⟩ := s
    obtain ⟨k1, k2, y⟩ := y
    have q1 := idx_int
    have q2 := sub_tuple_tuple
    have q3 := sub_list_list
    have q4 := sub_tuple_list
    have q5 := sub_list_tuple
    have q6 : (us ++ ws).size ≤ sizeLine + 1 := Array.size_append ▸ h2
    wp_walk using (wpAny_updateSeq k1 rfl (hz := h1) (_hz' := q6)), wpAny_loadPart' k1, wpAny_loadPart' k2
    exact ⟨_, rfl, y⟩
open AutoSeq1 in
theorem meets_extT (h0 : ¬(!us.isEmpty && Builtin.List.listTooLong (us.size + ws.size)) = true) (h1 : us.size ≤ sizeLine) (h2 : us.size + ws.size ≤ sizeLine + 1) :
    Meets (Builtin.«list.extend» ⟨[.ref l, .ref b], []⟩) (fun _ R s => s.heap.get? l = some { cls := .type "list", dict := none, data := .seq us n, slots := #[] } ∧ s.heap.get? b = some { cls := .type "tuple", dict := dct, data := .seq ws n2, slots := sl } ∧
      R (.ok (.ret .none)) { s with heap := s.heap.update l (Obj.mapSeq fun q => q ++ ws), toks := s.toks }) := .of_wp fun P w A R s y => by
    obtain ⟨hp, g, d, tk, os⟩ := s
    obtain ⟨k1, k2, y⟩ := y
    have q1 := idx_int
    have q2 := sub_tuple_tuple
    have q3 := sub_list_list
    have q4 := sub_tuple_list
    have q5 := sub_list_tuple
    have q6 : (us ++ ws).size ≤ sizeLine + 1 := Array.size_append ▸ h2
    wp_walk using (wpAny_updateSeq k1 rfl (hz := h1) (_hz' := q6)), wpAny_loadPart' k1, wpAny_loadPart' k2
    exact ⟨_, rfl, y⟩
end

/-- an expression that lays a new list -/
def rdN (K : Fr) (W : WX) (m : M (List D)) : TE := fun σ H Q => rdG K W m σ H fun ds H' _ => ∀ p ys, H' p = none → RelDs K H' ds ys → Q (.ref p) (upd H' p (.lst ys))
def mkL (m : M (List D)) : M O := bnd m fun ds => M.ret (.l ds)
/-- items within the line -/
def linM (m : M (List D)) : M (List D) := bnd m fun ds => if ds.length ≤ sizeLine then M.ret ds else fun _ => none
/-- the items of a list or a tuple (of a frozen list's or a place's reading) -/
def itemsB (m : M D) : M (List D) := bnd m fun d => match d with
  | .list ds => M.ret ds
  | .tuple ds => M.ret ds
  | _ => fun _ => none
section
variable {X : Cx} {W : WX} {np : Nat → Bool} {e e2 : Expr} {es : List Expr} {pos p p2 pos2 : Pos} {m ma mb : M D} {ml : M (List D)}
theorem sim_nO (h : PE X e (rdN X.K W ml)) : PE X e (rdO X.K W (mkL ml)) := PEimp h fun σ H Q q => by
  refine (rdG.bind (m := ml) q).mono fun ds H1 ow1 h1 p ys hp ry => ?_
  obtain ⟨env, r, rel, e, z⟩ := h1
  cases Option.some.inj e
  have nw : New H1 (upd H1 p (.lst ys)) := New.upd hp
  have tn : trim H1 ow1 p = none := trim_none hp
  exact z _ (owNew (trim H1 ow1) p) ((nw.relE (rel.kp fun i => trim_kp H1 ow1 _)).kp fun i => owNew_kp tn _) (((trim_step H1 ow1).trans (nw.step _)).owNew hp) _ ⟨p, ys, rfl, if_pos rfl, upd_same, RelDs.ext nw.ext _ _ ry⟩
theorem sim_nF (h : PE X e (rdN X.K W ml)) : PE X e (rdD X.K W (lstM ml)) := PEimp (pe_frz h) fun σ H Q q => by
  refine (rdG.bind (m := ml) q).mono fun ds H1 ow1 h1 p ys hp ry => ?_
  refine ⟨p, _, rfl, upd_same, True.intro, fun o => ?_⟩
  rw [upd_upd]
  have h2 := rdG.of h1
  split at h2
  · rename_i hz
    obtain ⟨x, hx, pp⟩ := (show rdG X.K W (M.lift (some (PyData.list ds))) σ H1 _ from h2).lift
    cases hx
    have n : New H1 (upd H1 p (.frz o (.lst ys))) := New.upd hp
    obtain ⟨_, pp⟩ := pp _ n
    exact pp _ ⟨p, ys, rfl, .inl ⟨o, upd_same⟩, hz, RelDs.ext n.ext _ _ ry⟩
  · obtain ⟨_, _, _, _, e, _⟩ := h2
    cases e
theorem sim_lstN (h : PA X es (rdAs X.K W ml)) : PE X (.List es pos) (rdN X.K W (linM ml)) := PEimp (pe_lst h) fun σ H Q q => by
  refine (rdG.bind (m := ml) q).mono fun ds H1 ow1 h1 xs rxs => ?_
  have h2 := rdG.of h1
  split at h2
  · rename_i hz
    obtain ⟨ow, pp⟩ := rdG.const (a := ds) h2
    exact ⟨by rw [← rxs.length]; exact hz, fun p hp => pp p xs hp rxs⟩
  · obtain ⟨_, _, _, _, e, _⟩ := h2
    cases e
/-- the items of what may be read now -/
theorem rdB_items {K : Fr} {σ : L2.St} {H : Hp} {post : List D → Hp → OW → Prop} {Q : VK} (h : rdG K W (itemsB m) σ H post)
    (f : ∀ ds H' ow' a xs, (SqL K H' a xs ∨ SqT K H' a xs) → RelDs K H' ds xs → post ds H' ow' → Q (.ref a) H') : rdB K W m σ H Q := by
  refine (rdG.bind (m := m) h).mono fun d H1 ow1 h1 v rv => ?_
  have h2 := rdG.of h1
  cases d with
  | list ds =>
    obtain ⟨ow, pp⟩ := rdG.const (a := ds) h2
    obtain ⟨a, xs, rfl, h3, h4⟩ := rv.list
    exact f ds H1 ow a xs (.inl h3) h4 pp
  | tuple ds =>
    obtain ⟨ow, pp⟩ := rdG.const (a := ds) h2
    obtain ⟨a, xs, rfl, h3, h4⟩ := rv.tuple
    exact f ds H1 ow a xs (.inr h3) h4 pp
  | _ =>
    obtain ⟨_, _, _, _, e, _⟩ := h2
    cases e
theorem pa1 {t : TE} (h : PE X e t) (hs : starEach (e :: []) X.env = (false, eval e X.env) :: starEach [] X.env := by rfl) : PA X [e] (fun σ H Q => t σ H fun v H1 => Q [v] H1) := pa_cons h pa_nil hs
/-- list(e) -/
theorem sim_listN (hg : Gl X "list") (hm : X.mg "list" = none) (h : PE X e (rdB X.K W m)) (hs : starEach (e :: []) X.env = (false, eval e X.env) :: starEach [] X.env := by rfl) :
    PE X (.Call (.Name "list" p) [e] [] pos) (rdN X.K W (itemsB m)) := PEimp (pe_callTy call_list_of hg hm PyProof.Rows.boot_list (pa1 h hs) (by decide) (by decide) hs) fun σ H Q q =>
  rdB_items q fun ds H' ow' a xs sq rd pp => ⟨a, xs, rfl, sq, fun l hl => pp l xs hl rd⟩
/-- tuple(e) -/
def tupB1 (m : M D) : M D := bnd (itemsB m) fun ds => if ds.length ≤ sizeLine then cst (.tuple ds) else fun _ => none
theorem sim_tupleC (hg : Gl X "tuple") (hm : X.mg "tuple" = none) (h : PE X e (rdB X.K W m)) (hs : starEach (e :: []) X.env = (false, eval e X.env) :: starEach [] X.env := by rfl) :
    PE X (.Call (.Name "tuple" p) [e] [] pos) (rdD X.K W (tupB1 m)) := PEimp (pe_callTy call_tuple_of hg hm PyProof.Rows.boot_tuple (pa1 h hs) (by decide) (by decide) hs) fun σ H Q q => by
  refine rdB_items (rdG.bind q) fun ds H' ow' a xs sq rd pp => ?_
  have h2 := rdG.of pp
  split at h2
  · rename_i hz
    obtain ⟨x, hx, pp⟩ := (show rdG X.K W (M.lift (some (PyData.tuple ds))) σ H' _ from h2).lift
    cases hx
    rcases sq with sq | sq
    · refine ⟨a, xs, rfl, .inl ⟨sq, fun l hl => ?_⟩⟩
      have n : New H' (upd H' l (.tup xs)) := New.upd hl
      obtain ⟨_, pp⟩ := pp _ n
      exact pp _ ⟨l, xs, rfl, SqT.of upd_same, hz, RelDs.ext n.ext _ _ rd⟩
    · refine ⟨a, xs, rfl, .inr ⟨sq, ?_⟩⟩
      obtain ⟨_, pp⟩ := pp _ (New.refl H')
      exact pp _ ⟨a, xs, rfl, sq, hz, rd⟩
  · obtain ⟨_, _, _, _, e, _⟩ := h2
    cases e
/-- e[::-1] of a list -/
def revB (m : M D) : M (List D) := bnd m fun d => match d with
  | .list ds => M.ret ds.reverse
  | _ => fun _ => none
theorem sim_revN {k : Nat} {p1 p2 p3 : Pos} (h : PE X e (rdB X.K W m)) : PE X (.Subscript e (.Slice none none (some (.UnaryOp .USub (.Constant (.int 1) k p1) p2)) p3) pos) (rdN X.K W (revB m)) := PEimp (pe_revL h) fun σ H Q q => by
  refine (rdG.bind (m := m) q).mono fun d H1 ow1 h1 v rv => ?_
  have h2 := rdG.of h1
  cases d with
  | list ds =>
    obtain ⟨ow, pp⟩ := rdG.const (a := ds.reverse) h2
    obtain ⟨a, xs, rfl, h3, h4⟩ := rv.list
    exact ⟨a, xs, rfl, h3, fun l hl => pp l _ hl h4.reverse⟩
  | _ =>
    obtain ⟨_, _, _, _, e, _⟩ := h2
    cases e
/-- e[lo:hi] of a list -/
def cutB (m : M D) (m1 m2 : M (Option Int)) : M (List D) := bnd m fun d => bnd m1 fun lo => bnd m2 fun hi => match d with
  | .list ds => M.ret (cutD ds lo hi)
  | _ => fun _ => none
theorem sim_cutN {lo hi : Option Expr} {m1 m2 : M (Option Int)} (h : PE X e (rdD X.K W m)) (hl : PO X lo (rdP X.K W m1)) (hh : PO X hi (rdP X.K W m2)) : PE X (.Subscript e (.Slice lo hi none p2) pos) (rdN X.K W (cutB m m1 m2)) := PEimp (pe_slice sl_list h hl hh) fun σ H Q q => by
  refine (rdG.bind (m := m) q).mono fun d H1 ow1 h1 v rv => ?_
  refine (rdG.bind (m := m1) (rdG.of h1)).monoX fun l H2 ow2 x2 h2 => ?_
  refine (rdG.bind (m := m2) (rdG.of h2)).monoX fun h H3 ow3 x3 h3 => ?_
  have h4 := rdG.of h3
  cases d with
  | list ds =>
    obtain ⟨ow, pp⟩ := rdG.const (a := cutD ds l h) h4
    obtain ⟨a, xs, rfl, k1, _, k2⟩ := RelD.ext (x2.trans x3) _ _ rv
    exact ⟨a, xs, rfl, k1.sqL, fun q hq => pp q _ hq (k2.cut l h)⟩
  | _ =>
    obtain ⟨_, _, _, _, e, _⟩ := h4
    cases e
/-- .. the list at a slot -/
def cutPl (i : Nat) (m1 m2 : M (Option Int)) : M (List D) := bnd (plc i) fun _ => bnd m1 fun lo => bnd m2 fun hi => bnd (plc i) fun d => match d with
  | .list ds => M.ret (cutD ds lo hi)
  | _ => fun _ => none
theorem sim_cutPl (i : Nat) {x : Str} {lo hi : Option Expr} {m1 m2 : M (Option Int)} (hl : PO X lo (rdP X.K W m1)) (hh : PO X hi (rdP X.K W m2)) (hN : X.N[i]? = some x := by rfl) (hv : Vis X.env.scope x := by first | exact Or.inl rfl | exact Or.inr (Or.inl rfl) | exact Or.inr (Or.inr rfl)) (hd : (x == ("__debug__" : Str)) = false := by decide)
    (hcd : (x == ("__classdict__" : Str)) = false := by decide) : PE X (.Subscript (.Name x p) (.Slice lo hi none p2) pos) (rdN X.K W (cutPl i m1 m2)) := PEimp (pe_slice sl_list (pe_var hN hv hd hcd) hl hh) fun σ H Q q => by
  obtain ⟨env, ow, r, rel, e, q⟩ := q
  unfold cutPl bnd at e
  cases z : plc i env with
  | none => rw [z] at e; cases e
  | some r1 =>
    have z0 := z
    unfold plc at z
    split at z
    · rename_i o ho
      obtain ⟨v, hs, _⟩ := rel.rel i o ho
      cases z2 : slotB o with
      | none => rw [z2] at z; cases z
      | some d0 =>
        rw [z2] at z
        cases Option.some.inj z
        rw [z0] at e
        refine ⟨v, hs, ?_⟩
        refine (rdG.bind (m := m1) (k := fun lo => bnd m2 fun hi => bnd (plc i) fun d => match d with
          | .list ds => M.ret (cutD ds lo hi)
          | _ => fun _ => none) ⟨env, ow, r, rel, e, q⟩).mono fun l H2 ow2 h2 => ?_
        refine (rdG.bind (m := m2) (rdG.of h2)).mono fun h H3 ow3 h3 => ?_
        obtain ⟨d, ow4, bd, h4⟩ := plc_at hs (rdG.bind (m := plc i) (rdG.of h3))
        have h5 := rdG.of h4
        cases d with
        | list ds =>
          obtain ⟨ow, pp⟩ := rdG.const (a := cutD ds l h) h5
          obtain ⟨a, xs, rfl, k1, k2⟩ := bd.list
          exact ⟨a, xs, rfl, k1, fun q hq => pp q _ hq (k2.cut l h)⟩
        | _ =>
          obtain ⟨_, _, _, _, e, _⟩ := h5
          cases e
    · cases z

/-! ### lists that their owner changes -/
/-- what a method does to the list -/
def LOp (K : Fr) (r : V → List V → Hp → VK → Prop) (f : List D → List D → Option (D × List D)) : Prop :=
  ∀ (a : Addr) (xs vs : List V) (dxs ds dxs' : List D) (d : D) (H : Hp) (Q : VK), H a = some (.lst xs) → dxs.length ≤ sizeLine → RelDs K H dxs xs → RelDs K H ds vs → f dxs ds = some (d, dxs') →
    (∀ v xs', RelD K (upd H a (.lst xs')) d v → RelDs K (upd H a (.lst xs')) dxs' xs' → Q v (upd H a (.lst xs'))) → r (.ref a) vs H Q
def isL {α : Type} (i : Nat) (m : M α) : M α := fun e => match e[i]? with
  | some (some (.f (.l _))) => m e
  | _ => none
def atL (i : Nat) (f : List D → Option (D × List D)) : M D := fun e => match e[i]? with
  | some (some (.f (.l xs))) => if xs.length ≤ sizeLine then (match f xs with
    | some (d, xs') => some (.ok d (e.set i (some (.l xs'))))
    | none => none) else none
  | _ => none
def mutL (i : Nat) (ml : M (List D)) (f : List D → List D → Option (D × List D)) : M D := isL i (bnd ml fun ds => atL i fun xs => f xs ds)
theorem atL_run {K : Fr} {r : V → List V → Hp → VK → Prop} {f : List D → List D → Option (D × List D)} {i : Nat} {v : V} {vs : List V} {ds : List D} {σ : L2.St} {H : Hp} {Q : VK} (hop : LOp K r f) (hs : σ[i]? = some (some v)) (rv : RelDs K H ds vs)
    (h : rdG K W (atL i fun xs => f xs ds) σ H fun d H' _ => ∀ v, RelD K H' d v → Q v H') : r v vs H Q := by
  obtain ⟨env, ow, r1, rel, e, q⟩ := h
  unfold atL at e
  split at e
  · rename_i xs he
    split at e
    · rename_i hz
      cases z : f xs ds with
      | none => simp only [z] at e; cases e
      | some y =>
        obtain ⟨d, xs'⟩ := y
        simp only [z] at e
        cases Option.some.inj e
        obtain ⟨v', h1, a, ys, rfl, h2, h3, h4⟩ := rel.rel i _ he
        rw [hs] at h1
        cases h1
        refine hop a ys vs xs ds xs' d H Q h3 hz h4 rv z fun v ys' rd rx => ?_
        exact q _ ow (rel.upd (ne_len he) hs h3 True.intro h2 ⟨a, ys', rfl, h2, upd_same, rx⟩) (Step.upd h3 True.intro h2) v rd
    · cases e
  · cases e
theorem isL_at {K : Fr} {α : Type} {i : Nat} {m : M α} {σ : L2.St} {H : Hp} {post : α → Hp → OW → Prop} (h : rdG K W (isL i m) σ H post) : ∃ a xs, σ[i]? = some (some (.ref a)) ∧ H a = some (.lst xs) ∧ rdG K W m σ H post := by
  obtain ⟨env, ow, r1, rel, e, q⟩ := h
  unfold isL at e
  split at e
  · rename_i xs he
    obtain ⟨v', h1, a, ys, rfl, h2, h3, h4⟩ := rel.rel i _ he
    exact ⟨a, ys, h1, h3, env, ow, r1, rel, e, q⟩
  · cases e
theorem sim_lm {name : Str} {id : String} {r : V → List V → Hp → VK → Prop} {f : List D → List D → Option (D × List D)} {apos cpos : Pos} (i : Nat) {x : Str} (hop : LOp X.K r f) (slot : Slot "list" name id) (hty : typeOf (.builtin id) = pure (.type "method_descriptor")) (hmt : MtR X id r) (ha : PA X (e :: es) (rdAs X.K W ml))
    (hN : X.N[i]? = some x := by rfl) (hv : Vis X.env.scope x := by first | exact Or.inl rfl | exact Or.inr (Or.inl rfl) | exact Or.inr (Or.inr rfl)) (hd : (x == ("__debug__" : Str)) = false := by decide) (hcd : (x == ("__classdict__" : Str)) = false := by decide)
    (hbase : attributeBase (.Name x p) name X.env (eval (.Name x p) X.env) = eval (.Name x p) X.env := by rfl)
    (hfew : ((backTo cpos (starEach (e :: es) X.env)).all (fun x => !x.1) && (backToKw cpos (keywordEach [] X.env)).all (fun x => x.1.isSome)
      && decide ((e :: es).length + ([] : List Keyword).length + (if ([] : List Keyword).isEmpty then 0 else 1) < 30)) = true := by rfl)
    (hline : (apos.endLine == cpos.line) = true := by rfl) (hs : starEach (e :: es) X.env = (false, eval e X.env) :: starEach es X.env := by rfl) (hplain : (backTo cpos (starEach es X.env)).any (·.1) = false := by rfl) :
    PE X (.Call (.Attribute (.Name x p) name apos) (e :: es) [] cpos) (rdD X.K W (mutL i ml f)) := PEimp (pe_bm PySem.F.plainAttrs_list slot hty hmt (pe_var hN hv hd hcd) ha hbase hfew hline hs hplain) fun σ H Q q => by
  obtain ⟨a, xs, h1, h2, h3⟩ := isL_at q
  refine ⟨.ref a, h1, .inl ⟨rfl, xs, SqL.of h2⟩, ?_⟩
  exact (rdG.bind (m := ml) h3).mono fun ds H1 ow1 h4 vs rv => atL_run hop h1 rv (rdG.of h4)
def mutL0 (i : Nat) (f : List D → List D → Option (D × List D)) : M D := isL i (atL i fun xs => f xs [])
theorem sim_lm0 {name : Str} {id : String} {r : V → List V → Hp → VK → Prop} {f : List D → List D → Option (D × List D)} {apos cpos : Pos} (i : Nat) {x : Str} (hop : LOp X.K r f) (slot : Slot "list" name id) (hty : typeOf (.builtin id) = pure (.type "method_descriptor")) (hmt : MtR X id r)
    (hN : X.N[i]? = some x := by rfl) (hv : Vis X.env.scope x := by first | exact Or.inl rfl | exact Or.inr (Or.inl rfl) | exact Or.inr (Or.inr rfl)) (hd : (x == ("__debug__" : Str)) = false := by decide) (hcd : (x == ("__classdict__" : Str)) = false := by decide)
    (hbase : attributeBase (.Name x p) name X.env (eval (.Name x p) X.env) = eval (.Name x p) X.env := by rfl) (hline : (apos.endLine == cpos.line) = true := by rfl) :
    PE X (.Call (.Attribute (.Name x p) name apos) [] [] cpos) (rdD X.K W (mutL0 i f)) := PEimp (pe_bm0 PySem.F.plainAttrs_list slot hty hmt (pe_var hN hv hd hcd) hbase hline) fun σ H Q q => by
  obtain ⟨a, xs, h1, h2, h3⟩ := isL_at q
  exact ⟨.ref a, h1, .inl ⟨rfl, xs, SqL.of h2⟩, atL_run hop h1 .nil h3⟩
def appF : List D → List D → Option (D × List D) := fun xs ds => match ds with
  | [d] => if xs.length < sizeLine then some (.none, xs ++ [d]) else none
  | _ => none
theorem lop_app {K : Fr} : LOp K rAppend appF := fun a xs vs dxs ds dxs' d H Q ha hz rx rv e q => by
  unfold appF at e
  split at e
  · rename_i y
    split at e
    · rename_i hl
      cases Option.some.inj e
      obtain ⟨v, r, rfl, h1, h2⟩ := rv
      cases (show _ = _ from h2)
      have x : Ext H (upd H a (.lst (xs ++ [v]))) := Ext.upd ha True.intro
      exact ⟨a, xs, v, rfl, rfl, ha, by rw [← rx.length]; exact hl, q _ _ rfl ((RelDs.ext x _ _ rx).append (.cons (RelD.ext x _ _ h1) .nil))⟩
    · cases e
  · cases e
def popF : List D → List D → Option (D × List D) := fun xs ds => match ds with
  | [] => xs[xs.length - 1]?.map fun d => (d, xs.dropLast)
  | _ => none
theorem lop_pop {K : Fr} : LOp K rPop popF := fun a xs vs dxs ds dxs' d H Q ha hz rx rv e q => by
  unfold popF at e
  split at e
  · cases z : dxs[dxs.length - 1]? with
    | none => rw [z] at e; cases e
    | some y =>
      rw [z] at e
      cases Option.some.inj e
      cases (show _ = _ from rv)
      obtain ⟨v, h1, h2⟩ := rx.get z
      have x : Ext H (upd H a (.lst xs.dropLast)) := Ext.upd ha True.intro
      exact ⟨a, xs, v, rfl, rfl, ha, by rw [← rx.length]; exact h1, q _ _ (RelD.ext x _ _ h2) (RelDs.ext x _ _ rx.dropLast)⟩
  · cases e
/-- the argument any list or tuple -/
def rExtF (K : Fr) : V → List V → Hp → VK → Prop := fun x vs H Q => ∃ (l b : Addr) (xs zs : List V), x = .ref l ∧ vs = [.ref b] ∧ H l = some (.lst xs) ∧ (SqL K H b zs ∨ SqT K H b zs) ∧ xs.length + zs.length ≤ sizeLine ∧ Q .non (upd H l (.lst (xs ++ zs)))
theorem mt_extF : MtR X "list.extend" (rExtF X.K) := by
  intro pins s σ H x vs v us Q I rx rv h
  obtain ⟨l, b, xs, zs, rfl, rfl, hl, hb, hz, q⟩ := h
  cases rx
  obtain ⟨u, rfl, ru⟩ := rv.one
  cases ru
  obtain ⟨_, its, n, r, hlen, e⟩ := I.lstM hl
  have fin : ∀ its2 : List Value, Vals zs its2 → EP X pins σ Q .none { s with heap := s.heap.update l (Obj.mapSeq fun x => x ++ its2.toArray), toks := s.toks } := fun its2 r2 =>
    ⟨.non, _, I.lset (its' := its ++ its2) hl e (by simp) (r.append r2) (by rw [List.length_append]; exact hz), rfl, q⟩
  have sz : ∀ its2 : List Value, Vals zs its2 → its.toArray.size + its2.toArray.size ≤ sizeLine := fun its2 r2 => by rw [List.size_toArray, List.size_toArray, ← hlen, ← r2.length]; exact hz
  have lg : ∀ its2 : List Value, Vals zs its2 → ¬ (!its.toArray.isEmpty && Builtin.List.listTooLong (its.toArray.size + its2.toArray.size)) = true := fun its2 r2 => by
    rw [notLongL (sz its2 r2), Bool.and_false]
    exact Bool.false_ne_true
  have z1 : its.toArray.size ≤ sizeLine := by rw [List.size_toArray, ← hlen]; omega
  rcases hb with hb | hb
  · obtain ⟨its2, r2, ⟨o, n2, ho, hc, hd, hs⟩, _⟩ := I.list hb
    obtain ⟨c, dct, dt, sl⟩ := o
    cases hc
    cases hs
    refine call_meets PySem.F.slot_list_extend ⟨_, e, rfl⟩ PySem.F.entry_list_extend (PySem.F.args_list_extend_2 _ _) (meets_extL (n := n) (n2 := n2) (dct := dct) (sl := sl) (lg its2 r2) z1 (by have := sz its2 r2; omega)) ⟨e, ho, fin its2 r2⟩
  · obtain ⟨its2, r2, ⟨o, ho, hc, n2, hs⟩, _⟩ := I.tuple hb
    obtain ⟨c, dct, dt, sl⟩ := o
    cases hc
    cases hs
    refine call_meets PySem.F.slot_list_extend ⟨_, e, rfl⟩ PySem.F.entry_list_extend (PySem.F.args_list_extend_2 _ _) (meets_extT (n := n) (n2 := n2) (dct := dct) (sl := sl) (lg its2 r2) z1 (by have := sz its2 r2; omega)) ⟨e, ho, fin its2 r2⟩
def extF : List D → List D → Option (D × List D) := fun xs ds => match ds with
  | [.list ys] => if xs.length + ys.length ≤ sizeLine then some (.none, xs ++ ys) else none
  | [.tuple ys] => if xs.length + ys.length ≤ sizeLine then some (.none, xs ++ ys) else none
  | _ => none
theorem lop_ext {K : Fr} : LOp K (rExtF K) extF := fun a xs vs dxs ds dxs' d H Q ha hz rx rv e q => by
  unfold extF at e
  split at e
  · rename_i ys
    split at e
    · rename_i hl
      cases Option.some.inj e
      obtain ⟨v, r, rfl, ⟨b, zs, rfl, h1, _, h2⟩, h3⟩ := rv
      cases (show _ = _ from h3)
      have x : Ext H (upd H a (.lst (xs ++ zs))) := Ext.upd ha True.intro
      exact ⟨a, b, xs, zs, rfl, rfl, ha, .inl h1.sqL, by rw [← rx.length, ← h2.length]; exact hl, q _ _ rfl ((RelDs.ext x _ _ rx).append (RelDs.ext x _ _ h2))⟩
    · cases e
  · rename_i ys
    split at e
    · rename_i hl
      cases Option.some.inj e
      obtain ⟨v, r, rfl, ⟨b, zs, rfl, h1, _, h2⟩, h3⟩ := rv
      cases (show _ = _ from h3)
      have x : Ext H (upd H a (.lst (xs ++ zs))) := Ext.upd ha True.intro
      exact ⟨a, b, xs, zs, rfl, rfl, ha, .inr h1, by rw [← rx.length, ← h2.length]; exact hl, q _ _ rfl ((RelDs.ext x _ _ rx).append (RelDs.ext x _ _ h2))⟩
    · cases e
  · cases e
end
end Pm

/-! ## Pm8 -/
set_option Elab.async false
set_option linter.all false
set_option maxRecDepth 100000
set_option maxHeartbeats 2000000
/-! Pm8: list + list, x[i] = e, dicts. -/
namespace Pm
open PySem PySem.Spec L2
variable [TabCtx]

section
variable {l b : Addr} {us ws : Array Value} {n n2 : Nat} {dl dct : Option Addr} {s1 sl : Array (Option Value)}
open AutoSeq1 in
theorem meets_addL (h0 : us.size + ws.size ≤ sizeLine) :
    Meets (Builtin.«list.__add__» ⟨[.ref l, .ref b], []⟩) (fun _ R s => s.heap.get? l = some { cls := .type "list", dict := dl, data := .seq us n, slots := s1 } ∧ s.heap.get? b = some { cls := .type "list", dict := dct, data := .seq ws n2, slots := sl } ∧
      R (.ok (.ret (.ref s.heap.objs.size))) { s with heap := s.heap.push { cls := .type "list", data := .seq (us ++ ws) }, toks := s.toks }) := .of_wp fun P w A R s y => by
    obtain ⟨hp, g, d, tk, os⟩ := s
    obtain ⟨k1, k2, y⟩ := y
    have q1 := idx_int
    have q2 := sub_tuple_tuple
    have q3 := sub_list_list
    have q4 := sub_tuple_list
    have q5 := sub_list_tuple
    wp_walk using wpAny_loadPart' k1, wpAny_loadPart' k2
    exact ⟨_, rfl, y⟩
end
section
variable {X : Cx} {W : WX} {np : Nat → Bool} {e e2 a b : Expr} {es : List Expr} {pos p p2 tpos : Pos} {m ma mb mi mv : M D}
/-- list + list, each frozen or its owner's -/
def rCatF (K : Fr) : R2 := fun x y H Q => ∃ (l b : Addr) (xs zs : List V), x = .ref l ∧ y = .ref b ∧ SqL K H l xs ∧ SqL K H b zs ∧ xs.length + zs.length ≤ sizeLine ∧ ∀ p, H p = none → Q (.ref p) (upd H p (.lst (xs ++ zs)))
theorem op_catF : OpR X (binaryOp .Add) (rCatF X.K) := by
  intro pins s σ H x y v u Q I rx ry ⟨l, b, xs, zs, e1, e2, hl, hb, hz, q⟩
  subst e1 e2
  cases rx
  cases ry
  obtain ⟨its, r, ⟨o, n, ho, hc, hd, hs⟩, _⟩ := I.list hl
  obtain ⟨its2, r2, ⟨o2, n2, ho2, hc2, hd2, hs2⟩, _⟩ := I.list hb
  obtain ⟨c, dct, dt, sl⟩ := o
  obtain ⟨c2, dct2, dt2, sl2⟩ := o2
  cases hc
  cases hs
  cases hc2
  cases hs2
  have sz : its.toArray.size + its2.toArray.size ≤ sizeLine := by rw [List.size_toArray, List.size_toArray, ← r.length, ← r2.length]; exact hz
  refine PySem.concat_meets ⟨_, ho, rfl⟩ ⟨_, ho2, rfl⟩ PySem.noFill_list_add PySem.seq_list_add PySem.F.slot_list_add PySem.F.entry_list_add (PySem.F.args_list_add_2 _ _) (meets_addL (n := n) (n2 := n2) (dl := dct) (s1 := sl) (dct := dct2) (sl := sl2) sz) ⟨ho, ho2, ?_⟩
  have ea : its.toArray ++ its2.toArray = (its ++ its2).toArray := by simp
  rw [ea]
  exact ⟨.ref _, _, I.lnew (t' := s.toks) (r.append r2) (by rw [List.length_append]; exact hz), rfl, q _ I.fresh⟩
def catB (ma mb : M D) : M (List D) := bnd ma fun a => bnd mb fun b => match a, b with
  | .list xs, .list ys => if xs.length + ys.length ≤ sizeLine then M.ret (xs ++ ys) else fun _ => none
  | _, _ => fun _ => none
theorem sim_catN (ha : PE X a (rdD X.K W ma)) (hb : PE X b (rdB X.K W mb)) : PE X (.BinOp a .Add b pos) (rdN X.K W (catB ma mb)) := PEimp (pe_op op_catF ha hb) fun σ H Q q => by
  refine (rdG.bind (m := ma) q).mono fun d H1 ow1 h1 x rx => ?_
  refine (rdG.bind (m := mb) (rdG.of h1)).monoX fun d2 H2 ow2 x2 h2 y ry => ?_
  have h3 := rdG.of h2
  split at h3
  · rename_i ds ds2
    split at h3
    · rename_i hz
      obtain ⟨ow, pp⟩ := rdG.const (a := ds ++ ds2) h3
      obtain ⟨l, xs, rfl, h4, h5⟩ := (BD.of (RelD.ext x2 _ _ rx)).list
      obtain ⟨l2, ys, rfl, h6, h7⟩ := ry.list
      exact ⟨l, l2, xs, ys, rfl, rfl, h4, h6, by rw [← h5.length, ← h7.length]; exact hz, fun p hp => pp p _ hp (h5.append h7)⟩
    · obtain ⟨_, _, _, _, e, _⟩ := h3
      cases e
  · obtain ⟨_, _, _, _, e, _⟩ := h3
    cases e
/-! ### x[i] = e -/
def ixD (n : Nat) : D → Option Nat
  | .int k => ixN n k
  | _ => none
def setF : List D → List D → Option (D × List D) := fun xs ds => match ds with
  | [d, k] => (ixD xs.length k).map fun j => (.none, xs.set j d)
  | _ => none
/-- the value, the list at the slot, the place -/
def setIx (i : Nat) (mv mi : M D) : MS := bndS (bnd mv fun d => isL i (bnd mi fun k => atL i fun xs => setF xs [d, k])) fun _ e => some (.next e)
theorem sim_setIx {x : Str} (i : Nat) (hv : PE X e (rdD X.K W mv)) (hi : PE X e2 (rdD X.K W mi)) (hN : X.N[i]? = some x := by rfl) (hvi : Vis X.env.scope x := by first | exact Or.inl rfl | exact Or.inr (Or.inl rfl) | exact Or.inr (Or.inr rfl)) (hd : (x == ("__debug__" : Str)) = false := by decide)
    (hcd : (x == ("__classdict__" : Str)) = false := by decide)
    (hs : swapsWithSole [.Subscript (.Name x p) e2 tpos] e pos.line X.env = pure false := by rfl) (hw : swappedStores [.Subscript (.Name x p) e2 tpos] e X.env = pure none := by rfl)
    (h1 : (assignEach [.Subscript (.Name x p) e2 tpos] X.env).map (·.2) = [assign (.Subscript (.Name x p) e2 tpos) X.env] := by rfl)
    (ha : ∀ v, assign (.Subscript (.Name x p) e2 tpos) X.env v = (do
      let ov ← holding [v] (eval (.Name x p) X.env)
      let iv ← holding [v, ov] (eval e2 X.env)
      standAt tpos
      holding [v, ov, iv] (setItem ov iv v)
      release [v, ov, iv] []) := by intro _; rfl) : PS X (.Assign [.Subscript (.Name x p) e2 tpos] e pos) (rdS X.K W np (setIx i mv mi)) := PSimp (ps_asg hv (pg_sub (pe_var hN hvi hd hcd) hi set_list ha) hs hw h1) fun D σ H q => by
  refine (rdG.bind (m := mv) (rdS.bnd q)).mono fun d H1 ow1 h1 v rv => ?_
  obtain ⟨l, xs, hsl, hl, h2⟩ := isL_at (rdG.of h1)
  refine ⟨.ref l, hsl, ?_⟩
  refine (rdG.bind (m := mi) h2).monoX fun k H2 ow2 x2 h3 iv riv => ?_
  obtain ⟨env, ow, r1, rel, e, z⟩ := rdG.of h3
  unfold atL at e
  split at e
  · rename_i xs he
    split at e
    · rename_i hz
      unfold setF at e
      simp only at e
      cases y : ixD xs.length k with
      | none => simp only [y] at e; cases e
      | some j =>
        simp only [y, Option.map_some] at e
        cases Option.some.inj e
        cases k with
        | int k =>
          cases (show _ = _ from riv)
          obtain ⟨v', k1, l', ys, rfl, k2, k3, k4⟩ := rel.rel i _ he
          rw [hsl] at k1
          cases k1
          refine ⟨l, ys, k, j, rfl, rfl, k3, by rw [← k4.length]; exact y, ?_⟩
          have xe : Ext H2 (upd H2 l (.lst (ys.set j v))) := Ext.upd k3 True.intro
          obtain ⟨env2, r2, rel2, e2, q2⟩ := z _ ow (rel.upd (ne_len he) hsl k3 True.intro k2 ⟨l, _, rfl, k2, upd_same, (RelDs.ext xe _ _ k4).set j (RelD.ext (x2.trans xe) _ _ rv)⟩) (Step.upd k3 True.intro k2)
          cases Option.some.inj e2
          exact q2 σ _ ow rel2 (StepS.refl _ _) (Pin.refl np σ)
        | _ => cases y
    · cases e
  · cases e
/-! ### dicts with whole numbers and texts as keys -/
def keyD : D → Option Key
  | .int i => some (.inl i)
  | .str s => some (.inr s)
  | _ => none
def valD {κ : Type} [DecidableEq κ] (kvs : List (κ × D)) (k : κ) : Option D := (kvs.find? fun kv => decide (kv.1 = k)).map (·.2)
def putD {κ : Type} [DecidableEq κ] (kvs : List (κ × D)) (k : κ) (v : D) : List (κ × D) :=
  if (valD kvs k).isSome then kvs.map (fun kv => if kv.1 = k then (kv.1, v) else kv) else kvs ++ [(k, v)]
theorem RelKv.val {κ : Type} [DecidableEq κ] {K : Fr} {H : Hp} (k : κ) : ∀ {kvs : List (κ × D)} {ps : List (κ × V)}, RelKv K H kvs ps → (valD kvs k = none ∧ valV ps k = none) ∨ ∃ d v, valD kvs k = some d ∧ valV ps k = some v ∧ RelD K H d v
  | [], _, h => by
    cases (show _ = _ from h)
    exact .inl ⟨rfl, rfl⟩
  | (k', d) :: r, ps, h => by
    obtain ⟨x, pr, rfl, h1, h2⟩ := h
    by_cases hk : k' = k
    · right
      subst hk
      refine ⟨d, x, ?_, ?_, h1⟩
      · simp [valD, List.find?_cons]
      · simp [valV, List.find?_cons]
    · rcases RelKv.val k h2 with ⟨e1, e2⟩ | ⟨d', v, e1, e2, e3⟩
      · left
        refine ⟨?_, ?_⟩
        · simpa [valD, List.find?_cons, hk] using e1
        · simpa [valV, List.find?_cons, hk] using e2
      · right
        refine ⟨d', v, ?_, ?_, e3⟩
        · simpa [valD, List.find?_cons, hk] using e1
        · simpa [valV, List.find?_cons, hk] using e2
theorem RelKv.map {κ : Type} [DecidableEq κ] {K : Fr} {H : Hp} (k : κ) {d : D} {v : V} (hd : RelD K H d v) : ∀ {kvs : List (κ × D)} {ps : List (κ × V)}, RelKv K H kvs ps → RelKv K H (kvs.map fun kv => if kv.1 = k then (kv.1, d) else kv) (ps.map fun kv => if kv.1 = k then (kv.1, v) else kv)
  | [], _, h => by
    cases (show _ = _ from h)
    rfl
  | (k', d') :: r, ps, h => by
    obtain ⟨x, pr, rfl, h1, h2⟩ := h
    rw [List.map_cons, List.map_cons]
    by_cases hk : k' = k
    · simp only [hk, if_true]
      exact ⟨v, _, rfl, hd, RelKv.map k hd h2⟩
    · simp only [hk, if_false]
      exact ⟨x, _, rfl, h1, RelKv.map k hd h2⟩
theorem RelKv.append {κ : Type} {K : Fr} {H : Hp} {k : κ} {d : D} {v : V} (hd : RelD K H d v) : ∀ {kvs : List (κ × D)} {ps : List (κ × V)}, RelKv K H kvs ps → RelKv K H (kvs ++ [(k, d)]) (ps ++ [(k, v)])
  | [], _, h => by
    cases (show _ = _ from h)
    exact ⟨v, [], rfl, hd, rfl⟩
  | (k', d') :: r, ps, h => by
    obtain ⟨x, pr, rfl, h1, h2⟩ := h
    exact ⟨x, _, rfl, h1, RelKv.append hd h2⟩
theorem RelKv.put {κ : Type} [DecidableEq κ] {K : Fr} {H : Hp} {k : κ} {d : D} {v : V} (hd : RelD K H d v) {kvs : List (κ × D)} {ps : List (κ × V)} (h : RelKv K H kvs ps) : RelKv K H (putD kvs k d) (putK ps k v) := by
  unfold putD putK
  rw [valV_any]
  rcases h.val k with ⟨e1, e2⟩ | ⟨d', v', e1, e2, _⟩
  · rw [e1, e2]
    simp only [Option.isSome_none, Bool.false_eq_true, if_false]
    exact RelKv.append hd h
  · rw [e1, e2]
    simp only [Option.isSome_some, if_true]
    exact RelKv.map k hd h
theorem keyD_rel {K : Fr} {H : Hp} {d : D} {v : V} {k : Key} (h : RelD K H d v) (e : keyD d = some k) : v = kV k := by
  unfold keyD at e
  split at e
  · cases e
    exact h
  · cases e
    exact h
  · cases e
theorem sim_dnew : PE X (.Dict [] [] pos) (rdO X.K W (M.ret (.mk []))) := PEimp pe_dnewK fun σ H Q q p hp => by
  obtain ⟨env, ow, r, rel, e, z⟩ := q
  cases Option.some.inj e
  have nw : New H (upd H p (.dK [])) := New.upd hp
  have tn : trim H ow p = none := trim_none hp
  exact z _ (owNew (trim H ow) p) ((nw.relE (rel.kp fun i => trim_kp H ow _)).kp fun i => owNew_kp tn _) (((trim_step H ow).trans (nw.step _)).owNew hp) _ ⟨p, [], rfl, if_pos rfl, upd_same, rfl⟩
/-- `{}` as data that nobody changes -/
theorem sim_dnewF : PE X (.Dict [] [] pos) (rdD X.K W (cst (.dict []))) := PEimp (pe_frz pe_dnewK) fun σ H Q q p hp => by
  refine ⟨p, _, rfl, upd_same, True.intro, fun o => ?_⟩
  rw [upd_upd]
  obtain ⟨x, hx, pp⟩ := (show rdG X.K W (M.lift (some (PyData.dict []))) σ H _ from q).lift
  cases hx
  obtain ⟨_, pp⟩ := pp _ (New.upd hp)
  exact pp _ ⟨rfl, p, o, rfl, upd_same⟩
/-- the dict at a slot is there -/
def isK {α : Type} (i : Nat) (m : M α) : M α := fun e => match e[i]? with
  | some (some (.f (.mk _))) => m e
  | _ => none
def atK {α : Type} (i : Nat) (f : List (Key × D) → Option α) : M α := fun e => match e[i]? with
  | some (some (.f (.mk kvs))) => (f kvs).map fun d => .ok d e
  | _ => none
theorem isK_at {K : Fr} {α : Type} {i : Nat} {m : M α} {σ : L2.St} {H : Hp} {post : α → Hp → OW → Prop} (h : rdG K W (isK i m) σ H post) : ∃ a ps, σ[i]? = some (some (.ref a)) ∧ H a = some (.dK ps) ∧ rdG K W m σ H post := by
  obtain ⟨env, ow, r1, rel, e, q⟩ := h
  unfold isK at e
  split at e
  · rename_i xs he
    obtain ⟨v', h1, a, ys, rfl, h2, h3, h4⟩ := rel.rel i _ he
    exact ⟨a, ys, h1, h3, env, ow, r1, rel, e, q⟩
  · cases e
theorem atK_run {K : Fr} {α : Type} {i : Nat} {f : List (Key × D) → Option α} {a : Addr} {σ : L2.St} {H : Hp} {post : α → Hp → OW → Prop} (hs : σ[i]? = some (some (.ref a))) (h : rdG K W (atK i f) σ H post) :
    ∃ kvs ps ow d, H a = some (.dK ps) ∧ RelKv K H kvs ps ∧ f kvs = some d ∧ post d H ow := by
  obtain ⟨env, ow, r1, rel, e, q⟩ := h
  unfold atK at e
  split at e
  · rename_i kvs he
    obtain ⟨v', h1, b, ys, rfl, h2, h3, h4⟩ := rel.rel i _ he
    rw [hs] at h1
    cases h1
    cases z : f kvs with
    | none => rw [z] at e; cases e
    | some d =>
      rw [z] at e
      cases Option.some.inj e
      exact ⟨kvs, ys, ow, d, h3, h4, z, q H ow rel (Step.refl H ow)⟩
  · cases e
def getK (k : D) (kvs : List (Key × D)) : Option D := (keyD k).bind (valD kvs)
def dget (i : Nat) (mi : M D) : M D := isK i (bnd mi fun k => atK i (getK k))
theorem sim_dget {x : Str} (i : Nat) (hu : X.A.units + 1 < cLine) (hi : PE X e (rdD X.K W mi)) (hns : NoSl e) (hN : X.N[i]? = some x := by rfl) (hvi : Vis X.env.scope x := by first | exact Or.inl rfl | exact Or.inr (Or.inl rfl) | exact Or.inr (Or.inr rfl)) (hd : (x == ("__debug__" : Str)) = false := by decide)
    (hcd : (x == ("__classdict__" : Str)) = false := by decide) : PE X (.Subscript (.Name x p) e pos) (rdD X.K W (dget i mi)) := PEimp (pe_dget hu (pe_var hN hvi hd hcd) hi hns) fun σ H Q q => by
  obtain ⟨a, ps, hs, ha, h1⟩ := isK_at q
  refine ⟨.ref a, hs, (rdG.bind (m := mi) h1).mono fun k H1 ow1 h2 y ry => ?_⟩
  obtain ⟨kvs, ps, ow, d, h3, h4, h5, h6⟩ := atK_run hs (rdG.of h2)
  unfold getK at h5
  cases z : keyD k with
  | none => rw [z] at h5; cases h5
  | some k =>
    rw [z] at h5
    rcases h4.val k with ⟨e1, e2⟩ | ⟨d', v, e1, e2, e3⟩
    · rw [show valD kvs k = some d from h5] at e1
      cases e1
    · rw [show valD kvs k = some d from h5] at e1
      cases e1
      exact ⟨a, v, rfl, by rw [keyD_rel ry z, ← e2]; exact DGet.k h3, h6 v e3⟩
def hasK (k : D) (kvs : List (Key × D)) : Option D := (keyD k).map fun k => .bool (valD kvs k).isSome
def hasntK (k : D) (kvs : List (Key × D)) : Option D := (keyD k).map fun k => .bool (!(valD kvs k).isSome)
def din (i : Nat) (mi : M D) : M D := bnd mi fun k => atK i (hasK k)
def dnotin (i : Nat) (mi : M D) : M D := bnd mi fun k => atK i (hasntK k)
/-- the dict's slot, read when the key is there -/
theorem din_run {K : Fr} {g : Bool → Bool} {i : Nat} {k : D} {f : D → List (Key × D) → Option D} {σ : L2.St} {H : Hp} {Q : VK} (hf : ∀ k kvs d, f k kvs = some d → ∃ k', keyD k = some k' ∧ d = .bool (g (valD kvs k').isSome)) {y : V} (ry : RelD K H k y) (h : rdG K W (atK i (f k)) σ H fun d H' _ => ∀ v, RelD K H' d v → Q v H') :
    ∃ x, σ[i]? = some (some x) ∧ ∃ a o, x = .ref a ∧ DGet H a y o ∧ Q (.bl (g o.isSome)) H := by
  have h0 : rdG K W (isK i (atK i (f k))) σ H fun d H' _ => ∀ v, RelD K H' d v → Q v H' := by
    obtain ⟨env, ow, r1, rel, e, q⟩ := h
    refine ⟨env, ow, r1, rel, ?_, q⟩
    unfold isK
    unfold atK at e ⊢
    split at e
    · rename_i kvs he
      simp only [he]
      exact e
    · cases e
  obtain ⟨a, _, hs, _, h1⟩ := isK_at h0
  obtain ⟨kvs, ps, ow, d, h3, h4, h5, h6⟩ := atK_run hs h1
  obtain ⟨k', z, rfl⟩ := hf _ _ _ h5
  refine ⟨.ref a, hs, a, valV ps k', rfl, by rw [keyD_rel ry z]; exact DGet.k h3, ?_⟩
  have e : (valV ps k').isSome = (valD kvs k').isSome := by
    rcases h4.val k' with ⟨e1, e2⟩ | ⟨d', v, e1, e2, _⟩ <;> rw [e1, e2] <;> rfl
  rw [e]
  exact h6 _ rfl
theorem sim_din {x : Str} (i : Nat) (hu : X.A.units + 1 < cLine) (hi : PE X e (rdD X.K W mi)) (hN : X.N[i]? = some x := by rfl) (hvi : Vis X.env.scope x := by first | exact Or.inl rfl | exact Or.inr (Or.inl rfl) | exact Or.inr (Or.inr rfl)) (hd : (x == ("__debug__" : Str)) = false := by decide)
    (hcd : (x == ("__classdict__" : Str)) = false := by decide) : PE X (.Compare e [.In] [.Name x p] pos) (rdD X.K W (din i mi)) := PEimp (pe_cmp (pc_din hu hi (pe_var hN hvi hd hcd)) rfl) fun σ H Q q => by
  refine (rdG.bind (m := mi) q).mono fun k H1 ow1 h2 y ry => ?_
  exact din_run (g := id) (f := hasK) (fun k kvs d h => by
    unfold hasK at h
    cases z : keyD k with
    | none => rw [z] at h; cases h
    | some k' => rw [z] at h; cases h; exact ⟨k', rfl, rfl⟩) ry (rdG.of h2)
theorem sim_dnotin {x : Str} (i : Nat) (hu : X.A.units + 1 < cLine) (hi : PE X e (rdD X.K W mi)) (hN : X.N[i]? = some x := by rfl) (hvi : Vis X.env.scope x := by first | exact Or.inl rfl | exact Or.inr (Or.inl rfl) | exact Or.inr (Or.inr rfl)) (hd : (x == ("__debug__" : Str)) = false := by decide)
    (hcd : (x == ("__classdict__" : Str)) = false := by decide) : PE X (.Compare e [.NotIn] [.Name x p] pos) (rdD X.K W (dnotin i mi)) := PEimp (pe_cmp (pc_dnotin hu hi (pe_var hN hvi hd hcd)) rfl) fun σ H Q q => by
  refine (rdG.bind (m := mi) q).mono fun k H1 ow1 h2 y ry => ?_
  exact din_run (g := not) (f := hasntK) (fun k kvs d h => by
    unfold hasntK at h
    cases z : keyD k with
    | none => rw [z] at h; cases h
    | some k' => rw [z] at h; cases h; exact ⟨k', rfl, rfl⟩) ry (rdG.of h2)
/-- d.get(k, x) -/
def getK2 (k z : D) (kvs : List (Key × D)) : Option D := (keyD k).map fun k => (valD kvs k).getD z
def dget2 (i : Nat) (mi mz : M D) : M D := isK i (bnd mi fun k => bnd mz fun z => atK i (getK2 k z))
theorem sim_dget2 {x : Str} {apos cpos : Pos} {mz : M D} (i : Nat) (hu : X.A.units + 1 < cLine) (hi : PE X e (rdD X.K W mi)) (hz : PE X e2 (rdD X.K W mz)) (m : M2 X (.Name x p) "get" apos e e2 cpos) (hN : X.N[i]? = some x := by rfl) (hvi : Vis X.env.scope x := by first | exact Or.inl rfl | exact Or.inr (Or.inl rfl) | exact Or.inr (Or.inr rfl))
    (hd : (x == ("__debug__" : Str)) = false := by decide) (hcd : (x == ("__classdict__" : Str)) = false := by decide) : PE X (.Call (.Attribute (.Name x p) "get" apos) [e, e2] [] cpos) (rdD X.K W (dget2 i mi mz)) := PEimp (pe_dget2 hu (pe_var hN hvi hd hcd) hi hz m) fun σ H Q q => by
  obtain ⟨a, ps, hs, ha, h1⟩ := isK_at q
  refine ⟨.ref a, hs, a, rfl, .inl ⟨ps, .inl ha⟩, (rdG.bind (m := mi) h1).mono fun k H1 ow1 h2 y ry => ?_⟩
  refine (rdG.bind (m := mz) (rdG.of h2)).monoX fun z H2 ow2 x2 h2 w rw' => ?_
  obtain ⟨kvs, ps, ow, d, h3, h4, h5, h6⟩ := atK_run hs (rdG.of h2)
  unfold getK2 at h5
  cases z : keyD k with
  | none => rw [z] at h5; cases h5
  | some k =>
    rw [z] at h5
    cases Option.some.inj h5
    refine ⟨valV ps k, by rw [keyD_rel ry z]; exact DGet.k h3, ?_⟩
    rcases h4.val k with ⟨e1, e2⟩ | ⟨d', v, e1, e2, e3⟩
    · rw [e2]
      simp only [e1] at h6
      exact h6 w rw'
    · rw [e2]
      simp only [e1] at h6
      exact h6 v e3
/-- d[k] = v -/
def dput (i : Nat) (mv mi : M D) : MS := bndS (bnd mv fun d => isK i (bnd mi fun k => M.ret (d, k))) fun dk e => match e[i]? with
  | some (some (.f (.mk kvs))) => (match keyD dk.2 with
    | some k => if kvs.length < sizeLine then some (.next (e.set i (some (.mk (putD kvs k dk.1))))) else none
    | none => none)
  | _ => none
theorem sim_dput {x : Str} (i : Nat) (hu : X.A.units + 1 < cLine) (hv : PE X e (rdD X.K W mv)) (hi : PE X e2 (rdD X.K W mi)) (hs : swapsWith e (some (.Subscript (.Name x p) e2 tpos)) pos.line X.env = pure false := by rfl) (hN : X.N[i]? = some x := by rfl)
    (hvi : Vis X.env.scope x := by first | exact Or.inl rfl | exact Or.inr (Or.inl rfl) | exact Or.inr (Or.inr rfl)) (hd : (x == ("__debug__" : Str)) = false := by decide) (hcd : (x == ("__classdict__" : Str)) = false := by decide) :
    PS X (.Assign [.Subscript (.Name x p) e2 tpos] e pos) (rdS X.K W np (dput i mv mi)) := PSimp (ps_dput hu (pe_var hN hvi hd hcd) hi hv hs) fun D σ H q => by
  refine (rdG.bind (m := mv) (rdS.bnd q)).mono fun d H1 ow1 h1 v rv => ?_
  obtain ⟨a, _, hsl, _, h2⟩ := isK_at (rdG.of h1)
  refine ⟨.ref a, hsl, (rdG.bind (m := mi) h2).monoX fun k H2 ow2 x2 h3 y ry => ?_⟩
  obtain ⟨env, ow, r, rel, e, z⟩ := rdG.of h3
  cases Option.some.inj e
  obtain ⟨env2, r2, rel2, e2, q2⟩ := z H2 ow rel (Step.refl _ _)
  split at e2
  · rename_i kvs he
    split at e2
    · rename_i k hk
      split at e2
      · rename_i hl
        cases Option.some.inj e2
        obtain ⟨v', k1, l', ps, rfl, k2, k3, k4⟩ := rel2.rel i _ he
        rw [hsl] at k1
        cases k1
        refine ⟨a, _, rfl, by rw [keyD_rel ry hk]; exact DPut.k k3 (by rw [← k4.length]; exact hl), ?_⟩
        have xe : Ext H2 (upd H2 a (.dK (putK ps k v))) := Ext.upd k3 True.intro
        exact q2 σ _ ow (rel2.upd (ne_len he) hsl k3 True.intro k2 ⟨a, _, rfl, k2, upd_same, RelKv.put (RelD.ext (x2.trans xe) _ _ rv) (RelKv.ext xe _ _ k4)⟩) (Step.upd k3 True.intro k2).s (Pin.refl np σ)
      · cases e2
    · cases e2
  · cases e2
end
end Pm

/-! ## Pm9 -/
set_option Elab.async false
set_option linter.all false
set_option maxRecDepth 100000
set_option maxHeartbeats 2000000
/-! Pm9: list(reversed(xs)). -/
namespace PmRev
open PySem PySem.Spec PyProof.Rows L2 RT
section
variable {prog : Program} {w : World} {A : Around} {E : Value → Shared → Prop} {s : Shared}
theorem ext_rev {it l S : Addr} {items : Array Value} {R : Result → Shared → Prop} {c₀ : Nat} {res : Value} (hh : A.handled = none) (hS : s.heap.get? S = some { cls := .type "list", data := .seq #[] c₀ })
    (hit : s.heap.IsRevIter it l ((items.size : Int) - 1)) (hl : s.heap.IsList l items) (hSi : S ≠ it) (hSl : S ≠ l) (hne : l ≠ it) (hn : items.size ≤ sizeLine)
    (hR : ∀ (h' : Heap) (tk : Nat) (acc : Array Value) (c' : Nat), (∀ b o, b ≠ S → b ≠ it → s.heap.get? b = some o → h'.get? b = some o) → h'.get? S = some { cls := .type "list", dict := none, data := .seq acc c', slots := #[] } →
      ItemsOf (fun i v => items[items.size - 1 - i]? = some v) acc items.size → R (.ok (.ret res)) { s with heap := h', toks := tk }) :
    wpAny (model prog w) A.in1 (Builtin.List.listExtendWith (.ref S) (.ref it) res)
      (fun fin s' => match fin with | .done f => R (.ok f) s' | .again c' => c'.quiet = true ∧ codeAny (model prog w) A c' R s') (fun e s' => R (.error e) s') s := by
  have W := (Walks.listRev (prog := prog) (w := w) (A := A.in1) hh it l hne items).toS
  have nm : S ∉ [it, l] := by simp [hSi, hSl]
  have T : s.TypeIs (.ref it) "list_reverseiterator" := hit.typeIs
  have sr : Builtin.List.listSameRef (.ref S) (.ref it) = false := by simp [Builtin.List.listSameRef, hSi]
  unfold Builtin.List.listExtendWith
  refine wpAny_bind (wpAny_typeOf T ?_)
  rw [if_neg (by rw [sr]; decide)]
  refine wpAny_bind (wpAny_pyIter_revIter hit ?_)
  refine wpAny_bind (wpAny_holding ?_)
  unfold Builtin.List.listLengthHint
  refine wpAny_bind (wpAny_specialOf T nolen_lri ?_)
  show wpAny _ A.in1 (specialOf (Value.ref it) (Str.ofString "__length_hint__") >>= _) _ _ _
  refine wpAny_bind (wpAny_specialOf T hint_lri ?_)
  generalize hd : ("list_reverseiterator.__length_hint__" : String) = d0
  wp_delta
  rw [show splitId d0 = some ("list_reverseiterator", "__length_hint__") from by subst hd; decide +kernel]
  subst hd
  refine wpAny_bind (wpAny_isInstance (b := true) T (by rw [isSubtype_type]; kernel_rfl) ?_)
  refine wpAny_pure ?_
  rw [if_neg (by decide)]
  have z : (items.size : Int) - 1 - ((0 : Nat) : Int) = (items.size : Int) - 1 := by omega
  refine wpAny_pure ⟨plainId_quiet F.plain_extend_loop _, codeAny_extend_loopS W hn _ nm _ items.size 0 _ _ _ rfl (Nat.zero_le _) ⟨Nat.zero_le _, by rw [z]; exact hit, hl⟩ hS (ItemsOf.nil _) fun s' acc c' hm hs ha => ?_⟩
  rw [Moved.eq_with hm]
  refine hR s'.heap s'.toks acc c' (fun b o h1 h2 e => hm.heap b o (fun q => ?_) e) hs ha
  rcases List.mem_cons.mp q with q | q
  · exact h1 q
  · exact h2 (List.mem_singleton.mp q)
theorem init_rev {it l S : Addr} {items : Array Value} {R : Result → Shared → Prop} (hh : A.handled = none) (hS : s.heap.get? S = some { cls := .type "list", data := .seq #[] })
    (hit : s.heap.IsRevIter it l ((items.size : Int) - 1)) (hl : s.heap.IsList l items) (hSi : S ≠ it) (hSl : S ≠ l) (hne : l ≠ it) (hn : items.size ≤ sizeLine)
    (hR : ∀ (h' : Heap) (tk : Nat) (acc : Array Value) (c' : Nat), (∀ b o, b ≠ S → b ≠ it → s.heap.get? b = some o → h'.get? b = some o) → h'.get? S = some { cls := .type "list", dict := none, data := .seq acc c', slots := #[] } →
      ItemsOf (fun i v => items[items.size - 1 - i]? = some v) acc items.size → R (.ok (.ret .none)) { s with heap := h', toks := tk }) :
    wpAny (model prog w) A.in1 (Builtin.«list.__init__» ⟨[.ref S, .ref it], []⟩)
      (fun fin s' => match fin with | .done f => R (.ok f) s' | .again c' => c'.quiet = true ∧ codeAny (model prog w) A c' R s') (fun e s' => R (.error e) s') s := by
  show wpAny _ _ (do let old ← Builtin.List.listItems (.ref S); Builtin.List.listUpdate (.ref S) (fun _ => #[]); letGo old.toList.reverse; Builtin.List.listExtendWith (.ref S) (.ref it) .none) _ _ s
  refine wpAny_bind ?_
  unfold Builtin.List.listItems
  refine wpAny_bind (wpAny_seqItems hS rfl (wpAny_pure ?_))
  show wpAny _ _ (updateSeq S (fun _ => #[]) >>= fun _ => letGo (#[] : Array Value).toList.reverse >>= fun _ => Builtin.List.listExtendWith (.ref S) (.ref it) .none) _ _ s
  refine wpAny_bind (wpAny_updateSeq hS rfl ?_)
  have h2 := Heap.get?_update_self (Obj.mapSeq (fun _ => (#[] : Array Value))) hS rfl
  have oth : ∀ b o, b ≠ S → s.heap.get? b = some o → (s.heap.update S (Obj.mapSeq (fun _ => (#[] : Array Value)))).get? b = some o := fun b o hb e => (Heap.get?_update_other _ _ (Ne.symm hb)).trans e
  refine wpAny_bind (wpAny_letGo ?_)
  refine ext_rev (s := { s with heap := s.heap.update S (Obj.mapSeq (fun _ => (#[] : Array Value))) }) hh h2 (hit.at fun o e => oth _ o (Ne.symm hSi) e) ?_ hSi hSl hne hn fun h' tk acc c' k hs ha => ?_
  · obtain ⟨o, e, r⟩ := hl
    exact ⟨o, oth _ o (Ne.symm hSl) e, r⟩
  · exact hR h' tk acc c' (fun b o h1 h2 e => k b o h1 h2 (oth b o h1 e)) hs ha
theorem call_list_rev {it l : Addr} {items : Array Value} {Q : Value → Shared → Prop} (hh : A.handled = none) (hit : s.heap.IsRevIter it l ((items.size : Int) - 1)) (hl : s.heap.IsList l items) (hne : l ≠ it) (hn : items.size ≤ sizeLine)
    (hQ : ∀ (h' : Heap) (tk : Nat) (acc : Array Value) (c' : Nat), (∀ b o, b ≠ it → s.heap.get? b = some o → h'.get? b = some o) → h'.get? s.heap.objs.size = some { cls := .type "list", dict := none, data := .seq acc c', slots := #[] } →
      ItemsOf (fun i v => items[items.size - 1 - i]? = some v) acc items.size → Q (.ref s.heap.objs.size) { s with heap := h', toks := tk }) :
    wpAny (model prog w) A (call (.type "list") [.ref it]) Q E s := by
  refine callType_codes (Q₁ := fun obj s₁ => obj = .ref s.heap.objs.size ∧ s₁ = { s with heap := s.heap.push { cls := .type "list", data := .seq #[] } }) F.called_list (F.typeCall_list_1 _) F.entry_list_init (code_list_new _ ⟨rfl, rfl⟩) fun obj s₁ h₁ => ?_
  obtain ⟨rfl, rfl⟩ := h₁
  obtain ⟨oi, ei, _⟩ := id hit
  obtain ⟨ol, el, _⟩ := id hl
  have hS : (s.heap.push { cls := .type "list", data := .seq #[] }).get? s.heap.objs.size = some { cls := .type "list", data := .seq #[] } := Heap.get?_push_size _ rfl
  refine ⟨⟨_, hS, rfl⟩, F.args_list_init_2 _ _, init_rev (A := A.in1) hh hS (hit.at fun o e => Heap.get?_push_of_some _ e) (hl.push _) (Nat.ne_of_gt (Heap.lt_size ei)) (Nat.ne_of_gt (Heap.lt_size el)) hne hn fun h' tk acc c' k hs ha => ?_⟩
  exact ⟨rfl, hQ h' tk acc c' (fun b o h1 e => k b o (Nat.ne_of_lt (Heap.lt_size e)) h1 (Heap.get?_push_of_some _ e)) hs ha⟩
end
end PmRev
namespace Pm
open PySem PySem.Spec L2
variable [TabCtx]
section
variable {X : Cx} {W : WX} {np : Nat → Bool} {e : Expr} {p p2 pos pos2 : Pos} {m : M D}
def tListRev (K : Fr) (te : TE) : TE := fun σ H Q => te σ H fun v H1 => ∃ (a : Addr) (xs : List V), v = .ref a ∧ SqL K H1 a xs ∧ ∀ q, H1 q = none → Q (.ref q) (upd H1 q (.lst xs.reverse))
open PyProof.Rows in
theorem pe_listRev {te : TE} (hc : X.calm = true) (hg : Gl X "list") (hm : X.mg "list" = none) (hg2 : Gl X "reversed") (hm2 : X.mg "reversed" = none) (he : PE X e te) (hs : starEach [e] X.env = (false, eval e X.env) :: starEach [] X.env := by rfl)
    (hs2 : starEach [.Call (.Name "reversed" p2) [e] [] pos2] X.env = (false, eval (.Call (.Name "reversed" p2) [e] [] pos2) X.env) :: starEach [] X.env := by rfl) :
    PE X (.Call (.Name "list" p) [.Call (.Name "reversed" p2) [e] [] pos2] [] pos) (tListRev X.K te) := by
  refine ⟨fun pins s σ H Q I h => Call_ (ld_blt I hg hm PyProof.Rows.boot_list (PyProof.Rows.callWith_type1 (args_cons (Call_ (ld_blt I hg2 hm2 PyProof.Rows.boot_reversed (PyProof.Rows.callWith_type1 (args_cons (thn (he.run pins s σ H _ I h) fun u s1 ⟨v, H1, I1, r1, q1⟩ => args_nil ?_) hs) hs rfl))) hs2) hs2 rfl))⟩
  obtain ⟨a, xs, ev, hq, q⟩ := q1
  subst ev
  obtain rfl : u = Value.ref a := r1
  obtain ⟨its, rv, p', hz⟩ := I1.list hq
  refine call_reversed_list p'.isList (args_nil ?_)
  have hl := p'.isList
  obtain ⟨ol, hol, _⟩ := id hl
  have hn : its.toArray.size ≤ sizeLine := by rw [List.size_toArray, ← rv.length]; exact hz
  refine PmRev.call_list_rev (s := { s1 with heap := s1.heap.push (revObj a ((its.toArray.size : Int) - 1)) }) (I1.ok.hd hc) ⟨_, Heap.get?_push_size _ rfl, rfl, rfl⟩ (hl.push _) (Nat.ne_of_lt (Heap.lt_size hol)) hn fun h' tk acc c' hk hS hi => ?_
  have nL : (s1.heap.push (revObj a ((its.toArray.size : Int) - 1))).objs.size = s1.heap.objs.size + 1 := Heap.size_push ..
  rw [nL] at hS ⊢
  refine ⟨.ref (s1.heap.objs.size + 1), upd H1 (s1.heap.objs.size + 1) (.lst xs.reverse), I1.turnedNew (ch := []) (fun b o _ e => hk b o (Nat.ne_of_lt (Heap.lt_size e)) (Heap.get?_push_of_some _ e)) (fun b hb => nomatch hb) (Nat.le_succ _) ⟨by rw [List.length_reverse]; exact hz, acc.toList, c', RT.vals_rev rv hi, ?_⟩, rfl, q _ (I1.hok.fresh (Nat.le_succ _))⟩
  rw [Array.toArray_toList]
  exact hS
theorem sim_listRevN (hc : X.calm = true) (hg : Gl X "list") (hm : X.mg "list" = none) (hg2 : Gl X "reversed") (hm2 : X.mg "reversed" = none) (he : PE X e (rdB X.K W m)) (hs : starEach [e] X.env = (false, eval e X.env) :: starEach [] X.env := by rfl)
    (hs2 : starEach [.Call (.Name "reversed" p2) [e] [] pos2] X.env = (false, eval (.Call (.Name "reversed" p2) [e] [] pos2) X.env) :: starEach [] X.env := by rfl) :
    PE X (.Call (.Name "list" p) [.Call (.Name "reversed" p2) [e] [] pos2] [] pos) (rdN X.K W (revB m)) := PEimp (pe_listRev hc hg hm hg2 hm2 he hs hs2) fun σ H Q q => by
  refine (rdG.bind (m := m) q).mono fun d H1 ow1 h1 v rv => ?_
  have h2 := rdG.of h1
  cases d with
  | list ds =>
    obtain ⟨ow, pp⟩ := rdG.const (a := ds.reverse) h2
    obtain ⟨a, xs, rfl, h3, h4⟩ := rv.list
    exact ⟨a, xs, rfl, h3, fun l hl => pp l _ hl h4.reverse⟩
  | _ =>
    obtain ⟨_, _, _, _, e, _⟩ := h2
    cases e
end
end Pm

/-! ## Pm10 -/
set_option Elab.async false
set_option linter.all false
set_option maxRecDepth 100000
set_option maxHeartbeats 2000000
/-! Pm10: built-in calls: len, abs, int, max, min, sum, all, any, sorted, isinstance, dict, list of a dict. -/
namespace Pm
open PySem PySem.Spec L2
variable [TabCtx]

section
variable {X : Cx} {W : WX} {np : Nat → Bool} {e e2 : Expr} {es : List Expr} {pos p : Pos} {m ma mb : M D}
theorem BDs.one {K : Fr} {H : Hp} {d : D} {v : V} (h : BD K H d v) : BDs K H [d] [v] := ⟨v, [], rfl, h, rfl⟩
/-! ### len -/
def lenS : List D → Option D
  | [.list ds] => some (.int ds.length)
  | [.tuple ds] => some (.int ds.length)
  | [.str x] => if x.length ≤ sizeLine then some (.int x.length) else none
  | _ => none
theorem cl_len : Cl X (.builtin "len") lenS := by
  intro pins s σ H xs us Q I r ⟨as, d, ha, hg, q⟩
  unfold lenS at hg
  split at hg
  · cases hg
    obtain ⟨x, r', rfl, h1, h2⟩ := ha
    cases (show _ = _ from h2)
    obtain ⟨a, ys, rfl, h3, h4⟩ := h1.list
    exact call_len pins s σ H _ us Q I r ⟨_, _, rfl, .inl ⟨ys, h3, rfl⟩, by rw [← h4.length]; exact q _ H rfl (New.refl H)⟩
  · cases hg
    obtain ⟨x, r', rfl, h1, h2⟩ := ha
    cases (show _ = _ from h2)
    obtain ⟨a, ys, rfl, h3, h4⟩ := h1.tuple
    exact call_len pins s σ H _ us Q I r ⟨_, _, rfl, .inr ⟨ys, h3, rfl⟩, by rw [← h4.length]; exact q _ H rfl (New.refl H)⟩
  · split at hg
    · rename_i hz
      cases hg
      obtain ⟨x, r', rfl, h1, h2⟩ := ha
      cases (show _ = _ from h2)
      cases h1.str
      exact call_len pins s σ H _ us Q I r ⟨_, _, rfl, ⟨hz, rfl⟩, q _ H rfl (New.refl H)⟩
    · cases hg
  · cases hg
/-! ### whole numbers -/
def absS : List D → Option D
  | [.int i] => some (.int (if i < 0 then -i else i))
  | _ => none
theorem cl_abs : Cl X (.builtin "abs") absS := by
  intro pins s σ H xs us Q I r ⟨as, d, ha, hg, q⟩
  unfold absS at hg
  split at hg
  · cases hg
    obtain ⟨x, r', rfl, h1, h2⟩ := ha
    cases (show _ = _ from h2)
    cases h1.int
    exact call_abs pins s σ H _ us Q I r ⟨_, rfl, q _ H rfl (New.refl H)⟩
  · cases hg
def intS : List D → Option D
  | [.int i] => some (.int i)
  | [.bool k] => some (.int (if k then 1 else 0))
  | _ => none
theorem cl_int : Cl X (.type "int") intS := by
  intro pins s σ H xs us Q I r ⟨as, d, ha, hg, q⟩
  unfold intS at hg
  split at hg
  · cases hg
    obtain ⟨x, r', rfl, h1, h2⟩ := ha
    cases (show _ = _ from h2)
    cases h1.int
    exact call_int1 pins s σ H _ us Q I r (.inl ⟨_, rfl, q _ H rfl (New.refl H)⟩)
  · cases hg
    obtain ⟨x, r', rfl, h1, h2⟩ := ha
    cases (show _ = _ from h2)
    cases h1.bool
    exact call_int1 pins s σ H _ us Q I r (.inr ⟨_, rfl, q _ H rfl (New.refl H)⟩)
  · cases hg
def maxS : List D → Option D
  | [.int i, .int j] => some (.int (if j > i then j else i))
  | _ => none
def minS : List D → Option D
  | [.int i, .int j] => some (.int (if j < i then j else i))
  | _ => none
theorem cl_max (hc : X.calm = true) : Cl X (.builtin "max") maxS := by
  intro pins s σ H xs us Q I r ⟨as, d, ha, hg, q⟩
  unfold maxS at hg
  split at hg
  · cases hg
    obtain ⟨x, r', rfl, h1, y, r2, rfl, h2, h3⟩ := ha
    cases (show _ = _ from h3)
    cases h1.int
    cases h2.int
    exact call_max2 hc pins s σ H _ us Q I r ⟨_, _, rfl, q _ H rfl (New.refl H)⟩
  · cases hg
theorem cl_min (hc : X.calm = true) : Cl X (.builtin "min") minS := by
  intro pins s σ H xs us Q I r ⟨as, d, ha, hg, q⟩
  unfold minS at hg
  split at hg
  · cases hg
    obtain ⟨x, r', rfl, h1, y, r2, rfl, h2, h3⟩ := ha
    cases (show _ = _ from h3)
    cases h1.int
    cases h2.int
    exact call_min2 hc pins s σ H _ us Q I r ⟨_, _, rfl, q _ H rfl (New.refl H)⟩
  · cases hg
/-! ### all, any, sum of a list -/
def intsD : List D → Option (List Int)
  | [] => some []
  | .int i :: r => (intsD r).map (i :: ·)
  | _ => none
def blsD : List D → Option (List Bool)
  | [] => some []
  | .bool i :: r => (blsD r).map (i :: ·)
  | _ => none
def strsD : List D → Option (List Str)
  | [] => some []
  | .str i :: r => (strsD r).map (i :: ·)
  | _ => none
theorem intsD_rel {K : Fr} {H : Hp} : ∀ {ds : List D} {vs : List V} {ns : List Int}, RelDs K H ds vs → intsD ds = some ns → vs = ns.map V.int
  | [], _, _, h, e => by
    cases (show _ = _ from h)
    cases Option.some.inj e
    rfl
  | d :: r, vs, ns, h, e => by
    obtain ⟨x, rr, rfl, h1, h2⟩ := h
    unfold intsD at e
    split at e
    · rename_i h; cases h
    · rename_i heq
      cases heq
      rename_i z
      cases q : intsD r with
      | none => rw [q] at e; cases e
      | some ms =>
        rw [q] at e
        cases Option.some.inj e
        rw [intsD_rel h2 q, show x = .int _ from h1]
        rfl
    · cases e
theorem blsD_rel {K : Fr} {H : Hp} : ∀ {ds : List D} {vs : List V} {ns : List Bool}, RelDs K H ds vs → blsD ds = some ns → vs = ns.map V.bl
  | [], _, _, h, e => by
    cases (show _ = _ from h)
    cases Option.some.inj e
    rfl
  | d :: r, vs, ns, h, e => by
    obtain ⟨x, rr, rfl, h1, h2⟩ := h
    unfold blsD at e
    split at e
    · rename_i h; cases h
    · rename_i heq
      cases heq
      cases q : blsD r with
      | none => rw [q] at e; cases e
      | some ms =>
        rw [q] at e
        cases Option.some.inj e
        rw [blsD_rel h2 q, show x = .bl _ from h1]
        rfl
    · cases e
theorem strsD_rel {K : Fr} {H : Hp} : ∀ {ds : List D} {vs : List V} {ns : List Str}, RelDs K H ds vs → strsD ds = some ns → vs = ns.map V.str
  | [], _, _, h, e => by
    cases (show _ = _ from h)
    cases Option.some.inj e
    rfl
  | d :: r, vs, ns, h, e => by
    obtain ⟨x, rr, rfl, h1, h2⟩ := h
    unfold strsD at e
    split at e
    · rename_i h; cases h
    · rename_i heq
      cases heq
      cases q : strsD r with
      | none => rw [q] at e; cases e
      | some ms =>
        rw [q] at e
        cases Option.some.inj e
        rw [strsD_rel h2 q, show x = .str _ from h1]
        rfl
    · cases e
theorem relDs_strs {K : Fr} {H : Hp} : ∀ ys : List Str, RelDs K H (ys.map .str) (ys.map V.str)
  | [] => rfl
  | y :: ys => ⟨_, _, rfl, rfl, relDs_strs ys⟩
def allS : List D → Option D
  | [.list ds] => (blsD ds).map fun bs => .bool (bs.all id)
  | _ => none
def anyS : List D → Option D
  | [.list ds] => (blsD ds).map fun bs => .bool (bs.any id)
  | _ => none
def sumS : List D → Option D
  | [.list ds] => (intsD ds).map fun ns => .int ns.sum
  | _ => none
theorem cl_all (hc : X.calm = true) : Cl X (.builtin "all") allS := by
  intro pins s σ H xs us Q I r ⟨as, d, ha, hg, q⟩
  unfold allS at hg
  split at hg
  · rename_i ds
    cases z : blsD ds with
    | none => rw [z] at hg; cases hg
    | some bs =>
      rw [z] at hg
      cases Option.some.inj hg
      obtain ⟨x, r', rfl, h1, h2⟩ := ha
      cases (show _ = _ from h2)
      obtain ⟨a, ys, rfl, h3, h4⟩ := h1.list
      exact cr_all hc pins s σ H _ us Q I r ⟨a, bs, rfl, by rw [← blsD_rel h4 z]; exact h3, q _ H rfl (New.refl H)⟩
  · cases hg
theorem cl_any (hc : X.calm = true) : Cl X (.builtin "any") anyS := by
  intro pins s σ H xs us Q I r ⟨as, d, ha, hg, q⟩
  unfold anyS at hg
  split at hg
  · rename_i ds
    cases z : blsD ds with
    | none => rw [z] at hg; cases hg
    | some bs =>
      rw [z] at hg
      cases Option.some.inj hg
      obtain ⟨x, r', rfl, h1, h2⟩ := ha
      cases (show _ = _ from h2)
      obtain ⟨a, ys, rfl, h3, h4⟩ := h1.list
      exact cr_any hc pins s σ H _ us Q I r ⟨a, bs, rfl, by rw [← blsD_rel h4 z]; exact h3, q _ H rfl (New.refl H)⟩
  · cases hg
theorem cl_sum (hc : X.calm = true) : Cl X (.builtin "sum") sumS := by
  intro pins s σ H xs us Q I r ⟨as, d, ha, hg, q⟩
  unfold sumS at hg
  split at hg
  · rename_i ds
    cases z : intsD ds with
    | none => rw [z] at hg; cases hg
    | some bs =>
      rw [z] at hg
      cases Option.some.inj hg
      obtain ⟨x, r', rfl, h1, h2⟩ := ha
      cases (show _ = _ from h2)
      obtain ⟨a, ys, rfl, h3, h4⟩ := h1.list
      exact cr_sum hc pins s σ H _ us Q I r ⟨a, bs, rfl, by rw [← intsD_rel h4 z]; exact h3, q _ H rfl (New.refl H)⟩
  · cases hg
/-! ### two arguments -/
theorem rdG.call2 {K : Fr} {g : List D → Option D} {σ : L2.St} {H : Hp} {Q : VK} (h : rdG K W (call2 g ma mb) σ H fun d H' _ => ∀ v, RelD K H' d v → Q v H') :
    rdD K W ma σ H fun x H1 => rdB K W mb σ H1 fun y H2 => ∃ as d, BDs K H2 as [x, y] ∧ g as = some d ∧ ∀ v H', RelD K H' d v → New H2 H' → Q v H' := by
  refine (rdG.bind (m := ma) h).mono fun a H1 ow1 h1 x rx => ?_
  refine (rdG.bind (m := mb) (rdG.of h1)).monoX fun b H2 ow2 x2 h2 y ry => ?_
  obtain ⟨r, hr, pp⟩ := (rdG.of h2).lift
  refine ⟨[a, b], r, ⟨x, [y], rfl, .inl (RelD.ext x2 a x rx), y, [], rfl, ry, rfl⟩, hr, fun v H' rv n => ?_⟩
  obtain ⟨_, pp⟩ := pp H' n
  exact pp v rv
theorem sim_call2 {id : String} {x : Str} {g : List D → Option D} (hc : Cl X (.builtin id) g) (hg : Gl X x) (hm : X.mg x = none) (hv : bootBuiltins x = some (.builtin id)) (ha : PE X e (rdD X.K W ma)) (hb : PE X e2 (rdB X.K W mb)) (hn : x ≠ "__name__" := by decide) (hdb : (x == ("__debug__" : Str)) = false := by decide)
    (hs : starEach (e :: [e2]) X.env = (false, eval e X.env) :: starEach [e2] X.env := by rfl) (hs2 : starEach (e2 :: []) X.env = (false, eval e2 X.env) :: starEach [] X.env := by rfl) (hpl : (backTo pos (starEach [e2] X.env)).any (·.1) = false := by rfl) : PE X (.Call (.Name x p) [e, e2] [] pos) (rdD X.K W (call2 g ma mb)) :=
  PEimp (pe_callB hc hg hm hv (pa_cons ha (pa_cons hb pa_nil hs2) hs) hn hdb hs hpl) fun σ H Q q => q.call2
/-! ### isinstance -/
def tyN : D → String
  | .none => "NoneType"
  | .bool _ => "bool"
  | .int _ => "int"
  | .str _ => "str"
  | .list _ => "list"
  | .tuple _ => "tuple"
  | .dict _ => "dict"
def isaN (T : String) : D → Bool
  | .none => false
  | .bool _ => T == "bool" || T == "int"
  | .int _ => T == "int"
  | .str _ => T == "str"
  | .list _ => T == "list"
  | .tuple _ => T == "tuple"
  | .dict _ => T == "dict"
def kitAll (T : String) : Bool := [PyData.none, .bool true, .int 0, .str ⟨#[]⟩, .list [], .tuple [], .dict []].all fun d => decide (kitB (tyN d) T = some (isaN T d))
theorem kitAll_at {T : String} (h : kitAll T = true) (d : D) : kitB (tyN d) T = some (isaN T d) := by
  unfold kitAll at h
  simp only [List.all_cons, List.all_nil, Bool.and_eq_true, decide_eq_true_eq] at h
  obtain ⟨h1, h2, h3, h4, h5, h6, h7, _⟩ := h
  cases d with
  | none => exact h1
  | bool b => exact h2
  | int b => exact h3
  | str b => exact h4
  | list b => exact h5
  | tuple b => exact h6
  | dict b => exact h7
theorem RelD.tyX {K : Fr} {H : Hp} : ∀ {d : D} {v : V}, RelD K H d v → TyX K H v (.type (tyN d))
  | .none, _, h => by cases (show _ = _ from h); exact .base .non
  | .bool b, _, h => by cases (show _ = _ from h); exact .base (.bl b)
  | .int b, _, h => by cases (show _ = _ from h); exact .base (.int b)
  | .str b, _, h => by cases (show _ = _ from h); exact .base (.str b)
  | .tuple ds, v, h => by
    obtain ⟨a, xs, rfl, h1, _, _⟩ := h
    rcases h1 with (h1 | ⟨o, h1⟩) | ⟨o, its, n, h1, h2, _⟩
    · exact .base (.tup h1)
    · exact .fTuple h1
    · exact .kTuple h1 h2
  | .list ds, v, h => by
    obtain ⟨a, xs, rfl, h1, _, _⟩ := h
    rcases h1 with ⟨o, h1⟩ | ((h1 | ⟨o, h1⟩) | ⟨o, its, n, h1, h2, _⟩)
    · exact .base (.frz h1)
    · cases h1
    · cases h1
    · exact .kList h1 h2
  | .dict kvs, v, h => by
    obtain ⟨_, a, o, rfl, h1⟩ := h
    exact .fDict h1
theorem BD.tyX {K : Fr} {H : Hp} {d : D} {v : V} (h : BD K H d v) : TyX K H v (.type (tyN d)) := by
  rcases h with h | ⟨ds, a, xs, rfl, rfl, h1, _⟩
  · exact h.tyX
  · exact .base (.lst h1)
def isaM (T : String) (m : M D) : M D := bnd m fun d => cst (.bool (isaN T d))
theorem sim_isa {T : String} {x : Str} {p2 : Pos} (hk : kitAll T = true) (hg : Gl X "isinstance") (hm : X.mg "isinstance" = none) (hgx : Gl X x) (hmx : X.mg x = none) (hv : bootBuiltins x = some (.type T)) (ha : PE X e (rdD X.K W m)) (hn : x ≠ "__name__" := by decide) (hdb : (x == ("__debug__" : Str)) = false := by decide)
    (hs : starEach (e :: [.Name x p2]) X.env = (false, eval e X.env) :: starEach [.Name x p2] X.env := by rfl) (hs2 : starEach (.Name x p2 :: []) X.env = (false, eval (.Name x p2) X.env) :: starEach [] X.env := by rfl) (hpl : (backTo pos (starEach [.Name x p2] X.env)).any (·.1) = false := by rfl) :
    PE X (.Call (.Name "isinstance" p) [e, .Name x p2] [] pos) (rdD X.K W (isaM T m)) := PEimp (pe_callB call_isi hg hm PyProof.Rows.boot_isinstance (pa_cons ha (pa_cons (pe_bltn (v := .ty T) hgx hmx hv rfl hn hdb) pa_nil hs2) hs) (by decide) (by decide) hs hpl) fun σ H Q q => by
  refine (rdG.bind (m := m) q).mono fun d H1 ow1 h1 v rv => ?_
  obtain ⟨ow, pp⟩ := rdG.const (a := PyData.bool (isaN T d)) (rdG.of h1)
  exact ⟨v, .ty T, .type (tyN d), .type T, isaN T d, rfl, .ty T, rv.tyX, kit_ty (kitAll_at hk d), pp _ rfl⟩
/-- isinstance(x, (A, B)) -/
def isaM2 (T U : String) (m : M D) : M D := bnd m fun d => cst (.bool (isaN T d || isaN U d))
theorem sim_isa2 {T U : String} {x y : Str} {k : Nat} {p2 p3 tpos : Pos} (hk : kitAll T = true) (hk2 : kitAll U = true) (hg : Gl X "isinstance") (hm : X.mg "isinstance" = none) (hgx : Gl X x) (hmx : X.mg x = none) (hv : bootBuiltins x = some (.type T)) (hgy : Gl X y) (hmy : X.mg y = none) (hvy : bootBuiltins y = some (.type U))
    (ha : PE X e (rdD X.K W m)) (hn : x ≠ "__name__" := by decide) (hdb : (x == ("__debug__" : Str)) = false := by decide) (hny : y ≠ "__name__" := by decide) (hdby : (y == ("__debug__" : Str)) = false := by decide)
    (ht1 : starEach (.Name x p2 :: [.Name y p3]) X.env = (false, eval (.Name x p2) X.env) :: starEach [.Name y p3] X.env := by rfl) (ht2 : starEach (.Name y p3 :: []) X.env = (false, eval (.Name y p3) X.env) :: starEach [] X.env := by rfl)
    (hs : starEach (e :: [.Tuple [.Name x p2, .Name y p3] k tpos]) X.env = (false, eval e X.env) :: starEach [.Tuple [.Name x p2, .Name y p3] k tpos] X.env := by rfl)
    (hs2 : starEach (.Tuple [.Name x p2, .Name y p3] k tpos :: []) X.env = (false, eval (.Tuple [.Name x p2, .Name y p3] k tpos) X.env) :: starEach [] X.env := by rfl) (hpl : (backTo pos (starEach [.Tuple [.Name x p2, .Name y p3] k tpos] X.env)).any (·.1) = false := by rfl) :
    PE X (.Call (.Name "isinstance" p) [e, .Tuple [.Name x p2, .Name y p3] k tpos] [] pos) (rdD X.K W (isaM2 T U m)) :=
  PEimp (pe_callB call_isiT hg hm PyProof.Rows.boot_isinstance (pa_cons ha (pa_cons (pe_tup (pa_cons (pe_bltn (v := .ty T) hgx hmx hv rfl hn hdb) (pa_cons (pe_bltn (v := .ty U) hgy hmy hvy rfl hny hdby) pa_nil ht2) ht1)) pa_nil hs2) hs) (by decide) (by decide) hs hpl) fun σ H Q q => by
  refine (rdG.bind (m := m) q).mono fun d H1 ow1 h1 v rv => ?_
  obtain ⟨x, hx, pp⟩ := (show rdG X.K W (M.lift (some (PyData.bool (isaN T d || isaN U d)))) σ H1 _ from rdG.of h1).lift
  cases hx
  refine ⟨two_line, fun tp hp => ?_⟩
  have n : New H1 (upd H1 tp (.tup [.ty T, .ty U])) := New.upd hp
  obtain ⟨ow, pp⟩ := pp _ n
  refine ⟨v, tp, [.ty T, .ty U], .type (tyN d), [.type T, .type U], isaN T d || isaN U d, rfl, upd_same, .cons (.ty T) (.cons (.ty U) .nil), (RelD.ext n.ext d v rv).tyX, ?_, pp _ rfl⟩
  refine kitAny_cons (kit_ty (kitAll_at hk d)) (fun e => ?_) (fun e => by rw [e]; rfl)
  rw [e, Bool.false_or]
  exact kitAny_cons (kit_ty (kitAll_at hk2 d)) (fun e => by rw [e]; exact kitAny_nil) (fun e => e)
/-! ### is True, is False -/
def isS' (a b : D) : Option D := match b with
  | .none => some (.bool (isNoneD a))
  | .bool k => (match a with
    | .bool j => some (.bool (decide (j = k)))
    | _ => none)
  | _ => none
def isNotS' (a b : D) : Option D := (isS' a b).bind notD
theorem o2_is' : Op2 X (compareOp .Is) isS' := by
  intro pins s σ H x y v u Q I rx ry ⟨a, b, d, ha, hb, hg, q⟩
  unfold isS' at hg
  split at hg
  · exact o2_is pins s σ H x y v u Q I rx ry ⟨a, .none, d, ha, hb, hg, q⟩
  · split at hg
    · cases hg
      cases ha.bool
      cases hb.bool
      exact op_isBl pins s σ H _ _ v u Q I rx ry ⟨_, _, rfl, rfl, q _ H rfl (New.refl H)⟩
    · cases hg
  · cases hg
theorem o2_isNot' : Op2 X (compareOp .IsNot) isNotS' := by
  intro pins s σ H x y v u Q I rx ry ⟨a, b, d, ha, hb, hg, q⟩
  unfold isNotS' isS' at hg
  split at hg
  · exact o2_isNot pins s σ H x y v u Q I rx ry ⟨a, .none, d, ha, hb, hg, q⟩
  · split at hg
    · cases hg
      cases ha.bool
      cases hb.bool
      exact op_notBl pins s σ H _ _ v u Q I rx ry ⟨_, _, rfl, rfl, q _ H rfl (New.refl H)⟩
    · cases hg
  · cases hg
example : kitAll "int" = true := by decide +kernel
example : kitAll "tuple" = true := by decide +kernel
end
end Pm

/-! ## Pm11 -/
set_option Elab.async false
set_option linter.all false
set_option maxRecDepth 100000
set_option maxHeartbeats 2000000
/-! Pm11: sorted texts, dicts made of pairs, enumerate, several names at once. -/
namespace Pm
open PySem PySem.Spec L2
variable [TabCtx]

/-! ### the order of texts -/
def leS1 (a b : Str) : Bool := !ltCps b.cps.toList a.cps.toList
theorem ltCps_iff : ∀ a b : List Nat, ltCps a b = true ↔ a < b
  | [], [] => by simp [ltCps]
  | [], b :: bs => by simp [ltCps]
  | a :: as, [] => by simp [ltCps]
  | a :: as, b :: bs => by
    rw [List.cons_lt_cons_iff]
    simp [ltCps, ltCps_iff as bs]
theorem leS1_iff (a b : Str) : leS1 a b = true ↔ a.cps.toList ≤ b.cps.toList := by
  unfold leS1
  rw [Bool.not_eq_true', ← Bool.not_eq_true, ltCps_iff, List.not_lt]
theorem leS1_trans (a b c : Str) (h : leS1 a b = true) (h' : leS1 b c = true) : leS1 a c = true := by
  rw [leS1_iff] at *
  exact List.le_trans h h'
theorem leS1_total (a b : Str) : (leS1 a b || leS1 b a) = true := by
  rw [Bool.or_eq_true, leS1_iff, leS1_iff]
  exact List.le_total _ _
theorem leS1_anti (a b : Str) (h : leS1 a b = true) (h' : leS1 b a = true) : a = b := by
  rw [leS1_iff] at *
  have := List.le_antisymm h h'
  obtain ⟨⟨a⟩⟩ := a
  obtain ⟨⟨b⟩⟩ := b
  simp at this
  rw [this]
theorem rising_pw : ∀ {l : List Str} {p : Str}, PyProof.Rows.risingS p l = true → (p :: l).Pairwise (fun a b => leS1 a b = true)
  | [], p, _ => List.pairwise_singleton _ _
  | x :: r, p, h => by
    unfold PyProof.Rows.risingS at h
    rw [Bool.and_eq_true] at h
    have ih := rising_pw h.2
    rw [List.pairwise_cons]
    refine ⟨fun y hy => ?_, ih⟩
    rcases List.mem_cons.mp hy with rfl | hy
    · exact h.1
    · exact leS1_trans p x y h.1 (List.rel_of_pairwise_cons ih hy)
theorem sorted_pw : ∀ {l : List Str}, PyProof.Rows.sortedS l = true → l.Pairwise (fun a b => leS1 a b = true)
  | [], _ => List.Pairwise.nil
  | x :: r, h => rising_pw h
def sortS (l : List Str) : List Str := l.mergeSort leS1
theorem sortS_eq {ys ks : List Str} (h : ys.Perm ks) (s : PyProof.Rows.sortedS ys = true) : ys = sortS ks :=
  List.Perm.eq_of_pairwise (fun a b _ _ => leS1_anti a b) (sorted_pw s) (List.pairwise_mergeSort leS1_trans leS1_total ks) (h.trans (List.mergeSort_perm ks leS1).symm)
section
variable {X : Cx} {W : WX} {np : Nat → Bool} {e e2 : Expr} {es : List Expr} {pos p : Pos} {m ma mb : M D} {ml : M (List D)}
/-- sorted(xs), a list of less than 64 texts -/
def sortB (m : M D) : M (List D) := bnd m fun d => match d with
  | .list ds => (match strsD ds with
    | some ks => if ks.length < 64 then M.ret ((sortS ks).map .str) else fun _ => none
    | none => fun _ => none)
  | _ => fun _ => none
theorem sim_sortN (hg : Gl X "sorted") (hm : X.mg "sorted" = none) (h : PE X e (rdB X.K W m)) (hs : starEach (e :: []) X.env = (false, eval e X.env) :: starEach [] X.env := by rfl) :
    PE X (.Call (.Name "sorted" p) [e] [] pos) (rdN X.K W (sortB m)) := PEimp (pe_callB cr_sortedS hg hm PyProof.Rows.boot_sorted (pa1 h hs) (by decide) (by decide) hs) fun σ H Q q => by
  refine (rdG.bind (m := m) q).mono fun d H1 ow1 h1 v rv => ?_
  have h2 := rdG.of h1
  cases d with
  | list ds =>
    cases z : strsD ds with
    | none =>
      simp only [z] at h2
      obtain ⟨_, _, _, _, e, _⟩ := h2
      cases e
    | some ks =>
      simp only [z] at h2
      split at h2
      · rename_i hl
        obtain ⟨ow, pp⟩ := rdG.const (a := (sortS ks).map PyData.str) h2
        obtain ⟨a, xs, rfl, h3, h4⟩ := rv.list
        refine ⟨a, ks, rfl, by rw [← strsD_rel h4 z]; exact h3, hl, fun ys l hp hs hn => ?_⟩
        rw [sortS_eq hp hs]
        exact pp l _ hn (relDs_strs _)
      · obtain ⟨_, _, _, _, e, _⟩ := h2
        cases e
  | _ =>
    obtain ⟨_, _, _, _, e, _⟩ := h2
    cases e
/-! ### the keys of a dict at a slot -/
def keyV : Key → D
  | .inl i => .int i
  | .inr s => .str s
def keysF (kvs : List (Key × D)) : List D := kvs.map fun kv => keyV kv.1
theorem relDs_keys {K : Fr} {H H' : Hp} : ∀ {kvs : List (Key × D)} {ps : List (Key × V)}, RelKv K H kvs ps → RelDs K H' (keysF kvs) (ps.map fun kv => kV kv.1)
  | [], _, h => by
    cases (show _ = _ from h)
    rfl
  | (k, d) :: r, ps, h => by
    obtain ⟨x, pr, rfl, h1, h2⟩ := h
    refine ⟨_, _, rfl, ?_, relDs_keys h2⟩
    cases k with
    | inl i => exact rfl
    | inr i => exact rfl
def keysM (i : Nat) : M (List D) := isK i (atK i fun kvs => some (keysF kvs))
theorem sim_listDN {x : Str} {p2 : Pos} (i : Nat) (hc : X.calm = true) (hg : Gl X "list") (hm : X.mg "list" = none) (hN : X.N[i]? = some x := by rfl) (hvi : Vis X.env.scope x := by first | exact Or.inl rfl | exact Or.inr (Or.inl rfl) | exact Or.inr (Or.inr rfl)) (hd : (x == ("__debug__" : Str)) = false := by decide)
    (hcd : (x == ("__classdict__" : Str)) = false := by decide) (hs : starEach (.Name x p2 :: []) X.env = (false, eval (.Name x p2) X.env) :: starEach [] X.env := by rfl) :
    PE X (.Call (.Name "list" p) [.Name x p2] [] pos) (rdN X.K W (keysM i)) := PEimp (pe_callTy (call_list_dK hc) hg hm PyProof.Rows.boot_list (pa1 (pe_var hN hvi hd hcd) hs) (by decide) (by decide) hs) fun σ H Q q => by
  obtain ⟨a, ps, hs, ha, h1⟩ := isK_at q
  obtain ⟨kvs, ps', ow, d, h3, h4, h5, h6⟩ := atK_run hs h1
  cases Option.some.inj h5
  exact ⟨.ref a, hs, a, ps', rfl, h3, fun q hq => h6 q _ hq (relDs_keys h4)⟩
def strK : List (Key × D) → Option (List Str)
  | [] => some []
  | (.inr s, _) :: r => (strK r).map (s :: ·)
  | _ => none
theorem strK_rel {K : Fr} {H : Hp} : ∀ {kvs : List (Key × D)} {ps : List (Key × V)} {ks : List Str}, RelKv K H kvs ps → strK kvs = some ks → ps.map (·.1) = ks.map Sum.inr
  | [], _, _, h, e => by
    cases (show _ = _ from h)
    cases Option.some.inj e
    rfl
  | (.inl k, d) :: r, ps, ks, h, e => by cases e
  | (.inr k, d) :: r, ps, ks, h, e => by
    obtain ⟨x, pr, rfl, h1, h2⟩ := h
    have e : (strK r).map (k :: ·) = some ks := e
    cases q : strK r with
    | none => rw [q] at e; cases e
    | some ms =>
      rw [q] at e
      cases Option.some.inj e
      rw [List.map_cons, strK_rel h2 q]
      rfl
def sortKM (i : Nat) : M (List D) := isK i (atK i fun kvs => (strK kvs).bind fun ks => if ks.length < 64 then some ((sortS ks).map .str) else none)
theorem sim_sortDN {x : Str} {p2 : Pos} (i : Nat) (hc : X.calm = true) (hg : Gl X "sorted") (hm : X.mg "sorted" = none) (hN : X.N[i]? = some x := by rfl) (hvi : Vis X.env.scope x := by first | exact Or.inl rfl | exact Or.inr (Or.inl rfl) | exact Or.inr (Or.inr rfl)) (hd : (x == ("__debug__" : Str)) = false := by decide)
    (hcd : (x == ("__classdict__" : Str)) = false := by decide) (hs : starEach (.Name x p2 :: []) X.env = (false, eval (.Name x p2) X.env) :: starEach [] X.env := by rfl) :
    PE X (.Call (.Name "sorted" p) [.Name x p2] [] pos) (rdN X.K W (sortKM i)) := PEimp (pe_callB (call_sortedD hc) hg hm PyProof.Rows.boot_sorted (pa1 (pe_var hN hvi hd hcd) hs) (by decide) (by decide) hs) fun σ H Q q => by
  obtain ⟨a, ps, hs, ha, h1⟩ := isK_at q
  obtain ⟨kvs, ps', ow, d, h3, h4, h5, h6⟩ := atK_run hs h1
  cases z : strK kvs with
  | none => rw [z] at h5; cases h5
  | some ks =>
    rw [z] at h5
    simp only [Option.bind_some] at h5
    split at h5
    · rename_i hl
      cases Option.some.inj h5
      refine ⟨.ref a, hs, a, ps', ks, rfl, .inl h3, strK_rel h4 z, hl, fun ys q hp hs hq => ?_⟩
      rw [sortS_eq hp hs]
      exact h6 q _ hq (relDs_strs _)
    · cases h5
/-! ### dict(pairs) -/
def pairsD : List D → Option (List (Key × D))
  | [] => some []
  | .tuple [k, d] :: r => match keyD k with
    | some k => (pairsD r).map ((k, d) :: ·)
    | none => none
  | _ => none
def mergeD (kvs more : List (Key × D)) : List (Key × D) := more.foldl (fun acc kv => putD acc kv.1 kv.2) kvs
theorem RelKv.merge {K : Fr} {H : Hp} : ∀ {more : List (Key × D)} {ps : List (Key × V)} {kvs : List (Key × D)} {qs : List (Key × V)}, RelKv K H more ps → RelKv K H kvs qs → RelKv K H (mergeD kvs more) (mergeK qs ps)
  | [], _, _, _, h, h' => by
    cases (show _ = _ from h)
    exact h'
  | (k, d) :: r, ps, kvs, qs, h, h' => by
    obtain ⟨x, pr, rfl, h1, h2⟩ := h
    exact show RelKv K H (mergeD (putD kvs k d) r) (mergeK (putK qs k x) pr) from RelKv.merge h2 (RelKv.put h1 h')
theorem pairsD_rel {K : Fr} {H : Hp} : ∀ {ds : List D} {vs : List V} {kvs : List (Key × D)}, RelDs K H ds vs → pairsD ds = some kvs → ∃ (as : List Addr) (ps : List (Key × V)), vs = as.map V.ref ∧ Paired (fun p kv => SqT K H p [kV kv.1, kv.2]) as ps ∧ RelKv K H kvs ps
  | [], _, _, h, e => by
    cases (show _ = _ from h)
    cases Option.some.inj e
    exact ⟨[], [], rfl, .nil, rfl⟩
  | d :: r, vs, kvs, h, e => by
    obtain ⟨x, rr, rfl, h1, h2⟩ := h
    unfold pairsD at e
    split at e
    · rename_i h; cases h
    · rename_i heq
      cases heq
      rename_i k d0
      cases z : keyD k with
      | none => rw [z] at e; cases e
      | some k' =>
        rw [z] at e
        simp only at e
        cases q : pairsD r with
        | none => rw [q] at e; cases e
        | some ms =>
          rw [q] at e
          cases Option.some.inj e
          obtain ⟨as, ps, rfl, p1, p2⟩ := pairsD_rel h2 q
          obtain ⟨a, xs, rfl, g1, _, y, ys, rfl, g2, y2, ys2, rfl, g3, g4⟩ := h1
          cases (show _ = _ from g4)
          cases keyD_rel g2 z
          exact ⟨a :: as, (k', y2) :: ps, rfl, .cons g1 p1, y2, ps, rfl, g3, p2⟩
    · cases e
def dictP (m : M D) : M O := bnd m fun d => match d with
  | .list ds => (match pairsD ds with
    | some kvs => M.ret (.mk (mergeD [] kvs))
    | none => fun _ => none)
  | _ => fun _ => none
theorem sim_dictP (hc : X.calm = true) (hg : Gl X "dict") (hm : X.mg "dict" = none) (h : PE X e (rdB X.K W m)) (hs : starEach (e :: []) X.env = (false, eval e X.env) :: starEach [] X.env := by rfl) :
    PE X (.Call (.Name "dict" p) [e] [] pos) (rdO X.K W (dictP m)) := PEimp (pe_callTy (call_dictP hc) hg hm PyProof.Rows.boot_dict (pa1 h hs) (by decide) (by decide) hs) fun σ H Q q => by
  refine (rdG.bind (m := m) q).mono fun d H1 ow1 h1 v rv => ?_
  obtain ⟨env, r, rel, e, z⟩ := h1
  cases d with
  | list ds =>
    simp only at e
    cases y : pairsD ds with
    | none => rw [y] at e; cases e
    | some kvs =>
      rw [y] at e
      cases Option.some.inj e
      obtain ⟨a, xs, rfl, h3, h4⟩ := rv.list
      obtain ⟨as, ps, rfl, p1, p2⟩ := pairsD_rel h4 y
      refine ⟨a, as, ps, rfl, h3, p1, fun p hp => ?_⟩
      have nw : New H1 (upd H1 p (.dK (mergeK [] ps))) := New.upd hp
      have tn : trim H1 ow1 p = none := trim_none hp
      exact z _ (owNew (trim H1 ow1) p) ((nw.relE (rel.kp fun i => trim_kp H1 ow1 _)).kp fun i => owNew_kp tn _) (((trim_step H1 ow1).trans (nw.step _)).owNew hp) _ ⟨p, _, rfl, if_pos rfl, upd_same, RelKv.ext nw.ext _ _ (RelKv.merge p2 (show RelKv X.K H1 [] [] from rfl))⟩
  | _ => cases e
end
end Pm

/-! ## Pm12 -/
set_option Elab.async false
set_option linter.all false
set_option maxRecDepth 100000
set_option maxHeartbeats 2000000
/-! Pm12: enumerate of a tuple. -/
namespace PmEnum
open PySem PySem.Spec PyProof.Rows L2
open AutoSeq1 (wpAny_loadPart')
theorem meets_newT (t : Addr) (ws : Array Value) (n : Nat) (dct : Option Addr) (sl : Array (Option Value)) :
    Meets (Builtin.«enumerate.__new__» ⟨[.type "enumerate", .ref t], []⟩) (fun _ R s => s.heap.get? t = some { cls := .type "tuple", dict := dct, data := .seq ws n, slots := sl } ∧
      R (.ok (.ret (.ref (s.heap.push { cls := .type "tuple_iterator", data := .fields #[.ref t, .int 0 0] }).objs.size)))
        { s with heap := (s.heap.push { cls := .type "tuple_iterator", data := .fields #[.ref t, .int 0 0] }).push { cls := .type "enumerate", data := .fields #[.none, .bool false, .ref s.heap.objs.size, rawInt 0, .none, .none] } }) :=
  .of_wp fun P w A R s y => by
    obtain ⟨hp, g, d, tk, os⟩ := s
    obtain ⟨k1, y⟩ := y
    have q1 := sub_enumerate
    have hT : Heap.IsTuple (Shared.heap ⟨hp, g, d, tk, os⟩) t ws := ⟨_, k1, rfl, n, rfl⟩
    wp_walk using wpAny_loadPart' k1
    refine wpAny_stack_any fun st => wpAny_pure ?_
    split
    · rename_i c _ _ _ _ _
      cases (c == Value.type "enumerate")
      · wp_walk using wpAny_loadPart' k1, wpAny_pyIter_tuple hT
        exact ⟨_, rfl, y⟩
      · wp_walk using wpAny_loadPart' k1, wpAny_pyIter_tuple hT
        exact ⟨_, rfl, y⟩
    · wp_walk using wpAny_loadPart' k1, wpAny_pyIter_tuple hT
      exact ⟨_, rfl, y⟩
section
variable {prog : Program} {w : World} {A : Around} {E : Value → Shared → Prop} {s : Shared}
theorem call_enumT {t : Addr} {ws : Array Value} {Q : Value → Shared → Prop} (hT : IsTup s.heap t ws)
    (h : ∀ h', IsEnum h' (s.heap.objs.size + 1) s.heap.objs.size 0 .none → h'.IsTupleIter s.heap.objs.size t 0 → (∀ b o, s.heap.get? b = some o → h'.get? b = some o) → Q (.ref (s.heap.objs.size + 1)) { s with heap := h' }) :
    wpAny (model prog w) A (call (.type "enumerate") [.ref t]) Q E s := by
  obtain ⟨⟨c, dct, dt, sl⟩, k1, hc, n, hd⟩ := hT
  cases hc
  cases hd
  refine callType_new F.called_enumerate (by decide) (F.typeCall_enumerate_1 _) (F.newCall_enumerate_1 _) (fun obj => F.args_object_init_2 obj _) F.entry_enumerate_new (meets_newT t ws n dct sl) ⟨k1, ?_⟩
  have hz : (s.heap.push { cls := .type "tuple_iterator", data := .fields #[.ref t, .int 0 0] }).objs.size = s.heap.objs.size + 1 := Heap.size_push ..
  show _ ∧ _
  rw [hz]
  have he : IsEnum ((s.heap.push { cls := .type "tuple_iterator", data := .fields #[.ref t, .int 0 0] }).push
      { cls := .type "enumerate", data := .fields #[.none, .bool false, .ref s.heap.objs.size, rawInt 0, .none, .none] }) (s.heap.objs.size + 1) s.heap.objs.size 0 .none := by
    have q := Heap.get?_push_size (s.heap.push { cls := .type "tuple_iterator", data := .fields #[.ref t, .int 0 0] }) (o := { cls := .type "enumerate", data := .fields #[.none, .bool false, .ref s.heap.objs.size, rawInt 0, .none, .none] }) rfl
    rw [hz] at q
    exact q
  exact ⟨⟨_, he, rfl⟩, h _ he ⟨_, Heap.get?_push_of_some _ (Heap.get?_push_size _ rfl), rfl, rfl⟩ fun b o x => Heap.get?_push_of_some _ (Heap.get?_push_of_some _ x)⟩
end
/-- the tuple at a, each item in a new pair -/
def IteT (K : PySem.W.Frag) (a : Addr) (n : Nat) : It :=
  ⟨fun i H => i < n ∧ ∃ (xs : List V) (x : V), SqT K H a xs ∧ xs[i]? = some x, fun i H v H' => ∃ T x, v = .ref T ∧ H T = none ∧ H' = upd H T (.tup [.int (i : Nat), x]) ∧ ∀ xs, SqT K H a xs → xs[i]? = some x, fun i H => n ≤ i ∧ ∃ xs : List V, SqT K H a xs ∧ xs.length = n⟩
theorem tup_isTuple {h : Heap} {a : Addr} {xs : Array Value} (x : IsTup h a xs) : h.IsTuple a xs := by
  obtain ⟨o, e, c, n, d⟩ := x
  exact ⟨o, e, c, n, d⟩
theorem turn_enumT {P : Program} {w : World} {K : PySem.W.Frag} {elts : List Expr} {kk : Nat} {tpos : Pos} (a e it : Addr) (n : Nat) :
    Turn P w K (.Tuple elts kk tpos) (IteT K a n) [e, it] e (fun i h => i ≤ n ∧ (∃ old, IsEnum h e it ((i : Nat) : Int) old) ∧ h.IsTupleIter it a i ∧ e ≠ it ∧ a ≠ it) where
  mem := by simp
  obj := fun i h st b hb => by
    obtain ⟨_, ⟨old, he⟩, ⟨o, ho, hc, hd⟩, _⟩ := st
    have z : b = e ∨ b = it := by simpa using hb
    rcases z with z | z
    · rw [z]; exact ⟨_, he, fun v q => nomatch q⟩
    · rw [z]; exact ⟨o, ho, fun v q => by rw [hd] at q; cases q⟩
  keep := fun i h h' st k => let ⟨hle, ⟨old, he⟩, hi, hne⟩ := st; ⟨hle, ⟨old, k e (by simp) _ he⟩, hi.at fun o q => k it (by simp) o q, hne⟩
  item := by
    intro X hP hw hK hc i pins s σ H E I hf st hg
    subst hP hw hK
    obtain ⟨hle, ⟨old, he⟩, hit, hne, hai⟩ := st
    obtain ⟨hlt0, xs, x, hq, hx⟩ := hg
    obtain ⟨its, rv, p, hz⟩ := I.tuple hq
    obtain ⟨u, hu, ru⟩ := rv.get hx
    have hel : e < s.heap.objs.size := Heap.lt_size he
    have hil : it < s.heap.objs.size := by obtain ⟨_, q, _⟩ := hit; exact Heap.lt_size q
    have hea : e ≠ a := fun q => by
      obtain ⟨o, e1, e2, _⟩ := id p
      rw [q] at he
      have z := he.symm.trans e1
      cases z
      exact absurd (show Value.type "enumerate" = Value.type "tuple" from e2) (by decide)
    have D := Draws.tuple (prog := X.prog) (w := X.w) (A := X.A.in1) (I.ok.hd hc) it a hai its.toArray
    have hlt : i < its.toArray.size := by
      rw [List.size_toArray]
      exact (List.getElem?_eq_some_iff.mp hu).1
    refine wpAny_pyNext_enum_itemD D he ⟨hit, tup_isTuple p⟩ hlt hne (by simp [hne, hea]) fun u' h' tk hP ho hst hT hsz hk => ?_
    have eu : u' = u := by
      have e1 : its.toArray[i]? = some u := by simpa using hu
      rw [e1] at hP
      exact (Option.some.inj hP).symm
    subst eu
    refine ⟨_, rfl, wpAny_letOwnedTupleGo_enum (s := { s with heap := h', toks := tk + 1 }) ho fun h2 he' sb => ?_⟩
    have hT2 : h2.get? s.heap.objs.size = some { cls := .type "tuple", data := .seq #[.int i tk, u'] } := (sb.2 _ (Nat.ne_of_gt hel)).trans hT
    have new : ObjOk X.prog X.w (upd H s.heap.objs.size (.tup [.int (i : Nat), x])) h2 s.heap.objs.size (.tup [.int (i : Nat), x]) :=
      ⟨by show 2 ≤ sizeLine; decide, [.int i tk, u'], .cons ⟨_, rfl⟩ (.cons ru .nil), ⟨_, hT2, rfl, _, rfl⟩⟩
    have I1 : Inv X pins σ (upd H s.heap.objs.size (.tup [.int (i : Nat), x])) { s with heap := h2, toks := tk + 1 } :=
      I.turnedNew (ch := [e, it]) (fun b ob hb q => (sb.2 b (fun z => hb (by simp [z]))).trans (hk b ob (fun z => hb (by simp [z])) (fun z => hb (by simp [z])) q)) hf (Nat.le_refl _) new
    refine ⟨.ref s.heap.objs.size, _, I1, rfl, ⟨_, x, rfl, I.hok.fresh (Nat.le_refl _), rfl, fun ys hy => by rw [I.tuple_inj hy hq]; exact hx⟩, ⟨hlt0, ⟨u', ?_⟩, hst.1.at fun o q => (sb.2 it (Ne.symm hne)).trans q, hne, hai⟩, fun b hb => ?_⟩
    · have e1 : ((i + 1 : Nat) : Int) = (i : Int) + 1 := by omega
      rw [e1]; exact he'
    · have hb' : b < s.heap.objs.size := by
        have z : b = e ∨ b = it := by simpa using hb
        rcases z with z | z
        · rw [z]; exact hel
        · rw [z]; exact hil
      rw [upd_ne (Nat.ne_of_lt hb')]
      exact (hf b hb).1
  done := by
    intro X hP hw hK hc i pins s σ H E I hf st hg
    subst hP hw hK
    obtain ⟨hle, ⟨old, he⟩, hit, hne, hai⟩ := st
    obtain ⟨hn, xs, hq, hx⟩ := hg
    obtain ⟨its, rv, p, hz⟩ := I.tuple hq
    obtain ⟨f0, f1, f2, f3, f4, f5⟩ := hf it (by simp)
    have D := Draws.tuple (prog := X.prog) (w := X.w) (A := X.A.in1) (I.ok.hd hc) it a hai its.toArray
    have ei : i = its.toArray.size := by
      rw [List.size_toArray, ← rv.length]
      omega
    exact wpAny_pyNext_enum_endD D he ⟨ei ▸ hit, tup_isTuple p⟩ fun h' eb => ⟨rfl, I.turned (t' := s.toks) (fun b o hb q => eb b o hb q) f0 f1 f3 f4 f5⟩
  self := fun A i s Q E st h => let ⟨_, ⟨_, he⟩, _⟩ := st; wpAny_pyIter_enum he h
def iEnumT (K : PySem.W.Frag) (ta : TA) : TI := fun σ H R => ta σ H fun vs H1 => ∃ a xs, vs = [.ref a] ∧ SqT K H1 a xs ∧ R (IteT K a xs.length) H1
theorem pi_enumT {X : Cx} {e : Expr} {ta : TA} {p pos tpos : Pos} {elts : List Expr} {kk : Nat} (hg : Gl X "enumerate") (hm : X.mg "enumerate" = none) (ha : PA X [e] ta) (hs : starEach [e] X.env = [(false, eval e X.env)] := by rfl) :
    PI X (.Tuple elts kk tpos) (.Call (.Name "enumerate" p) [e] [] pos) (iEnumT X.K ta) := by
  refine ⟨fun pins s σ H R I h => Call_ (ld_blt I hg hm boot_enumerate (PyProof.Rows.callWith_type1 (thn (ha.run pos pins s σ H _ I h) fun us s1 ⟨vs, H1, I1, r1, q1⟩ => ?_) hs rfl))⟩
  obtain ⟨a, xs, ex, hq, q⟩ := q1
  subst ex
  cases r1 with
  | cons r rr =>
    cases rr
    cases r
    obtain ⟨its, rv, p', hz⟩ := I1.tuple hq
    have ha : a < s1.heap.objs.size := by
      obtain ⟨o, e1, _⟩ := id p'
      exact Heap.lt_size e1
    refine call_enumT p' fun h' he hit hk => wpAny_pyIter_enum he ?_
    have I2 : Inv X pins σ H1 { s1 with heap := h' } := I1.kept (t' := s1.toks) hk
    refine ⟨s1.heap.objs.size + 1, [s1.heap.objs.size + 1, s1.heap.objs.size], _, _, H1, rfl, I2, turn_enumT a (s1.heap.objs.size + 1) s1.heap.objs.size xs.length, ⟨Nat.zero_le _, ⟨.none, he⟩, hit, Nat.succ_ne_self _, Nat.ne_of_lt ha⟩, fun b hb => ?_, q⟩
    have z : b = s1.heap.objs.size + 1 ∨ b = s1.heap.objs.size := by simpa using hb
    have hle : s1.heap.objs.size ≤ b := by
      rcases z with z | z
      · rw [z]; exact Nat.le_add_right _ _
      · rw [z]; exact Nat.le_refl _
    exact I1.fpOk hle (I1.hok.fresh hle)
end PmEnum
namespace Pm
open PySem PySem.Spec L2
variable [TabCtx]
def enumD (xs : List D) : List D := xs.zipIdx.map fun p => .tuple [.int (p.2 : Nat), p.1]
theorem enumD_get {xs : List D} {i : Nat} : (enumD xs)[i]? = xs[i]?.map fun d => PyData.tuple [.int (i : Nat), d] := by
  unfold enumD
  rw [List.getElem?_map, List.getElem?_zipIdx, Option.map_map]
  congr 1
  funext d
  simp
theorem enumD_length {xs : List D} : (enumD xs).length = xs.length := by
  unfold enumD
  rw [List.length_map, List.length_zipIdx]
section
variable {X : Cx} {W : WX} {e : Expr} {elts : List Expr} {kk : Nat} {p pos tpos : Pos} {mr : M (List D)}
def enumM (m : M (List D)) : M (List D) := bnd m fun ds => match ds with
  | [.list xs] => M.ret (enumD xs)
  | [.tuple xs] => M.ret (enumD xs)
  | _ => fun _ => none
theorem RelD.ipair {K : Fr} {H : Hp} {i : Int} {b : D} {y : V} {T : Addr} (n : H T = none) (h2 : RelD K H b y) : RelD K (upd H T (.tup [.int i, y])) (.tuple [.int i, b]) (.ref T) := RelD.pair n (show RelD K H (.int i) (.int i) from rfl) h2
theorem sim_enum (hg : Gl X "enumerate") (hm : X.mg "enumerate" = none) (ha : PA X [e] (rdAs X.K W mr)) (hs : starEach [e] X.env = [(false, eval e X.env)] := by rfl) :
    PI X (.Tuple elts kk tpos) (.Call (.Name "enumerate" p) [e] [] pos) (rdI X.K W (enumM mr)) := PIimp (PIor (pi_enum hg hm ha hs) (PmEnum.pi_enumT hg hm ha hs)) fun σ H R q => by
  obtain ⟨env, ow, r, rel, e, z⟩ := rdG.bind (m := mr) q
  cases r with
  | exc c e1 => exact .inl ⟨env, ow, _, rel, e, z⟩
  | ok ds e1 =>
    by_cases ht : ∃ xs, ds = [.tuple xs]
    · obtain ⟨xs, rfl⟩ := ht
      refine .inr ⟨env, ow, _, rel, e, fun H' ow' rel' s' v rv => ?_⟩
      obtain ⟨v, r', rfl, ⟨a, us, rfl, f1, _, g1⟩, h5⟩ := rv
      cases (show _ = _ from h5)
      obtain ⟨ow2, p⟩ := rdG.const (a := enumD xs) (rdG.of (z H' ow' rel' s'))
      refine ⟨a, us, rfl, f1, p _ ⟨fun i H2 d x0 hd => ?_, fun i H2 x0 hl => ⟨by rw [enumD_length, g1.length] at hl; exact hl, us, x0.sqT f1, rfl⟩⟩⟩
      rw [enumD_get] at hd
      cases y : xs[i]? with
      | none => rw [y] at hd; cases hd
      | some d0 =>
        rw [y] at hd
        cases Option.some.inj hd
        obtain ⟨u1, k1, j1⟩ := g1.get y
        refine ⟨⟨(List.getElem?_eq_some_iff.mp k1).1, us, u1, x0.sqT f1, k1⟩, fun x H3 hy => ?_⟩
        obtain ⟨T, x1, rfl, hT, rfl, q1⟩ := hy
        rw [q1 _ (x0.sqT f1)] at k1
        cases k1
        exact ⟨RelD.ipair hT (RelD.ext x0 _ _ j1), New.upd hT⟩
    · refine .inl ⟨env, ow, _, rel, e, fun H' ow' rel' s' v rv => ?_⟩
      have h2 := rdG.of (z H' ow' rel' s')
      split at h2
      · rename_i xs
        obtain ⟨v, r', rfl, ⟨a, us, rfl, f1, _, g1⟩, h5⟩ := rv
        cases (show _ = _ from h5)
        obtain ⟨ow2, p⟩ := rdG.const (a := enumD xs) h2
        refine ⟨a, us, rfl, f1.sqL, p _ ⟨fun i H2 d x0 hd => ?_, fun i H2 x0 hl => ⟨us, (x0.fzL f1).sqL, by rw [enumD_length, g1.length] at hl; exact hl⟩⟩⟩
        rw [enumD_get] at hd
        cases y : xs[i]? with
        | none => rw [y] at hd; cases hd
        | some d0 =>
          rw [y] at hd
          cases Option.some.inj hd
          obtain ⟨u1, k1, j1⟩ := g1.get y
          refine ⟨⟨us, u1, (x0.fzL f1).sqL, k1⟩, fun x H3 hy => ?_⟩
          obtain ⟨T, x1, rfl, hT, rfl, q1⟩ := hy
          rw [q1 _ (x0.fzL f1).sqL] at k1
          cases k1
          exact ⟨RelD.ipair hT (RelD.ext x0 _ _ j1), New.upd hT⟩
      · exact absurd ⟨_, rfl⟩ ht
      · obtain ⟨_, _, _, _, e, _⟩ := h2
        cases e
end
end Pm

/-! ## Pm13 -/
set_option Elab.async false
set_option linter.all false
set_option maxRecDepth 100000
set_option maxHeartbeats 2000000
/-! Pm13: several names at once, raise of an own class, try. -/
namespace Pm
open PySem PySem.Spec L2
variable [TabCtx]

/-! ### a, b = data -/
def asgS (bd : Bd) (m : M D) : MS := bndS m fun d e => match bd d e with
  | some e' => some (.next e')
  | none => none
def argO0 : M (List O) := M.ret []
def argO (m : M O) (r : M (List O)) : M (List O) := bnd m fun o => bnd r fun os => M.ret (o :: os)
def rdOs (K : Fr) (W : WX) (k : Nat) (m : M (List O)) : TA := fun σ H Q => rdG K W m σ H fun os H' ow' => ∀ vs, RelOs K H' ow' .arg k os vs → Q vs H'
def parE : List Nat → List O → Env → Option Env
  | [], [], e => some e
  | i :: sl, o :: os, e => if i < e.length then parE sl os (e.set i (some o)) else none
  | _, _, _ => none
def parV : List Nat → List V → L2.St → L2.St
  | i :: sl, v :: vs, σ => parV sl vs (σ.set i (some v))
  | _, _, σ => σ
/-- several names get what was made for them -/
def parS (sl : List Nat) (m : M (List O)) : MS := bndS m fun os e => match parE sl os e with
  | some e' => some (.next e')
  | none => none
def owArg (k : Nat) (ow : OW) : OW := fun a => match ow a with
  | some (.tmp, n) => some (.arg k, n)
  | x => x
def owPar (sl : List Nat) (ow : OW) : OW := fun a => match ow a with
  | some (.arg k, n) => sl[k]?.map fun i => (.sl i, n)
  | some (.sl i, n) => if i ∈ sl then none else some (.sl i, n)
  | x => x
section
variable {X : Cx} {W : WX} {np : Nat → Bool} {e tg : Expr} {es : List Expr} {pos : Pos} {m : M D} {mo : M O} {ml : M (List O)} {k : Nat}
theorem sim_asg {bd : Bd} (he : PE X e (rdD X.K W m)) (hg : PG X tg (rdBd X.K np bd)) (hs : swapsWithSole [tg] e pos.line X.env = pure false := by rfl) (hw : swappedStores [tg] e X.env = pure none := by rfl)
    (h1 : (assignEach [tg] X.env).map (·.2) = [assign tg X.env] := by rfl) : PS X (.Assign [tg] e pos) (rdS X.K W np (asgS bd m)) := PSimp (ps_asg he hg hs hw h1) fun D σ H q => by
  refine (rdS.bnd q).mono fun d H1 ow1 ⟨env1, r, rel, e, q1⟩ v rv => ?_
  cases z : bd d env1 with
  | none => rw [z] at e; cases e
  | some e' =>
    rw [z] at e
    cases Option.some.inj e
    exact ⟨env1, ow1, d, e', rel, rv, z, fun σ' r' p' => q1 σ' H1 ow1 r' (StepS.refl _ _) p'⟩
theorem owArg_step {H : Hp} {ow : OW} : Step H ow H (owArg k ow) := ⟨fun _ _ h _ _ => h, fun a h => .inl fun q => h (by
  unfold owArg
  rw [q]), Ext.refl H, fun a j n o h e _ => ⟨e, by
  unfold owArg
  rw [h]⟩⟩
theorem owArg_kp {H : Hp} {ow : OW} {i : Nat} : Kp H ow (.sl i) H (owArg k ow) (.sl i) := ⟨Ext.refl H, fun a j h o e _ => ⟨e, by
  unfold owArg
  rw [h]⟩⟩
theorem owArg_tmp {H : Hp} {ow : OW} : Kp H ow .tmp H (owArg k ow) (.arg k) := ⟨Ext.refl H, fun a j h o e _ => ⟨e, by
  unfold owArg
  rw [h]⟩⟩
theorem sim_pao0 : PA X [] (rdOs X.K W k argO0) := PAimp pa_nil fun σ H Q q => by
  obtain ⟨ow, p⟩ := rdG.const (a := ([] : List O)) q
  exact p _ rfl
/-- with the owners at the start -/
def rdGw (K : Fr) (W : WX) {α : Type} (m : M α) (σ : L2.St) (H : Hp) (ow : OW) (post : α → Hp → OW → Prop) : Prop := ∃ env r, RelE K H ow env σ ∧ m env = some r ∧ okR K W σ H ow post r
theorem rdGw.g {K : Fr} {α : Type} {m : M α} {σ : L2.St} {H : Hp} {ow : OW} {post : α → Hp → OW → Prop} (h : rdGw K W m σ H ow post) : rdG K W m σ H post := by
  obtain ⟨env, r, h⟩ := h
  exact ⟨env, ow, r, h⟩
theorem rdGw.bind {K : Fr} {α β : Type} {m : M α} {k : α → M β} {σ : L2.St} {H : Hp} {ow : OW} {post : β → Hp → OW → Prop} (h : rdGw K W (bnd m k) σ H ow post) :
    rdGw K W m σ H ow fun a H1 ow1 => Step H ow H1 ow1 ∧ rdGw K W (k a) σ H1 ow1 post := by
  obtain ⟨env, r, rel, e, q⟩ := h
  unfold bnd at e
  cases z : m env with
  | none => rw [z] at e; cases e
  | some r1 =>
    cases r1 with
    | exc c e' =>
      rw [z] at e
      cases Option.some.inj e
      exact ⟨env, _, rel, z, q⟩
    | ok a e' =>
      rw [z] at e
      exact ⟨env, _, rel, z, fun H' ow' r' s' => ⟨s', e', r, r', e, q.step s'⟩⟩
theorem rdGw.mono {K : Fr} {α : Type} {m : M α} {σ : L2.St} {H : Hp} {ow : OW} {post post' : α → Hp → OW → Prop} (h : rdGw K W m σ H ow post) (f : ∀ a H' ow', post a H' ow' → post' a H' ow') : rdGw K W m σ H ow post' := by
  obtain ⟨env, r, rel, e, q⟩ := h
  refine ⟨env, r, rel, e, ?_⟩
  cases r with
  | ok a e => exact fun H' ow' r t => f _ _ _ (q H' ow' r t)
  | exc c e => exact q
theorem rdGw.const {K : Fr} {α : Type} {σ : L2.St} {H : Hp} {ow : OW} {a : α} {post : α → Hp → OW → Prop} (h : rdGw K W (M.ret a) σ H ow post) : post a H ow := by
  obtain ⟨env, r, rel, e, q⟩ := h
  cases Option.some.inj e
  exact q H ow rel (Step.refl H ow)
theorem sim_pao (ha : PE X e (rdO X.K W mo)) (hr : PA X es (rdOs X.K W (k + 1) ml)) (hs : starEach (e :: es) X.env = (false, eval e X.env) :: starEach es X.env := by rfl) : PA X (e :: es) (rdOs X.K W k (argO mo ml)) := PAimp (pa_cons ha hr hs) fun σ H Q q => by
  refine (rdG.bind (m := mo) q).mono fun o H1 ow1 ⟨env1, r, rel, e, z⟩ x rx => ?_
  have h1 : rdGw X.K W (bnd ml fun os => M.ret (o :: os)) σ H1 (owArg k ow1) (fun os H' ow' => ∀ vs, RelOs X.K H' ow' .arg k os vs → Q vs H') := ⟨env1, r, rel.kp fun i => owArg_kp, e, z.step owArg_step⟩
  refine rdGw.g (h1.bind.mono fun os H2 ow2 ⟨st, h2⟩ xs rxs => ?_)
  exact h2.const _ ⟨x, xs, rfl, (rx.kp owArg_tmp).kp ⟨st.ext, fun a n h o e nt => st.hold a k n o h e nt⟩, rxs⟩
theorem parE_length : ∀ {sl : List Nat} {os : List O} {e e' : Env}, parE sl os e = some e' → sl.length = os.length ∧ e'.length = e.length
  | [], [], _, _, h => by cases Option.some.inj h; exact ⟨rfl, rfl⟩
  | [], _ :: _, _, _, h => by cases h
  | _ :: _, [], _, _, h => by cases h
  | i :: sl, o :: os, e, e', h => by
    unfold parE at h
    split at h
    · obtain ⟨h1, h2⟩ := parE_length h
      rw [List.length_set] at h2
      exact ⟨by rw [List.length_cons, List.length_cons, h1], h2⟩
    · cases h
theorem parV_length : ∀ (sl : List Nat) (vs : List V) (σ : L2.St), (parV sl vs σ).length = σ.length
  | [], vs, σ => by cases vs <;> rfl
  | i :: sl, [], σ => rfl
  | i :: sl, v :: vs, σ => by
    show (parV sl vs (σ.set i (some v))).length = _
    rw [parV_length, List.length_set]
theorem parV_other {i : Nat} : ∀ {sl : List Nat} {vs : List V} {σ : L2.St}, i ∉ sl → (parV sl vs σ)[i]? = σ[i]?
  | [], vs, σ, _ => by cases vs <;> rfl
  | j :: sl, [], σ, _ => rfl
  | j :: sl, v :: vs, σ, h => by
    show (parV sl vs (σ.set j (some v)))[i]? = _
    simp only [List.mem_cons, not_or] at h
    rw [parV_other h.2, List.getElem?_set_ne (Ne.symm h.1)]
theorem parE_get : ∀ {sl : List Nat} {os : List O} {vs : List V} {e e' : Env} {σ : L2.St} {i : Nat} {o : O}, sl.Nodup → os.length = vs.length → e.length = σ.length → parE sl os e = some e' → e'[i]? = some (some o) →
    (i ∉ sl ∧ e[i]? = some (some o)) ∨ ∃ (k : Nat) (v : V), sl[k]? = some i ∧ os[k]? = some o ∧ vs[k]? = some v ∧ (parV sl vs σ)[i]? = some (some v)
  | [], [], _, _, _, _, _, _, _, _, _, h, h' => by cases Option.some.inj h; exact .inl ⟨by simp, h'⟩
  | [], _ :: _, _, _, _, _, _, _, _, _, _, h, _ => by cases h
  | _ :: _, [], _, _, _, _, _, _, _, _, _, h, _ => by cases h
  | j :: sl, o1 :: os, [], _, _, _, _, _, _, hl, _, _, _ => by cases hl
  | j :: sl, o1 :: os, v :: vs, e, e', σ, i, o, hn, hl, he, h, h' => by
    unfold parE at h
    split at h
    · rename_i hj
      rw [List.nodup_cons] at hn
      have ih := parE_get (vs := vs) (σ := σ.set j (some v)) hn.2 (by simpa using hl) (by rw [List.length_set, List.length_set]; exact he) h h'
      rcases ih with ⟨h1, h2⟩ | ⟨k, w, h1, h2, h3, h4⟩
      · by_cases hij : j = i
        · subst hij
          rw [List.getElem?_set_self hj] at h2
          cases h2
          refine .inr ⟨0, v, rfl, rfl, rfl, ?_⟩
          show (parV sl vs (σ.set j (some v)))[j]? = _
          rw [parV_other h1, List.getElem?_set_self (by rw [← he]; exact hj)]
        · rw [List.getElem?_set_ne hij] at h2
          exact .inl ⟨by simp only [List.mem_cons, not_or]; exact ⟨Ne.symm hij, h1⟩, h2⟩
      · exact .inr ⟨k + 1, w, by simpa using h1, by simpa using h2, by simpa using h3, h4⟩
    · cases h
theorem owPar_step {sl : List Nat} {H : Hp} {ow : OW} : StepS H ow H (owPar sl ow) := ⟨fun _ _ h _ _ => h, fun a h => .inl fun q => h (by
  unfold owPar
  rw [q]), Ext.refl H⟩
theorem RelE.par {K : Fr} {H : Hp} {ow : OW} {env env' : Env} {σ : L2.St} {sl : List Nat} {os : List O} {vs : List V} (hn : sl.Nodup) (r : RelE K H ow env σ) (ro : RelOs K H ow .arg 0 os vs) (h : parE sl os env = some env') :
    RelE K H (owPar sl ow) env' (parV sl vs σ) where
  tab := r.tab
  len := by rw [parV_length, (parE_length h).2]; exact r.len
  rel := fun i o e => by
    rcases parE_get hn ro.length r.len.symm h e with ⟨h1, h2⟩ | ⟨k, v, h1, h2, h3, h4⟩
    · obtain ⟨v, h3, h4⟩ := r.rel i o h2
      refine ⟨v, by rw [parV_other h1]; exact h3, h4.kp ⟨Ext.refl H, fun a j ha o ho _ => ⟨ho, ?_⟩⟩⟩
      unfold owPar
      rw [ha]
      exact if_neg h1
    · obtain ⟨v', h5, h6⟩ := ro.get h2
      rw [h3] at h5
      cases h5
      refine ⟨v, h4, h6.kp ⟨Ext.refl H, fun a j ha o ho _ => ⟨ho, ?_⟩⟩⟩
      rw [Nat.zero_add] at ha
      unfold owPar
      rw [ha]
      simp only [h1]
      rfl
theorem Pin.par : ∀ {sl : List Nat} {vs : List V} {σ : L2.St}, (∀ i ∈ sl, np i = false) → Pin np σ (parV sl vs σ)
  | sl, vs, σ, h => ⟨parV_length sl vs σ, fun i hi => parV_other fun q => by rw [h i q] at hi; cases hi⟩
theorem par_run {sl : List Nat} {D : Ends} {σ : L2.St} {H : Hp} (hn : sl.Nodup) (hnp : ∀ i ∈ sl, np i = false) (q : rdS X.K W np (parS sl ml) D σ H) : rdOs X.K W 0 ml σ H fun vs H1 => vs.length = sl.length ∧ D.nx (parV sl vs σ) H1 := by
  refine (rdS.bnd (m := ml) q).mono fun os H1 ow1 ⟨env1, r, rel, e, q1⟩ vs rvs => ?_
  cases z : parE sl os env1 with
  | none => rw [z] at e; cases e
  | some e' =>
    rw [z] at e
    cases Option.some.inj e
    exact ⟨by rw [(parE_length z).1, rvs.length], q1 _ H1 _ (rel.par hn rvs z) owPar_step (Pin.par hnp)⟩
/-- two plain locals -/
theorem sim_par2 {i j : Nat} {x y : Str} {a b : Expr} {px py pt : Pos} {kt k2 pt2} (hnp : ∀ k ∈ [i, j], np k = false) (hc : X.calm = true) (hN : X.N.Nodup) (hi : X.N[i]? = some x) (hj : X.N[j]? = some y) (hij : [i, j].Nodup)
    (hx : X.env.scope.names.lookup x = some .local) (hy : X.env.scope.names.lookup y = some .local) (ha : PA X [a, b] (rdOs X.K W 0 ml))
    (hw : swappedStores [.Tuple [.Name x px, .Name y py] kt pt] (.Tuple [a, b] k2 pt2) X.env = pure (some [x, y]))
    (hs : swapsWithSole [.Tuple [.Name x px, .Name y py] kt pt] (.Tuple [a, b] k2 pt2) pos.line X.env = pure false := by rfl) :
    PS X (.Assign [.Tuple [.Name x px, .Name y py] kt pt] (.Tuple [a, b] k2 pt2) pos) (rdS X.K W np (parS [i, j] ml)) := PSimp (ps_par hc hN hi hj (by simpa using hij) hx hy ha hw hs) fun D σ H q => by
  refine rdG.mono (par_run hij hnp q) fun os H1 ow1 h vs rvs => ?_
  obtain ⟨h1, h2⟩ := h vs rvs
  match vs, h1 with
  | [v, w], _ => exact ⟨v, w, rfl, h2⟩
theorem sim_par3 {i j l : Nat} {x y z : Str} {a b c : Expr} {px py pz pt : Pos} {kt k2 pt2} (hnp : ∀ k ∈ [i, j, l], np k = false) (hc : X.calm = true) (hN : X.N.Nodup) (hi : X.N[i]? = some x) (hj : X.N[j]? = some y) (hl : X.N[l]? = some z) (hij : [i, j, l].Nodup)
    (hx : X.env.scope.names.lookup x = some .local) (hy : X.env.scope.names.lookup y = some .local) (hz : X.env.scope.names.lookup z = some .local) (ha : PA X [a, b, c] (rdOs X.K W 0 ml))
    (hw : swappedStores [.Tuple [.Name x px, .Name y py, .Name z pz] kt pt] (.Tuple [a, b, c] k2 pt2) X.env = pure (some [x, y, z]))
    (hs : swapsWithSole [.Tuple [.Name x px, .Name y py, .Name z pz] kt pt] (.Tuple [a, b, c] k2 pt2) pos.line X.env = pure false := by rfl) :
    PS X (.Assign [.Tuple [.Name x px, .Name y py, .Name z pz] kt pt] (.Tuple [a, b, c] k2 pt2) pos) (rdS X.K W np (parS [i, j, l] ml)) :=
  have h1 : i ≠ j ∧ i ≠ l ∧ j ≠ l := by simp at hij; exact ⟨hij.1.1, hij.1.2, hij.2⟩
  PSimp (ps_par3 hc hN hi hj hl h1.1 h1.2.1 h1.2.2 hx hy hz ha hw hs) fun D σ H q => by
  refine rdG.mono (par_run hij hnp q) fun os H1 ow1 h vs rvs => ?_
  obtain ⟨h1, h2⟩ := h vs rvs
  match vs, h1 with
  | [v, w, u], _ => exact ⟨v, w, u, rfl, h2⟩
/-- any names, the tuple laid first -/
def gNames : List Nat → TGs
  | [] => gNil
  | i :: sl => gCons (gName i) (gNames sl)
theorem gNames_run : ∀ {sl : List Nat} {vs : List V} {σ : L2.St} {H : Hp} {Q : L2.St → Hp → Prop}, vs.length = sl.length → Q (parV sl vs σ) H → gNames sl vs σ H Q
  | [], [], _, _, _, _, q => ⟨rfl, q⟩
  | [], _ :: _, _, _, _, h, _ => by cases h
  | _ :: _, [], _, _, _, h, _ => by cases h
  | i :: sl, v :: vs, σ, H, Q, h, q => ⟨v, vs, rfl, gNames_run (sl := sl) (by simpa using h) q⟩
theorem sim_parT {sl : List Nat} {ts vs : List Expr} {kt k2 : Nat} {pt pt2 : Pos} (hnp : ∀ k ∈ sl, np k = false) (hc : X.calm = true) (hnd : sl.Nodup) (hlen : sl.length ≤ sizeLine) (hg : PGs X ts (gNames sl)) (ha : PA X vs (rdOs X.K W 0 ml))
    (hn : (assignEach ts X.env).length = sl.length := by rfl) (hst : (assignEach ts X.env).findIdx? (·.1) = none := by rfl)
    (hs : swapsWithSole [.Tuple ts kt pt] (.Tuple vs k2 pt2) pos.line X.env = pure false := by rfl) (hw : swappedStores [.Tuple ts kt pt] (.Tuple vs k2 pt2) X.env = pure none := by rfl)
    (h1 : (assignEach [.Tuple ts kt pt] X.env).map (·.2) = [assign (.Tuple ts kt pt) X.env] := by rfl) : PS X (.Assign [.Tuple ts kt pt] (.Tuple vs k2 pt2) pos) (rdS X.K W np (parS sl ml)) := by
  refine PSimp (ps_asg (pe_tup ha) (pg_tup (n := sl.length) hc hg hn hst) hs hw h1) fun D σ H q => ?_
  have q' : rdS X.K W np (parS sl ml) { D with nx := fun σ H => ∀ p us, H p = none → D.nx σ (upd H p (.tup us)) } σ H := by
    obtain ⟨env, ow, r, rel, e, z⟩ := q
    refine ⟨env, ow, r, rel, e, ?_⟩
    cases r with
    | next e => exact fun σ' H' ow' r' s' p' p us hp => z σ' _ ow' ((New.upd hp).relE r') (s'.trans ((New.upd hp).step ow').s) p'
    | brk e => exact z
    | cont e => exact z
    | ret o e => exact z
    | exc c e => exact z
  refine rdG.mono (par_run hnd hnp q') fun os H1 ow1 h us rus => ?_
  obtain ⟨h2, h3⟩ := h us rus
  exact ⟨by rw [h2]; exact hlen, fun p hp => ⟨p, us, rfl, SqT.of upd_same, h2, gNames_run h2 (h3 p us hp)⟩⟩
/-! ### raise -/
/-- C() -/
theorem pmk_own0 {C : Addr} {bmB : List Value} {B newId initId : String} {x : Str} {p pos : Pos} (F : ExcBaseFacts B newId initId bmB) (q : PySem.W.excIn X.K C bmB newId = true) (gC : X.mg x = some (.ref C)) (kC : PySem.W.keepIn X.K (.ref C) = true) (r : Raises X (.ref C)) (hg : Gl X x)
    (hdb : (x == ("__debug__" : Str)) = false := by decide) : PMk X (.Call (.Name x p) [] [] pos) (fun _ H Q => Q (.ref C) none H) := by
  intro pins s σ H Q I h
  refine wpAny_Call_Name_kw (ld_glob I hg gC ?_ hdb)
  refine PySem.W.callWith_K0 (K := X.K) I.kIn kC ?_
  show wpAny _ _ (call (.ref C) []) _ _ _
  obtain ⟨bm, N, nm, qn, bs, hdct, sn, sub, ab, col, dd, k0, k1, k2, k3, k5, mN, hC, hN, hni, T⟩ := exc_obj I.kIn q
  obtain ⟨hp, g, d, tk, os⟩ := s
  refine wpAny_call_exc_subT F T hC hN hni (fun h' e hm => ?_) (Nat.zero_le _)
  exact mk_of I hm r h (I.hok.gone hm.new)
theorem sim_raise {C : Addr} {c : Str} {t : L2.St → Hp → XK → Prop} (hc : X.calm = true) (tk : Takes X W) (he : PMk X e t) (ht : ∀ σ H Q, Q (.ref C) none H → t σ H Q) (hC : He.ga X.K c = C) : PS X (.Raise (some e) none pos) (rdS X.K W np (raiseS c)) := PSimp (ps_raise hc tk he) fun D σ H ⟨env, ow, r, rel, e, q⟩ => by
  cases Option.some.inj e
  refine ht σ H _ ?_
  subst hC
  exact q σ H ow rel (StepS.refl H ow) (Pin.refl np σ)
end
end Pm

/-! ## Pm14 -/
set_option Elab.async false
set_option linter.all false
set_option maxRecDepth 100000
set_option maxHeartbeats 2000000
/-! Pm14: operators whose first operand stands at a slot; try; a lambda handed to a def that tells whether it is refused. -/
namespace Pm
open PySem PySem.Spec L2
variable [TabCtx]
section
variable {X : Cx} {W : WX} {np : Nat → Bool} {e a b : Expr} {pos p : Pos} {m mb : M D}
theorem hasS_at {K : Fr} {α : Type} {i : Nat} {m : M α} {σ : L2.St} {H : Hp} {post : α → Hp → OW → Prop} (h : rdG K W (hasS i m) σ H post) : ∃ v, σ[i]? = some (some v) ∧ rdG K W m σ H post := by
  obtain ⟨env, ow, r1, rel, e, q⟩ := h
  unfold hasS at e
  split at e
  · rename_i o he
    obtain ⟨v', h1, _⟩ := rel.rel i _ he
    exact ⟨v', h1, env, ow, r1, rel, e, q⟩
  · cases e
theorem sim_binp {op : Operator} {g : D → D → Option D} (i : Nat) {x : Str} (ho : Op2 X (binaryOp op) g) (hb : PE X b (rdB X.K W mb)) (hN : X.N[i]? = some x := by rfl) (hv : Vis X.env.scope x := by first | exact Or.inl rfl | exact Or.inr (Or.inl rfl) | exact Or.inr (Or.inr rfl)) (hd : (x == ("__debug__" : Str)) = false := by decide)
    (hcd : (x == ("__classdict__" : Str)) = false := by decide) : PE X (.BinOp (.Name x p) op b pos) (rdD X.K W (hasS i (op2p g i mb))) := PEimp (pe_op ho (pe_var hN hv hd hcd) hb) fun σ H Q q => by
  obtain ⟨v, hs, h⟩ := hasS_at q
  exact ⟨v, hs, h.op2p hs⟩
theorem sim_cmpp {op : CmpOp} {g : D → D → Option D} (i : Nat) {x : Str} (ho : Op2 X (compareOp op) g) (hb : PE X b (rdB X.K W mb)) (hm : behindInMarks op b = false) (hN : X.N[i]? = some x := by rfl) (hv : Vis X.env.scope x := by first | exact Or.inl rfl | exact Or.inr (Or.inl rfl) | exact Or.inr (Or.inr rfl))
    (hd : (x == ("__debug__" : Str)) = false := by decide) (hcd : (x == ("__classdict__" : Str)) = false := by decide) : PE X (.Compare (.Name x p) [op] [b] pos) (rdD X.K W (hasS i (op2p g i mb))) := PEimp (pe_cmpR ho (pe_var hN hv hd hcd) hb hm) fun σ H Q q => by
  obtain ⟨v, hs, h⟩ := hasS_at q
  exact ⟨v, hs, h.op2p hs⟩
theorem sim_ixp {g : D → D → Option D} (i : Nat) {x : Str} (ho : Ix2 X g) (hb : PE X b (rdB X.K W mb)) (hps : PlainIx b) (hN : X.N[i]? = some x := by rfl) (hv : Vis X.env.scope x := by first | exact Or.inl rfl | exact Or.inr (Or.inl rfl) | exact Or.inr (Or.inr rfl)) (hd : (x == ("__debug__" : Str)) = false := by decide)
    (hcd : (x == ("__classdict__" : Str)) = false := by decide) : PE X (.Subscript (.Name x p) b pos) (rdD X.K W (hasS i (op2p g i mb))) := PEimp (pe_ix ho (pe_var hN hv hd hcd) hb hps) fun σ H Q q => by
  obtain ⟨v, hs, h⟩ := hasS_at q
  exact ⟨v, hs, h.op2p hs⟩
/-! ### try: the body does not raise -/
def tryS (m : MS) : MS := fun e => match m e with
  | some (.exc _ _) => none
  | r => r
theorem sim_tryT {body : List Stmt} {h₀ : ExceptHandler} {hs : List ExceptHandler} {ms : MS} (hb : PSs X.nox body (rdS X.K noX np ms)) : PS X (.Try body (h₀ :: hs) [] [] pos) (rdS X.K W np (tryS ms)) := PSimp (ps_try_thru0 hb) fun D σ H ⟨env, ow, r, rel, e, q⟩ => by
  unfold tryS at e
  cases z : ms env with
  | none => rw [z] at e; cases e
  | some r1 =>
    rw [z] at e
    refine ⟨env, ow, r1, rel, z, ?_⟩
    cases r1 with
    | exc c e' => cases e
    | next e' => cases Option.some.inj e; exact q
    | brk e' => cases Option.some.inj e; exact q
    | cont e' => cases Option.some.inj e; exact q
    | ret o e' => cases Option.some.inj e; exact q
end
/-! ### x(lambda: body): is it refused? -/
/-- False where the body gives a value, rf of the error's class where it raises -/
def refM (rf : Str → Option Bool) (m : M D) : M D := fun e => match m e with
  | some (.ok _ e') => some (.ok (.bool false) e')
  | some (.exc c e') => (rf c).map fun b => .ok (.bool b) e'
  | none => none
def TTref (K : Fr) (rf : Str → Option Bool) : (XK → Hp → VK → Prop) → Hp → VK → Prop := fun tl H Q =>
  tl (fun cls d H' => ∃ c b, cls = .ref (He.ga K c) ∧ d = none ∧ rf c = some b ∧ Q (.bl b) H') H fun _ H' => Q (.bl false) H'
end Pm

/-! ## Pm15 -/
set_option Elab.async false
set_option linter.all false
set_option maxRecDepth 100000
set_option maxHeartbeats 2000000
/-! Pm15: a lambda handed to a def that tells how it is refused. -/
namespace Pm
open PySem PySem.Spec L2
variable [TabCtx]
/-- what is known of an error's class c that the clause `except CS as error` takes, by the test isinstance(error, B) and isinstance(error, ValueError) -/
structure RefC (K : Fr) (CS B : Addr) (c : Str) (b : Bool) : Prop where
  x : ExcC K (He.ga K c)
  m : PySem.W.exmOne K (.ref (He.ga K c)) (.ref CS) = some true
  k : ∃ b1, PySem.W.kitOne K (.ref (He.ga K c)) (.ref B) = some b1 ∧ (b1 = true → PySem.W.kitOne K (.ref (He.ga K c)) (.type "ValueError") = some b) ∧ (b1 = false → b = false)
section
variable {X : Cx}
theorem pss_retV {Y : Cx} {i : Nat} {x : Str} {p p2 : Pos} (hN : Y.N[i]? = some x) (hv : Vis Y.env.scope x) (hd : (x == ("__debug__" : Str)) = false) (hcd : (x == ("__classdict__" : Str)) = false) :
    PSs Y [.Return (some (.Name x p)) p2] (fun D σ H => i < σ.length → ∃ v, σ[i]? = some (some v) ∧ D.rt v H) := by
  refine ⟨fun pins s σ H D I h => ?_⟩
  have hl : i < σ.length := by
    rw [I.len]
    exact (List.getElem?_eq_some_iff.mp hN).1
  obtain ⟨v, h1, h2⟩ := h hl
  exact (pss_one (ps_ret (pe_var hN hv hd hcd))).run pins s σ H D I ⟨v, h1, h2⟩
/-- found = False / try: call() / except CS as error: found = isinstance(error, B) and isinstance(error, ValueError) / return found -/
theorem ref_gives {Ng : List Str} {xg a q fo er cs bb isi ve : Str} {sg : Scope} {g CS B : Addr} {cdg : Value} {rf : Str → Option Bool} {j : Nat} {p1 p2 p3 p4 p5 p6 p7 p8 p9 p10 p11 p12 p13 p14 p15 p16 p17 p18 p19 p20 p21 p22 : Pos}
    (hrf : ∀ c b, rf c = some b → RefC X.K CS B c b) (hNd : Ng.Nodup) (h1 : Ng[1]? = some fo) (h2 : Ng[2]? = some er) (hfl : sg.names.lookup fo = some .local) (hel : sg.names.lookup er = some .local) (hgc : sg.names.lookup cs = some .globalImplicit) (hmc : X.mg cs = some (.ref CS))
    (hgb : sg.names.lookup bb = some .globalImplicit) (hmb : X.mg bb = some (.ref B)) (hgi : sg.names.lookup isi = some .globalImplicit) (hmi : X.mg isi = none) (hbi : bootBuiltins isi = some (.builtin "isinstance")) (hgv : sg.names.lookup ve = some .globalImplicit) (hmv : X.mg ve = none) (hbv : bootBuiltins ve = some (.type "ValueError"))
    (hkf : sg.kind = .function)
    (d1 : (fo == ("__debug__" : Str)) = false) (d2 : (er == ("__debug__" : Str)) = false) (d3 : (cs == ("__debug__" : Str)) = false) (d4 : (bb == ("__debug__" : Str)) = false) (d5 : (isi == ("__debug__" : Str)) = false) (d6 : (ve == ("__debug__" : Str)) = false)
    (c1 : (fo == ("__classdict__" : Str)) = false) (c2 : (er == ("__classdict__" : Str)) = false) (n1 : isi ≠ "__name__") (n2 : ve ≠ "__name__") :
    LamX.GivesTo X Ng xg sg g cdg [.Assign [.Name fo p1] (.Constant (.bool false) j p2) p3,
      .Try [.Expr (.Call (.Name a p4) [] [] p5) p6] [.ExceptHandler (some (.Name cs p7)) (some er) [.Assign [.Name fo p8] (.BoolOp .And [.Call (.Name isi p9) [.Name er p10, .Name bb p11] [] p12, .Call (.Name isi p13) [.Name er p14, .Name ve p15] [] p16] p17) p18] p19] [] [] p20,
      .Return (some (.Name fo p21)) p22] a q (TTref X.K rf) := by
  intro f c' s H Q tl act hc h
  let Z : Cx := (cxOf C8.CX0 X.prog X.w X.K X.mg X.base Ng xg sg g cdg X.A X.stack s H C8.E0).nox
  have hZN : Z.N = Ng := rfl
  have hZs : Z.env.scope = sg := rfl
  refine ⟨_, pss_cons (ps_set (X := Z) (i := 1) hNd h1 (.inl hfl) (pe_bl (b := false)) rfl (.inr hfl)) (pss_cons (ps_try_as (X := Z) (c := .ref CS) (i := 2) (Wout := fun _ _ _ _ => False)
      (tb := fun W D σ H => ∃ Ech : XK, (∀ cls d σ' H', Ech cls d H' → W cls d σ' H') ∧ σ[0]? = some (some (.ref f)) ∧ H c' = some (LamX.CodeO c' q) ∧ tl Ech H fun _ H' => D.nx σ H')
      (ts := fun ae cls d D σ H => ∃ c b, cls = .ref (He.ga X.K c) ∧ d = none ∧ rf c = some b ∧ (2 < σ.length → σ[2]? = some (some (.ref ae))) ∧ D.nx (σ.set 1 (some (.bl b))) H)
      rfl rfl hNd h2 hel ⟨hgc, d3, .inl hmc⟩ LamX.takes0 (fun W pn xe tk _ => ?_) (fun ae oe cls d pn hz hf => ?_)) (pss_retV (i := 1) h1 (.inl hfl) d1 c1)), ?_⟩
  · refine ⟨fun pins s' σ H' D I h' => ?_⟩
    obtain ⟨Ech, hW, k1, k2, k3⟩ := h'
    exact (pss_one (ps_expr (pos := p6) (act W pn xe Ech p4 p5 tk hW) rfl)).run pins s' σ H' D I ⟨k1, k2, k3⟩
  · refine ⟨fun pins s' σ H' D I h' => ?_⟩
    obtain ⟨c, b, rfl, rfl, hb, h3, h4⟩ := h'
    have hl : 2 < σ.length := by
      rw [I.len]
      exact (List.getElem?_eq_some_iff.mp h2).1
    obtain ⟨xc, _, b1, k1, k2, k3⟩ := hrf c b hb
    have hk : ∀ (t : Str), sg.names.lookup t = some .globalImplicit → Gl (Z.suite ae ((ae, oe) :: pn)) t := fun _ z => z
    refine (pss_one (ps_set (X := Z.suite ae ((ae, oe) :: pn)) (i := 1) hNd h1 (.inl hfl) (pe_and (pe_callB (call_isE xc hz hf) (hk isi hgi) hmi hbi (pa_cons (pe_var (i := 2) h2 (.inl hel) d2 c2) (pa_cons (pe_glob (v := .ref B) (hk bb hgb) hmb rfl d4) pa_nil)) n1 d5)
      (pe_one (pe_callB (call_isE xc hz hf) (hk isi hgi) hmi hbi (pa_cons (pe_var (i := 2) h2 (.inl hel) d2 c2) (pa_cons (pe_bltn (v := .ty "ValueError") (hk ve hgv) hmv hbv rfl n2 d6) pa_nil)) n1 d5))) rfl (.inr hfl))).run pins s' σ H' D I ?_
    refine ⟨.ref ae, h3 hl, .ref B, .ref B, b1, rfl, fun u hu => hu, k1, b1, rfl, ?_⟩
    cases b1 with
    | false =>
      have := k3 rfl
      subst this
      exact h4
    | true => exact ⟨.ref ae, h3 hl, .ty "ValueError", .type "ValueError", b, rfl, fun u hu => hu, k2 rfl, h4⟩
  · have hlen : (L2.start Ng [V.ref f])[0]? = some (some (V.ref f)) := rfl
    refine ⟨fun cls d H' => ∃ c b, cls = .ref (He.ga X.K c) ∧ d = none ∧ rf c = some b ∧ Q (.bl b) H', fun cls d σ' H' ⟨c, b, e1, e2, e3, e4⟩ => ?_, ?_, hc, ?_⟩
    · subst e1 e2
      refine ⟨true, (hrf c b e3).m, fun _ ae _ => ⟨c, b, rfl, rfl, e3, fun hl => ?_, fun hl => ?_⟩, fun z => nomatch z⟩
      · rw [List.length_set] at hl
        exact List.getElem?_set_self hl
      · rw [List.length_set] at hl
        refine ⟨.bl b, ?_, e4⟩
        rw [List.getElem?_set_ne (by decide)]
        rw [List.length_set] at hl
        exact List.getElem?_set_self hl
    · rw [List.getElem?_set_ne (by decide)]
      exact hlen
    · have hs1 : 1 < (L2.start Ng [V.ref f]).length := by
        have := (List.getElem?_eq_some_iff.mp h1).1
        unfold L2.start
        rw [List.length_append, List.length_map, List.length_replicate, List.length_singleton]
        omega
      have e : (fun (_ : V) H' => 1 < ((L2.start Ng [V.ref f]).set 1 (some (V.bl false))).length → ∃ v, ((L2.start Ng [V.ref f]).set 1 (some (V.bl false)))[1]? = some (some v) ∧ Q v H') = fun (_ : V) H' => Q (.bl false) H' := by
        funext _ H'
        refine propext ⟨fun z => ?_, fun z _ => ⟨.bl false, List.getElem?_set_self hs1, z⟩⟩
        obtain ⟨v, k1, k2⟩ := z (by rw [List.length_set]; exact hs1)
        rw [List.getElem?_set_self hs1] at k1
        cases k1
        exact k2
      show tl _ H (fun (_ : V) H' => 1 < ((L2.start Ng [V.ref f]).set 1 (some (V.bl false))).length → ∃ v, ((L2.start Ng [V.ref f]).set 1 (some (V.bl false)))[1]? = some (some v) ∧ Q v H')
      rw [e]
      exact h
/-- the heap behind the making of a lambda -/
theorem extN_ext {H H1 : Hp} (x : LamX.ExtN H H1) (t : TbOk H1) : Ext H H1 := ⟨fun a xs h => x a _ h (fun ps e => nomatch e), fun a o u h => x a _ h (fun ps e => nomatch e), fun _ => t⟩
theorem extN_kp {H H1 : Hp} {ow : OW} {w : Own} (x : LamX.ExtN H H1) (t : TbOk H1) : Kp H ow w H1 ow w := ⟨extN_ext x t, fun a j h o e nt => ⟨x a o e nt, h⟩⟩
theorem extN_step {H H1 : Hp} {ow : OW} (x : LamX.ExtN H H1) (t : TbOk H1) : Step H ow H1 ow := ⟨fun a o h _ nt => x a o h nt, fun _ h => .inl h, extN_ext x t, fun a k j o h e nt => ⟨x a o e nt, h⟩⟩
variable {W : WX}
theorem lam_run {K : Fr} {rf : Str → Option Bool} {mb : M D} {σ : L2.St} {H : Hp} {Q : VK} (h : rdD K W (refM rf mb) σ H Q) :
    LamX.tLam TabCtx.T (TTref K rf) (fun E => rdD K (fun cls d _ H => E cls d H) mb) σ H Q := by
  obtain ⟨env, ow, r, rel, e, q⟩ := h
  refine ⟨rel.tab, fun H1 x t => ?_⟩
  unfold refM at e
  cases z : mb env with
  | none => rw [z] at e; cases e
  | some r1 =>
    rw [z] at e
    have st : Step H ow H1 ow := extN_step x t
    refine ⟨env, ow, r1, rel.kp fun i => extN_kp x t, z, ?_⟩
    cases r1 with
    | ok d e' =>
      cases Option.some.inj e
      exact fun H' ow' r' s' v rv => q H' ow' r' (st.trans s') _ rfl
    | exc c e' =>
      cases y : rf c with
      | none => simp only [y] at e; cases e
      | some b =>
        simp only [y] at e
        cases Option.some.inj e
        exact fun H' ow' r' s' => ⟨c, b, rfl, rfl, y, q H' ow' r' (st.trans s') _ rfl⟩
theorem sim_lamref {rf : Str → Option Bool} {mb : M D} {x a : Str} {g c P : Addr} {k : Nat} {pg : Arguments} {bg : List Stmt} {sg : Scope} {dV kV doc pm cdv ct oc : Value} {an od : Option Addr} {osl : Array (Option Value)} {Ng : List Str}
    {params : Arguments} {body : Expr} {scope : Scope} {p lpos pos : Pos} (hg : Gl X x) (hm : X.mg x = some (.ref g)) (hk : PySem.W.keepIn X.K (.ref g) = true)
    (lk : X.K.lookup g = some ⟨oc, od, .func (PySem.W.fnOf x x pg bg sg dV kV doc pm an cdv ct), osl⟩) (hcg : PySem.W.codeIn X.K cdv x = true) (hb : L2.Binds X.K (PySem.W.fnOf x x pg bg sg dV kV doc pm an cdv ct) [a] []) (Sg : FnScope Ng [a] sg) (hNg : Ng[0]? = some a) (hva : Vis sg a)
    (hG : LamX.GivesTo X Ng x sg g cdv bg a (X.env.qual ++ "<lambda>") (TTref X.K rf))
    (TB : LamX.TabB X.base X.mg c P) (hcode : X.env.code = .ref c) (hmT : (P, X.env.qual ++ "<lambda>") ∈ TabCtx.T) (hu : ∀ p ∈ TabCtx.T, p.1 = P → p.2 = X.env.qual ++ "<lambda>") (hr : Room (k + 2) X.A) (L : LamX.LamS X.env.scope scope) (hdef : defaultsOf params X.env = ([], []))
    (hbind : ∀ (q : Str) (cl : List (Str × Addr)) (pm cv ctv : Value), bindArgs (PySem.W.kla_fn "<lambda>" q params body scope cl pm cv ctv) ⟨[], []⟩ = pure [])
    (hbody : ∀ (A : Around) (outer : List PySem.Env) (s : Shared) (H : Hp) (E : XK) (f c' : Addr), Room k (A.deeper (LamX.lamEnv X scope s.heap.objs.size f c')) → Takes (LamX.lamCx X A outer s H E scope f c') (fun cls d _ H => E cls d H) →
      PE (LamX.lamCx X A outer s H E scope f c') body (rdD X.K (fun cls d _ H => E cls d H) mb))
    (hdb : (x == ("__debug__" : Str)) = false := by decide) (hd : (a == ("__debug__" : Str)) = false := by decide) (hcd : (a == ("__classdict__" : Str)) = false := by decide) :
    PE X (.Call (.Name x p) [.Lambda params body scope lpos] [] pos) (rdD X.K W (refM rf mb)) :=
  PEimp (LamX.pe_lamcall (T := TabCtx.T) (TT := TTref X.K rf) (t := fun E => rdD X.K (fun cls d _ H => E cls d H) mb) hg hm hk lk hcg hb Sg hNg hva hG TB hcode hmT hu hr L hdef hbind (fun A outer s H E f c' hr' => hbody A outer s H E f c' hr' (takes_of rfl rfl rfl rfl)) hdb hd hcd) fun σ H Q q => lam_run q
/-! ### a def that makes lambdas: its code object is known -/
theorem fn_bodyC {P : Program} {w : World} {K : PySem.W.Frag} {mg : Str → Option Value} {base : Heap} {x qual : Str} {params : Arguments} {body : List Stmt} {scope : Scope} {f : Addr} {fd : FuncData} {N ps : List Str} {k n : Nat} {np : Nat → Bool} {ms : MS} {mf : MF}
    (F : FunD K x qual params body scope [] [] f fd) (S : FnScope N ps scope) (hmf : mf = bodyF np N.length ms) (hn : ps.length = n)
    (hb : ∀ (c : Addr) (A : Around) (outer : List PySem.Env) (s : Shared) (H : Hp) (E : XK), (∀ p, He.fAd K p = f → He.codeOf K p = c) → Room k (A.deeper (PyProof.Rows.envOfC qual scope s.heap.objs.size f (.ref c))) → Takes (cxOf (L2.CX P w) P w K mg base N qual scope f (.ref c) A outer s H E) (fun cls d _ H => E cls d H) →
      PSs (cxOf (L2.CX P w) P w K mg base N qual scope f (.ref c) A outer s H E) body (rdS K (fun cls d _ H => E cls d H) np ms)) :
    FnOk P w K mg base (L2.CX P w) (k + 1) f fd ps (spM K n mf) := by
  subst hmf
  obtain ⟨oc, od, dV, kV, doc, pm, an, cdv, ct, osl, rfl, lk, hcd, _, _⟩ := F.ex
  obtain ⟨c, rfl⟩ := He.codeIn_ref hcd
  refine fn_of lk hcd S (fun vs H Q E h => by rw [hn]; exact h.1) fun A outer s H vs Q E hr hsp => ⟨_, hb c A outer s H E (fun p hp => He.codeOf_eq (hp ▸ lk) rfl) hr (takes_of rfl rfl rfl rfl), body_sp hsp⟩
end
end Pm

/-! ## Pm16 -/
set_option Elab.async false
set_option linter.all false
set_option maxRecDepth 100000
set_option maxHeartbeats 2000000
/-! Pm16: either way; the module's names; a slot given away; defs by what they promise. -/
namespace Pm
open PySem PySem.Spec L2
variable [TabCtx]
/-- the first that gives something -/
def altM {α : Type} (m1 m2 : M α) : M α := fun e => match m1 e with
  | some r => some r
  | none => m2 e
def addA (ma mb : M D) : M D := altM (op2 addS ma mb) (lstM (catB ma mb))
def cutA (m : M D) (m1 m2 : M (Option Int)) : M D := altM (slM cutS m m1 m2) (lstM (cutB m m1 m2))
def itsA (m : M D) : M (List D) := altM (itemsM m) (chrsM m)
/-- what a slot holds, given away -/
def takeO (i : Nat) : M O := fun e => match e[i]? with
  | some (some o) => some (.ok o (e.set i none))
  | _ => none
def owTake (i : Nat) (ow : OW) : OW := fun a => match ow a with
  | some (.sl k, n) => if k = i then some (.tmp, n) else some (.sl k, n)
  | x => x
section
variable {X : Cx} {W : WX} {np : Nat → Bool} {e tg a b : Expr} {es : List Expr} {pos p p2 : Pos} {m ma mb : M D}
theorem alt_run {K : Fr} {α : Type} {m1 m2 : M α} {σ : L2.St} {H : Hp} {post : α → Hp → OW → Prop} (h : rdG K W (altM m1 m2) σ H post) : rdG K W m1 σ H post ∨ rdG K W m2 σ H post := by
  obtain ⟨env, ow, r, rel, e, q⟩ := h
  unfold altM at e
  cases z : m1 env with
  | some r1 =>
    rw [z] at e
    cases Option.some.inj e
    exact .inl ⟨env, ow, _, rel, z, q⟩
  | none =>
    rw [z] at e
    exact .inr ⟨env, ow, _, rel, e, q⟩
theorem sim_addA (ha : PE X a (rdD X.K W ma)) (hb : PE X b (rdB X.K W mb)) : PE X (.BinOp a .Add b pos) (rdD X.K W (addA ma mb)) := PEimp (PEor (sim_bin o2_add ha hb) (sim_nF (sim_catN ha hb))) fun σ H Q q => alt_run q
theorem sim_cutA {lo hi : Option Expr} {m1 m2 : M (Option Int)} (he : PE X e (rdD X.K W m)) (hl : PO X lo (rdP X.K W m1)) (hh : PO X hi (rdP X.K W m2)) : PE X (.Subscript e (.Slice lo hi none p2) pos) (rdD X.K W (cutA m m1 m2)) :=
  PEimp (PEor (sim_sl s1_cut he hl hh) (sim_nF (sim_cutN he hl hh))) fun σ H Q q => alt_run q
theorem sim_itA (h : PE X e (rdD X.K W m)) : PI X tg e (rdI X.K W (itsA m)) := PIimp (PIor (sim_it h) (sim_itStr h)) fun σ H R q => alt_run q
theorem sim_gint {x : Str} {i : Int} (hg : Gl X x) (h : ∃ t, X.mg x = some (.int i t)) (hd : (x == ("__debug__" : Str)) = false := by decide) : PE X (.Name x pos) (rdD X.K W (cst (.int i))) := by
  obtain ⟨t, h⟩ := h
  exact sim_glob (v := .int i) hg h ⟨t, rfl⟩ (fun _ => rfl) hd
theorem sim_gstr {x z : Str} (hg : Gl X x) (h : ∃ t, X.mg x = some (.str z t)) (hd : (x == ("__debug__" : Str)) = false := by decide) : PE X (.Name x pos) (rdD X.K W (cst (.str z))) := by
  obtain ⟨t, h⟩ := h
  exact sim_glob (v := .str z) hg h ⟨t, rfl⟩ (fun _ => rfl) hd
/-- a tuple of the module -/
structure TupG (K : Fr) (mg : Str → Option Value) (x : Str) (ds : List D) : Prop where
  ex : ∃ a vs, mg x = some (.ref a) ∧ (∀ H, SqT K H a vs) ∧ (∀ H, RelDs K H ds vs) ∧ ds.length ≤ sizeLine
theorem sim_gtupC {x : Str} {ds : List D} (hg : Gl X x) (h : TupG X.K X.mg x ds) (hd : (x == ("__debug__" : Str)) = false := by decide) : PE X (.Name x pos) (rdD X.K W (cst (.tuple ds))) := by
  obtain ⟨a, vs, h1, h2, h3, h4⟩ := h.ex
  exact sim_glob (v := .ref a) hg h1 rfl (fun H => ⟨a, vs, rfl, h2 H, h4, h3 H⟩) hd
theorem sim_takeO (i : Nat) {x : Str} (hN : X.N[i]? = some x := by rfl) (hv : Vis X.env.scope x := by first | exact Or.inl rfl | exact Or.inr (Or.inl rfl) | exact Or.inr (Or.inr rfl)) (hd : (x == ("__debug__" : Str)) = false := by decide) (hcd : (x == ("__classdict__" : Str)) = false := by decide) :
    PE X (.Name x pos) (rdO X.K W (takeO i)) := PEimp (pe_var hN hv hd hcd) fun σ H Q ⟨env, ow, r, rel, e, q⟩ => by
  unfold takeO at e
  split at e
  · rename_i o he
    cases Option.some.inj e
    obtain ⟨v, h1, h2⟩ := rel.rel i _ he
    have kt : ∀ k, k ≠ i → Kp H ow (.sl k) H (owTake i ow) (.sl k) := fun k hk => ⟨Ext.refl H, fun a j h o e _ => ⟨e, by
      unfold owTake
      rw [h]
      exact if_neg hk⟩⟩
    have st : Step H ow H (owTake i ow) := ⟨fun _ _ h _ _ => h, fun a h => .inl fun z => h (by
      unfold owTake
      rw [z]), Ext.refl H, fun a k j o h e _ => ⟨e, by
      unfold owTake
      rw [h]⟩⟩
    refine ⟨v, h1, q H (owTake i ow) ⟨rel.tab, by rw [List.length_set]; exact rel.len, fun k o' hk => ?_⟩ st v (h2.kp ⟨Ext.refl H, fun a j h o e _ => ⟨e, ?_⟩⟩)⟩
    · by_cases hki : k = i
      · subst hki
        by_cases hl : k < env.length
        · rw [List.getElem?_set_self hl] at hk; cases hk
        · rw [List.getElem?_eq_none (by rw [List.length_set]; omega)] at hk; cases hk
      · rw [List.getElem?_set_ne (Ne.symm hki)] at hk
        obtain ⟨w, h3, h4⟩ := rel.rel k _ hk
        exact ⟨w, h3, h4.kp (kt k hki)⟩
    · unfold owTake
      rw [h]
      exact if_pos rfl
  · cases e
def ifO (t : M Bool) (a b : M O) : M O := bnd t fun x => if x = true then a else b
theorem sim_ifO {c : Expr} {t : M Bool} {oa ob : M O} (ht : PT X c (rdT X.K W t)) (ha : PE X a (rdO X.K W oa)) (hb : PE X b (rdO X.K W ob)) : PE X (.IfExp c a b pos) (rdO X.K W (ifO t oa ob)) := PEimp (pe_ifExp ht ha hb) fun σ H Q q => by
  refine (rdG.bind (m := t) q).mono fun x H1 ow1 h1 => ?_
  have h2 := rdG.of h1
  cases x with
  | true => exact h2
  | false => exact h2
/-! ### a display of a dict -/
def dispL : List (Key × M D) → M (List (Key × D))
  | [] => M.ret []
  | (k, m) :: r => bnd m fun d => bnd (dispL r) fun kvs => M.ret ((k, d) :: kvs)
def dispO (kms : List (Key × M D)) : M O := bnd (dispL kms) fun kvs => M.ret (.mk (mergeD [] kvs))
def rdPs (K : Fr) (W : WX) (kms : List (Key × M D)) : List (TE × TE) := kms.map fun km => (tC (kV km.1), rdD K W km.2)
theorem disp_run {K : Fr} {σ : L2.St} : ∀ {kms : List (Key × M D)} {H : Hp} {ow : OW} {post : List (Key × D) → Hp → OW → Prop} {Q : List (V × V) → Hp → Prop}, rdGw K W (dispL kms) σ H ow post →
    (∀ kds kvs H' ow', RelKv K H' kds kvs → kds.length = kms.length → Step H ow H' ow' → post kds H' ow' → Q (kvs.map fun kv => (kV kv.1, kv.2)) H') → tPairs (rdPs K W kms) σ H Q
  | [], H, ow, post, Q, h, f => f [] [] H ow rfl rfl (Step.refl H ow) h.const
  | (k, m) :: r, H, ow, post, Q, h, f => by
    show rdD K W m σ H fun y H2 => tPairs (rdPs K W r) σ H2 fun ps H3 => Q ((kV k, y) :: ps) H3
    have h1 : rdGw K W (bnd m fun d => bnd (dispL r) fun kvs => M.ret ((k, d) :: kvs)) σ H ow post := h
    refine rdGw.g (h1.bind.mono fun d H1 ow1 ⟨st, h2⟩ y ry => ?_)
    refine disp_run (kms := r) h2.bind fun kds kvs H2 ow2 rk hl st2 ⟨_, h3⟩ => ?_
    exact f ((k, d) :: kds) ((k, y) :: kvs) H2 ow2 ⟨y, kvs, rfl, RelD.ext st2.ext d y ry, rk⟩ (by rw [List.length_cons, List.length_cons, hl]) (st.trans st2) h3.const
theorem sim_pps0 : PPs X pos [] [] (rdPs X.K W []) := pps_nil
theorem sim_pps {k : Str} {j : Nat} {v : Expr} {ks : List (Option Expr)} {vs : List Expr} {kms : List (Key × M D)} (hv : PE X v (rdD X.K W m)) (hr : PPs X pos ks vs (rdPs X.K W kms)) : PPs X pos (some (.Constant (.str k) j p) :: ks) (v :: vs) (rdPs X.K W ((.inr k, m) :: kms)) := pps_cons pe_str hv hr
theorem RelKv.val0 {κ : Type} {K : Fr} {H : Hp} : RelKv (κ := κ) K H [] [] := rfl
theorem sim_disp {keys : List (Option Expr)} {values : List Expr} {kms : List (Key × M D)} (h : PPs X pos keys values (rdPs X.K W kms)) (hall : keys.all (·.isSome) = true) (hl : keys.length = values.length) (h0 : keys ≠ []) (h15 : keys.length ≤ 15) (hk : kms.length ≤ 15) :
    PE X (.Dict keys values pos) (rdO X.K W (dispO kms)) := PEimp (pe_disp h hall hl h0 h15) fun σ H Q ⟨env, ow, r, rel, e, q⟩ p hp => by
  have tn : trim H ow p = none := trim_none hp
  have st0 : Step H ow (upd H p (.dK [])) (trim H ow) := (trim_step H ow).trans ((New.upd hp).step _)
  have hg : rdGw X.K W (dispL kms) σ (upd H p (.dK [])) (trim H ow) (fun kds H' ow' => ∃ e2, RelE X.K H' ow' e2 σ ∧ r = .ok (O.mk (mergeD [] kds)) e2) := by
    unfold dispO bnd at e
    cases z : dispL kms env with
    | none => rw [z] at e; cases e
    | some r1 =>
      rw [z] at e
      refine ⟨env, r1, (New.upd hp).relE (rel.kp fun i => trim_kp H ow _), z, ?_⟩
      cases r1 with
      | exc c e2 =>
        cases Option.some.inj e
        exact fun H' ow' r' s' => q H' ow' r' (st0.trans s')
      | ok kds e2 =>
        cases Option.some.inj e
        exact fun H' ow' r' s' => ⟨e2, r', rfl⟩
  refine disp_run hg fun kds kvs H2 ow2 rk hlen st ⟨e2, rel2, er⟩ => ?_
  have hd : H2 p = some (.dK []) := st.keep p _ upd_same tn fun _ e => nomatch e
  have hn : ow2 p = none := st.s.free upd_same (fun _ e => nomatch e) tn
  refine ⟨hd, kvs, rfl, by rw [← rk.length, hlen]; exact hk, ?_⟩
  subst er
  have xe : Ext H2 (upd H2 p (.dK (mergeK [] kvs))) := Ext.upd hd True.intro
  exact q _ (owNew ow2 p) ((rel2.kp fun i => kp_free hd True.intro hn).kp fun i => owNew_kp hn _) (((st0.trans st).updNew hp hd True.intro hn).owNew hp) _ ⟨p, _, rfl, if_pos rfl, upd_same, RelKv.merge (RelKv.ext xe _ _ rk) (show RelKv X.K _ [] [] from rfl)⟩
/-! ### tests -/
theorem sim_tcmpp {op : CmpOp} {g : D → D → Option D} (i : Nat) {x : Str} (ho : Op2 X (compareOp op) g) (hb : PE X b (rdB X.K W mb)) (hm : behindInMarks op b = false) (hN : X.N[i]? = some x := by rfl) (hv : Vis X.env.scope x := by first | exact Or.inl rfl | exact Or.inr (Or.inl rfl) | exact Or.inr (Or.inr rfl))
    (hd : (x == ("__debug__" : Str)) = false := by decide) (hcd : (x == ("__classdict__" : Str)) = false := by decide) : PT X (.Compare (.Name x p) [op] [b] pos) (rdT X.K W (tst (hasS i (op2p g i mb)))) := PTimp (pt_cmpR ho (pe_var hN hv hd hcd) hb hm) fun σ H Q q => by
  obtain ⟨v, hs, h⟩ := hasS_at (rdG.tst q)
  exact ⟨v, hs, h.op2p hs⟩
/-- d[k] there, as a test -/
theorem tst_imp {t : TE} (h : PT X e (tB t)) (f : ∀ σ H Q, rdD X.K W m σ H Q → t σ H Q) : PT X e (rdT X.K W (tst m)) := PTimp h fun σ H Q q => f σ H _ (rdG.tst q)
theorem sim_tdin {x : Str} (i : Nat) (hu : X.A.units + 1 < cLine) (hi : PE X e (rdD X.K W m)) (hN : X.N[i]? = some x := by rfl) (hvi : Vis X.env.scope x := by first | exact Or.inl rfl | exact Or.inr (Or.inl rfl) | exact Or.inr (Or.inr rfl)) (hd : (x == ("__debug__" : Str)) = false := by decide)
    (hcd : (x == ("__classdict__" : Str)) = false := by decide) : PT X (.Compare e [.In] [.Name x p] pos) (rdT X.K W (tst (din i m))) := tst_imp (pt_cmp (pc_din hu hi (pe_var hN hvi hd hcd)) rfl) fun σ H Q q => by
  refine (rdG.bind (m := m) q).mono fun k H1 ow1 h2 y ry => ?_
  exact din_run (g := id) (f := hasK) (fun k kvs d h => by
    unfold hasK at h
    cases z : keyD k with
    | none => rw [z] at h; cases h
    | some k' => rw [z] at h; cases h; exact ⟨k', rfl, rfl⟩) ry (rdG.of h2)
theorem sim_tdnotin {x : Str} (i : Nat) (hu : X.A.units + 1 < cLine) (hi : PE X e (rdD X.K W m)) (hN : X.N[i]? = some x := by rfl) (hvi : Vis X.env.scope x := by first | exact Or.inl rfl | exact Or.inr (Or.inl rfl) | exact Or.inr (Or.inr rfl)) (hd : (x == ("__debug__" : Str)) = false := by decide)
    (hcd : (x == ("__classdict__" : Str)) = false := by decide) : PT X (.Compare e [.NotIn] [.Name x p] pos) (rdT X.K W (tst (dnotin i m))) := tst_imp (pt_cmp (pc_dnotin hu hi (pe_var hN hvi hd hcd)) rfl) fun σ H Q q => by
  refine (rdG.bind (m := m) q).mono fun k H1 ow1 h2 y ry => ?_
  exact din_run (g := not) (f := hasntK) (fun k kvs d h => by
    unfold hasntK at h
    cases z : keyD k with
    | none => rw [z] at h; cases h
    | some k' => rw [z] at h; cases h; exact ⟨k', rfl, rfl⟩) ry (rdG.of h2)
end
theorem mem_ix {α : Type} {l : List α} {a : α} (i : Nat) (h : l[i]? = some a) : a ∈ l := List.mem_of_getElem? h
theorem room100 {k : Nat} {A : Around} (r : Room k A) : A.units + 100 < cLine := by have := r.un; omega
theorem room1 {k : Nat} {A : Around} (r : Room k A) : A.units + 1 < cLine := by have := r.un; omega
/-- a class of errors that are made of nothing -/
structure ExcG (K : PySem.W.Frag) (mg : Str → Option Value) (x : Str) : Prop where
  xin : PySem.W.excIn K (He.ga K x) He.veBase "ValueError.__new__" = true
  g : mg x = some (.ref (He.ga K x))
  k : PySem.W.keepIn K (.ref (He.ga K x)) = true
  s : PySem.W.subIn K (.ref (He.ga K x)) (.type "BaseException") = some true
  t : PySem.W.typeIn K (.ref (He.ga K x)) = some (.type "type")
theorem ExcG.pmk {X : Cx} {x : Str} {p pos : Pos} (E : ExcG X.K X.mg x) (hg : Gl X x) (hd : (x == ("__debug__" : Str)) = false) : PMk X (.Call (.Name x p) [] [] pos) (fun _ H Q => Q (.ref (He.ga X.K x)) none H) :=
  pmk_own0 PySem.F.excBase_ValueError E.xin E.g E.k (raises_own E.s E.t) hg hd
theorem fnOk_zero {P : Program} {w : World} {K : PySem.W.Frag} {mg : Str → Option Value} {base : Heap} {k n : Nat} {f : Addr} {fd : FuncData} {ps : List Str} (h : ps.length = n) : FnOk P w K mg base (L2.CX P w) k f fd ps (spM K n fun _ => none) :=
  ⟨fun vs H Q E q => by rw [h]; exact q.1, fun A outer s H args us vs Q E hr e0 hb r q => by
    obtain ⟨_, _, _, _, _, _, e, _⟩ := q
    cases e⟩
/-- the name of a def's lambdas -/
def lamQ (x : Str) : Str := (PyProof.Rows.envOfC x ⟨.function, [], false, false, []⟩ 0 0 .none).qual ++ "<lambda>"
theorem tabs_mem {P : Addr} {q : Str} (h : TabCtx.T = [(P, q)]) : (P, q) ∈ TabCtx.T := by
  rw [h]
  exact List.mem_singleton.mpr rfl
theorem tabs_hu {P : Addr} {q : Str} (h : TabCtx.T = [(P, q)]) : ∀ p ∈ TabCtx.T, p.1 = P → p.2 = q := fun p hp _ => by
  rw [h] at hp
  rw [List.mem_singleton.mp hp]
/-! ### defs by what they promise -/
structure FnAt (P : Program) (w : World) (K : PySem.W.Frag) (mg : Str → Option Value) (base : Heap) (x : Str) (ps : List Str) (k : Nat) (n : Nat) (mf : MF) : Prop where
  ex : ∃ f fd, mg x = some (.ref f) ∧ PySem.W.keepIn K (.ref f) = true ∧ Binds K fd ps [] ∧ (∃ oc od osl, K.lookup f = some ⟨oc, od, .func fd, osl⟩) ∧ FnOk P w K mg base (L2.CX P w) k f fd ps (spM K n mf)
section
variable {P : Program} {w : World} {K : PySem.W.Frag} {mg : Str → Option Value} {base : Heap}
theorem FnAt.mono {x : Str} {ps : List Str} {j k n : Nat} {mf : MF} (F : FnAt P w K mg base x ps j n mf) (h : j ≤ k) : FnAt P w K mg base x ps k n mf := by
  obtain ⟨f, fd, a, b, c, l, d⟩ := F.ex
  exact ⟨f, fd, a, b, c, l, d.mono h⟩
theorem funD_lk {x qual : Str} {params : Arguments} {body : List Stmt} {scope : Scope} {dvs : List V} {kws : List (Str × V)} {f : Addr} {fd : FuncData} (F : FunD K x qual params body scope dvs kws f fd) : ∃ oc od osl, K.lookup f = some ⟨oc, od, .func fd, osl⟩ := by
  obtain ⟨oc, od, dV, kV, doc, pm, an, cdv, ct, osl, rfl, lk, _⟩ := F.ex
  exact ⟨oc, od, osl, lk⟩
theorem sim_fnO {X : Cx} {W : WX} {e : Expr} {es : List Expr} {pos p : Pos} {spec : List (Option Nat)} {mr : M (List D)} {k n j : Nat} {ps : List Str} {x : Str} {mf : MF} (F : FnAt X.prog X.w X.K X.mg X.base x ps j n mf) (hj : j ≤ k) (hr : Room k X.A) (hx : Takes X W ∨ ∀ σ, PassesAt (L2.CX X.prog X.w) X σ (WE W σ))
    (ha : PA X (e :: es) (rdArg X.K W spec mr)) (hg : Gl X x) (hnd : (spec.filterMap id).Nodup) (hl : spec.length = n := by rfl) (hdb : (x == ("__debug__" : Str)) = false := by decide) (he : starEach (e :: es) X.env = (false, eval e X.env) :: starEach es X.env := by rfl) (hpl : (backTo pos (starEach es X.env)).any (·.1) = false := by rfl) :
    PE X (.Call (.Name x p) (e :: es) [] pos) (rdO X.K W (callM spec mr mf)) := by
  obtain ⟨f, fd, h1, h2, h3, _, h4⟩ := F.ex
  exact sim_callO (h4.mono hj) hr hx hg h1 h2 h3 hnd ha hl hdb he hpl
end
end Pm

/-! ## Pm17 -/
set_option Elab.async false
set_option linter.all false
set_option maxRecDepth 100000
set_option maxHeartbeats 2000000
/-! Pm17: a tuple just made, and the dict of its pairs. -/
namespace Pm
open PySem PySem.Spec L2 PyProof.Rows
section
variable {X : Cx}
theorem call_tupleN : CallR X (.type "tuple") (fun xs H Q => ∃ p ys, xs = [.ref p] ∧ SqL X.K H p ys ∧ ∀ l o, H l = none → o.dict = none → Q (.ref l) (upd H l (.frz o (.tup ys)))) := by
  intro pins s σ H xs us Q I r h
  obtain ⟨p, ys, rfl, hq, q⟩ := h
  obtain ⟨u, rfl, rx⟩ := vals1 r
  cases rx
  obtain ⟨its, r', pl, hz⟩ := I.list hq
  have hlen := r'.length
  refine call_tuple_list pl.isList (fun h' kp => ?_) (by simp only [List.size_toArray] <;> omega)
  have I1 : Inv X pins σ H { s with heap := h' } := I.kept (t' := s.toks) kp
  have e0 : (h'.push { cls := .type "tuple", data := .seq its.toArray }).get? h'.objs.size = some { cls := .type "tuple", data := .seq its.toArray } := Heap.get?_push_size _ rfl
  have I2 : Inv X pins σ (upd H h'.objs.size (.frz { cls := .type "tuple", data := .seq its.toArray } (.tup ys))) { s with heap := h'.push { cls := .type "tuple", data := .seq its.toArray } } :=
    I1.laid (t' := s.toks) (fun b o e => Heap.get?_push_of_some _ e) (Nat.le_refl _) (show ObjOk X.prog X.w _ _ _ (.frz _ (.tup ys)) from ⟨e0, hz, its, r', IsTup.new _ _⟩)
  exact ⟨.ref h'.objs.size, _, I2, rfl, q _ _ (I1.hok.fresh (Nat.le_refl _)) rfl⟩
theorem pairs_of2 {pins : List (Addr × Obj)} {σ : L2.St} {H : Hp} {s : Shared} (I : Inv X pins σ H s) : ∀ {ps : List Addr} {kvs : List (Key × V)}, Paired (fun p kv => SqT X.K H p [kV kv.1, kv.2]) ps kvs →
    ∃ (prs : List (Key × Value)) (ups : List (Value × Value)), KV kvs prs ∧ prs.length = ps.length ∧ ups.length = ps.length ∧ (∀ (j : Nat) (k v : Value), ups[j]? = some (k, v) → ∃ k', prs[j]? = some (k', v) ∧ keyIs k' k = true) ∧ ∀ (j : Nat) (k v : Value), ups[j]? = some (k, v) → ∃ b, ps[j]? = some b ∧ IsTup s.heap b #[k, v]
  | _, _, .nil => ⟨[], [], .nil, rfl, rfl, fun j k v e => by simp at e, fun j k v e => by simp at e⟩
  | _, _, .cons (a := p) (b := kv) h t => by
    obtain ⟨prs, ups, r, hl, hl2, hp, hp2⟩ := pairs_of2 I t
    obtain ⟨its, rv, ht, _⟩ := I.tuple h
    obtain ⟨u, y, ei, ru, ry⟩ := vals2 rv
    subst ei
    refine ⟨(kv.1, y) :: prs, (u, y) :: ups, .cons ⟨rfl, ry⟩ r, by rw [List.length_cons, List.length_cons, hl], by rw [List.length_cons, List.length_cons, hl2], fun j k v e => ?_, fun j k v e => ?_⟩
    · cases j with
      | zero =>
        have e' : (u, y) = (k, v) := Option.some.inj e
        cases e'
        exact ⟨kv.1, rfl, kV_is (P := X.prog) (w := X.w) ru⟩
      | succ j => exact hp j k v (by simpa using e)
    · cases j with
      | zero =>
        have e' : (u, y) = (k, v) := Option.some.inj e
        cases e'
        exact ⟨p, rfl, ht⟩
      | succ j => exact hp2 j k v (by simpa using e)
theorem call_dictPT (hcalm : X.calm = true) : CallR X (.type "dict") (fun xs H Q => ∃ (a : Addr) (o : Obj) (ps : List Addr) (kvs : List (Key × V)), xs = [.ref a] ∧ o.dict = none ∧ H a = some (.frz o (.tup (ps.map V.ref))) ∧ Paired (fun p kv => SqT X.K H p [kV kv.1, kv.2]) ps kvs ∧
    ∀ p, H p = none → Q (.ref p) (upd H p (.dK (mergeK [] kvs)))) := by
  intro pins s σ H xs us Q I r q
  obtain ⟨a, o, ps, kvs, ex, hd, hq, hp, q⟩ := q
  subst ex
  obtain ⟨u, eu, rx⟩ := vals1 r
  subst eu
  cases rx
  obtain ⟨ho, hz, its, rv, o', ho', hc, n, hdat⟩ := I.hok a _ hq
  rw [ho] at ho'
  cases ho'
  have ei := refs_at rv
  subst ei
  rw [List.length_map] at hz
  obtain ⟨prs, ups, rel, hl, hl2, hpr, hpt⟩ := pairs_of2 I hp
  have P := PairArg.tuple (prog := X.prog) (w := X.w) a (ps.map Value.ref).toArray (fun j => ps.getD j 0) ups
  refine PySem.call_dict_pairs (knd := mixKind X.prog X.w) (kvs := prs) P (I.ok.hd hcalm) ⟨⟨o, n, ho, hc, hd, hdat⟩, by simp [hl2], fun j k v hj => ?_⟩ ⟨by rw [hl, hl2], fun i k v hi => ?_⟩ (by rw [hl2]; exact hz) fun h' tk hd' k => ?_
  · obtain ⟨b, e1, e2⟩ := hpt j k v hj
    have e3 : ps.getD j 0 = b := by rw [List.getD_eq_getElem?_getD, e1]; rfl
    refine ⟨by simp [e1], .inl ?_⟩
    show IsTup s.heap (ps.getD j 0) _
    rw [e3]
    exact e2
  · exact hpr i k v hi
  · have hm : (s.heap.objs.size == sysModules) = false := beq_eq_false_iff_ne.mpr (Nat.ne_of_gt I.big)
    have hlen : (mergeK [] kvs).length ≤ sizeLine := by
      refine Nat.le_trans (length_mergeK kvs []) ?_
      rw [List.length_nil, Nat.zero_add, rel.length, hl]
      exact hz
    exact ⟨.ref s.heap.objs.size, upd H s.heap.objs.size (.dK (mergeK [] kvs)), I.laid (t' := tk) (fun b o e => k b o (by simp) e) (Nat.le_refl _) (show ObjOk X.prog X.w _ _ _ (.dK (mergeK [] kvs)) from ⟨hlen, hm, merged [] prs, KV.merge rel .nil, hd'⟩), rfl, q _ (I.hok.fresh (Nat.le_refl _))⟩
end
section
variable [TabCtx] {X : Cx} {W : WX} {np : Nat → Bool} {e : Expr} {pos p : Pos} {m : M D} {mo : M O}
/-- tuple(xs), just made -/
def tupN (m : M D) : M O := bnd m fun d => match d with
  | .list ds => M.ret (.f (.t ds))
  | _ => fun _ => none
theorem sim_tupN (hg : Gl X "tuple") (hm : X.mg "tuple" = none) (h : PE X e (rdB X.K W m)) (hs : starEach (e :: []) X.env = (false, eval e X.env) :: starEach [] X.env := by rfl) :
    PE X (.Call (.Name "tuple" p) [e] [] pos) (rdO X.K W (tupN m)) := PEimp (pe_callTy call_tupleN hg hm PyProof.Rows.boot_tuple (pa1 h hs) (by decide) (by decide) hs) fun σ H Q q => by
  refine (rdG.bind (m := m) q).mono fun d H1 ow1 h1 v rv => ?_
  obtain ⟨env, r, rel, e, z⟩ := h1
  cases d with
  | list ds =>
    simp only at e
    cases Option.some.inj e
    obtain ⟨a, xs, rfl, h3, h4⟩ := rv.list
    refine ⟨a, xs, rfl, h3, fun p o hp hd => ?_⟩
    have nw : New H1 (upd H1 p (.frz o (.tup xs))) := New.upd hp
    exact z _ (trim H1 ow1) (nw.relE (rel.kp fun i => trim_kp H1 ow1 _)) ((trim_step H1 ow1).trans (nw.step _)) _ ⟨p, xs, o, rfl, hd, upd_same, RelDs.ext nw.ext _ _ h4⟩
  | _ => cases e
/-- dict(t) of such a tuple -/
def dictT (m : M O) : M O := bnd m fun o => match o with
  | .f (.t ds) => (match pairsD ds with
    | some kvs => M.ret (.mk (mergeD [] kvs))
    | none => fun _ => none)
  | _ => fun _ => none
theorem sim_dictT (hc : X.calm = true) (hg : Gl X "dict") (hm : X.mg "dict" = none) (h : PE X e (rdO X.K W mo)) (hs : starEach (e :: []) X.env = (false, eval e X.env) :: starEach [] X.env := by rfl) :
    PE X (.Call (.Name "dict" p) [e] [] pos) (rdO X.K W (dictT mo)) := PEimp (pe_callTy (call_dictPT hc) hg hm PyProof.Rows.boot_dict (pa1 h hs) (by decide) (by decide) hs) fun σ H Q q => by
  refine (rdG.bind (m := mo) q).mono fun o H1 ow1 h1 v rv => ?_
  obtain ⟨env, r, rel, e, z⟩ := h1
  cases o with
  | f x =>
    cases x with
    | t ds =>
      simp only at e
      cases y : pairsD ds with
      | none => rw [y] at e; cases e
      | some kvs =>
        rw [y] at e
        cases Option.some.inj e
        obtain ⟨a, xs, o, rfl, hd, h3, h4⟩ := rv
        obtain ⟨as, ps, rfl, p1, p2⟩ := pairsD_rel h4 y
        refine ⟨a, o, as, ps, rfl, hd, h3, p1, fun p hp => ?_⟩
        have nw : New H1 (upd H1 p (.dK (mergeK [] ps))) := New.upd hp
        have tn : trim H1 ow1 p = none := trim_none hp
        exact z _ (owNew (trim H1 ow1) p) ((nw.relE (rel.kp fun i => trim_kp H1 ow1 _)).kp fun i => owNew_kp tn _) (((trim_step H1 ow1).trans (nw.step _)).owNew hp) _ ⟨p, _, rfl, if_pos rfl, upd_same, RelKv.ext nw.ext _ _ (RelKv.merge p2 (show RelKv X.K H1 [] [] from rfl))⟩
    | _ => cases e
  | _ => cases e
end
end Pm

/-! ## Pq1 -/
set_option Elab.async false
set_option linter.all false
set_option maxRecDepth 100000
set_option maxHeartbeats 2000000
/-! Pq1: what holds after the plain functions: one rule for each combinator. -/
namespace Pm
open PySem PySem.Spec L2
def Vp {α : Type} (m : M α) (e : Env) (Q : α → Env → Prop) : Prop := ∃ a e', m e = some (.ok a e') ∧ Q a e'
def fineS : RS → Bool
  | .exc _ _ => false
  | _ => true
def VpS (m : MS) (e : Env) (Q : RS → Prop) : Prop := ∃ r, m e = some r ∧ fineS r = true ∧ Q r
def VpF (mf : MF) (os : List O) (Q : O → List O → Prop) : Prop := ∃ o os', mf os = some (.ok o os') ∧ Q o os'
theorem Vp.mono {α : Type} {m : M α} {e : Env} {Q Q' : α → Env → Prop} (h : Vp m e Q) (i : ∀ a e', Q a e' → Q' a e') : Vp m e Q' := by
  obtain ⟨a, e', h1, h2⟩ := h
  exact ⟨a, e', h1, i _ _ h2⟩
theorem VpS.mono {m : MS} {e : Env} {Q Q' : RS → Prop} (h : VpS m e Q) (i : ∀ r, Q r → Q' r) : VpS m e Q' := by
  obtain ⟨a, h1, hf, h2⟩ := h
  exact ⟨a, h1, hf, i _ h2⟩
theorem VpF.mono {m : MF} {e : List O} {Q Q' : O → List O → Prop} (h : VpF m e Q) (i : ∀ o os, Q o os → Q' o os) : VpF m e Q' := by
  obtain ⟨a, e', h1, h2⟩ := h
  exact ⟨a, e', h1, i _ _ h2⟩
theorem VpF.of {mf : MF} {os os' : List O} {o : O} (h : mf os = some (.ok o os')) {Q : O → List O → Prop} : VpF mf os Q ↔ Q o os' := by
  unfold VpF
  rw [h]
  constructor
  · rintro ⟨a, b, h1, h2⟩
    cases h1
    exact h2
  · exact fun q => ⟨_, _, rfl, q⟩
theorem VpF.eq {mf : MF} {os os' : List O} {o : O} (h : VpF mf os fun x xs => x = o ∧ xs = os') : mf os = some (.ok o os') := by
  obtain ⟨a, b, h1, rfl, rfl⟩ := h
  exact h1
section
variable {α β : Type} {e : Env} {Q : α → Env → Prop}
theorem Vp.iff {m : M α} {a : α} {e' : Env} (h : m e = some (.ok a e')) : Vp m e Q ↔ Q a e' := by
  unfold Vp
  rw [h]
  constructor
  · rintro ⟨a, b, h1, h2⟩
    cases h1
    exact h2
  · exact fun q => ⟨_, _, rfl, q⟩
@[simp] theorem vp_cst {Q : D → Env → Prop} (d : D) : Vp (cst d) e Q ↔ Q d e := Vp.iff rfl
@[simp] theorem vp_ret (a : α) : Vp (M.ret a) e Q ↔ Q a e := Vp.iff rfl
@[simp] theorem vp_args0 {Q : List D → Env → Prop} : Vp args0 e Q ↔ Q [] e := Vp.iff rfl
@[simp] theorem vp_argO0 {Q : List O → Env → Prop} : Vp argO0 e Q ↔ Q [] e := Vp.iff rfl
@[simp] theorem vp_noPart {Q : Option Int → Env → Prop} : Vp noPart e Q ↔ Q none e := Vp.iff rfl
@[simp] theorem vp_allT {Q : Bool → Env → Prop} : Vp allT e Q ↔ Q true e := Vp.iff rfl
theorem vp_bnd {m : M β} {k : β → M α} : Vp (bnd m k) e Q ↔ Vp m e fun b e' => Vp (k b) e' Q := by
  unfold Vp bnd
  constructor
  · rintro ⟨a, e', h1, h2⟩
    cases z : m e with
    | none => rw [z] at h1; cases h1
    | some r =>
      rw [z] at h1
      cases r with
      | ok b e1 => exact ⟨b, e1, rfl, a, e', h1, h2⟩
      | exc c e1 => cases h1
  · rintro ⟨b, e1, h1, a, e', h2, h3⟩
    rw [h1]
    exact ⟨a, e', h2, h3⟩
@[simp] theorem vp_lift (o : Option α) : Vp (M.lift o) e Q ↔ ∃ a, o = some a ∧ Q a e := by
  unfold Vp M.lift
  cases o with
  | none => simp
  | some a =>
    constructor
    · rintro ⟨a1, e1, h, q⟩
      cases h
      exact ⟨_, rfl, q⟩
    · rintro ⟨a1, h, q⟩
      cases h
      exact ⟨_, _, rfl, q⟩
@[simp] theorem vp_none : Vp (fun _ => none : M α) e Q ↔ False := by simp [Vp]
@[simp] theorem vp_varD {Q : D → Env → Prop} (i : Nat) : Vp (varD i) e Q ↔ ∃ x, e[i]? = some (some (.f (.d x))) ∧ Q x e := by
  unfold Vp varD
  split
  · rename_i x h
    rw [h]
    constructor
    · rintro ⟨a1, e1, h, q⟩
      cases h
      exact ⟨_, rfl, q⟩
    · rintro ⟨a1, h, q⟩
      cases h
      exact ⟨_, _, rfl, q⟩
  · rename_i h
    simp only [reduceCtorEq, false_and, exists_false, false_iff]
    rintro ⟨x, h1, _⟩
    exact h x h1
@[simp] theorem vp_hasS {m : M α} (i : Nat) : Vp (hasS i m) e Q ↔ (∃ o, e[i]? = some (some o)) ∧ Vp m e Q := by
  unfold Vp hasS
  split
  · rename_i x h
    simp [h]
  · rename_i h
    simp only [reduceCtorEq, false_and, exists_false, false_iff]
    rintro ⟨⟨x, h1⟩, _⟩
    exact h x h1
@[simp] theorem vp_plc {Q : D → Env → Prop} (i : Nat) : Vp (plc i) e Q ↔ ∃ o, e[i]? = some (some o) ∧ ∃ d, slotB o = some d ∧ Q d e := by
  unfold Vp plc
  split
  · rename_i x h
    rw [h]
    constructor
    · rintro ⟨a1, e1, h, q⟩
      cases z : slotB x with
      | none => rw [z] at h; cases h
      | some d =>
        rw [z] at h
        cases h
        exact ⟨x, rfl, _, z, q⟩
    · rintro ⟨a1, h, d, z, q⟩
      cases h
      exact ⟨_, _, by rw [z]; rfl, q⟩
  · rename_i h
    simp only [reduceCtorEq, false_and, exists_false, false_iff]
    rintro ⟨x, h1, _⟩
    exact h x h1
theorem vp_fail (o : Option (R α)) (h : o = none := by rfl) : Vp (fun _ => o : M α) e Q ↔ False := by
  subst h
  exact vp_none
@[simp] theorem vp_frzV {Q : D → Env → Prop} (i : Nat) : Vp (frzV i) e Q ↔ (∃ x, e[i]? = some (some (.f (.d x))) ∧ Q x e) ∨ (∃ xs, e[i]? = some (some (.f (.l xs))) ∧ Q (.list xs) (e.set i (some (.d (.list xs))))) := by
  unfold Vp frzV
  split
  · rename_i x h
    rw [h]
    simp only [Option.some.injEq, R.ok.injEq, F.d.injEq, O.f.injEq, reduceCtorEq, false_and, exists_false, or_false]
    constructor
    · rintro ⟨a, b, ⟨rfl, rfl⟩, q⟩
      exact ⟨_, rfl, q⟩
    · rintro ⟨a, rfl, q⟩
      exact ⟨_, _, ⟨rfl, rfl⟩, q⟩
  · rename_i x h
    rw [h]
    simp only [Option.some.injEq, R.ok.injEq, F.l.injEq, O.f.injEq, reduceCtorEq, false_and, exists_false, false_or]
    constructor
    · rintro ⟨a, b, ⟨rfl, rfl⟩, q⟩
      exact ⟨_, rfl, q⟩
    · rintro ⟨a, rfl, q⟩
      exact ⟨_, _, ⟨rfl, rfl⟩, q⟩
  · rename_i h1 h2
    simp only [reduceCtorEq, false_and, exists_false, false_iff]
    rintro (⟨x, h, _⟩ | ⟨x, h, _⟩)
    · exact h1 x h
    · exact h2 x h
@[simp] theorem vp_asB {Q : Bool → Env → Prop} (d : D) : Vp (asB d) e Q ↔ ∃ b, d = .bool b ∧ Q b e := by
  cases d <;> simp [asB]
theorem vp_ite {c : Prop} [Decidable c] {a b : M α} : Vp (if c then a else b) e Q ↔ (c ∧ Vp a e Q) ∨ (¬c ∧ Vp b e Q) := by
  by_cases h : c <;> simp [h]
@[simp] theorem vp_iff {c : Prop} [Decidable c] {a b : M α} : Vp (if c then a else b) e Q ↔ if c then Vp a e Q else Vp b e Q := by
  by_cases h : c <;> simp [h]
@[simp] theorem vp_op2 {Q : D → Env → Prop} {g : D → D → Option D} {ma mb : M D} : Vp (op2 g ma mb) e Q ↔ Vp ma e fun a e1 => Vp mb e1 fun b e2 => ∃ d, g a b = some d ∧ Q d e2 := by
  simp only [op2, vp_bnd, vp_lift]
@[simp] theorem vp_op2p {Q : D → Env → Prop} {g : D → D → Option D} {i : Nat} {mb : M D} : Vp (op2p g i mb) e Q ↔ Vp mb e fun b e1 => Vp (plc i) e1 fun a e2 => ∃ d, g a b = some d ∧ Q d e2 := by
  simp only [op2p, vp_bnd, vp_lift]
@[simp] theorem vp_op1 {Q : D → Env → Prop} {g : D → Option D} {ma : M D} : Vp (op1 g ma) e Q ↔ Vp ma e fun a e1 => ∃ d, g a = some d ∧ Q d e1 := by
  simp only [op1, vp_bnd, vp_lift]
@[simp] theorem vp_call1 {Q : D → Env → Prop} {g : List D → Option D} {ma : M D} : Vp (call1 g ma) e Q ↔ Vp ma e fun a e1 => ∃ d, g [a] = some d ∧ Q d e1 := by
  simp only [call1, vp_bnd, vp_lift]
@[simp] theorem vp_call2 {Q : D → Env → Prop} {g : List D → Option D} {ma mb : M D} : Vp (call2 g ma mb) e Q ↔ Vp ma e fun a e1 => Vp mb e1 fun b e2 => ∃ d, g [a, b] = some d ∧ Q d e2 := by
  simp only [call2, vp_bnd, vp_lift]
@[simp] theorem vp_tst {Q : Bool → Env → Prop} {m : M D} : Vp (tst m) e Q ↔ Vp m e fun d e1 => ∃ b, d = .bool b ∧ Q b e1 := by
  simp only [tst, vp_bnd, vp_asB]
@[simp] theorem vp_andT {Q : Bool → Env → Prop} {a b : M Bool} : Vp (andT a b) e Q ↔ Vp a e fun x e1 => if x = true then Vp b e1 Q else Q false e1 := by
  simp only [andT, vp_bnd, vp_iff, vp_ret]
@[simp] theorem vp_orT {Q : Bool → Env → Prop} {a b : M Bool} : Vp (orT a b) e Q ↔ Vp a e fun x e1 => if x = true then Q true e1 else Vp b e1 Q := by
  simp only [orT, vp_bnd, vp_iff, vp_ret]
@[simp] theorem vp_notT {Q : Bool → Env → Prop} {a : M Bool} : Vp (notT a) e Q ↔ Vp a e fun x e1 => Q (!x) e1 := by
  simp only [notT, vp_bnd, vp_ret]
@[simp] theorem vp_andV {Q : D → Env → Prop} {a b : M D} : Vp (andV a b) e Q ↔ Vp (tst a) e fun x e1 => if x = true then Vp b e1 Q else Q (.bool false) e1 := by
  simp only [andV, vp_bnd, vp_iff, vp_cst]
@[simp] theorem vp_orV {Q : D → Env → Prop} {a b : M D} : Vp (orV a b) e Q ↔ Vp (tst a) e fun x e1 => if x = true then Q (.bool true) e1 else Vp b e1 Q := by
  simp only [orV, vp_bnd, vp_iff, vp_cst]
@[simp] theorem vp_notV {Q : D → Env → Prop} {a : M D} : Vp (notV a) e Q ↔ Vp (tst a) e fun x e1 => Q (.bool (!x)) e1 := by
  simp only [notV, vp_bnd, vp_cst]
@[simp] theorem vp_ifV {Q : D → Env → Prop} {t : M Bool} {a b : M D} : Vp (ifV t a b) e Q ↔ Vp t e fun x e1 => if x = true then Vp a e1 Q else Vp b e1 Q := by
  simp only [ifV, vp_bnd, vp_iff]
@[simp] theorem vp_ifO {Q : O → Env → Prop} {t : M Bool} {a b : M O} : Vp (ifO t a b) e Q ↔ Vp t e fun x e1 => if x = true then Vp a e1 Q else Vp b e1 Q := by
  simp only [ifO, vp_bnd, vp_iff]
@[simp] theorem vp_chn {Q : D → Env → Prop} {g g' : D → D → Option D} {ma mb mc : M D} : Vp (chn g g' ma mb mc) e Q ↔ Vp ma e fun a e1 => Vp mb e1 fun b e2 => ∃ k, g a b = some (.bool k) ∧ if k = true then Vp mc e2 fun c e3 => ∃ d, g' b c = some d ∧ Q d e3 else Q (.bool false) e2 := by
  simp only [chn, vp_bnd, vp_lift, vp_asB, vp_iff, vp_cst]
  constructor <;> intro h <;> refine h.mono fun a e1 h => h.mono fun b e2 h => ?_
  · obtain ⟨d, h1, k, rfl, h2⟩ := h
    exact ⟨k, h1, h2⟩
  · obtain ⟨k, h1, h2⟩ := h
    exact ⟨_, h1, k, rfl, h2⟩
@[simp] theorem vp_argsC {Q : List D → Env → Prop} {m : M D} {r : M (List D)} : Vp (argsC m r) e Q ↔ Vp m e fun d e1 => Vp r e1 fun ds e2 => Q (d :: ds) e2 := by
  simp only [argsC, vp_bnd, vp_ret]
@[simp] theorem vp_argO {Q : List O → Env → Prop} {m : M O} {r : M (List O)} : Vp (argO m r) e Q ↔ Vp m e fun d e1 => Vp r e1 fun ds e2 => Q (d :: ds) e2 := by
  simp only [argO, vp_bnd, vp_ret]
@[simp] theorem vp_tupM {Q : D → Env → Prop} {m : M (List D)} : Vp (tupM m) e Q ↔ Vp m e fun ds e1 => ds.length ≤ sizeLine ∧ Q (.tuple ds) e1 := by
  simp only [tupM, vp_bnd, vp_ite, vp_cst, vp_none, and_false, or_false]
@[simp] theorem vp_lstM {Q : D → Env → Prop} {m : M (List D)} : Vp (lstM m) e Q ↔ Vp m e fun ds e1 => ds.length ≤ sizeLine ∧ Q (.list ds) e1 := by
  simp only [lstM, vp_bnd, vp_ite, vp_cst, vp_none, and_false, or_false]
@[simp] theorem vp_linM {Q : List D → Env → Prop} {m : M (List D)} : Vp (linM m) e Q ↔ Vp m e fun ds e1 => ds.length ≤ sizeLine ∧ Q ds e1 := by
  simp only [linM, vp_bnd, vp_ite, vp_ret, vp_none, and_false, or_false]
@[simp] theorem vp_mkL {Q : O → Env → Prop} {m : M (List D)} : Vp (mkL m) e Q ↔ Vp m e fun ds e1 => Q (.l ds) e1 := by
  simp only [mkL, vp_bnd, vp_ret]
@[simp] theorem vp_asO {Q : O → Env → Prop} {m : M D} : Vp (asO m) e Q ↔ Vp m e fun d e1 => Q (.f (.d d)) e1 := by
  simp only [asO, vp_bnd, vp_ret]
@[simp] theorem vp_asD {Q : D → Env → Prop} {m : M O} : Vp (asD m) e Q ↔ Vp m e fun o e1 => ∃ d, o = .f (.d d) ∧ Q d e1 := by
  simp only [asD, vp_bnd]
  constructor <;> intro h <;> refine h.mono fun a e1 h => ?_
  · split at h
    · exact ⟨_, rfl, (vp_ret _).1 h⟩
    · exact (vp_none.1 h).elim
  · obtain ⟨d, rfl, q⟩ := h
    exact (vp_ret _).2 q
@[simp] theorem vp_isaM {Q : D → Env → Prop} {T : String} {m : M D} : Vp (isaM T m) e Q ↔ Vp m e fun d e1 => Q (.bool (isaN T d)) e1 := by
  simp only [isaM, vp_bnd, vp_cst]
@[simp] theorem vp_callM {Q : O → Env → Prop} {spec : List (Option Nat)} {m : M (List D)} {mf : MF} : Vp (callM spec m mf) e Q ↔ Vp m e fun ds e1 => ∃ os, fill spec ds e1 = some os ∧ VpF mf os fun o os' => Q o (store spec os' e1) := by
  simp only [callM, vp_bnd]
  constructor <;> intro h <;> refine h.mono fun a e1 h => ?_
  · obtain ⟨o, e2, h1, h2⟩ := h
    simp only at h1
    cases z : fill spec a e1 with
    | none => rw [z] at h1; cases h1
    | some os =>
      rw [z] at h1
      simp only at h1
      cases z2 : mf os with
      | none => rw [z2] at h1; cases h1
      | some r =>
        rw [z2] at h1
        cases r with
        | ok o' os' =>
          cases h1
          exact ⟨os, rfl, _, _, z2, h2⟩
        | exc c os' => cases h1
  · obtain ⟨os, h1, o, os', h2, h3⟩ := h
    exact ⟨o, _, by simp only [h1, h2], h3⟩
end
end Pm

/-! ## Pq2 -/
set_option Elab.async false
set_option linter.all false
set_option maxRecDepth 100000
set_option maxHeartbeats 2000000
/-! Pq2: lists, dicts, statements, loops. -/
namespace Pm
open PySem PySem.Spec L2
section
variable {α β : Type} {e : Env} {Q : α → Env → Prop}
def itemsD : D → Option (List D)
  | .list ds => some ds
  | .tuple ds => some ds
  | _ => none
def itsD : D → Option (List D)
  | .list ds => some ds
  | .tuple ds => some ds
  | .str x => some (strDs x)
  | _ => none
@[simp] theorem vp_itemsB {Q : List D → Env → Prop} {m : M D} : Vp (itemsB m) e Q ↔ Vp m e fun d e1 => ∃ ds, itemsD d = some ds ∧ Q ds e1 := by
  simp only [itemsB, vp_bnd]
  constructor <;> intro h <;> refine h.mono fun a e1 h => ?_
  · cases a <;> first | exact ⟨_, rfl, (vp_ret _).1 h⟩ | exact (vp_none.1 h).elim
  · obtain ⟨ds, h1, h2⟩ := h
    cases a <;> first | (cases h1; exact (vp_ret _).2 h2) | cases h1
@[simp] theorem vp_itemsM {Q : List D → Env → Prop} {m : M D} : Vp (itemsM m) e Q ↔ Vp m e fun d e1 => ∃ ds, itemsD d = some ds ∧ Q ds e1 := vp_itemsB
@[simp] theorem vp_chrsM {Q : List D → Env → Prop} {m : M D} : Vp (chrsM m) e Q ↔ Vp m e fun d e1 => ∃ x, d = .str x ∧ Q (strDs x) e1 := by
  simp only [chrsM, vp_bnd]
  constructor <;> intro h <;> refine h.mono fun a e1 h => ?_
  · cases a <;> first | exact ⟨_, rfl, (vp_ret _).1 h⟩ | exact (vp_none.1 h).elim
  · obtain ⟨ds, h1, h2⟩ := h
    subst h1
    exact (vp_ret _).2 h2
theorem vp_altL {m1 m2 : M α} (h : Vp m1 e Q) : Vp (altM m1 m2) e Q := by
  obtain ⟨a, e', h1, h2⟩ := h
  exact ⟨a, e', by simp only [altM, h1], h2⟩
theorem vp_altR {m1 m2 : M α} (h0 : m1 e = none) (h : Vp m2 e Q) : Vp (altM m1 m2) e Q := by
  obtain ⟨a, e', h1, h2⟩ := h
  exact ⟨a, e', by simp only [altM, h0]; exact h1, h2⟩
theorem vp_alt {m1 m2 : M α} : Vp (altM m1 m2) e Q ↔ Vp m1 e Q ∨ (m1 e = none ∧ Vp m2 e Q) := by
  constructor
  · rintro ⟨a, e', h1, h2⟩
    unfold altM at h1
    cases z : m1 e with
    | none => rw [z] at h1; exact .inr ⟨rfl, a, e', h1, h2⟩
    | some r => rw [z] at h1; exact .inl ⟨a, e', z.trans h1, h2⟩
  · rintro (h | ⟨h0, h⟩)
    · exact vp_altL h
    · exact vp_altR h0 h
theorem bnd_ok {m : M β} {k : β → M α} {b : β} {e1 : Env} (h : m e = some (.ok b e1)) : bnd m k e = k b e1 := by simp only [bnd, h]
@[simp] theorem vp_itsA {Q : List D → Env → Prop} {m : M D} : Vp (itsA m) e Q ↔ Vp m e fun d e1 => ∃ ds, itsD d = some ds ∧ Q ds e1 := by
  unfold itsA
  rw [vp_alt, vp_itemsM, vp_chrsM]
  constructor
  · rintro (h | ⟨_, h⟩) <;> refine h.mono fun a e1 h => ?_
    · obtain ⟨ds, h1, h2⟩ := h
      cases a <;> first | (cases h1; exact ⟨_, rfl, h2⟩) | cases h1
    · obtain ⟨ds, rfl, h2⟩ := h
      exact ⟨_, rfl, h2⟩
  · rintro ⟨a, e1, h, ds, h1, h2⟩
    cases a with
    | str x =>
      cases h1
      exact .inr ⟨by unfold itemsM; rw [bnd_ok h], _, _, h, _, rfl, h2⟩
    | list x => cases h1; exact .inl ⟨_, _, h, _, rfl, h2⟩
    | tuple x => cases h1; exact .inl ⟨_, _, h, _, rfl, h2⟩
    | _ => cases h1
def addD (a b : D) : Option D := match a, b with
  | .list xs, .list ys => if xs.length + ys.length ≤ sizeLine then some (.list (xs ++ ys)) else none
  | a, b => addS a b
theorem addS_list {xs ys : List D} : addS (.list xs) (.list ys) = none := rfl
theorem vp_addA {Q : D → Env → Prop} {ma mb : M D} : Vp ma e (fun a e1 => Vp mb e1 fun b e2 => ∃ d, addD a b = some d ∧ Q d e2) → Vp (addA ma mb) e Q := by
  rintro ⟨a, e1, h1, b, e2, h2, d, h3, q⟩
  unfold addA
  by_cases hl : ∃ xs ys, a = .list xs ∧ b = .list ys
  · obtain ⟨xs, ys, rfl, rfl⟩ := hl
    unfold addD at h3
    simp only at h3
    split at h3
    · rename_i hz
      cases h3
      refine vp_altR ?_ ?_
      · unfold op2
        rw [bnd_ok h1, bnd_ok h2, addS_list]
        rfl
      · refine vp_lstM.2 ⟨xs ++ ys, e2, ?_, by rw [List.length_append]; exact hz, q⟩
        unfold catB
        rw [bnd_ok h1, bnd_ok h2]
        simp only [hz, if_true]
        rfl
    · cases h3
  · refine vp_altL (vp_op2.2 ⟨a, e1, h1, b, e2, h2, d, ?_, q⟩)
    unfold addD at h3
    split at h3
    · exact (hl ⟨_, _, rfl, rfl⟩).elim
    · exact h3
@[simp] theorem vp_revB {Q : List D → Env → Prop} {m : M D} : Vp (revB m) e Q ↔ Vp m e fun d e1 => ∃ ds, d = .list ds ∧ Q ds.reverse e1 := by
  simp only [revB, vp_bnd]
  constructor <;> intro h <;> refine h.mono fun a e1 h => ?_
  · cases a <;> first | exact ⟨_, rfl, (vp_ret _).1 h⟩ | exact (vp_none.1 h).elim
  · obtain ⟨ds, h1, h2⟩ := h
    subst h1
    exact (vp_ret _).2 h2
@[simp] theorem vp_tupB1 {Q : D → Env → Prop} {m : M D} : Vp (tupB1 m) e Q ↔ Vp m e fun d e1 => ∃ ds, itemsD d = some ds ∧ ds.length ≤ sizeLine ∧ Q (.tuple ds) e1 := by
  simp only [tupB1, vp_bnd, vp_itemsB, vp_ite, vp_cst, vp_none, and_false, or_false]
@[simp] theorem vp_isL {m : M α} (i : Nat) : Vp (isL i m) e Q ↔ (∃ xs, e[i]? = some (some (.f (.l xs)))) ∧ Vp m e Q := by
  unfold Vp isL
  split
  · rename_i x h
    simp [h]
  · rename_i h
    simp only [reduceCtorEq, false_and, exists_false, false_iff]
    rintro ⟨⟨x, h1⟩, _⟩
    exact h x h1
@[simp] theorem vp_atL {Q : D → Env → Prop} (i : Nat) {f : List D → Option (D × List D)} : Vp (atL i f) e Q ↔ ∃ xs, e[i]? = some (some (.f (.l xs))) ∧ xs.length ≤ sizeLine ∧ ∃ d xs', f xs = some (d, xs') ∧ Q d (e.set i (some (.f (.l xs')))) := by
  constructor
  · rintro ⟨a, e', h1, h2⟩
    unfold atL at h1
    split at h1
    · rename_i xs h
      split at h1
      · rename_i hz
        split at h1
        · rename_i d xs' hf
          cases h1
          exact ⟨xs, h, hz, _, _, hf, h2⟩
        · cases h1
      · cases h1
    · cases h1
  · rintro ⟨xs, h, hz, d, xs', hf, q⟩
    exact ⟨d, _, by simp only [atL, h, hz, if_true, hf], q⟩
@[simp] theorem vp_mutL {Q : D → Env → Prop} (i : Nat) {ml : M (List D)} {f : List D → List D → Option (D × List D)} : Vp (mutL i ml f) e Q ↔ (∃ xs, e[i]? = some (some (.f (.l xs)))) ∧ Vp ml e fun ds e1 => ∃ xs, e1[i]? = some (some (.f (.l xs))) ∧ xs.length ≤ sizeLine ∧ ∃ d xs', f xs ds = some (d, xs') ∧ Q d (e1.set i (some (.f (.l xs')))) := by
  simp only [mutL, vp_isL, vp_bnd, vp_atL]
@[simp] theorem vp_mutL0 {Q : D → Env → Prop} (i : Nat) {f : List D → List D → Option (D × List D)} : Vp (mutL0 i f) e Q ↔ ∃ xs, e[i]? = some (some (.f (.l xs))) ∧ xs.length ≤ sizeLine ∧ ∃ d xs', f xs [] = some (d, xs') ∧ Q d (e.set i (some (.f (.l xs')))) := by
  simp only [mutL0, vp_isL, vp_atL]
  exact ⟨fun h => h.2, fun h => ⟨⟨h.choose, h.choose_spec.1⟩, h⟩⟩
end
/-! ### statements -/
section
variable {e : Env} {Q : RS → Prop}
def nxV (K : Env → Prop) (Q : RS → Prop) : RS → Prop
  | .next e => K e
  | r => Q r
@[simp] theorem nxV_next {K : Env → Prop} {Q : RS → Prop} {e : Env} : nxV K Q (.next e) ↔ K e := Iff.rfl
@[simp] theorem nxV_ret {K : Env → Prop} {Q : RS → Prop} {e : Env} {o : O} : nxV K Q (.ret o e) ↔ Q (.ret o e) := Iff.rfl
@[simp] theorem nxV_brk {K : Env → Prop} {Q : RS → Prop} {e : Env} : nxV K Q (.brk e) ↔ Q (.brk e) := Iff.rfl
@[simp] theorem nxV_cont {K : Env → Prop} {Q : RS → Prop} {e : Env} : nxV K Q (.cont e) ↔ Q (.cont e) := Iff.rfl
@[simp] theorem nxV_exc {K : Env → Prop} {Q : RS → Prop} {e : Env} {c : Str} : nxV K Q (.exc c e) ↔ Q (.exc c e) := Iff.rfl
theorem VpS.iff {m : MS} {r : RS} (h : m e = some r) (hf : fineS r = true := by rfl) : VpS m e Q ↔ Q r := by
  unfold VpS
  rw [h]
  constructor
  · rintro ⟨b, h1, _, h2⟩
    cases h1
    exact h2
  · exact fun q => ⟨_, rfl, hf, q⟩
@[simp] theorem vps_nxt : VpS nxt e Q ↔ Q (.next e) := VpS.iff rfl
@[simp] theorem vps_brk : VpS brkS e Q ↔ Q (.brk e) := VpS.iff rfl
@[simp] theorem vps_cont : VpS contS e Q ↔ Q (.cont e) := VpS.iff rfl
@[simp] theorem vps_raise (c : Str) : VpS (raiseS c) e Q ↔ False := by
  unfold VpS raiseS
  constructor
  · rintro ⟨r, h1, h2, _⟩
    cases h1
    cases h2
  · exact False.elim
@[simp] theorem vps_retN : VpS retN e Q ↔ Q (.ret (.d .none) e) := VpS.iff rfl
@[simp] theorem vps_seq {a b : MS} : VpS (seqS a b) e Q ↔ VpS a e (nxV (fun e' => VpS b e' Q) Q) := by
  unfold VpS seqS
  cases z : a e with
  | none => simp
  | some r =>
    cases r <;> simp [nxV, VpS, fineS]
theorem vps_bnd {α : Type} {m : M α} {k : α → MS} : VpS (bndS m k) e Q ↔ Vp m e fun a e' => VpS (k a) e' Q := by
  unfold VpS Vp bndS
  constructor
  · rintro ⟨r, h1, h2, h3⟩
    cases z : m e with
    | none => rw [z] at h1; cases h1
    | some x =>
      rw [z] at h1
      cases x with
      | ok a e' => exact ⟨a, e', rfl, r, h1, h2, h3⟩
      | exc c e' =>
        cases h1
        cases h2
  · rintro ⟨a, e', h1, r, h2, h3⟩
    exact ⟨r, by simp only [h1]; exact h2, h3⟩
theorem vps_some {β : Type} {k : β → Env → RS} {m : M β} (hf : ∀ a e, fineS (k a e) = true) : VpS (bndS m fun a e => some (k a e)) e Q ↔ Vp m e fun a e' => Q (k a e') := by
  rw [vps_bnd]
  constructor <;> intro h <;> refine h.mono fun a e' h => ?_
  · exact (VpS.iff rfl (hf a e')).1 h
  · exact (VpS.iff rfl (hf a e')).2 h
@[simp] theorem vps_retD {m : M D} : VpS (retD m) e Q ↔ Vp m e fun d e' => Q (.ret (.d d) e') := vps_some fun _ _ => rfl
@[simp] theorem vps_retO {m : M O} : VpS (retO m) e Q ↔ Vp m e fun d e' => Q (.ret d e') := vps_some fun _ _ => rfl
@[simp] theorem vps_drop {m : M D} : VpS (dropS m) e Q ↔ Vp m e fun d e' => Q (.next e') := vps_some fun _ _ => rfl
theorem vps_opt {o : Option RS} {e : Env} (hf : ∀ r, o = some r → fineS r = true) : VpS (fun _ => o) e Q ↔ ∃ r, o = some r ∧ Q r := by
  constructor
  · rintro ⟨r, h1, h2, h3⟩
    exact ⟨r, h1, h3⟩
  · rintro ⟨r, h1, h3⟩
    exact ⟨r, h1, hf r h1, h3⟩
@[simp] theorem vps_setS {i : Nat} {m : M D} : VpS (setS i m) e Q ↔ Vp m e fun d e' => i < e'.length ∧ Q (.next (e'.set i (some (.d d)))) := by
  rw [setS, vps_bnd]
  constructor <;> intro h <;> refine h.mono fun a e' h => ?_
  · obtain ⟨r, h1, _, h3⟩ := h
    simp only at h1
    split at h1
    · rename_i hl
      cases h1
      exact ⟨hl, h3⟩
    · cases h1
  · exact ⟨_, if_pos h.1, rfl, h.2⟩
@[simp] theorem vps_setO {i : Nat} {m : M O} : VpS (setO i m) e Q ↔ Vp m e fun d e' => i < e'.length ∧ Q (.next (e'.set i (some d))) := by
  rw [setO, vps_bnd]
  constructor <;> intro h <;> refine h.mono fun a e' h => ?_
  · obtain ⟨r, h1, _, h3⟩ := h
    simp only at h1
    split at h1
    · rename_i hl
      cases h1
      exact ⟨hl, h3⟩
    · cases h1
  · exact ⟨_, if_pos h.1, rfl, h.2⟩
@[simp] theorem vps_ite {t : M Bool} {a b : MS} : VpS (iteS t a b) e Q ↔ Vp t e fun c e' => if c = true then VpS a e' Q else VpS b e' Q := by
  rw [iteS, vps_bnd]
  constructor <;> intro h <;> refine h.mono fun d e' h => ?_ <;> by_cases hc : d = true
  · rw [if_pos hc] at h ⊢
    exact h
  · rw [if_neg hc] at h ⊢
    exact h
  · rw [if_pos hc] at h ⊢
    exact h
  · rw [if_neg hc] at h ⊢
    exact h
@[simp] theorem vps_asg {bd : Bd} {m : M D} : VpS (asgS bd m) e Q ↔ Vp m e fun d e' => ∃ e2, bd d e' = some e2 ∧ Q (.next e2) := by
  rw [asgS, vps_bnd]
  constructor <;> intro h <;> refine h.mono fun a e' h => ?_
  · obtain ⟨r, h1, _, h3⟩ := h
    simp only at h1
    split at h1
    · rename_i e2 hl
      cases h1
      exact ⟨_, hl, h3⟩
    · cases h1
  · obtain ⟨e2, h1, h2⟩ := h
    exact ⟨_, by simp only [h1], rfl, h2⟩
@[simp] theorem vps_par {sl : List Nat} {m : M (List O)} : VpS (parS sl m) e Q ↔ Vp m e fun os e' => ∃ e2, parE sl os e' = some e2 ∧ Q (.next e2) := by
  rw [parS, vps_bnd]
  constructor <;> intro h <;> refine h.mono fun a e' h => ?_
  · obtain ⟨r, h1, _, h3⟩ := h
    simp only at h1
    split at h1
    · rename_i e2 hl
      cases h1
      exact ⟨_, hl, h3⟩
    · cases h1
  · obtain ⟨e2, h1, h2⟩ := h
    exact ⟨_, by simp only [h1], rfl, h2⟩
@[simp] theorem vps_forM {mi : M (List D)} {bd : Bd} {b : MS} : VpS (forM mi bd b) e Q ↔ Vp mi e fun ds e' => VpS (forL bd b ds) e' Q := vps_bnd
/-- what a turn may end with -/
def turnV (K : Env → Prop) (Q : RS → Prop) : RS → Prop
  | .next e => K e
  | .cont e => K e
  | .brk e => Q (.next e)
  | r => Q r
@[simp] theorem turnV_next {K : Env → Prop} {Q : RS → Prop} {e : Env} : turnV K Q (.next e) ↔ K e := Iff.rfl
@[simp] theorem turnV_ret {K : Env → Prop} {Q : RS → Prop} {e : Env} {o : O} : turnV K Q (.ret o e) ↔ Q (.ret o e) := Iff.rfl
@[simp] theorem turnV_brk {K : Env → Prop} {Q : RS → Prop} {e : Env} : turnV K Q (.brk e) ↔ Q (.next e) := Iff.rfl
@[simp] theorem turnV_cont {K : Env → Prop} {Q : RS → Prop} {e : Env} : turnV K Q (.cont e) ↔ K e := Iff.rfl
theorem vps_forL {bd : Bd} {b : MS} (I : List D → Env → Prop) (hs : ∀ d ds e, I (d :: ds) e → ∃ e1, bd d e = some e1 ∧ VpS b e1 (turnV (I ds) Q)) (h0 : ∀ e, I [] e → Q (.next e)) : ∀ ds e, I ds e → VpS (forL bd b ds) e Q
  | [], e, h => ⟨_, rfl, rfl, h0 e h⟩
  | d :: ds, e, h => by
    obtain ⟨e1, h1, r, h2, hf, h3⟩ := hs d ds e h
    unfold VpS forL
    simp only [h1, h2]
    cases r with
    | next e2 => exact vps_forL I hs h0 ds e2 h3
    | cont e2 => exact vps_forL I hs h0 ds e2 h3
    | brk e2 => exact ⟨_, rfl, rfl, h3⟩
    | ret o e2 => exact ⟨_, rfl, rfl, h3⟩
    | exc c e2 => cases hf
theorem vps_whM [TabCtx] {c : M Bool} {b : MS} (I : Nat → Env → Prop) (hs : ∀ n e, I n e → Vp c e fun t e1 => if t = true then VpS b e1 (turnV (fun e2 => ∃ k < n, I k e2) Q) else Q (.next e1)) : ∀ n e, I n e → VpS (whM c b) e Q := by
  have key : ∀ n e, I n e → ∃ N r, whN c b N e = some r ∧ fineS r = true ∧ Q r := by
    intro n
    induction n using Nat.strongRecOn with
    | _ n ih =>
      intro e h
      obtain ⟨t, e1, h1, h2⟩ := hs n e h
      cases t with
      | false => exact ⟨1, .next e1, by simp only [whN, h1], rfl, h2⟩
      | true =>
        obtain ⟨r, h3, hf, h4⟩ := h2
        cases r with
        | next e2 =>
          obtain ⟨k, hk, h5⟩ := h4
          obtain ⟨N, r, h6, h7⟩ := ih k hk e2 h5
          exact ⟨N + 1, r, by simp only [whN, h1, h3]; exact h6, h7⟩
        | cont e2 =>
          obtain ⟨k, hk, h5⟩ := h4
          obtain ⟨N, r, h6, h7⟩ := ih k hk e2 h5
          exact ⟨N + 1, r, by simp only [whN, h1, h3]; exact h6, h7⟩
        | brk e2 => exact ⟨1, .next e2, by simp only [whN, h1, h3], rfl, h4⟩
        | ret o e2 => exact ⟨1, .ret o e2, by simp only [whN, h1, h3], rfl, h4⟩
        | exc c' e2 => cases hf
  intro n e h
  obtain ⟨N, r, h1, h2⟩ := key n e h
  exact ⟨r, whM_of h1, h2⟩
end
end Pm

/-! ## Pq3 -/
set_option Elab.async false
set_option linter.all false
set_option maxRecDepth 100000
set_option maxHeartbeats 2000000
/-! Pq3: bodies, comprehensions, dicts. -/
namespace Pm
open PySem PySem.Spec L2
section
variable {e : Env}
def outV (np : Nat → Bool) (os : List O) (Q : O → List O → Prop) : RS → Prop
  | .next e => ∃ os', outs np e 0 os = some os' ∧ Q (.f (.d .none)) os'
  | .ret o e => ∃ os', outs np e 0 os = some os' ∧ Q o os'
  | _ => False
@[simp] theorem outV_ret {np : Nat → Bool} {os : List O} {Q : O → List O → Prop} {o : O} {e : Env} : outV np os Q (.ret o e) ↔ ∃ os', outs np e 0 os = some os' ∧ Q o os' := Iff.rfl
@[simp] theorem outV_next {np : Nat → Bool} {os : List O} {Q : O → List O → Prop} {e : Env} : outV np os Q (.next e) ↔ ∃ os', outs np e 0 os = some os' ∧ Q (.f (.d .none)) os' := Iff.rfl
theorem vpf_body {np : Nat → Bool} {n : Nat} {ms : MS} {os : List O} {Q : O → List O → Prop} (h : VpS ms (env0 n os) (outV np os Q)) : VpF (bodyF np n ms) os Q := by
  obtain ⟨r, h1, _, h2⟩ := h
  unfold VpF bodyF
  rw [h1]
  cases r with
  | next e =>
    obtain ⟨os', h3, h4⟩ := h2
    exact ⟨_, _, by simp only [h3, Option.map_some], h4⟩
  | ret o e =>
    obtain ⟨os', h3, h4⟩ := h2
    exact ⟨_, _, by simp only [h3, Option.map_some], h4⟩
  | brk e => exact h2.elim
  | cont e => exact h2.elim
  | exc c e => exact h2.elim
/-! ### comprehensions -/
theorem vp_lcL {vs : List Nat} {bd : Bd} {mt : M Bool} {me : M D} {Q : List D → Env → Prop} (I : List D → List D → Env → Prop)
    (hs : ∀ d ds acc e, I (d :: ds) acc e → ∃ e1, bd d e = some e1 ∧ Vp mt e1 fun t e2 => if t = true then Vp me e2 fun y e3 => acc.length < sizeLine ∧ I ds (acc ++ [y]) (wipeE e3 vs) else I ds acc (wipeE e2 vs))
    (h0 : ∀ acc e, I [] acc e → Q acc e) : ∀ ds acc e, I ds acc e → Vp (lcL vs bd mt me ds acc) e Q
  | [], acc, e, h => ⟨_, _, rfl, h0 acc e h⟩
  | d :: ds, acc, e, h => by
    obtain ⟨e1, h1, t, e2, h2, h3⟩ := hs d ds acc e h
    cases t with
    | true =>
      rw [if_pos rfl] at h3
      obtain ⟨y, e3, h4, h5, h6⟩ := h3
      obtain ⟨a, e4, h7, h8⟩ := vp_lcL I hs h0 ds _ _ h6
      exact ⟨a, e4, by simp only [lcL, h1, h2, h4, h5, if_true]; exact h7, h8⟩
    | false =>
      rw [if_neg (by decide)] at h3
      obtain ⟨a, e4, h7, h8⟩ := vp_lcL I hs h0 ds _ _ h3
      exact ⟨a, e4, by simp only [lcL, h1, h2]; exact h7, h8⟩
theorem vp_lcM {vs : List Nat} {mi : M (List D)} {bd : Bd} {mt : M Bool} {me : M D} {Q : D → Env → Prop} (h : Vp mi e fun ds e1 => Vp (lcL vs bd mt me ds []) (wipeE e1 vs) fun acc e2 => Q (.list acc) (backE e1 e2 vs)) : Vp (lcM vs mi bd mt me) e Q := by
  obtain ⟨ds, e1, h1, acc, e2, h2, h3⟩ := h
  exact ⟨_, _, by unfold lcM; rw [bnd_ok h1]; simp only [h2], h3⟩
theorem vp_lcO {vs : List Nat} {mi : M (List D)} {bd : Bd} {mt : M Bool} {me : M D} {Q : O → Env → Prop} (h : Vp mi e fun ds e1 => Vp (lcL vs bd mt me ds []) (wipeE e1 vs) fun acc e2 => Q (.f (.l acc)) (backE e1 e2 vs)) : Vp (lcO vs mi bd mt me) e Q := by
  obtain ⟨ds, e1, h1, acc, e2, h2, h3⟩ := h
  exact ⟨_, _, by unfold lcO; rw [bnd_ok h1]; simp only [h2], h3⟩
/-- .. of data that stay, with a test p and a value f -/
theorem vp_lcF {vs : List Nat} {bd : Bd} {mt : M Bool} {me : M D} {Q : List D → Env → Prop} {w : Env} (p : D → Bool) (f : D → D) {ds0 : List D}
    (hl : ds0.length ≤ sizeLine)
    (hs : ∀ d ∈ ds0, ∃ e1, bd d w = some e1 ∧ Vp mt e1 fun t e2 => t = p d ∧ if t = true then Vp me e2 fun y e3 => y = f d ∧ wipeE e3 vs = w else wipeE e2 vs = w)
    (h0 : Q ((ds0.filter p).map f) w) : Vp (lcL vs bd mt me ds0 []) w Q := by
  refine vp_lcL (fun ds acc e => e = w ∧ ∃ pre, ds0 = pre ++ ds ∧ acc = (pre.filter p).map f) ?_ ?_ ds0 [] w ⟨rfl, [], rfl, rfl⟩
  · rintro d ds acc e ⟨rfl, pre, rfl, rfl⟩
    obtain ⟨e1, h1, h2⟩ := hs d (by simp)
    refine ⟨e1, h1, h2.mono fun t e2 ⟨ht, h3⟩ => ?_⟩
    subst ht
    by_cases hp : p d = true
    · rw [if_pos hp] at h3 ⊢
      refine h3.mono fun y e3 ⟨hy, he⟩ => ⟨?_, he, pre ++ [d], by simp, by rw [List.filter_append, List.map_append, hy]; simp [hp]⟩
      have h5 := List.length_filter_le p pre
      simp only [List.length_append, List.length_cons] at hl
      rw [List.length_map]
      omega
    · rw [if_neg hp] at h3 ⊢
      exact ⟨h3, pre ++ [d], by simp, by rw [List.filter_append, List.map_append]; simp [hp]⟩
  · rintro acc e ⟨rfl, pre, h1, rfl⟩
    rw [List.append_nil] at h1
    exact h1 ▸ h0
end
/-! ### dicts -/
section
variable {α : Type} {e : Env} {Q : α → Env → Prop}
@[simp] theorem vp_isK {m : M α} (i : Nat) : Vp (isK i m) e Q ↔ (∃ xs, e[i]? = some (some (.f (.mk xs)))) ∧ Vp m e Q := by
  unfold Vp isK
  split
  · rename_i x h
    simp [h]
  · rename_i h
    simp only [reduceCtorEq, false_and, exists_false, false_iff]
    rintro ⟨⟨x, h1⟩, _⟩
    exact h x h1
@[simp] theorem vp_atK (i : Nat) {f : List (Key × D) → Option α} : Vp (atK i f) e Q ↔ ∃ xs, e[i]? = some (some (.f (.mk xs))) ∧ ∃ d, f xs = some d ∧ Q d e := by
  unfold Vp atK
  split
  · rename_i x h
    rw [h]
    constructor
    · rintro ⟨a1, e1, h1, q⟩
      cases z : f x with
      | none => rw [z] at h1; cases h1
      | some d => rw [z] at h1; cases h1; exact ⟨_, rfl, _, z, q⟩
    · rintro ⟨x', h1, d, z, q⟩
      cases h1
      exact ⟨_, _, by rw [z]; rfl, q⟩
  · rename_i h
    simp only [reduceCtorEq, false_and, exists_false, false_iff]
    rintro ⟨x, h1, _⟩
    exact h x h1
@[simp] theorem vp_dget {Q : D → Env → Prop} (i : Nat) {mi : M D} : Vp (dget i mi) e Q ↔ (∃ xs, e[i]? = some (some (.f (.mk xs)))) ∧ Vp mi e fun k e1 => ∃ xs, e1[i]? = some (some (.f (.mk xs))) ∧ ∃ d, getK k xs = some d ∧ Q d e1 := by
  simp only [dget, vp_isK, vp_bnd, vp_atK]
@[simp] theorem vp_din {Q : D → Env → Prop} (i : Nat) {mi : M D} : Vp (din i mi) e Q ↔ Vp mi e fun k e1 => ∃ xs, e1[i]? = some (some (.f (.mk xs))) ∧ ∃ d, hasK k xs = some d ∧ Q d e1 := by
  simp only [din, vp_bnd, vp_atK]
@[simp] theorem vp_dnotin {Q : D → Env → Prop} (i : Nat) {mi : M D} : Vp (dnotin i mi) e Q ↔ Vp mi e fun k e1 => ∃ xs, e1[i]? = some (some (.f (.mk xs))) ∧ ∃ d, hasntK k xs = some d ∧ Q d e1 := by
  simp only [dnotin, vp_bnd, vp_atK]
@[simp] theorem vp_dget2 {Q : D → Env → Prop} (i : Nat) {mi mz : M D} : Vp (dget2 i mi mz) e Q ↔ (∃ xs, e[i]? = some (some (.f (.mk xs)))) ∧ Vp mi e fun k e1 => Vp mz e1 fun z e2 => ∃ xs, e2[i]? = some (some (.f (.mk xs))) ∧ ∃ d, getK2 k z xs = some d ∧ Q d e2 := by
  simp only [dget2, vp_isK, vp_bnd, vp_atK]
@[simp] theorem vp_keysM {Q : List D → Env → Prop} (i : Nat) : Vp (keysM i) e Q ↔ ∃ xs, e[i]? = some (some (.f (.mk xs))) ∧ Q (keysF xs) e := by
  simp only [keysM, vp_isK, vp_atK, Option.some.injEq, exists_eq_left']
  exact ⟨fun h => h.2, fun h => ⟨⟨h.choose, h.choose_spec.1⟩, h⟩⟩
theorem vps_dput {Q : RS → Prop} {i : Nat} {mv mi : M D} (h : Vp mv e fun d e1 => (∃ xs, e1[i]? = some (some (.f (.mk xs)))) ∧ Vp mi e1 fun k e2 => ∃ kvs, e2[i]? = some (some (.f (.mk kvs))) ∧ ∃ k', keyD k = some k' ∧ kvs.length < sizeLine ∧ Q (.next (e2.set i (some (.f (.mk (putD kvs k' d))))))) : VpS (dput i mv mi) e Q := by
  unfold dput
  refine vps_bnd.2 (vp_bnd.2 (h.mono fun d e1 h => (vp_isK i).2 ⟨h.1, vp_bnd.2 (h.2.mono fun k e2 h => (vp_ret _).2 ?_)⟩))
  obtain ⟨kvs, h1, k', h2, h3, h4⟩ := h
  exact ⟨_, by simp only [h1, h2, h3, if_true], rfl, h4⟩
end
end Pm

/-! ## Pq4 -/
set_option Elab.async false
set_option linter.all false
set_option maxRecDepth 100000
set_option maxHeartbeats 2000000
/-! Pq4: values: texts, places, equality. -/
namespace Pm
open PySem PySem.Spec L2
@[simp] theorem ofString_inj (a b : String) : Str.ofString a = Str.ofString b ↔ a = b := by
  constructor
  · intro h
    rw [Str.ofString_eq_toList, Str.ofString_eq_toList] at h
    have h1 : a.toList.map Char.toNat = b.toList.map Char.toNat := by simpa using h
    have h2 : a.toList = b.toList := by
      refine List.map_inj_right (fun x y h => ?_) |>.1 h1
      exact Char.toNat_inj.1 h
    exact String.toList_inj.1 h2
  · rintro rfl
    rfl
@[simp] theorem line_le (n : Nat) (h : n ≤ 16777216 := by decide) : n ≤ sizeLine := h
@[simp] theorem eqS_str (a b : Str) : eqS (.str a) (.str b) = some (.bool (decide (a = b))) := by
  simp [eqS, okEq, PyData.depth, PyData.plain, PyData.eqv]
  by_cases h : a = b <;> simp [h]
@[simp] theorem eqS_int (a b : Int) : eqS (.int a) (.int b) = some (.bool (decide (a = b))) := by
  simp [eqS, okEq, PyData.depth, PyData.plain, PyData.eqv]
  by_cases h : a = b <;> simp [h]
@[simp] theorem neS_int (a b : Int) : neS (.int a) (.int b) = some (.bool (!decide (a = b))) := by
  simp [neS, okEq, PyData.depth, PyData.plain, PyData.eqv]
  by_cases h : a = b <;> simp [h]
@[simp] theorem getS_tuple (xs : List D) (i : Int) : getS (.tuple xs) (.int i) = atI xs i := rfl
@[simp] theorem getS_list (xs : List D) (i : Int) : getS (.list xs) (.int i) = atI xs i := rfl
@[simp] theorem atI_0 {α : Type} (a : α) (xs : List α) : atI (a :: xs) 0 = some a := by
  have h : (0 : Int) < (xs.length : Int) + 1 := by omega
  simp [atI, ixN, h]
@[simp] theorem atI_1 {α : Type} (a b : α) (xs : List α) : atI (a :: b :: xs) 1 = some b := by
  have h : (1 : Int) < (xs.length : Int) + 1 + 1 := by omega
  simp [atI, ixN, h]
@[simp] theorem atI_2 {α : Type} (a b c : α) (xs : List α) : atI (a :: b :: c :: xs) 2 = some c := by
  have h : (2 : Int) < (xs.length : Int) + 1 + 1 + 1 := by omega
  simp [atI, ixN, h]
@[simp] theorem atI_3 {α : Type} (a b c d : α) (xs : List α) : atI (a :: b :: c :: d :: xs) 3 = some d := by
  have h : (3 : Int) < (xs.length : Int) + 1 + 1 + 1 + 1 := by omega
  simp [atI, ixN, h]
@[simp] theorem atI_4 {α : Type} (a b c d f : α) (xs : List α) : atI (a :: b :: c :: d :: f :: xs) 4 = some f := by
  have h : (4 : Int) < (xs.length : Int) + 1 + 1 + 1 + 1 + 1 := by omega
  simp [atI, ixN, h]
@[simp] theorem leS_int (a b : Int) : leS (.int a) (.int b) = some (.bool (decide (a ≤ b))) := rfl
@[simp] theorem ltS_int (a b : Int) : ltS (.int a) (.int b) = some (.bool (decide (a < b))) := rfl
@[simp] theorem gtS_int (a b : Int) : gtS (.int a) (.int b) = some (.bool (decide (b < a))) := rfl
@[simp] theorem geS_int (a b : Int) : geS (.int a) (.int b) = some (.bool (decide (b ≤ a))) := rfl
@[simp] theorem lenS_list (xs : List D) : lenS [.list xs] = some (.int xs.length) := rfl
@[simp] theorem lenS_tuple (xs : List D) : lenS [.tuple xs] = some (.int xs.length) := rfl
theorem lenS_str (x : Str) (h : x.length ≤ sizeLine) : lenS [.str x] = some (.int x.length) := if_pos h
@[simp] theorem addS_int (a b : Int) : addS (.int a) (.int b) = some (.int (a + b)) := rfl
@[simp] theorem subS_int (a b : Int) : subS (.int a) (.int b) = some (.int (a - b)) := rfl
@[simp] theorem addD_int (a b : Int) : addD (.int a) (.int b) = some (.int (a + b)) := rfl
@[simp] theorem isaN_none (T : String) : isaN T .none = false := rfl
@[simp] theorem isaN_bool (T : String) (b : Bool) : isaN T (.bool b) = (T == "bool" || T == "int") := rfl
@[simp] theorem isaN_int (T : String) (b : Int) : isaN T (.int b) = (T == "int") := rfl
@[simp] theorem isaN_str (T : String) (b : Str) : isaN T (.str b) = (T == "str") := rfl
@[simp] theorem isaN_list (T : String) (b : List D) : isaN T (.list b) = (T == "list") := rfl
@[simp] theorem isaN_tuple (T : String) (b : List D) : isaN T (.tuple b) = (T == "tuple") := rfl
@[simp] theorem isS_none (a : D) : isS' a .none = some (.bool (isNoneD a)) := rfl
@[simp] theorem isS_bool (a b : Bool) : isS' (.bool a) (.bool b) = some (.bool (decide (a = b))) := rfl
@[simp] theorem isNoneD_none : isNoneD .none = true := rfl
@[simp] theorem isNoneD_list (xs : List D) : isNoneD (.list xs) = false := rfl
@[simp] theorem isNoneD_tuple (xs : List D) : isNoneD (.tuple xs) = false := rfl
@[simp] theorem isNoneD_int (i : Int) : isNoneD (.int i) = false := rfl
@[simp] theorem isNoneD_str (i : Str) : isNoneD (.str i) = false := rfl
@[simp] theorem popF_last (xs : List D) (x : D) : popF (xs ++ [x]) [] = some (x, xs) := by
  simp [popF]
theorem extF_list (xs ys : List D) (h : xs.length + ys.length ≤ sizeLine) : extF xs [.list ys] = some (.none, xs ++ ys) := if_pos h
theorem appF_one (xs : List D) (d : D) (h : xs.length < sizeLine) : appF xs [d] = some (.none, xs ++ [d]) := if_pos h
@[simp] theorem itemsD_list (xs : List D) : itemsD (.list xs) = some xs := rfl
@[simp] theorem itemsD_tuple (xs : List D) : itemsD (.tuple xs) = some xs := rfl
@[simp] theorem itsD_list (xs : List D) : itsD (.list xs) = some xs := rfl
@[simp] theorem itsD_tuple (xs : List D) : itsD (.tuple xs) = some xs := rfl
@[simp] theorem itsD_str (x : Str) : itsD (.str x) = some (strDs x) := rfl
theorem blsD_map {α : Type} (p : α → Bool) : ∀ l : List α, blsD (l.map fun x => .bool (p x)) = some (l.map p)
  | [] => rfl
  | a :: l => by simp [blsD, blsD_map p l]
theorem allS_map {α : Type} (p : α → Bool) (l : List α) : allS [.list (l.map fun x => .bool (p x))] = some (.bool (l.all p)) := by
  simp [allS, blsD_map, List.all_map]
theorem anyS_map {α : Type} (p : α → Bool) (l : List α) : anyS [.list (l.map fun x => .bool (p x))] = some (.bool (l.any p)) := by
  simp [anyS, blsD_map, List.any_map]
theorem intsD_map {α : Type} (p : α → Int) : ∀ l : List α, intsD (l.map fun x => .int (p x)) = some (l.map p)
  | [] => rfl
  | a :: l => by simp [intsD, intsD_map p l]
theorem sumS_map {α : Type} (p : α → Int) (l : List α) : sumS [.list (l.map fun x => .int (p x))] = some (.int (l.map p).sum) := by
  simp [sumS, intsD_map]
end Pm

/-! ## Pq5 -/
set_option Elab.async false
set_option linter.all false
set_option maxRecDepth 100000
set_option maxHeartbeats 2000000
/-! Pq5: more rules: loops over mapped lists, comprehensions as equivalences, slices, ranges, pairs. -/
namespace Pm
open PySem PySem.Spec L2
section
variable {α β : Type} {e : Env}
@[simp] theorem vps_forL_nil {bd : Bd} {b : MS} {Q : RS → Prop} : VpS (forL bd b []) e Q ↔ Q (.next e) := VpS.iff rfl
@[simp] theorem vps_forL_cons {bd : Bd} {b : MS} {d : D} {ds : List D} {Q : RS → Prop} : VpS (forL bd b (d :: ds)) e Q ↔ ∃ e1, bd d e = some e1 ∧ VpS b e1 (turnV (fun e2 => VpS (forL bd b ds) e2 Q) Q) := by
  unfold VpS
  conv => lhs; unfold forL
  cases z : bd d e with
  | none => simp
  | some e1 =>
    simp only [Option.some.injEq, exists_eq_left']
    cases z2 : b e1 with
    | none => simp
    | some r => cases r <;> simp [turnV, VpS, fineS]
/-- a loop over a mapped list: the invariant tells of the rest -/
theorem vps_forT {bd : Bd} {b : MS} {Q : RS → Prop} (f : α → D) (I : List α → Env → Prop) (hs : ∀ a r e, I (a :: r) e → ∃ e1, bd (f a) e = some e1 ∧ VpS b e1 (turnV (I r) Q)) (h0 : ∀ e, I [] e → Q (.next e)) {l : List α} (h : I l e) : VpS (forL bd b (l.map f)) e Q := by
  refine vps_forL (fun ds e => ∃ r : List α, ds = r.map f ∧ I r e) ?_ ?_ (l.map f) e ⟨l, rfl, h⟩
  · rintro d ds e ⟨r, hr, h⟩
    cases r with
    | nil => cases hr
    | cons a r =>
      cases hr
      obtain ⟨e1, h1, h2⟩ := hs a r e h
      refine ⟨e1, h1, h2.mono fun x hx => ?_⟩
      cases x with
      | next e => exact ⟨r, rfl, hx⟩
      | cont e => exact ⟨r, rfl, hx⟩
      | _ => exact hx
  · rintro e ⟨r, hr, h⟩
    cases r with
    | nil => exact h0 e h
    | cons a r => cases hr
@[simp] theorem vp_lcMI {vs : List Nat} {mi : M (List D)} {bd : Bd} {mt : M Bool} {me : M D} {Q : D → Env → Prop} : Vp (lcM vs mi bd mt me) e Q ↔ Vp mi e fun ds e1 => Vp (lcL vs bd mt me ds []) (wipeE e1 vs) fun acc e2 => Q (.list acc) (backE e1 e2 vs) := by
  refine ⟨?_, vp_lcM⟩
  rintro ⟨a, e', h, q⟩
  unfold lcM bnd at h
  cases z : mi e with
  | none => rw [z] at h; cases h
  | some r =>
    rw [z] at h
    cases r with
    | exc c e1 => cases h
    | ok ds e1 =>
      simp only at h
      cases z2 : lcL vs bd mt me ds [] (wipeE e1 vs) with
      | none => rw [z2] at h; cases h
      | some r =>
        rw [z2] at h
        cases r with
        | exc c e1 => cases h
        | ok acc e2 =>
          cases h
          exact ⟨ds, e1, z, acc, e2, z2, q⟩
@[simp] theorem vp_lcOI {vs : List Nat} {mi : M (List D)} {bd : Bd} {mt : M Bool} {me : M D} {Q : O → Env → Prop} : Vp (lcO vs mi bd mt me) e Q ↔ Vp mi e fun ds e1 => Vp (lcL vs bd mt me ds []) (wipeE e1 vs) fun acc e2 => Q (.f (.l acc)) (backE e1 e2 vs) := by
  refine ⟨?_, vp_lcO⟩
  rintro ⟨a, e', h, q⟩
  unfold lcO bnd at h
  cases z : mi e with
  | none => rw [z] at h; cases h
  | some r =>
    rw [z] at h
    cases r with
    | exc c e1 => cases h
    | ok ds e1 =>
      simp only at h
      cases z2 : lcL vs bd mt me ds [] (wipeE e1 vs) with
      | none => rw [z2] at h; cases h
      | some r =>
        rw [z2] at h
        cases r with
        | exc c e1 => cases h
        | ok acc e2 =>
          cases h
          exact ⟨ds, e1, z, acc, e2, z2, q⟩
/-- a comprehension over a mapped list -/
theorem vp_lcT {vs : List Nat} {bd : Bd} {mt : M Bool} {me : M D} {Q : List D → Env → Prop} {w : Env} (f : α → D) (p : α → Bool) (g : α → D) {l : List α}
    (hl : l.length ≤ sizeLine)
    (hs : ∀ a ∈ l, ∃ e1, bd (f a) w = some e1 ∧ Vp mt e1 fun t e2 => t = p a ∧ if t = true then Vp me e2 fun y e3 => y = g a ∧ wipeE e3 vs = w else wipeE e2 vs = w)
    (h0 : Q ((l.filter p).map g) w) : Vp (lcL vs bd mt me (l.map f) []) w Q := by
  refine vp_lcL (fun ds acc e => e = w ∧ ∃ pre post, l = pre ++ post ∧ ds = post.map f ∧ acc = (pre.filter p).map g) ?_ ?_ _ [] w ⟨rfl, [], l, rfl, rfl, rfl⟩
  · rintro d ds acc e ⟨rfl, pre, post, rfl, hd, rfl⟩
    cases post with
    | nil => cases hd
    | cons a post =>
      cases hd
      obtain ⟨e1, h1, h2⟩ := hs a (by simp)
      refine ⟨e1, h1, h2.mono fun t e2 ⟨ht, h3⟩ => ?_⟩
      subst ht
      by_cases hp : p a = true
      · rw [if_pos hp] at h3 ⊢
        refine h3.mono fun y e3 ⟨hy, he⟩ => ⟨?_, he, pre ++ [a], post, by simp, rfl, by rw [List.filter_append, List.map_append, hy]; simp [hp]⟩
        have h5 := List.length_filter_le p pre
        simp only [List.length_append, List.length_cons] at hl
        rw [List.length_map]
        omega
      · rw [if_neg hp] at h3 ⊢
        exact ⟨h3, pre ++ [a], post, by simp, rfl, by rw [List.filter_append, List.map_append]; simp [hp]⟩
  · rintro acc e ⟨rfl, pre, post, rfl, hd, rfl⟩
    cases post with
    | nil => simpa using h0
    | cons a post => cases hd
/-- .. with no test -/
theorem vp_lcA {vs : List Nat} {bd : Bd} {me : M D} {Q : List D → Env → Prop} {w : Env} (f : α → D) (g : α → D) {l : List α}
    (hl : l.length ≤ sizeLine)
    (hs : ∀ a ∈ l, ∃ e1, bd (f a) w = some e1 ∧ Vp me e1 fun y e3 => y = g a ∧ wipeE e3 vs = w)
    (h0 : Q (l.map g) w) : Vp (lcL vs bd allT me (l.map f) []) w Q := by
  refine vp_lcT f (fun _ => true) g hl (fun a ha => ?_) (by rw [List.filter_eq_self.2 (fun _ _ => rfl)]; exact h0)
  obtain ⟨e1, h1, h2⟩ := hs a ha
  exact ⟨e1, h1, by simpa [allT] using h2⟩
/-- a comprehension that draws -/
theorem vp_lcD {vs : List Nat} {bd : Bd} {me : M D} {Q : List D → Env → Prop} (n : Nat) (I : Env → Prop) (P : D → Prop) (hn : n < sizeLine) (ds : List D) (hd : ds.length = n)
    (hs : ∀ d e, d ∈ ds → I e → ∃ e1, bd d e = some e1 ∧ Vp me e1 fun y e3 => P y ∧ I (wipeE e3 vs)) (h0 : ∀ acc e, acc.length = n → (∀ y ∈ acc, P y) → I e → Q acc e) (h : I e) : Vp (lcL vs bd allT me ds []) e Q := by
  refine vp_lcL (fun r acc e => acc.length + r.length = n ∧ (∀ y ∈ acc, P y) ∧ (∀ d ∈ r, d ∈ ds) ∧ I e) ?_ ?_ ds [] e ⟨by simp [hd], by simp, fun _ h => h, h⟩
  · rintro d r acc e ⟨h1, h2, h3, h4⟩
    obtain ⟨e1, h5, h6⟩ := hs d e (h3 d (by simp)) h4
    refine ⟨e1, h5, ?_⟩
    simp only [allT, vp_ret, if_true]
    simp only [List.length_cons] at h1
    refine h6.mono fun y e3 ⟨hy, hi⟩ => ⟨by omega, ?_, ?_, fun x hx => h3 x (by simp [hx]), hi⟩
    · simp; omega
    · intro x hx
      rcases List.mem_append.mp hx with hx | hx
      · exact h2 x hx
      · simp at hx
        exact hx ▸ hy
  · rintro acc e ⟨h1, h2, _, h4⟩
    exact h0 acc e (by simpa using h1) h2 h4
@[simp] theorem vp_lc2MI {vs vs1 : List Nat} {mi mi1 : M (List D)} {bd bd1 : Bd} {mt mt1 : M Bool} {me : M D} {Q : D → Env → Prop} : Vp (lc2M vs mi bd mt mi1 vs1 bd1 mt1 me) e Q ↔ Vp mi e fun ds e1 => Vp (lc2L vs bd mt mi1 vs1 bd1 mt1 me ds []) (wipeE e1 vs) fun acc e2 => Q (.list acc) (backE e1 e2 vs) := by
  constructor
  · rintro ⟨a, e', h, q⟩
    unfold lc2M bnd at h
    cases z : mi e with
    | none => rw [z] at h; cases h
    | some r =>
      rw [z] at h
      cases r with
      | exc c e1 => cases h
      | ok ds e1 =>
        simp only at h
        cases z2 : lc2L vs bd mt mi1 vs1 bd1 mt1 me ds [] (wipeE e1 vs) with
        | none => rw [z2] at h; cases h
        | some r =>
          rw [z2] at h
          cases r with
          | exc c e1 => cases h
          | ok acc e2 =>
            cases h
            exact ⟨ds, e1, z, acc, e2, z2, q⟩
  · rintro ⟨ds, e1, h1, acc, e2, h2, q⟩
    exact ⟨_, _, by unfold lc2M; rw [bnd_ok h1]; simp only [h2], q⟩
/-- two clauses over mapped lists, no tests -/
theorem vp_lcL_acc {vs : List Nat} {bd : Bd} {me : M D} {Q : List D → Env → Prop} {w : Env} (f : β → D) (g : β → D) : ∀ (l : List β) (acc : List D), acc.length + l.length ≤ sizeLine →
    (∀ a ∈ l, ∃ e1, bd (f a) w = some e1 ∧ Vp me e1 fun y e3 => y = g a ∧ wipeE e3 vs = w) → Q (acc ++ l.map g) w → Vp (lcL vs bd allT me (l.map f) acc) w Q
  | [], acc, _, _, h0 => ⟨_, _, rfl, by simpa using h0⟩
  | a :: l, acc, hl, hs, h0 => by
    obtain ⟨e1, h1, y, e3, h2, rfl, h3⟩ := hs a (by simp)
    simp only [List.length_cons] at hl
    obtain ⟨r, e4, h4, h5⟩ := vp_lcL_acc (vs := vs) (bd := bd) (me := me) (Q := Q) (w := w) f g l (acc ++ [g a]) (by simp; omega) (fun b hb => hs b (by simp [hb])) (by simpa using h0)
    refine ⟨r, e4, ?_, h5⟩
    unfold lcL
    have : acc.length < sizeLine := by omega
    simp only [List.map_cons, h1, allT, M.ret, h2, this, if_true, h3]
    exact h4
theorem vp_lc2T {vs vs1 : List Nat} {bd bd1 : Bd} {mi1 : M (List D)} {me : M D} {w : Env} (f : α → D) (k : α → List β) (f1 : β → D) (g : α → β → D) : ∀ {Q : List D → Env → Prop} (l : List α) (acc : List D), acc.length + (l.flatMap k).length ≤ sizeLine →
    (∀ a ∈ l, ∃ e1, bd (f a) w = some e1 ∧ Vp mi1 e1 fun ds e3 => ds = (k a).map f1 ∧ (∀ b ∈ k a, ∃ e4, bd1 (f1 b) (wipeE e3 vs1) = some e4 ∧ Vp me e4 fun y e5 => y = g a b ∧ wipeE e5 vs1 = wipeE e3 vs1) ∧ wipeE (wipeE e3 vs1) vs = w) →
    Q (acc ++ l.flatMap fun a => (k a).map (g a)) w → Vp (lc2L vs bd allT mi1 vs1 bd1 allT me (l.map f) acc) w Q
  | Q, [], acc, _, _, h0 => ⟨_, _, rfl, by simpa using h0⟩
  | Q, a :: l, acc, hl, hs, h0 => by
    obtain ⟨e1, h1, ds, e3, h2, rfl, h3, h4⟩ := hs a (by simp)
    simp only [List.flatMap_cons, List.length_append] at hl
    obtain ⟨r, e4, h5, h6⟩ := vp_lcL_acc (vs := vs1) (bd := bd1) (me := me) (Q := fun r e => r = acc ++ (k a).map (g a) ∧ e = wipeE e3 vs1) (w := wipeE e3 vs1) f1 (g a) (k a) acc (by omega) h3 ⟨rfl, rfl⟩
    obtain ⟨rfl, rfl⟩ := h6
    obtain ⟨r, e4, h7, h8⟩ := vp_lc2T (vs := vs) (vs1 := vs1) (bd := bd) (bd1 := bd1) (mi1 := mi1) (me := me) (w := w) f k f1 g (Q := Q) l (acc ++ (k a).map (g a)) (by rw [List.length_append, List.length_map]; omega) (fun b hb => hs b (by simp [hb])) (by simpa using h0)
    refine ⟨r, e4, ?_, h8⟩
    have e1' : lc2L vs bd allT mi1 vs1 bd1 allT me (f a :: l.map f) acc w = (match lcL vs1 bd1 allT me ((k a).map f1) acc (wipeE e3 vs1) with
      | some (.ok acc' e4) => lc2L vs bd allT mi1 vs1 bd1 allT me (l.map f) acc' (wipeE e4 vs)
      | _ => none) := by
      conv => lhs; unfold lc2L
      simp only [h1, h2, show allT e1 = some (.ok true e1) from rfl]
      try rfl
    rw [List.map_cons, e1', h5]
    simp only [h4]
    exact h7
end
/-! ### ranges, pairs, slices -/
section
variable {α : Type} {e : Env}
@[simp] theorem vp_rng1 {Q : List D → Env → Prop} {m : M (List D)} : Vp (rng1 m) e Q ↔ Vp m e fun ds e1 => ∃ j, ds = [.int j] ∧ okR62 j = true ∧ Q (upD 0 j.toNat) e1 := by
  simp only [rng1, vp_bnd]
  constructor <;> intro h <;> refine h.mono fun a e1 h => ?_
  · split at h
    · rename_i j
      simp only [vp_ite, vp_ret, vp_none, and_false, or_false] at h
      exact ⟨j, rfl, h⟩
    · exact (vp_none.1 h).elim
  · obtain ⟨j, rfl, h1, h2⟩ := h
    simp only [h1, if_true, vp_ret]
    exact h2
@[simp] theorem vp_enumM {Q : List D → Env → Prop} {m : M (List D)} : Vp (enumM m) e Q ↔ Vp m e fun ds e1 => ∃ d xs, ds = [d] ∧ itemsD d = some xs ∧ Q (enumD xs) e1 := by
  simp only [enumM, vp_bnd]
  constructor <;> intro h <;> refine h.mono fun a e1 h => ?_
  · split at h
    · exact ⟨_, _, rfl, rfl, (vp_ret _).1 h⟩
    · exact ⟨_, _, rfl, rfl, (vp_ret _).1 h⟩
    · exact (vp_none.1 h).elim
  · obtain ⟨d, xs, rfl, h1, h2⟩ := h
    cases d <;> first | (cases h1; exact (vp_ret _).2 h2) | cases h1
@[simp] theorem vp_zipM {Q : List D → Env → Prop} {m : M (List D)} : Vp (zipM m) e Q ↔ Vp m e fun ds e1 => ∃ xs ys, (ds = [.list xs, .list ys] ∨ ds = [.tuple xs, .tuple ys]) ∧ Q (zipD xs ys) e1 := by
  simp only [zipM, vp_bnd]
  constructor <;> intro h <;> refine h.mono fun a e1 h => ?_
  · split at h
    · exact ⟨_, _, .inl rfl, (vp_ret _).1 h⟩
    · exact ⟨_, _, .inr rfl, (vp_ret _).1 h⟩
    · exact (vp_none.1 h).elim
  · obtain ⟨xs, ys, rfl | rfl, h2⟩ := h
    · exact (vp_ret _).2 h2
    · exact (vp_ret _).2 h2
@[simp] theorem vp_partM {Q : Option Int → Env → Prop} {m : M D} : Vp (partM m) e Q ↔ Vp m e fun d e1 => ∃ i, d = .int i ∧ Q (some i) e1 := by
  simp only [partM, vp_bnd]
  constructor <;> intro h <;> refine h.mono fun a e1 h => ?_
  · split at h
    · exact ⟨_, rfl, (vp_ret _).1 h⟩
    · exact (vp_none.1 h).elim
  · obtain ⟨i, rfl, h⟩ := h
    exact (vp_ret _).2 h
@[simp] theorem vp_cutPl {Q : List D → Env → Prop} {i : Nat} {m1 m2 : M (Option Int)} : Vp (cutPl i m1 m2) e Q ↔ Vp (plc i) e fun _ e1 => Vp m1 e1 fun lo e2 => Vp m2 e2 fun hi e3 => Vp (plc i) e3 fun d e4 => ∃ xs, d = .list xs ∧ Q (cutD xs lo hi) e4 := by
  simp only [cutPl, vp_bnd]
  constructor <;> intro h <;> refine h.mono fun a e1 h => h.mono fun a e1 h => h.mono fun a e1 h => h.mono fun a e1 h => ?_
  · split at h
    · exact ⟨_, rfl, (vp_ret _).1 h⟩
    · exact (vp_none.1 h).elim
  · obtain ⟨i, rfl, h⟩ := h
    exact (vp_ret _).2 h
theorem vp_cutA [TabCtx] {Q : D → Env → Prop} {m : M D} {m1 m2 : M (Option Int)} (h : Vp m e fun d e1 => Vp m1 e1 fun lo e2 => Vp m2 e2 fun hi e3 => (∃ xs, d = .tuple xs ∧ xs.length ≤ sizeLine ∧ Q (.tuple (cutD xs lo hi)) e3) ∨ (∃ xs, d = .list xs ∧ xs.length ≤ sizeLine ∧ Q (.list (cutD xs lo hi)) e3)) : Vp (cutA m m1 m2) e Q := by
  obtain ⟨d, e1, h1, lo, e2, h2, hi, e3, h3, h⟩ := h
  unfold cutA
  rcases h with ⟨xs, rfl, hz, q⟩ | ⟨xs, rfl, hz, q⟩
  · refine vp_altL ⟨_, e3, ?_, q⟩
    unfold slM
    rw [bnd_ok h1, bnd_ok h2, bnd_ok h3]
    simp only [cutS, hz, if_true]
    rfl
  · refine vp_altR ?_ ?_
    · unfold slM
      rw [bnd_ok h1, bnd_ok h2, bnd_ok h3]
      rfl
    · refine vp_lstM.2 ⟨_, e3, ?_, Nat.le_trans (cutD_length xs lo hi) hz, q⟩
      unfold cutB
      rw [bnd_ok h1, bnd_ok h2, bnd_ok h3]
      rfl
@[simp] theorem vps_setIx [TabCtx] {i : Nat} {mv mi : M D} {Q : RS → Prop} : VpS (setIx i mv mi) e Q ↔ Vp mv e fun d e1 => (∃ xs, e1[i]? = some (some (.f (.l xs)))) ∧ Vp mi e1 fun k e2 => ∃ xs, e2[i]? = some (some (.f (.l xs))) ∧ xs.length ≤ sizeLine ∧ ∃ d' xs', setF xs [d, k] = some (d', xs') ∧ Q (.next (e2.set i (some (.f (.l xs'))))) := by
  unfold setIx
  rw [vps_some fun _ _ => rfl]
  simp only [vp_bnd, vp_isL, vp_atL]
@[simp] theorem vp_isaM2 [TabCtx] {Q : D → Env → Prop} {T U : String} {m : M D} : Vp (isaM2 T U m) e Q ↔ Vp m e fun d e1 => Q (.bool (isaN T d || isaN U d)) e1 := by
  simp only [isaM2, vp_bnd, vp_cst]
@[simp] theorem vp_sortB {Q : List D → Env → Prop} {m : M D} : Vp (sortB m) e Q ↔ Vp m e fun d e1 => ∃ ds ks, d = .list ds ∧ strsD ds = some ks ∧ ks.length < 64 ∧ Q ((sortS ks).map .str) e1 := by
  simp only [sortB, vp_bnd]
  constructor <;> intro h <;> refine h.mono fun a e1 h => ?_
  · cases a with
    | list ds =>
      simp only at h
      cases z : strsD ds with
      | none => rw [z] at h; exact (vp_none.1 h).elim
      | some ks =>
        rw [z] at h
        simp only [vp_ite, vp_ret, vp_none, and_false, or_false] at h
        exact ⟨ds, ks, rfl, z, h.1, h.2⟩
    | _ => exact (vp_none.1 h).elim
  · obtain ⟨ds, ks, rfl, h1, h2, h3⟩ := h
    simp only [h1, h2, if_true, vp_ret]
    exact h3
@[simp] theorem vp_sortKM {Q : List D → Env → Prop} {i : Nat} : Vp (sortKM i) e Q ↔ ∃ xs, e[i]? = some (some (.f (.mk xs))) ∧ ∃ ks, strK xs = some ks ∧ ks.length < 64 ∧ Q ((sortS ks).map .str) e := by
  unfold sortKM
  rw [vp_isK, vp_atK]
  constructor
  · rintro ⟨_, xs, h1, d, h2, h3⟩
    cases z : strK xs with
    | none => rw [z] at h2; cases h2
    | some ks =>
      rw [z] at h2
      simp only [Option.bind_some] at h2
      split at h2
      · rename_i hl
        cases h2
        exact ⟨xs, h1, ks, z, hl, h3⟩
      · cases h2
  · rintro ⟨xs, h1, ks, z, hl, h3⟩
    exact ⟨⟨xs, h1⟩, xs, h1, _, by simp only [z, Option.bind_some, hl, if_true], h3⟩
@[simp] theorem vp_dictP {Q : O → Env → Prop} {m : M D} : Vp (dictP m) e Q ↔ Vp m e fun d e1 => ∃ xs kvs, itemsD d = some xs ∧ d = .list xs ∧ pairsD xs = some kvs ∧ Q (.f (.mk (mergeD [] kvs))) e1 := by
  simp only [dictP, vp_bnd]
  constructor <;> intro h <;> refine h.mono fun a e1 h => ?_
  · cases a with
    | list ds =>
      simp only at h
      cases z : pairsD ds with
      | none => rw [z] at h; exact (vp_none.1 h).elim
      | some ks =>
        rw [z] at h
        exact ⟨ds, ks, rfl, rfl, z, (vp_ret _).1 h⟩
    | _ => exact (vp_none.1 h).elim
  · obtain ⟨ds, ks, _, rfl, h1, h2⟩ := h
    simp only [h1, vp_ret]
    exact h2
@[simp] theorem vp_takeO {Q : O → Env → Prop} {i : Nat} : Vp (takeO i) e Q ↔ ∃ o, e[i]? = some (some o) ∧ Q o (e.set i none) := by
  unfold takeO
  constructor
  · rintro ⟨a, e', h1, h2⟩
    simp only at h1
    split at h1
    · rename_i o h
      cases h1
      exact ⟨_, h, h2⟩
    · cases h1
  · rintro ⟨o, h1, h2⟩
    exact ⟨_, _, by simp only [h1], h2⟩
theorem vps_tryS {m : MS} {Q : RS → Prop} (h : VpS m e Q) : VpS (tryS m) e Q := by
  obtain ⟨r, h1, h2, h3⟩ := h
  refine ⟨r, ?_, h2, h3⟩
  unfold tryS
  rw [h1]
  cases r <;> first | rfl | cases h2
end
end Pm

/-! ## Pq6 -/
set_option Elab.async false
set_option linter.all false
set_option maxRecDepth 100000
set_option maxHeartbeats 2000000
/-! Pq6: dicts from texts to numbers. -/
namespace Pm
open PySem PySem.Spec L2
abbrev DI := List (Str × Nat)
def dk (l : DI) : List (Key × D) := l.map fun p => (.inr p.1, .int p.2)
def gt (l : DI) (s : Str) : Option Nat := (l.find? fun p => decide (p.1 = s)).map (·.2)
def pt (l : DI) (s : Str) (n : Nat) : DI := if (gt l s).isSome then l.map (fun p => if p.1 = s then (p.1, n) else p) else l ++ [(s, n)]
@[simp] theorem keyD_str (s : Str) : keyD (.str s) = some (.inr s) := rfl
@[simp] theorem valD_dk (l : DI) (s : Str) : valD (dk l) (.inr s) = (gt l s).map fun n => .int n := by
  induction l with
  | nil => rfl
  | cons p l ih =>
    by_cases h : p.1 = s
    · simp [dk, valD, gt, List.find?_cons, h]
    · unfold dk valD gt at ih ⊢
      simp only [List.map_cons, List.find?_cons, Sum.inr.injEq, h, decide_false]
      exact ih
theorem gt_nil (s : Str) : gt [] s = none := rfl
theorem gt_append (l m : DI) (s : Str) : gt (l ++ m) s = (gt l s).or (gt m s) := by
  unfold gt
  rw [List.find?_append]
  cases List.find? (fun p => decide (p.1 = s)) l <;> rfl
theorem gt_map (l : DI) (s t : Str) (n : Nat) : gt (l.map (fun p => if p.1 = s then (p.1, n) else p)) t = if t = s then (gt l t).map (fun _ => n) else gt l t := by
  induction l with
  | nil => simp [gt]
  | cons p l ih =>
    unfold gt at ih ⊢
    simp only [List.map_cons, List.find?_cons]
    by_cases h : p.1 = s
    · simp only [h, if_true]
      by_cases h2 : s = t
      · simp [h2]
      · have h3 : ¬ t = s := fun e => h2 e.symm
        simp only [h2, decide_false, h3, if_false] at ih ⊢
        exact ih
    · simp only [h, if_false]
      by_cases h2 : p.1 = t
      · have h3 : ¬ t = s := fun e => h (h2.trans e)
        simp [h2, h3]
      · simp only [h2, decide_false]
        exact ih
@[simp] theorem gt_pt (l : DI) (s t : Str) (n : Nat) : gt (pt l s n) t = if t = s then some n else gt l t := by
  unfold pt
  split
  · rename_i h
    rw [gt_map]
    split
    · rename_i e
      subst e
      obtain ⟨x, hx⟩ := Option.isSome_iff_exists.mp h
      rw [hx]
      rfl
    · rfl
  · rename_i h
    rw [gt_append]
    by_cases e : t = s
    · subst e
      have : gt l t = none := by simpa using h
      rw [this]
      simp [gt]
    · have h3 : ¬ s = t := fun q => e q.symm
      simp [gt, e, h3]
@[simp] theorem putD_dk (l : DI) (s : Str) (n : Nat) : putD (dk l) (.inr s) (.int n) = dk (pt l s n) := by
  unfold putD pt
  rw [valD_dk]
  by_cases h : (gt l s).isSome = true
  · rw [if_pos (by simpa using h), if_pos h]
    unfold dk
    rw [List.map_map, List.map_map]
    refine List.map_congr_left fun p _ => ?_
    by_cases h2 : p.1 = s <;> simp [h2]
  · rw [if_neg (by simpa using h), if_neg h]
    simp [dk]
theorem gt_isSome (l : DI) (s : Str) : (gt l s).isSome = true ↔ s ∈ l.map (·.1) := by
  unfold gt
  rw [Option.isSome_map, List.find?_isSome]
  simp
theorem keys_pt (l : DI) (s : Str) (n : Nat) : (pt l s n).map (·.1) = if s ∈ l.map (·.1) then l.map (·.1) else l.map (·.1) ++ [s] := by
  unfold pt
  by_cases h : (gt l s).isSome = true
  · rw [if_pos h, if_pos ((gt_isSome l s).1 h), List.map_map]
    refine List.map_congr_left fun p _ => ?_
    by_cases h2 : p.1 = s <;> simp [h2]
  · rw [if_neg h, if_neg fun q => h ((gt_isSome l s).2 q)]
    simp
@[simp] theorem strK_dk (l : DI) : strK (dk l) = some (l.map (·.1)) := by
  induction l with
  | nil => rfl
  | cons p l ih => simp only [dk, List.map_cons, strK]; rw [show (l.map fun p => ((.inr p.1 : Key), (.int p.2 : D))) = dk l from rfl, ih]; rfl
@[simp] theorem keysF_dk (l : DI) : keysF (dk l) = (l.map (·.1)).map .str := by
  simp [keysF, dk, keyV]
@[simp] theorem strsD_map (l : List Str) : strsD (l.map .str) = some l := by
  induction l with
  | nil => rfl
  | cons p l ih => simp [strsD, ih]
@[simp] theorem getK_dk (l : DI) (s : Str) : getK (.str s) (dk l) = (gt l s).map fun n => .int n := by simp [getK]
@[simp] theorem hasK_dk (l : DI) (s : Str) : hasK (.str s) (dk l) = some (.bool (gt l s).isSome) := by simp [hasK]
@[simp] theorem hasntK_dk (l : DI) (s : Str) : hasntK (.str s) (dk l) = some (.bool (!(gt l s).isSome)) := by simp [hasntK]
@[simp] theorem getK2_dk (l : DI) (s : Str) (n : Nat) : getK2 (.str s) (.int n) (dk l) = some (.int ((gt l s).getD n : Nat)) := by
  simp only [getK2, keyD_str, Option.map_some, valD_dk]
  cases gt l s <;> rfl
@[simp] theorem dk_length (l : DI) : (dk l).length = l.length := by simp [dk]
theorem pt_length (l : DI) (s : Str) (n : Nat) : (pt l s n).length ≤ l.length + 1 := by
  unfold pt
  split <;> simp
/-- dict(pairs) -/
theorem pairsD_map (l : DI) : pairsD (l.map fun p => .tuple [.str p.1, .int p.2]) = some (dk l) := by
  induction l with
  | nil => rfl
  | cons p l ih => simp [pairsD, ih, dk]
def mg (l m : DI) : DI := m.foldl (fun a p => pt a p.1 p.2) l
theorem mergeD_dk (m : DI) : ∀ l : DI, mergeD (dk l) (dk m) = dk (mg l m) := by
  induction m with
  | nil => intro l; rfl
  | cons p m ih =>
    intro l
    have := ih (pt l p.1 p.2)
    simp only [mergeD, mg, dk, List.map_cons, List.foldl_cons] at this ⊢
    rw [show (putD (l.map fun p => ((.inr p.1 : Key), (.int p.2 : D))) (.inr p.1) (.int p.2)) = dk (pt l p.1 p.2) from putD_dk l p.1 p.2]
    exact this
/-! ### dicts as they stand -/
theorem valD_map {κ : Type} [DecidableEq κ] (l : List (κ × D)) (k j : κ) (v : D) : valD (l.map (fun kv => if kv.1 = k then (kv.1, v) else kv)) j = if j = k then (valD l j).map (fun _ => v) else valD l j := by
  induction l with
  | nil => simp [valD]
  | cons p l ih =>
    unfold valD at ih ⊢
    simp only [List.map_cons, List.find?_cons]
    by_cases h : p.1 = k
    · simp only [h, if_true]
      by_cases h2 : k = j
      · simp [h2]
      · have h3 : ¬ j = k := fun e => h2 e.symm
        simp only [h2, decide_false, h3, if_false] at ih ⊢
        exact ih
    · simp only [h, if_false]
      by_cases h2 : p.1 = j
      · have h3 : ¬ j = k := fun e => h (h2.trans e)
        simp [h2, h3]
      · simp only [h2, decide_false]
        exact ih
theorem valD_putD {κ : Type} [DecidableEq κ] (l : List (κ × D)) (k j : κ) (v : D) : valD (putD l k v) j = if j = k then some v else valD l j := by
  unfold putD
  split
  · rename_i h
    rw [valD_map]
    split
    · rename_i e
      subst e
      obtain ⟨x, hx⟩ := Option.isSome_iff_exists.mp h
      rw [hx]
      rfl
    · rfl
  · rename_i h
    have h0 : List.find? (fun kv => decide (kv.1 = k)) l = none := by
      unfold valD at h
      rw [Option.isSome_map, Bool.not_eq_true, Option.isSome_eq_false_iff, Option.isNone_iff_eq_none] at h
      exact h
    unfold valD
    rw [List.find?_append]
    by_cases e : j = k
    · subst e
      rw [h0]
      simp
    · have h3 : ¬ k = j := fun q => e q.symm
      simp [e, h3]
end Pm

/-! ## Pq7 -/
set_option Elab.async false
set_option linter.all false
set_option maxRecDepth 100000
set_option maxHeartbeats 2000000
/-! Pq7: the rules that were one way, as equivalences; targets; values. -/
namespace Pm
open PySem PySem.Spec L2
section
variable {α : Type} {e : Env}
@[simp] theorem vp_catB {Q : List D → Env → Prop} {ma mb : M D} : Vp (catB ma mb) e Q ↔ Vp ma e fun a e1 => Vp mb e1 fun b e2 => ∃ xs ys, a = .list xs ∧ b = .list ys ∧ xs.length + ys.length ≤ sizeLine ∧ Q (xs ++ ys) e2 := by
  simp only [catB, vp_bnd]
  constructor <;> intro h <;> refine h.mono fun a e1 h => h.mono fun b e2 h => ?_
  · split at h
    · simp only [vp_ite, vp_ret, vp_none, and_false, or_false] at h
      exact ⟨_, _, rfl, rfl, h⟩
    · exact (vp_none.1 h).elim
  · obtain ⟨xs, ys, rfl, rfl, h1, h2⟩ := h
    simp only [h1, if_true, vp_ret]
    exact h2
@[simp] theorem vp_addAI {Q : D → Env → Prop} {ma mb : M D} : Vp (addA ma mb) e Q ↔ Vp ma e fun a e1 => Vp mb e1 fun b e2 => ∃ d, addD a b = some d ∧ Q d e2 := by
  refine ⟨fun h => ?_, vp_addA⟩
  unfold addA at h
  rcases vp_alt.1 h with h | ⟨_, h⟩
  · refine (vp_op2.1 h).mono fun a e1 h => h.mono fun b e2 h => ?_
    obtain ⟨d, h1, h2⟩ := h
    refine ⟨d, ?_, h2⟩
    unfold addD
    split
    · rw [addS_list] at h1
      cases h1
    · exact h1
  · refine (vp_catB.1 (vp_lstM.1 h)).mono fun a e1 h => h.mono fun b e2 h => ?_
    obtain ⟨xs, ys, rfl, rfl, h1, _, h2⟩ := h
    exact ⟨_, by simp [addD, h1], h2⟩
def cutX (d : D) (lo hi : Option Int) : Option D := match d with
  | .tuple xs => if xs.length ≤ sizeLine then some (.tuple (cutD xs lo hi)) else none
  | .list xs => if (cutD xs lo hi).length ≤ sizeLine then some (.list (cutD xs lo hi)) else none
  | _ => none
@[simp] theorem vp_cutAI [TabCtx] {Q : D → Env → Prop} {m : M D} {m1 m2 : M (Option Int)} : Vp (cutA m m1 m2) e Q ↔ Vp m e fun d e1 => Vp m1 e1 fun lo e2 => Vp m2 e2 fun hi e3 => ∃ x, cutX d lo hi = some x ∧ Q x e3 := by
  constructor
  · intro h
    unfold cutA at h
    rcases vp_alt.1 h with h | ⟨_, h⟩
    · simp only [slM, vp_bnd, vp_lift] at h
      refine h.mono fun d e1 h => h.mono fun lo e2 h => h.mono fun hi e3 h => ?_
      obtain ⟨x, h1, h2⟩ := h
      unfold cutS at h1
      split at h1
      · split at h1
        · rename_i hz
          cases h1
          exact ⟨_, by simp only [cutX, hz, if_true], h2⟩
        · cases h1
      · cases h1
    · have h := vp_lstM.1 h
      simp only [cutB, vp_bnd] at h
      refine h.mono fun d e1 h => h.mono fun lo e2 h => h.mono fun hi e3 h => ?_
      split at h
      · have h := (vp_ret _).1 h
        exact ⟨_, by simp only [cutX, h.1, if_true], h.2⟩
      · exact (vp_none.1 h).elim
  · rintro ⟨d, e1, h1, lo, e2, h2, hi, e3, h3, x, h, q⟩
    unfold cutX at h
    unfold cutA
    split at h
    · split at h
      · rename_i hz
        cases h
        refine vp_altL ⟨_, e3, ?_, q⟩
        unfold slM
        rw [bnd_ok h1, bnd_ok h2, bnd_ok h3]
        simp only [cutS, hz, if_true]
        rfl
      · cases h
    · split at h
      · rename_i hz
        cases h
        refine vp_altR ?_ ?_
        · unfold slM
          rw [bnd_ok h1, bnd_ok h2, bnd_ok h3]
          rfl
        · refine vp_lstM.2 ⟨_, e3, ?_, hz, q⟩
          unfold cutB
          rw [bnd_ok h1, bnd_ok h2, bnd_ok h3]
          rfl
      · cases h
    · cases h
@[simp] theorem vps_dputI {Q : RS → Prop} {i : Nat} {mv mi : M D} : VpS (dput i mv mi) e Q ↔ Vp mv e fun d e1 => (∃ xs, e1[i]? = some (some (.f (.mk xs)))) ∧ Vp mi e1 fun k e2 => ∃ kvs, e2[i]? = some (some (.f (.mk kvs))) ∧ ∃ k', keyD k = some k' ∧ kvs.length < sizeLine ∧ Q (.next (e2.set i (some (.f (.mk (putD kvs k' d)))))) := by
  refine ⟨fun h => ?_, vps_dput⟩
  unfold dput at h
  refine (vp_bnd.1 (vps_bnd.1 h)).mono fun d e1 h => ?_
  have h := (vp_isK i).1 h
  refine ⟨h.1, (vp_bnd.1 h.2).mono fun k e2 h => ?_⟩
  have h := (vp_ret _).1 h
  obtain ⟨r, h1, h2, h3⟩ := h
  simp only at h1
  split at h1
  · rename_i kvs hk
    split at h1
    · rename_i k' hk'
      split at h1
      · rename_i hl
        cases h1
        exact ⟨kvs, hk, k', hk', hl, h3⟩
      · cases h1
    · cases h1
  · cases h1
end
@[simp] theorem slotB_d (d : D) : slotB (.f (.d d)) = some d := rfl
@[simp] theorem slotB_l (xs : List D) : slotB (.f (.l xs)) = some (.list xs) := rfl
@[simp] theorem tupT_tuple (bs : List Bd) (ds : List D) (e : Env) : tupT bs (.tuple ds) e = tupB bs ds e := rfl
@[simp] theorem tupB_nil (e : Env) : tupB [] [] e = some e := rfl
@[simp] theorem tupB_cons (b : Bd) (bs : List Bd) (d : D) (ds : List D) (e e1 : Env) : tupB (b :: bs) (d :: ds) e = some e1 ↔ ∃ e', b d e = some e' ∧ tupB bs ds e' = some e1 := by
  rw [show tupB (b :: bs) (d :: ds) e = (b d e).bind (tupB bs ds) from rfl, Option.bind_eq_some_iff]
@[simp] theorem nameB_some (i : Nat) (d : D) (e e1 : Env) : nameB i d e = some e1 ↔ i < e.length ∧ e.set i (some (.f (.d d))) = e1 := by
  unfold nameB
  by_cases h : i < e.length <;> simp [h, O.d]
theorem nameB_if (i : Nat) (d : D) (e : Env) : nameB i d e = if i < e.length then some (e.set i (some (.f (.d d)))) else none := rfl
@[simp] theorem wipeE_nil (e : Env) : wipeE e [] = e := rfl
@[simp] theorem wipeE_cons (e : Env) (v : Nat) (vs : List Nat) : wipeE e (v :: vs) = (wipeE e vs).set v none := rfl
@[simp] theorem backE_nil (e0 e : Env) : backE e0 e [] = e := rfl
@[simp] theorem backE_cons (e0 e : Env) (v : Nat) (vs : List Nat) : backE e0 e (v :: vs) = (backE e0 e vs).set v (keepD e0[v]?) := rfl
@[simp] theorem keepD_none : keepD none = none := rfl
@[simp] theorem keepD_sn : keepD (some none) = none := rfl
@[simp] theorem keepD_d (x : D) : keepD (some (some (.f (.d x)))) = some (.f (.d x)) := rfl
@[simp] theorem keepD_l (x : List D) : keepD (some (some (.f (.l x)))) = none := rfl
@[simp] theorem keepD_mk (x : List (Key × D)) : keepD (some (some (.f (.mk x)))) = none := rfl
@[simp] theorem popF_last2 (xs : List D) (x : D) : popF (xs.concat x) [] = some (x, xs) := by
  rw [List.concat_eq_append]
  exact popF_last xs x
@[simp] theorem ex2_and {α β : Type} {x : α} {y : β} {p : α → β → Prop} : (∃ a b, (x = a ∧ y = b) ∧ p a b) ↔ p x y := by
  constructor
  · rintro ⟨_, _, ⟨rfl, rfl⟩, h⟩
    exact h
  · exact fun h => ⟨_, _, ⟨rfl, rfl⟩, h⟩
@[simp] theorem Od_eq (x : D) : O.d x = .f (.d x) := rfl
@[simp] theorem Ol_eq (x : List D) : O.l x = .f (.l x) := rfl
@[simp] theorem Omk_eq (x : List (Key × D)) : O.mk x = .f (.mk x) := rfl
/-! ### values -/
@[simp] theorem addD_tup (xs ys : List D) : addD (.tuple xs) (.tuple ys) = if xs.length + ys.length ≤ sizeLine then some (.tuple (xs ++ ys)) else none := rfl
@[simp] theorem addD_lst (xs ys : List D) : addD (.list xs) (.list ys) = if xs.length + ys.length ≤ sizeLine then some (.list (xs ++ ys)) else none := rfl
@[simp] theorem cutX_tup (xs : List D) (lo hi : Option Int) : cutX (.tuple xs) lo hi = if xs.length ≤ sizeLine then some (.tuple (cutD xs lo hi)) else none := rfl
@[simp] theorem cutX_lst (xs : List D) (lo hi : Option Int) : cutX (.list xs) lo hi = if (cutD xs lo hi).length ≤ sizeLine then some (.list (cutD xs lo hi)) else none := rfl
@[simp] theorem eqv_str (a b : Str) : PyData.eqv (.str a) (.str b) = decide (a = b) := by
  by_cases h : a = b <;> simp [PyData.eqv, h]
@[simp] theorem eqv_int (a b : Int) : PyData.eqv (.int a) (.int b) = decide (a = b) := by
  by_cases h : a = b <;> simp [PyData.eqv, h]
theorem plainAll_strs (xs : List Str) : PyData.plainAll (xs.map .str) = true := by
  induction xs <;> simp_all [PyData.plainAll, PyData.plain]
theorem inS_strs (a : Str) (xs : List Str) : inS (.str a) (.list (xs.map .str)) = some (.bool (decide (a ∈ xs))) := by
  have h1 : PyData.depth (.str a) ≤ 64 := by simp [PyData.depth]
  refine (if_pos ⟨Nat.le_trans (Nat.min_le_right _ _) h1, by simp [PyData.plain], plainAll_strs xs⟩).trans ?_
  congr 2
  rw [List.any_map, Bool.eq_iff_iff, List.any_eq_true, decide_eq_true_eq]
  constructor
  · rintro ⟨x, hx, h⟩
    simp at h
    exact h ▸ hx
  · exact fun h => ⟨a, h, by simp⟩
theorem inS_strsT (a : Str) (xs : List Str) : inS (.str a) (.tuple (xs.map .str)) = some (.bool (decide (a ∈ xs))) := inS_strs a xs
@[simp] theorem inS_2 (a b c : Str) : inS (.str a) (.tuple [.str b, .str c]) = some (.bool (decide (a = b) || decide (a = c))) := by
  have := inS_strsT a [b, c]
  simpa [List.mem_cons, Bool.decide_or] using this
@[simp] theorem inS_3 (a b c d : Str) : inS (.str a) (.tuple [.str b, .str c, .str d]) = some (.bool (decide (a = b) || (decide (a = c) || decide (a = d)))) := by
  have := inS_strsT a [b, c, d]
  simpa [List.mem_cons, Bool.decide_or] using this
@[simp] theorem inS_4 (a b c d f : Str) : inS (.str a) (.tuple [.str b, .str c, .str d, .str f]) = some (.bool (decide (a = b) || (decide (a = c) || (decide (a = d) || decide (a = f))))) := by
  have := inS_strsT a [b, c, d, f]
  simpa [List.mem_cons, Bool.decide_or] using this
@[simp] theorem notInS_2 (a b c : Str) : notInS (.str a) (.tuple [.str b, .str c]) = some (.bool (!(decide (a = b) || decide (a = c)))) := by
  simp [notInS, notD]
@[simp] theorem notInS_3 (a b c d : Str) : notInS (.str a) (.tuple [.str b, .str c, .str d]) = some (.bool (!(decide (a = b) || (decide (a = c) || decide (a = d))))) := by
  simp [notInS, notD]
theorem notInS_strs (a : Str) (xs : List Str) : notInS (.str a) (.list (xs.map .str)) = some (.bool (!decide (a ∈ xs))) := by
  simp [notInS, inS_strs, notD]
@[simp] theorem eqS_bool (a b : Bool) : eqS (.bool a) (.bool b) = some (.bool (a == b)) := by
  cases a <;> cases b <;> rfl
@[simp] theorem neS_bool (a b : Bool) : neS (.bool a) (.bool b) = some (.bool (a != b)) := by
  cases a <;> cases b <;> rfl
theorem upD_eq (n : Nat) : upD 0 n = (List.range n).map fun i => .int (i : Nat) := by
  simp [upD]
end Pm

/-! ## Pq8 -/
set_option Elab.async false
set_option linter.all false
set_option maxRecDepth 100000
set_option maxHeartbeats 2000000
/-! Pq8: slices. -/
namespace Pm
open PySem PySem.Spec L2
theorem cutD_lo (xs : List D) (k : Nat) : cutD xs (some (k : Int)) none = xs.drop k := by
  unfold cutD
  rw [HT.sIx_nat, HT.sIx_none]
  rcases Nat.le_total k xs.length with h | h
  · rw [Nat.min_eq_left h]
    exact List.take_of_length_le (by simp)
  · rw [Nat.min_eq_right h]
    simp [List.drop_eq_nil_of_le h]
theorem cutD_hi (xs : List D) (k : Nat) : cutD xs none (some (k : Int)) = xs.take k := by
  unfold cutD
  rw [HT.sIx_nat, HT.sIx_none]
  simp
@[simp] theorem cutD_tail (x : D) (xs : List D) : cutD (x :: xs) (some 1) none = xs := by
  have := cutD_lo (x :: xs) 1
  simpa using this
end Pm

/-! ## Pr0 -/
set_option Elab.async false
set_option linter.all false
set_option maxRecDepth 100000
set_option maxHeartbeats 2000000
/-! Pr0: the rules with values taken out of options. -/
namespace Pm
open PySem PySem.Spec L2
/-- a value, then the rest -/
def OptV {α : Type} (o : Option α) (K : α → Prop) : Prop := ∃ a, o = some a ∧ K a
/-! ### what a slot holds -/
def vD : Option (Option O) → Option D
  | some (some (.f (.d x))) => some x
  | _ => none
def hS : Option (Option O) → Option O
  | some (some o) => some o
  | _ => none
def lS : Option (Option O) → Option (List D)
  | some (some (.f (.l x))) => some x
  | _ => none
def kS : Option (Option O) → Option (List (Key × D))
  | some (some (.f (.mk x))) => some x
  | _ => none
def pS (o : Option (Option O)) : Option D := (hS o).bind slotB
def frG (o : Option (Option O)) (e : Env) (i : Nat) : Option (D × Env) := match o with
  | some (some (.f (.d x))) => some (x, e)
  | some (some (.f (.l xs))) => some (.list xs, e.set i (some (.f (.d (.list xs)))))
  | _ => none
@[simp] theorem vD_d (x : D) : vD (some (some (.f (.d x)))) = some x := rfl
@[simp] theorem hS_s (x : O) : hS (some (some x)) = some x := rfl
@[simp] theorem lS_l (x : List D) : lS (some (some (.f (.l x)))) = some x := rfl
@[simp] theorem kS_k (x : List (Key × D)) : kS (some (some (.f (.mk x)))) = some x := rfl
@[simp] theorem pS_s (x : O) : pS (some (some x)) = slotB x := rfl
@[simp] theorem frG_d (x : D) (e : Env) (i : Nat) : frG (some (some (.f (.d x)))) e i = some (x, e) := rfl
@[simp] theorem frG_l (x : List D) (e : Env) (i : Nat) : frG (some (some (.f (.l x)))) e i = some (.list x, e.set i (some (.f (.d (.list x))))) := rfl
theorem vD_iff {o : Option (Option O)} {x : D} : vD o = some x ↔ o = some (some (.f (.d x))) := by
  unfold vD
  split
  · simp
  · rename_i h
    simp only [reduceCtorEq, false_iff]
    exact h x
theorem hS_iff {o : Option (Option O)} {x : O} : hS o = some x ↔ o = some (some x) := by
  unfold hS
  split
  · simp
  · rename_i h
    simp only [reduceCtorEq, false_iff]
    exact h x
theorem lS_iff {o : Option (Option O)} {x : List D} : lS o = some x ↔ o = some (some (.f (.l x))) := by
  unfold lS
  split
  · simp
  · rename_i h
    simp only [reduceCtorEq, false_iff]
    exact h x
theorem kS_iff {o : Option (Option O)} {x : List (Key × D)} : kS o = some x ↔ o = some (some (.f (.mk x))) := by
  unfold kS
  split
  · simp
  · rename_i h
    simp only [reduceCtorEq, false_iff]
    exact h x
def bD : D → Option Bool
  | .bool b => some b
  | _ => none
def iD : D → Option Int
  | .int b => some b
  | _ => none
def lD : D → Option (List D)
  | .list b => some b
  | _ => none
def cD : D → Option Str
  | .str b => some b
  | _ => none
def dO : O → Option D
  | .f (.d d) => some d
  | _ => none
@[simp] theorem bD_b (b : Bool) : bD (.bool b) = some b := rfl
@[simp] theorem iD_i (b : Int) : iD (.int b) = some b := rfl
@[simp] theorem lD_l (b : List D) : lD (.list b) = some b := rfl
@[simp] theorem cD_c (b : Str) : cD (.str b) = some b := rfl
@[simp] theorem dO_d (b : D) : dO (.f (.d b)) = some b := rfl
theorem bD_iff {d : D} {x : Bool} : bD d = some x ↔ d = .bool x := by cases d <;> simp [bD]
theorem iD_iff {d : D} {x : Int} : iD d = some x ↔ d = .int x := by cases d <;> simp [iD]
theorem lD_iff {d : D} {x : List D} : lD d = some x ↔ d = .list x := by cases d <;> simp [lD]
theorem cD_iff {d : D} {x : Str} : cD d = some x ↔ d = .str x := by cases d <;> simp [cD]
theorem dO_iff {o : O} {x : D} : dO o = some x ↔ o = .f (.d x) := by
  unfold dO
  split
  · simp
  · rename_i h
    simp only [reduceCtorEq, false_iff]
    exact h x
theorem v_outret {np : Nat → Bool} {os : List O} {Q : O → List O → Prop} {o : O} {e : Env} : outV np os Q (.ret o e) ↔ OptV (outs np e 0 os) fun os' => Q o os' := Iff.rfl
theorem v_outnext {np : Nat → Bool} {os : List O} {Q : O → List O → Prop} {e : Env} : outV np os Q (.next e) ↔ OptV (outs np e 0 os) fun os' => Q (.f (.d .none)) os' := Iff.rfl
section
variable {α β : Type} {e : Env} {Q : α → Env → Prop}
theorem v_lift (o : Option α) : Vp (M.lift o) e Q ↔ OptV o fun a => Q a e := vp_lift o
theorem v_varD {Q : D → Env → Prop} (i : Nat) : Vp (varD i) e Q ↔ OptV (vD e[i]?) fun x => Q x e := by
  simp only [vp_varD, OptV, vD_iff]
theorem v_hasS {m : M α} (i : Nat) : Vp (hasS i m) e Q ↔ OptV (hS e[i]?) fun _ => Vp m e Q := by
  simp only [vp_hasS, OptV, hS_iff, exists_and_right]
theorem v_plc {Q : D → Env → Prop} (i : Nat) : Vp (plc i) e Q ↔ OptV (pS e[i]?) fun d => Q d e := by
  simp only [vp_plc, OptV, pS, Option.bind_eq_some_iff, hS_iff]
  constructor
  · rintro ⟨o, h1, d, h2, q⟩
    exact ⟨d, ⟨o, h1, h2⟩, q⟩
  · rintro ⟨d, ⟨o, h1, h2⟩, q⟩
    exact ⟨o, h1, d, h2, q⟩
theorem v_frzV {Q : D → Env → Prop} (i : Nat) : Vp (frzV i) e Q ↔ OptV (frG e[i]? e i) fun p => Q p.1 p.2 := by
  rw [vp_frzV]
  unfold OptV frG
  constructor
  · rintro (⟨x, h, q⟩ | ⟨x, h, q⟩)
    · rw [h]
      exact ⟨_, rfl, q⟩
    · rw [h]
      exact ⟨_, rfl, q⟩
  · rintro ⟨p, h, q⟩
    split at h
    · rename_i x hx
      cases h
      exact .inl ⟨x, hx, q⟩
    · rename_i x hx
      cases h
      exact .inr ⟨x, hx, q⟩
    · cases h
theorem v_asB {Q : Bool → Env → Prop} (d : D) : Vp (asB d) e Q ↔ OptV (bD d) fun b => Q b e := by
  simp only [vp_asB, OptV, bD_iff]
theorem v_op2 {Q : D → Env → Prop} {g : D → D → Option D} {ma mb : M D} : Vp (op2 g ma mb) e Q ↔ Vp ma e fun a e1 => Vp mb e1 fun b e2 => OptV (g a b) fun d => Q d e2 := vp_op2
theorem v_op2p {Q : D → Env → Prop} {g : D → D → Option D} {i : Nat} {mb : M D} : Vp (op2p g i mb) e Q ↔ Vp mb e fun b e1 => Vp (plc i) e1 fun a e2 => OptV (g a b) fun d => Q d e2 := vp_op2p
theorem v_op1 {Q : D → Env → Prop} {g : D → Option D} {ma : M D} : Vp (op1 g ma) e Q ↔ Vp ma e fun a e1 => OptV (g a) fun d => Q d e1 := vp_op1
theorem v_call1 {Q : D → Env → Prop} {g : List D → Option D} {ma : M D} : Vp (call1 g ma) e Q ↔ Vp ma e fun a e1 => OptV (g [a]) fun d => Q d e1 := vp_call1
theorem v_call2 {Q : D → Env → Prop} {g : List D → Option D} {ma mb : M D} : Vp (call2 g ma mb) e Q ↔ Vp ma e fun a e1 => Vp mb e1 fun b e2 => OptV (g [a, b]) fun d => Q d e2 := vp_call2
theorem v_tst {Q : Bool → Env → Prop} {m : M D} : Vp (tst m) e Q ↔ Vp m e fun d e1 => OptV (bD d) fun b => Q b e1 := by
  simp only [vp_tst, OptV, bD_iff]
theorem v_chn {Q : D → Env → Prop} {g g' : D → D → Option D} {ma mb mc : M D} : Vp (chn g g' ma mb mc) e Q ↔ Vp ma e fun a e1 => Vp mb e1 fun b e2 => OptV (g a b) fun d => OptV (bD d) fun k => if k = true then Vp mc e2 fun c e3 => OptV (g' b c) fun d => Q d e3 else Q (.bool false) e2 := by
  rw [vp_chn]
  constructor <;> intro h <;> refine h.mono fun a e1 h => h.mono fun b e2 h => ?_
  · obtain ⟨k, h1, h2⟩ := h
    exact ⟨_, h1, k, rfl, h2⟩
  · obtain ⟨d, h1, k, h2, h3⟩ := h
    cases bD_iff.1 h2
    exact ⟨k, h1, h3⟩
theorem v_asD {Q : D → Env → Prop} {m : M O} : Vp (asD m) e Q ↔ Vp m e fun o e1 => OptV (dO o) fun d => Q d e1 := by
  simp only [vp_asD, OptV, dO_iff]
theorem v_callM {Q : O → Env → Prop} {spec : List (Option Nat)} {m : M (List D)} {mf : MF} : Vp (callM spec m mf) e Q ↔ Vp m e fun ds e1 => OptV (fill spec ds e1) fun os => VpF mf os fun o os' => Q o (store spec os' e1) := vp_callM
theorem v_itemsB {Q : List D → Env → Prop} {m : M D} : Vp (itemsB m) e Q ↔ Vp m e fun d e1 => OptV (itemsD d) fun ds => Q ds e1 := vp_itemsB
theorem v_itemsM {Q : List D → Env → Prop} {m : M D} : Vp (itemsM m) e Q ↔ Vp m e fun d e1 => OptV (itemsD d) fun ds => Q ds e1 := vp_itemsM
theorem v_itsA {Q : List D → Env → Prop} {m : M D} : Vp (itsA m) e Q ↔ Vp m e fun d e1 => OptV (itsD d) fun ds => Q ds e1 := vp_itsA
theorem v_addA {Q : D → Env → Prop} {ma mb : M D} : Vp (addA ma mb) e Q ↔ Vp ma e fun a e1 => Vp mb e1 fun b e2 => OptV (addD a b) fun d => Q d e2 := vp_addAI
theorem v_revB {Q : List D → Env → Prop} {m : M D} : Vp (revB m) e Q ↔ Vp m e fun d e1 => OptV (lD d) fun ds => Q ds.reverse e1 := by
  simp only [vp_revB, OptV, lD_iff]
theorem v_tupB1 {Q : D → Env → Prop} {m : M D} : Vp (tupB1 m) e Q ↔ Vp m e fun d e1 => OptV (itemsD d) fun ds => ds.length ≤ sizeLine ∧ Q (.tuple ds) e1 := vp_tupB1
theorem v_isL {m : M α} (i : Nat) : Vp (isL i m) e Q ↔ OptV (lS e[i]?) fun _ => Vp m e Q := by
  simp only [vp_isL, OptV, lS_iff, exists_and_right]
theorem pair_iff {γ δ : Type} {o : Option (γ × δ)} {K : γ → δ → Prop} : (∃ d x, o = some (d, x) ∧ K d x) ↔ OptV o fun p => K p.1 p.2 := by
  constructor
  · rintro ⟨d, x, h, k⟩
    exact ⟨_, h, k⟩
  · rintro ⟨⟨d, x⟩, h, k⟩
    exact ⟨d, x, h, k⟩
theorem v_atL {Q : D → Env → Prop} (i : Nat) {f : List D → Option (D × List D)} : Vp (atL i f) e Q ↔ OptV (lS e[i]?) fun xs => xs.length ≤ sizeLine ∧ OptV (f xs) fun p => Q p.1 (e.set i (some (.f (.l p.2)))) := by
  simp only [vp_atL, OptV, lS_iff, pair_iff]
theorem v_mutL {Q : D → Env → Prop} (i : Nat) {ml : M (List D)} {f : List D → List D → Option (D × List D)} : Vp (mutL i ml f) e Q ↔ OptV (lS e[i]?) fun _ => Vp ml e fun ds e1 => OptV (lS e1[i]?) fun xs => xs.length ≤ sizeLine ∧ OptV (f xs ds) fun p => Q p.1 (e1.set i (some (.f (.l p.2)))) := by
  simp only [mutL, v_isL, vp_bnd, v_atL]
theorem v_mutL0 {Q : D → Env → Prop} (i : Nat) {f : List D → List D → Option (D × List D)} : Vp (mutL0 i f) e Q ↔ OptV (lS e[i]?) fun xs => xs.length ≤ sizeLine ∧ OptV (f xs []) fun p => Q p.1 (e.set i (some (.f (.l p.2)))) := by
  simp only [mutL0, v_isL, v_atL]
  constructor
  · rintro ⟨_, _, h⟩
    exact h
  · rintro ⟨x, h1, h2⟩
    exact ⟨x, h1, x, h1, h2⟩
theorem v_isK {m : M α} (i : Nat) : Vp (isK i m) e Q ↔ OptV (kS e[i]?) fun _ => Vp m e Q := by
  simp only [vp_isK, OptV, kS_iff, exists_and_right]
theorem v_atK (i : Nat) {f : List (Key × D) → Option α} : Vp (atK i f) e Q ↔ OptV (kS e[i]?) fun xs => OptV (f xs) fun d => Q d e := by
  simp only [vp_atK, OptV, kS_iff]
theorem v_dget {Q : D → Env → Prop} (i : Nat) {mi : M D} : Vp (dget i mi) e Q ↔ OptV (kS e[i]?) fun _ => Vp mi e fun k e1 => OptV (kS e1[i]?) fun xs => OptV (getK k xs) fun d => Q d e1 := by
  simp only [dget, v_isK, vp_bnd, v_atK]
theorem v_din {Q : D → Env → Prop} (i : Nat) {mi : M D} : Vp (din i mi) e Q ↔ Vp mi e fun k e1 => OptV (kS e1[i]?) fun xs => OptV (hasK k xs) fun d => Q d e1 := by
  simp only [din, vp_bnd, v_atK]
theorem v_dnotin {Q : D → Env → Prop} (i : Nat) {mi : M D} : Vp (dnotin i mi) e Q ↔ Vp mi e fun k e1 => OptV (kS e1[i]?) fun xs => OptV (hasntK k xs) fun d => Q d e1 := by
  simp only [dnotin, vp_bnd, v_atK]
theorem v_dget2 {Q : D → Env → Prop} (i : Nat) {mi mz : M D} : Vp (dget2 i mi mz) e Q ↔ OptV (kS e[i]?) fun _ => Vp mi e fun k e1 => Vp mz e1 fun z e2 => OptV (kS e2[i]?) fun xs => OptV (getK2 k z xs) fun d => Q d e2 := by
  simp only [dget2, v_isK, vp_bnd, v_atK]
theorem v_keysM {Q : List D → Env → Prop} (i : Nat) : Vp (keysM i) e Q ↔ OptV (kS e[i]?) fun xs => Q (keysF xs) e := by
  simp only [vp_keysM, OptV, kS_iff]
def r1F : List D → Option Int
  | [.int j] => if okR62 j = true then some j else none
  | _ => none
@[simp] theorem r1F_i (j : Int) : r1F [.int j] = if okR62 j = true then some j else none := rfl
theorem v_rng1 {Q : List D → Env → Prop} {m : M (List D)} : Vp (rng1 m) e Q ↔ Vp m e fun ds e1 => OptV (r1F ds) fun j => Q (upD 0 j.toNat) e1 := by
  rw [vp_rng1]
  constructor <;> intro h <;> refine h.mono fun ds e1 h => ?_
  · obtain ⟨j, rfl, h1, h2⟩ := h
    exact ⟨j, if_pos h1, h2⟩
  · obtain ⟨j, h1, h2⟩ := h
    unfold r1F at h1
    split at h1
    · split at h1
      · rename_i hj
        cases h1
        exact ⟨_, rfl, hj, h2⟩
      · cases h1
    · cases h1
def enF : List D → Option (List D)
  | [d] => itemsD d
  | _ => none
@[simp] theorem enF_d (d : D) : enF [d] = itemsD d := rfl
theorem v_enumM {Q : List D → Env → Prop} {m : M (List D)} : Vp (enumM m) e Q ↔ Vp m e fun ds e1 => OptV (enF ds) fun xs => Q (enumD xs) e1 := by
  rw [vp_enumM]
  constructor <;> intro h <;> refine h.mono fun ds e1 h => ?_
  · obtain ⟨d, xs, rfl, h1, h2⟩ := h
    exact ⟨xs, h1, h2⟩
  · obtain ⟨xs, h1, h2⟩ := h
    unfold enF at h1
    split at h1
    · exact ⟨_, xs, rfl, h1, h2⟩
    · cases h1
def zpF : List D → Option (List D)
  | [.list xs, .list ys] => some (zipD xs ys)
  | [.tuple xs, .tuple ys] => some (zipD xs ys)
  | _ => none
@[simp] theorem zpF_l (xs ys : List D) : zpF [.list xs, .list ys] = some (zipD xs ys) := rfl
@[simp] theorem zpF_t (xs ys : List D) : zpF [.tuple xs, .tuple ys] = some (zipD xs ys) := rfl
theorem v_zipM {Q : List D → Env → Prop} {m : M (List D)} : Vp (zipM m) e Q ↔ Vp m e fun ds e1 => OptV (zpF ds) fun r => Q r e1 := by
  rw [vp_zipM]
  constructor <;> intro h <;> refine h.mono fun ds e1 h => ?_
  · obtain ⟨xs, ys, rfl | rfl, h2⟩ := h
    · exact ⟨_, rfl, h2⟩
    · exact ⟨_, rfl, h2⟩
  · obtain ⟨r, h1, h2⟩ := h
    unfold zpF at h1
    split at h1
    · cases h1
      exact ⟨_, _, .inl rfl, h2⟩
    · cases h1
      exact ⟨_, _, .inr rfl, h2⟩
    · cases h1
theorem v_partM {Q : Option Int → Env → Prop} {m : M D} : Vp (partM m) e Q ↔ Vp m e fun d e1 => OptV (iD d) fun i => Q (some i) e1 := by
  simp only [vp_partM, OptV, iD_iff]
theorem v_cutPl {Q : List D → Env → Prop} {i : Nat} {m1 m2 : M (Option Int)} : Vp (cutPl i m1 m2) e Q ↔ Vp (plc i) e fun _ e1 => Vp m1 e1 fun lo e2 => Vp m2 e2 fun hi e3 => Vp (plc i) e3 fun d e4 => OptV (lD d) fun xs => Q (cutD xs lo hi) e4 := by
  simp only [vp_cutPl, OptV, lD_iff]
theorem v_cutA [TabCtx] {Q : D → Env → Prop} {m : M D} {m1 m2 : M (Option Int)} : Vp (cutA m m1 m2) e Q ↔ Vp m e fun d e1 => Vp m1 e1 fun lo e2 => Vp m2 e2 fun hi e3 => OptV (cutX d lo hi) fun x => Q x e3 := vp_cutAI
def srF : D → Option (List Str)
  | .list ds => (strsD ds).bind fun ks => if ks.length < 64 then some ks else none
  | _ => none
@[simp] theorem srF_l (ds : List D) : srF (.list ds) = (strsD ds).bind fun ks => if ks.length < 64 then some ks else none := rfl
theorem if64 {o : Option (List Str)} {ks : List Str} : (o.bind fun ks => if ks.length < 64 then some ks else none) = some ks ↔ o = some ks ∧ ks.length < 64 := by
  cases o with
  | none => simp
  | some x =>
    simp only [Option.bind_some, Option.some.injEq]
    split
    · rename_i h
      simp only [Option.some.injEq]
      constructor
      · rintro rfl
        exact ⟨rfl, h⟩
      · exact fun h => h.1
    · rename_i h
      simp only [reduceCtorEq, false_iff]
      rintro ⟨rfl, h2⟩
      exact h h2
theorem v_sortB {Q : List D → Env → Prop} {m : M D} : Vp (sortB m) e Q ↔ Vp m e fun d e1 => OptV (srF d) fun ks => Q ((sortS ks).map .str) e1 := by
  rw [vp_sortB]
  constructor <;> intro h <;> refine h.mono fun d e1 h => ?_
  · obtain ⟨ds, ks, rfl, h1, h2, h3⟩ := h
    exact ⟨ks, if64.2 ⟨h1, h2⟩, h3⟩
  · obtain ⟨ks, h1, h2⟩ := h
    cases d with
    | list ds =>
      obtain ⟨h3, h4⟩ := if64.1 h1
      exact ⟨ds, ks, rfl, h3, h4, h2⟩
    | _ => cases h1
theorem v_sortKM {Q : List D → Env → Prop} {i : Nat} : Vp (sortKM i) e Q ↔ OptV (kS e[i]?) fun xs => OptV ((strK xs).bind fun ks => if ks.length < 64 then some ks else none) fun ks => Q ((sortS ks).map .str) e := by
  simp only [vp_sortKM, OptV, kS_iff, if64, and_assoc]
def dpF : D → Option (List (Key × D))
  | .list ds => pairsD ds
  | _ => none
@[simp] theorem dpF_l (ds : List D) : dpF (.list ds) = pairsD ds := rfl
theorem v_dictP {Q : O → Env → Prop} {m : M D} : Vp (dictP m) e Q ↔ Vp m e fun d e1 => OptV (dpF d) fun kvs => Q (.f (.mk (mergeD [] kvs))) e1 := by
  rw [vp_dictP]
  constructor <;> intro h <;> refine h.mono fun d e1 h => ?_
  · obtain ⟨xs, kvs, _, rfl, h1, h2⟩ := h
    exact ⟨kvs, h1, h2⟩
  · obtain ⟨kvs, h1, h2⟩ := h
    cases d with
    | list ds => exact ⟨ds, kvs, rfl, rfl, h1, h2⟩
    | _ => cases h1
theorem v_takeO {Q : O → Env → Prop} {i : Nat} : Vp (takeO i) e Q ↔ OptV (hS e[i]?) fun o => Q o (e.set i none) := by
  simp only [vp_takeO, OptV, hS_iff]
theorem v_dispL0 {Q : List (Key × D) → Env → Prop} : Vp (dispL []) e Q ↔ Q [] e := vp_ret _
theorem v_dispL {Q : List (Key × D) → Env → Prop} {k : Key} {m : M D} {r : List (Key × M D)} : Vp (dispL ((k, m) :: r)) e Q ↔ Vp m e fun d e1 => Vp (dispL r) e1 fun kvs e2 => Q ((k, d) :: kvs) e2 := by
  conv => lhs; unfold dispL
  simp only [vp_bnd, vp_ret]
theorem v_dispO {Q : O → Env → Prop} {kms : List (Key × M D)} : Vp (dispO kms) e Q ↔ Vp (dispL kms) e fun kvs e1 => Q (.f (.mk (mergeD [] kvs))) e1 := by
  unfold dispO
  simp only [vp_bnd, vp_ret]
end
section
variable {e : Env} {Q : RS → Prop}
theorem v_asg {bd : Bd} {m : M D} : VpS (asgS bd m) e Q ↔ Vp m e fun d e' => OptV (bd d e') fun e2 => Q (.next e2) := vps_asg
theorem v_par {sl : List Nat} {m : M (List O)} : VpS (parS sl m) e Q ↔ Vp m e fun os e' => OptV (parE sl os e') fun e2 => Q (.next e2) := vps_par
theorem v_forL_cons {bd : Bd} {b : MS} {d : D} {ds : List D} : VpS (forL bd b (d :: ds)) e Q ↔ OptV (bd d e) fun e1 => VpS b e1 (turnV (fun e2 => VpS (forL bd b ds) e2 Q) Q) := vps_forL_cons
theorem v_setIx [TabCtx] {i : Nat} {mv mi : M D} : VpS (setIx i mv mi) e Q ↔ Vp mv e fun d e1 => OptV (lS e1[i]?) fun _ => Vp mi e1 fun k e2 => OptV (lS e2[i]?) fun xs => xs.length ≤ sizeLine ∧ OptV (setF xs [d, k]) fun p => Q (.next (e2.set i (some (.f (.l p.2))))) := by
  unfold setIx
  rw [vps_some fun _ _ => rfl]
  simp only [vp_bnd, v_isL, v_atL]
theorem v_dput {i : Nat} {mv mi : M D} : VpS (dput i mv mi) e Q ↔ Vp mv e fun d e1 => OptV (kS e1[i]?) fun _ => Vp mi e1 fun k e2 => OptV (kS e2[i]?) fun kvs => OptV (keyD k) fun k' => kvs.length < sizeLine ∧ Q (.next (e2.set i (some (.f (.mk (putD kvs k' d)))))) := by
  simp only [vps_dputI, OptV, kS_iff, exists_and_right]
@[simp] theorem tupB_nil' (e : Env) : tupB [] [] e = some e := rfl
@[simp] theorem tupB_cons' (b : Bd) (bs : List Bd) (d : D) (ds : List D) (e : Env) : tupB (b :: bs) (d :: ds) e = (b d e).bind (tupB bs ds) := rfl
@[simp] theorem nameB_if' (i : Nat) (d : D) (e : Env) : nameB i d e = if i < e.length then some (e.set i (some (.f (.d d)))) else none := rfl
@[simp] theorem parE_nil (e : Env) : parE [] [] e = some e := rfl
@[simp] theorem parE_cons (i : Nat) (sl : List Nat) (o : O) (os : List O) (e : Env) : parE (i :: sl) (o :: os) e = if i < e.length then parE sl os (e.set i (some o)) else none := rfl
@[simp] theorem fill_nil (e : Env) : fill [] [] e = some [] := rfl
@[simp] theorem fill_none (sp : List (Option Nat)) (d : D) (ds : List D) (e : Env) : fill (none :: sp) (d :: ds) e = (fill sp ds e).map (.f (.d d) :: ·) := rfl
@[simp] theorem fill_some (i : Nat) (sp : List (Option Nat)) (ds : List D) (e : Env) : fill (some i :: sp) ds e = (hS e[i]?).bind fun o => (fill sp ds e).map (o :: ·) := by
  conv => lhs; unfold fill
  cases e[i]? with
  | none => rfl
  | some o => cases o <;> rfl
@[simp] theorem store_nil (os : List O) (e : Env) : store [] os e = e := by unfold store; rfl
@[simp] theorem store_none (sp : List (Option Nat)) (o : O) (os : List O) (e : Env) : store (none :: sp) (o :: os) e = store sp os e := rfl
@[simp] theorem store_some (i : Nat) (sp : List (Option Nat)) (o : O) (os : List O) (e : Env) : store (some i :: sp) (o :: os) e = (store sp os e).set i (some o) := rfl
end
end Pm

/-! ## Pr1 -/
set_option Elab.async false
set_option linter.all false
set_option maxRecDepth 100000
set_option maxHeartbeats 2000000
/-! Pr1: the rules as simp has them: what is left to do stays unread until it is its turn. -/
namespace Pm
universe u
open PySem PySem.Spec L2
/-- keeps simp away from what is not yet its turn -/
inductive Dum {α : Sort u} (a : α) : Type where
  | mk : Dum a
def Wp {α : Type} (m : M α) (e : Env) (Q : α → Env → Prop) (u : Dum m := .mk) (v : Dum Q := .mk) : Prop := Vp m e Q
def WpS (m : MS) (e : Env) (Q : RS → Prop) (u : Dum m := .mk) (v : Dum Q := .mk) : Prop := VpS m e Q
def WpF (mf : MF) (os : List O) (Q : O → List O → Prop) (u : Dum mf := .mk) (v : Dum Q := .mk) : Prop := VpF mf os Q
def nxQ (K : Env → Prop) (Q : RS → Prop) (r : RS) (u : Dum K := .mk) (v : Dum Q := .mk) : Prop := nxV K Q r
def turnQ (K : Env → Prop) (Q : RS → Prop) (r : RS) (u : Dum K := .mk) (v : Dum Q := .mk) : Prop := turnV K Q r
def outQ (np : Nat → Bool) (os : List O) (Q : O → List O → Prop) (r : RS) (v : Dum Q := .mk) : Prop := outV np os Q r
/-- a value, then the rest -/
def OptQ {α : Type} (o : Option α) (K : α → Prop) (v : Dum K := .mk) : Prop := ∃ a, o = some a ∧ K a
@[simp] theorem OptQ_some {α : Type} {a : α} {K : α → Prop} : OptQ (some a) K ↔ K a := by simp [OptQ]
@[simp] theorem OptQ_none {α : Type} {K : α → Prop} : OptQ (none : Option α) K ↔ False := by simp [OptQ]
theorem OptQ.of {α : Type} {o : Option α} {K : α → Prop} {a : α} (h : o = some a) (k : K a) : OptQ o K := ⟨a, h, k⟩
theorem Wp.mono {α : Type} {m : M α} {e : Env} {Q Q' : α → Env → Prop} (h : Wp m e Q) (i : ∀ a e', Q a e' → Q' a e') : Wp m e Q' := Vp.mono h i
theorem WpS.mono {m : MS} {e : Env} {Q Q' : RS → Prop} (h : WpS m e Q) (i : ∀ r, Q r → Q' r) : WpS m e Q' := VpS.mono h i
theorem WpF.mono {m : MF} {e : List O} {Q Q' : O → List O → Prop} (h : WpF m e Q) (i : ∀ o os, Q o os → Q' o os) : WpF m e Q' := VpF.mono h i
theorem WpF.of {mf : MF} {os os' : List O} {o : O} (h : mf os = some (.ok o os')) {Q : O → List O → Prop} : WpF mf os Q ↔ Q o os' := VpF.of h
theorem WpF.eq {mf : MF} {os os' : List O} {o : O} (h : WpF mf os fun x xs => x = o ∧ xs = os') : mf os = some (.ok o os') := VpF.eq h
theorem wpf_body {np : Nat → Bool} {n : Nat} {ms : MS} {os : List O} {Q : O → List O → Prop} (h : WpS ms (env0 n os) (fun r => outQ np os Q r)) : WpF (bodyF np n ms) os Q := vpf_body h
theorem wps_forL {bd : Bd} {b : MS} {Q : RS → Prop} (I : List D → Env → Prop) (hs : ∀ d ds e, I (d :: ds) e → ∃ e1, bd d e = some e1 ∧ WpS b e1 (fun r => turnQ (I ds) Q r)) (h0 : ∀ e, I [] e → Q (.next e)) : ∀ ds e, I ds e → WpS (forL bd b ds) e Q := vps_forL I hs h0
theorem wps_whM [TabCtx] {c : M Bool} {b : MS} {Q : RS → Prop} (I : Nat → Env → Prop) (hs : ∀ n e, I n e → Wp c e fun t e1 => if t = true then WpS b e1 (fun r => turnQ (fun e2 => ∃ k < n, I k e2) Q r) else Q (.next e1)) : ∀ n e, I n e → WpS (whM c b) e Q := vps_whM I hs
theorem wps_forT {α : Type} {bd : Bd} {b : MS} {Q : RS → Prop} {e : Env} (f : α → D) (I : List α → Env → Prop) (hs : ∀ a r e, I (a :: r) e → OptQ (bd (f a) e) fun e1 => WpS b e1 (fun x => turnQ (I r) Q x)) (h0 : ∀ e, I [] e → Q (.next e)) {l : List α} (h : I l e) : WpS (forL bd b (l.map f)) e Q := vps_forT f I hs h0 h
theorem wp_lcT {α : Type} {vs : List Nat} {bd : Bd} {mt : M Bool} {me : M D} {Q : List D → Env → Prop} {w : Env} (f : α → D) (p : α → Bool) (g : α → D) {l : List α} (hl : l.length ≤ sizeLine)
    (hs : ∀ a ∈ l, OptQ (bd (f a) w) fun e1 => Wp mt e1 fun t e2 => t = p a ∧ if t = true then Wp me e2 fun y e3 => y = g a ∧ wipeE e3 vs = w else wipeE e2 vs = w)
    (h0 : Q ((l.filter p).map g) w) : Wp (lcL vs bd mt me (l.map f) []) w Q := vp_lcT f p g hl hs h0
theorem wp_lcA {α : Type} {vs : List Nat} {bd : Bd} {me : M D} {Q : List D → Env → Prop} {w : Env} (f : α → D) (g : α → D) {l : List α} (hl : l.length ≤ sizeLine)
    (hs : ∀ a ∈ l, OptQ (bd (f a) w) fun e1 => Wp me e1 fun y e3 => y = g a ∧ wipeE e3 vs = w)
    (h0 : Q (l.map g) w) : Wp (lcL vs bd allT me (l.map f) []) w Q := vp_lcA f g hl hs h0
theorem wp_lcL {vs : List Nat} {bd : Bd} {mt : M Bool} {me : M D} {Q : List D → Env → Prop} (I : List D → List D → Env → Prop)
    (hs : ∀ d ds acc e, I (d :: ds) acc e → OptQ (bd d e) fun e1 => Wp mt e1 fun t e2 => if t = true then Wp me e2 fun y e3 => acc.length < sizeLine ∧ I ds (acc ++ [y]) (wipeE e3 vs) else I ds acc (wipeE e2 vs))
    (h0 : ∀ acc e, I [] acc e → Q acc e) : ∀ ds acc e, I ds acc e → Wp (lcL vs bd mt me ds acc) e Q := vp_lcL I hs h0
theorem wp_lcD {vs : List Nat} {bd : Bd} {me : M D} {Q : List D → Env → Prop} {e : Env} (n : Nat) (I : Env → Prop) (P : D → Prop) (hn : n < sizeLine) (ds : List D) (hd : ds.length = n)
    (hs : ∀ d e, d ∈ ds → I e → OptQ (bd d e) fun e1 => Wp me e1 fun y e3 => P y ∧ I (wipeE e3 vs)) (h0 : ∀ acc e, acc.length = n → (∀ y ∈ acc, P y) → I e → Q acc e) (h : I e) : Wp (lcL vs bd allT me ds []) e Q := vp_lcD n I P hn ds hd hs h0 h
theorem wp_lc2T {α β : Type} {vs vs1 : List Nat} {bd bd1 : Bd} {mi1 : M (List D)} {me : M D} {w : Env} (f : α → D) (k : α → List β) (f1 : β → D) (g : α → β → D) {Q : List D → Env → Prop} (l : List α) (acc : List D) (hl : acc.length + (l.flatMap k).length ≤ sizeLine)
    (hs : ∀ a ∈ l, OptQ (bd (f a) w) fun e1 => Wp mi1 e1 fun ds e3 => ds = (k a).map f1 ∧ (∀ b ∈ k a, OptQ (bd1 (f1 b) (wipeE e3 vs1)) fun e4 => Wp me e4 fun y e5 => y = g a b ∧ wipeE e5 vs1 = wipeE e3 vs1) ∧ wipeE (wipeE e3 vs1) vs = w)
    (h0 : Q (acc ++ l.flatMap fun a => (k a).map (g a)) w) : Wp (lc2L vs bd allT mi1 vs1 bd1 allT me (l.map f) acc) w Q := vp_lc2T f k f1 g l acc hl hs h0
theorem wps_tryS {m : MS} {e : Env} {Q : RS → Prop} (h : WpS m e Q) : WpS (tryS m) e Q := vps_tryS h
@[simp] theorem nxQ_next {K : Env → Prop} {Q : RS → Prop} {e : Env} : nxQ K Q (.next e) ↔ K e := Iff.rfl
@[simp] theorem nxQ_ret {K : Env → Prop} {Q : RS → Prop} {e : Env} {o : O} : nxQ K Q (.ret o e) ↔ Q (.ret o e) := Iff.rfl
@[simp] theorem nxQ_brk {K : Env → Prop} {Q : RS → Prop} {e : Env} : nxQ K Q (.brk e) ↔ Q (.brk e) := Iff.rfl
@[simp] theorem nxQ_cont {K : Env → Prop} {Q : RS → Prop} {e : Env} : nxQ K Q (.cont e) ↔ Q (.cont e) := Iff.rfl
@[simp] theorem turnQ_next {K : Env → Prop} {Q : RS → Prop} {e : Env} : turnQ K Q (.next e) ↔ K e := Iff.rfl
@[simp] theorem turnQ_ret {K : Env → Prop} {Q : RS → Prop} {e : Env} {o : O} : turnQ K Q (.ret o e) ↔ Q (.ret o e) := Iff.rfl
@[simp] theorem turnQ_brk {K : Env → Prop} {Q : RS → Prop} {e : Env} : turnQ K Q (.brk e) ↔ Q (.next e) := Iff.rfl
@[simp] theorem turnQ_cont {K : Env → Prop} {Q : RS → Prop} {e : Env} : turnQ K Q (.cont e) ↔ K e := Iff.rfl
@[simp] theorem outQ_retR {np : Nat → Bool} {os : List O} {Q : O → List O → Prop} {o : O} {e : Env} : outQ np os Q (.ret o e) ↔ OptQ (outs np e 0 os) fun os' => Q o os' := Iff.rfl
@[simp] theorem outQ_nextR {np : Nat → Bool} {os : List O} {Q : O → List O → Prop} {e : Env} : outQ np os Q (.next e) ↔ OptQ (outs np e 0 os) fun os' => Q (.f (.d .none)) os' := Iff.rfl
section
variable {α β : Type} {e : Env} {Q : α → Env → Prop}
@[simp] theorem w_cst {Q : D → Env → Prop} (d : D) : Wp (cst d) e Q ↔ Q d e := vp_cst ..
@[simp] theorem w_ret (a : α) : Wp (M.ret a) e Q ↔ Q a e := vp_ret ..
@[simp] theorem w_args0 {Q : List D → Env → Prop} : Wp args0 e Q ↔ Q [] e := vp_args0 ..
@[simp] theorem w_argO0 {Q : List O → Env → Prop} : Wp argO0 e Q ↔ Q [] e := vp_argO0 ..
@[simp] theorem w_noPart {Q : Option Int → Env → Prop} : Wp noPart e Q ↔ Q none e := vp_noPart ..
@[simp] theorem w_allT {Q : Bool → Env → Prop} : Wp allT e Q ↔ Q true e := vp_allT ..
@[simp] theorem w_none : Wp (fun _ => none : M α) e Q ↔ False := vp_none ..
@[simp] theorem w_iff {c : Prop} [Decidable c] {a b : M α} : Wp (if c then a else b) e Q ↔ if c then Wp a e Q else Wp b e Q := vp_iff ..
@[simp] theorem w_andT {Q : Bool → Env → Prop} {a b : M Bool} : Wp (andT a b) e Q ↔ Wp a e fun x e1 => if x = true then Wp b e1 Q else Q false e1 := vp_andT ..
@[simp] theorem w_orT {Q : Bool → Env → Prop} {a b : M Bool} : Wp (orT a b) e Q ↔ Wp a e fun x e1 => if x = true then Q true e1 else Wp b e1 Q := vp_orT ..
@[simp] theorem w_notT {Q : Bool → Env → Prop} {a : M Bool} : Wp (notT a) e Q ↔ Wp a e fun x e1 => Q (!x) e1 := vp_notT ..
@[simp] theorem w_andV {Q : D → Env → Prop} {a b : M D} : Wp (andV a b) e Q ↔ Wp (tst a) e fun x e1 => if x = true then Wp b e1 Q else Q (.bool false) e1 := vp_andV ..
@[simp] theorem w_orV {Q : D → Env → Prop} {a b : M D} : Wp (orV a b) e Q ↔ Wp (tst a) e fun x e1 => if x = true then Q (.bool true) e1 else Wp b e1 Q := vp_orV ..
@[simp] theorem w_notV {Q : D → Env → Prop} {a : M D} : Wp (notV a) e Q ↔ Wp (tst a) e fun x e1 => Q (.bool (!x)) e1 := vp_notV ..
@[simp] theorem w_ifV {Q : D → Env → Prop} {t : M Bool} {a b : M D} : Wp (ifV t a b) e Q ↔ Wp t e fun x e1 => if x = true then Wp a e1 Q else Wp b e1 Q := vp_ifV ..
@[simp] theorem w_ifO {Q : O → Env → Prop} {t : M Bool} {a b : M O} : Wp (ifO t a b) e Q ↔ Wp t e fun x e1 => if x = true then Wp a e1 Q else Wp b e1 Q := vp_ifO ..
@[simp] theorem w_argsC {Q : List D → Env → Prop} {m : M D} {r : M (List D)} : Wp (argsC m r) e Q ↔ Wp m e fun d e1 => Wp r e1 fun ds e2 => Q (d :: ds) e2 := vp_argsC ..
@[simp] theorem w_argO {Q : List O → Env → Prop} {m : M O} {r : M (List O)} : Wp (argO m r) e Q ↔ Wp m e fun d e1 => Wp r e1 fun ds e2 => Q (d :: ds) e2 := vp_argO ..
@[simp] theorem w_tupM {Q : D → Env → Prop} {m : M (List D)} : Wp (tupM m) e Q ↔ Wp m e fun ds e1 => ds.length ≤ sizeLine ∧ Q (.tuple ds) e1 := vp_tupM ..
@[simp] theorem w_lstM {Q : D → Env → Prop} {m : M (List D)} : Wp (lstM m) e Q ↔ Wp m e fun ds e1 => ds.length ≤ sizeLine ∧ Q (.list ds) e1 := vp_lstM ..
@[simp] theorem w_linM {Q : List D → Env → Prop} {m : M (List D)} : Wp (linM m) e Q ↔ Wp m e fun ds e1 => ds.length ≤ sizeLine ∧ Q ds e1 := vp_linM ..
@[simp] theorem w_mkL {Q : O → Env → Prop} {m : M (List D)} : Wp (mkL m) e Q ↔ Wp m e fun ds e1 => Q (.l ds) e1 := vp_mkL ..
@[simp] theorem w_asO {Q : O → Env → Prop} {m : M D} : Wp (asO m) e Q ↔ Wp m e fun d e1 => Q (.f (.d d)) e1 := vp_asO ..
@[simp] theorem w_isaM {Q : D → Env → Prop} {T : String} {m : M D} : Wp (isaM T m) e Q ↔ Wp m e fun d e1 => Q (.bool (isaN T d)) e1 := vp_isaM ..
@[simp] theorem w_lcMI {vs : List Nat} {mi : M (List D)} {bd : Bd} {mt : M Bool} {me : M D} {Q : D → Env → Prop} : Wp (lcM vs mi bd mt me) e Q ↔ Wp mi e fun ds e1 => Wp (lcL vs bd mt me ds []) (wipeE e1 vs) fun acc e2 => Q (.list acc) (backE e1 e2 vs) := vp_lcMI ..
@[simp] theorem w_lcOI {vs : List Nat} {mi : M (List D)} {bd : Bd} {mt : M Bool} {me : M D} {Q : O → Env → Prop} : Wp (lcO vs mi bd mt me) e Q ↔ Wp mi e fun ds e1 => Wp (lcL vs bd mt me ds []) (wipeE e1 vs) fun acc e2 => Q (.f (.l acc)) (backE e1 e2 vs) := vp_lcOI ..
@[simp] theorem w_lc2MI {vs vs1 : List Nat} {mi mi1 : M (List D)} {bd bd1 : Bd} {mt mt1 : M Bool} {me : M D} {Q : D → Env → Prop} : Wp (lc2M vs mi bd mt mi1 vs1 bd1 mt1 me) e Q ↔ Wp mi e fun ds e1 => Wp (lc2L vs bd mt mi1 vs1 bd1 mt1 me ds []) (wipeE e1 vs) fun acc e2 => Q (.list acc) (backE e1 e2 vs) := vp_lc2MI ..
@[simp] theorem w_isaM2 [TabCtx] {Q : D → Env → Prop} {T U : String} {m : M D} : Wp (isaM2 T U m) e Q ↔ Wp m e fun d e1 => Q (.bool (isaN T d || isaN U d)) e1 := vp_isaM2 ..
@[simp] theorem r_lift (o : Option α) : Wp (M.lift o) e Q ↔ OptQ o fun a => Q a e := v_lift ..
@[simp] theorem r_varD {Q : D → Env → Prop} (i : Nat) : Wp (varD i) e Q ↔ OptQ (vD e[i]?) fun x => Q x e := v_varD ..
@[simp] theorem r_hasS {m : M α} (i : Nat) : Wp (hasS i m) e Q ↔ OptQ (hS e[i]?) fun _ => Wp m e Q := v_hasS ..
@[simp] theorem r_plc {Q : D → Env → Prop} (i : Nat) : Wp (plc i) e Q ↔ OptQ (pS e[i]?) fun d => Q d e := v_plc ..
@[simp] theorem r_frzV {Q : D → Env → Prop} (i : Nat) : Wp (frzV i) e Q ↔ OptQ (frG e[i]? e i) fun p => Q p.1 p.2 := v_frzV ..
@[simp] theorem r_asB {Q : Bool → Env → Prop} (d : D) : Wp (asB d) e Q ↔ OptQ (bD d) fun b => Q b e := v_asB ..
@[simp] theorem r_op2 {Q : D → Env → Prop} {g : D → D → Option D} {ma mb : M D} : Wp (op2 g ma mb) e Q ↔ Wp ma e fun a e1 => Wp mb e1 fun b e2 => OptQ (g a b) fun d => Q d e2 := v_op2 ..
@[simp] theorem r_op2p {Q : D → Env → Prop} {g : D → D → Option D} {i : Nat} {mb : M D} : Wp (op2p g i mb) e Q ↔ Wp mb e fun b e1 => Wp (plc i) e1 fun a e2 => OptQ (g a b) fun d => Q d e2 := v_op2p ..
@[simp] theorem r_op1 {Q : D → Env → Prop} {g : D → Option D} {ma : M D} : Wp (op1 g ma) e Q ↔ Wp ma e fun a e1 => OptQ (g a) fun d => Q d e1 := v_op1 ..
@[simp] theorem r_call1 {Q : D → Env → Prop} {g : List D → Option D} {ma : M D} : Wp (call1 g ma) e Q ↔ Wp ma e fun a e1 => OptQ (g [a]) fun d => Q d e1 := v_call1 ..
@[simp] theorem r_call2 {Q : D → Env → Prop} {g : List D → Option D} {ma mb : M D} : Wp (call2 g ma mb) e Q ↔ Wp ma e fun a e1 => Wp mb e1 fun b e2 => OptQ (g [a, b]) fun d => Q d e2 := v_call2 ..
@[simp] theorem r_tst {Q : Bool → Env → Prop} {m : M D} : Wp (tst m) e Q ↔ Wp m e fun d e1 => OptQ (bD d) fun b => Q b e1 := v_tst ..
@[simp] theorem r_chn {Q : D → Env → Prop} {g g' : D → D → Option D} {ma mb mc : M D} : Wp (chn g g' ma mb mc) e Q ↔ Wp ma e fun a e1 => Wp mb e1 fun b e2 => OptQ (g a b) fun d => OptQ (bD d) fun k => if k = true then Wp mc e2 fun c e3 => OptQ (g' b c) fun d => Q d e3 else Q (.bool false) e2 := v_chn ..
@[simp] theorem r_asD {Q : D → Env → Prop} {m : M O} : Wp (asD m) e Q ↔ Wp m e fun o e1 => OptQ (dO o) fun d => Q d e1 := v_asD ..
@[simp] theorem r_callM {Q : O → Env → Prop} {spec : List (Option Nat)} {m : M (List D)} {mf : MF} : Wp (callM spec m mf) e Q ↔ Wp m e fun ds e1 => OptQ (fill spec ds e1) fun os => WpF mf os fun o os' => Q o (store spec os' e1) := v_callM ..
@[simp] theorem r_itemsB {Q : List D → Env → Prop} {m : M D} : Wp (itemsB m) e Q ↔ Wp m e fun d e1 => OptQ (itemsD d) fun ds => Q ds e1 := v_itemsB ..
@[simp] theorem r_itemsM {Q : List D → Env → Prop} {m : M D} : Wp (itemsM m) e Q ↔ Wp m e fun d e1 => OptQ (itemsD d) fun ds => Q ds e1 := v_itemsM ..
@[simp] theorem r_itsA {Q : List D → Env → Prop} {m : M D} : Wp (itsA m) e Q ↔ Wp m e fun d e1 => OptQ (itsD d) fun ds => Q ds e1 := v_itsA ..
@[simp] theorem r_addA {Q : D → Env → Prop} {ma mb : M D} : Wp (addA ma mb) e Q ↔ Wp ma e fun a e1 => Wp mb e1 fun b e2 => OptQ (addD a b) fun d => Q d e2 := v_addA ..
@[simp] theorem r_revB {Q : List D → Env → Prop} {m : M D} : Wp (revB m) e Q ↔ Wp m e fun d e1 => OptQ (lD d) fun ds => Q ds.reverse e1 := v_revB ..
@[simp] theorem r_tupB1 {Q : D → Env → Prop} {m : M D} : Wp (tupB1 m) e Q ↔ Wp m e fun d e1 => OptQ (itemsD d) fun ds => ds.length ≤ sizeLine ∧ Q (.tuple ds) e1 := v_tupB1 ..
@[simp] theorem r_isL {m : M α} (i : Nat) : Wp (isL i m) e Q ↔ OptQ (lS e[i]?) fun _ => Wp m e Q := v_isL ..
@[simp] theorem r_atL {Q : D → Env → Prop} (i : Nat) {f : List D → Option (D × List D)} : Wp (atL i f) e Q ↔ OptQ (lS e[i]?) fun xs => xs.length ≤ sizeLine ∧ OptQ (f xs) fun p => Q p.1 (e.set i (some (.f (.l p.2)))) := v_atL ..
@[simp] theorem r_mutL {Q : D → Env → Prop} (i : Nat) {ml : M (List D)} {f : List D → List D → Option (D × List D)} : Wp (mutL i ml f) e Q ↔ OptQ (lS e[i]?) fun _ => Wp ml e fun ds e1 => OptQ (lS e1[i]?) fun xs => xs.length ≤ sizeLine ∧ OptQ (f xs ds) fun p => Q p.1 (e1.set i (some (.f (.l p.2)))) := v_mutL ..
@[simp] theorem r_mutL0 {Q : D → Env → Prop} (i : Nat) {f : List D → List D → Option (D × List D)} : Wp (mutL0 i f) e Q ↔ OptQ (lS e[i]?) fun xs => xs.length ≤ sizeLine ∧ OptQ (f xs []) fun p => Q p.1 (e.set i (some (.f (.l p.2)))) := v_mutL0 ..
@[simp] theorem r_isK {m : M α} (i : Nat) : Wp (isK i m) e Q ↔ OptQ (kS e[i]?) fun _ => Wp m e Q := v_isK ..
@[simp] theorem r_atK (i : Nat) {f : List (Key × D) → Option α} : Wp (atK i f) e Q ↔ OptQ (kS e[i]?) fun xs => OptQ (f xs) fun d => Q d e := v_atK ..
@[simp] theorem r_dget {Q : D → Env → Prop} (i : Nat) {mi : M D} : Wp (dget i mi) e Q ↔ OptQ (kS e[i]?) fun _ => Wp mi e fun k e1 => OptQ (kS e1[i]?) fun xs => OptQ (getK k xs) fun d => Q d e1 := v_dget ..
@[simp] theorem r_din {Q : D → Env → Prop} (i : Nat) {mi : M D} : Wp (din i mi) e Q ↔ Wp mi e fun k e1 => OptQ (kS e1[i]?) fun xs => OptQ (hasK k xs) fun d => Q d e1 := v_din ..
@[simp] theorem r_dnotin {Q : D → Env → Prop} (i : Nat) {mi : M D} : Wp (dnotin i mi) e Q ↔ Wp mi e fun k e1 => OptQ (kS e1[i]?) fun xs => OptQ (hasntK k xs) fun d => Q d e1 := v_dnotin ..
@[simp] theorem r_dget2 {Q : D → Env → Prop} (i : Nat) {mi mz : M D} : Wp (dget2 i mi mz) e Q ↔ OptQ (kS e[i]?) fun _ => Wp mi e fun k e1 => Wp mz e1 fun z e2 => OptQ (kS e2[i]?) fun xs => OptQ (getK2 k z xs) fun d => Q d e2 := v_dget2 ..
@[simp] theorem r_keysM {Q : List D → Env → Prop} (i : Nat) : Wp (keysM i) e Q ↔ OptQ (kS e[i]?) fun xs => Q (keysF xs) e := v_keysM ..
@[simp] theorem r_rng1 {Q : List D → Env → Prop} {m : M (List D)} : Wp (rng1 m) e Q ↔ Wp m e fun ds e1 => OptQ (r1F ds) fun j => Q (upD 0 j.toNat) e1 := v_rng1 ..
@[simp] theorem r_enumM {Q : List D → Env → Prop} {m : M (List D)} : Wp (enumM m) e Q ↔ Wp m e fun ds e1 => OptQ (enF ds) fun xs => Q (enumD xs) e1 := v_enumM ..
@[simp] theorem r_zipM {Q : List D → Env → Prop} {m : M (List D)} : Wp (zipM m) e Q ↔ Wp m e fun ds e1 => OptQ (zpF ds) fun r => Q r e1 := v_zipM ..
@[simp] theorem r_partM {Q : Option Int → Env → Prop} {m : M D} : Wp (partM m) e Q ↔ Wp m e fun d e1 => OptQ (iD d) fun i => Q (some i) e1 := v_partM ..
@[simp] theorem r_cutPl {Q : List D → Env → Prop} {i : Nat} {m1 m2 : M (Option Int)} : Wp (cutPl i m1 m2) e Q ↔ Wp (plc i) e fun _ e1 => Wp m1 e1 fun lo e2 => Wp m2 e2 fun hi e3 => Wp (plc i) e3 fun d e4 => OptQ (lD d) fun xs => Q (cutD xs lo hi) e4 := v_cutPl ..
@[simp] theorem r_cutA [TabCtx] {Q : D → Env → Prop} {m : M D} {m1 m2 : M (Option Int)} : Wp (cutA m m1 m2) e Q ↔ Wp m e fun d e1 => Wp m1 e1 fun lo e2 => Wp m2 e2 fun hi e3 => OptQ (cutX d lo hi) fun x => Q x e3 := v_cutA ..
@[simp] theorem r_sortB {Q : List D → Env → Prop} {m : M D} : Wp (sortB m) e Q ↔ Wp m e fun d e1 => OptQ (srF d) fun ks => Q ((sortS ks).map .str) e1 := v_sortB ..
@[simp] theorem r_sortKM {Q : List D → Env → Prop} {i : Nat} : Wp (sortKM i) e Q ↔ OptQ (kS e[i]?) fun xs => OptQ ((strK xs).bind fun ks => if ks.length < 64 then some ks else none) fun ks => Q ((sortS ks).map .str) e := v_sortKM ..
@[simp] theorem r_dictP {Q : O → Env → Prop} {m : M D} : Wp (dictP m) e Q ↔ Wp m e fun d e1 => OptQ (dpF d) fun kvs => Q (.f (.mk (mergeD [] kvs))) e1 := v_dictP ..
@[simp] theorem r_takeO {Q : O → Env → Prop} {i : Nat} : Wp (takeO i) e Q ↔ OptQ (hS e[i]?) fun o => Q o (e.set i none) := v_takeO ..
@[simp] theorem r_dispL0 {Q : List (Key × D) → Env → Prop} : Wp (dispL []) e Q ↔ Q [] e := v_dispL0 ..
@[simp] theorem r_dispL {Q : List (Key × D) → Env → Prop} {k : Key} {m : M D} {r : List (Key × M D)} : Wp (dispL ((k, m) :: r)) e Q ↔ Wp m e fun d e1 => Wp (dispL r) e1 fun kvs e2 => Q ((k, d) :: kvs) e2 := v_dispL ..
@[simp] theorem r_dispO {Q : O → Env → Prop} {kms : List (Key × M D)} : Wp (dispO kms) e Q ↔ Wp (dispL kms) e fun kvs e1 => Q (.f (.mk (mergeD [] kvs))) e1 := v_dispO ..
end
section
variable {e : Env} {Q : RS → Prop}
@[simp] theorem w_nxt : WpS nxt e Q ↔ Q (.next e) := vps_nxt ..
@[simp] theorem w_brk : WpS brkS e Q ↔ Q (.brk e) := vps_brk ..
@[simp] theorem w_cont : WpS contS e Q ↔ Q (.cont e) := vps_cont ..
@[simp] theorem w_raise (c : Str) : WpS (raiseS c) e Q ↔ False := vps_raise ..
@[simp] theorem w_retN : WpS retN e Q ↔ Q (.ret (.d .none) e) := vps_retN ..
@[simp] theorem w_retD {m : M D} : WpS (retD m) e Q ↔ Wp m e fun d e' => Q (.ret (.d d) e') := vps_retD ..
@[simp] theorem w_retO {m : M O} : WpS (retO m) e Q ↔ Wp m e fun d e' => Q (.ret d e') := vps_retO ..
@[simp] theorem w_drop {m : M D} : WpS (dropS m) e Q ↔ Wp m e fun d e' => Q (.next e') := vps_drop ..
@[simp] theorem w_setS {i : Nat} {m : M D} : WpS (setS i m) e Q ↔ Wp m e fun d e' => i < e'.length ∧ Q (.next (e'.set i (some (.d d)))) := vps_setS ..
@[simp] theorem w_setO {i : Nat} {m : M O} : WpS (setO i m) e Q ↔ Wp m e fun d e' => i < e'.length ∧ Q (.next (e'.set i (some d))) := vps_setO ..
@[simp] theorem w_ite {t : M Bool} {a b : MS} : WpS (iteS t a b) e Q ↔ Wp t e fun c e' => if c = true then WpS a e' Q else WpS b e' Q := vps_ite ..
@[simp] theorem w_forM {mi : M (List D)} {bd : Bd} {b : MS} : WpS (forM mi bd b) e Q ↔ Wp mi e fun ds e' => WpS (forL bd b ds) e' Q := vps_forM ..
@[simp] theorem w_forL_nil {bd : Bd} {b : MS} {Q : RS → Prop} : WpS (forL bd b []) e Q ↔ Q (.next e) := vps_forL_nil ..
@[simp] theorem r_asg {bd : Bd} {m : M D} : WpS (asgS bd m) e Q ↔ Wp m e fun d e' => OptQ (bd d e') fun e2 => Q (.next e2) := v_asg ..
@[simp] theorem r_par {sl : List Nat} {m : M (List O)} : WpS (parS sl m) e Q ↔ Wp m e fun os e' => OptQ (parE sl os e') fun e2 => Q (.next e2) := v_par ..
@[simp] theorem r_forL_cons {bd : Bd} {b : MS} {d : D} {ds : List D} : WpS (forL bd b (d :: ds)) e Q ↔ OptQ (bd d e) fun e1 => WpS b e1 (fun r => turnQ (fun e2 => WpS (forL bd b ds) e2 Q) Q r) := v_forL_cons ..
@[simp] theorem r_setIx [TabCtx] {i : Nat} {mv mi : M D} : WpS (setIx i mv mi) e Q ↔ Wp mv e fun d e1 => OptQ (lS e1[i]?) fun _ => Wp mi e1 fun k e2 => OptQ (lS e2[i]?) fun xs => xs.length ≤ sizeLine ∧ OptQ (setF xs [d, k]) fun p => Q (.next (e2.set i (some (.f (.l p.2))))) := v_setIx ..
@[simp] theorem r_dput {i : Nat} {mv mi : M D} : WpS (dput i mv mi) e Q ↔ Wp mv e fun d e1 => OptQ (kS e1[i]?) fun _ => Wp mi e1 fun k e2 => OptQ (kS e2[i]?) fun kvs => OptQ (keyD k) fun k' => kvs.length < sizeLine ∧ Q (.next (e2.set i (some (.f (.mk (putD kvs k' d)))))) := v_dput ..
@[simp] theorem w_seq {a b : MS} : WpS (seqS a b) e Q ↔ WpS a e (fun r => nxQ (fun e' => WpS b e' Q) Q r) := vps_seq ..
end
theorem v_tupN {m : M D} {e : Env} {Q : O → Env → Prop} : Vp (tupN m) e Q ↔ Vp m e fun d e1 => OptV (lD d) fun ds => Q (.f (.t ds)) e1 := by
  simp only [tupN, vp_bnd]
  constructor <;> intro h <;> refine h.mono fun a e1 h => ?_
  · split at h
    · exact ⟨_, rfl, (vp_ret _).1 h⟩
    · exact (vp_none.1 h).elim
  · obtain ⟨ds, h1, h2⟩ := h
    cases lD_iff.1 h1
    exact (vp_ret _).2 h2
@[simp] theorem r_tupN {m : M D} {e : Env} {Q : O → Env → Prop} : Wp (tupN m) e Q ↔ Wp m e fun d e1 => OptQ (lD d) fun ds => Q (.f (.t ds)) e1 := v_tupN
def tO : O → Option (List (Key × D))
  | .f (.t ds) => pairsD ds
  | _ => none
@[simp] theorem tO_t (ds : List D) : tO (.f (.t ds)) = pairsD ds := rfl
theorem v_dictT {m : M O} {e : Env} {Q : O → Env → Prop} : Vp (dictT m) e Q ↔ Vp m e fun o e1 => OptV (tO o) fun kvs => Q (.f (.mk (mergeD [] kvs))) e1 := by
  simp only [dictT, vp_bnd]
  constructor <;> intro h <;> refine h.mono fun a e1 h => ?_
  · split at h
    · rename_i ds
      cases z : pairsD ds with
      | none => rw [z] at h; exact (vp_none.1 h).elim
      | some kvs =>
        rw [z] at h
        exact ⟨kvs, z, (vp_ret _).1 h⟩
    · exact (vp_none.1 h).elim
  · obtain ⟨kvs, h1, h2⟩ := h
    unfold tO at h1
    split at h1
    · simp only [h1]
      exact (vp_ret _).2 h2
    · cases h1
@[simp] theorem r_dictT {m : M O} {e : Env} {Q : O → Env → Prop} : Wp (dictT m) e Q ↔ Wp m e fun o e1 => OptQ (tO o) fun kvs => Q (.f (.mk (mergeD [] kvs))) e1 := v_dictT
@[simp] theorem line_lt (n : Nat) (h : n < 16777216 := by decide) : n < sizeLine := h
/-- an invariant, which simp leaves alone -/
def Hold (p : Prop) (u : Dum p := .mk) : Prop := p
theorem Hold.of {p : Prop} (h : p) : Hold p := h
@[simp] theorem extF_if (xs ys : List D) : extF xs [.list ys] = if xs.length + ys.length ≤ sizeLine then some (.none, xs ++ ys) else none := rfl
@[simp] theorem appF_if (xs : List D) (d : D) : appF xs [d] = if xs.length < sizeLine then some (.none, xs ++ [d]) else none := rfl
@[simp] theorem outs_nil (np : Nat → Bool) (e : Env) (j : Nat) : outs np e j [] = some [] := rfl
@[simp] theorem if_some_some {α : Type} {c : Prop} [Decidable c] {a b : α} : (if c then some a else none) = some b ↔ c ∧ a = b := by
  by_cases h : c <;> simp [h]
end Pm

/-! ## K13w -/
set_option Elab.async false
set_option linter.all false
set_option maxRecDepth 100000
set_option maxHeartbeats 4000000
namespace K13
open PySem PySem.Spec L2 Pm
variable [TabCtx]
abbrev top (i : Nat) : Stmt := PySem.Challenge.pw_linkedpapers_k13_whole_faults_of_units.main.body.getD i (.Pass ⟨0, 0, 0, 0⟩)
def fns : List (Str × Nat) := ([("is_integer", 1), ("is_within", 2), ("is_tuple_of", 3), ("are_within", 4), ("is_name", 5), ("sized", 15), ("is_deed", 16), ("is_expression", 26), ("parts_of", 27), ("is_statement", 28), ("is_local", 29), ("are_expressions", 30), ("blocks_of", 31), ("is_block", 32), ("is_procedure", 33), ("are_cells", 34), ("are_needs", 35), ("is_shape", 36), ("check_shape", 37), ("is_unit", 38), ("check_unit", 39), ("faults", 40), ("faults_of", 41), ("inner_faults", 42), ("statements_of", 43), ("expressions_of", 44), ("inner_expressions", 45), ("locals_told", 46), ("cells_told", 47), ("calls_of", 48), ("outer_calls", 49), ("known_cells", 50)] : List (Str × Nat)) ++ ([("procedure_of", 51), ("size_of_unit", 52), ("is_company", 57), ("between", 58), ("lacking", 59), ("is_program", 60), ("check_program", 61), ("words_number", 62), ("cells_of", 63), ("all_cells", 64), ("home_of", 65), ("home", 66), ("_law_hand", 68), ("_law_draw", 69), ("_law_any", 70), ("_law_is", 71), ("_law_term", 72), ("_law_line", 73), ("_law_lines", 74), ("_law_short", 75), ("_law_names_in", 76), ("_law_program", 77), ("_law_statements", 78), ("_law_known", 79), ("_law_parts", 80), ("_law_terms", 81), ("_law_of_statement", 82), ("_law_faults", 83), ("_law_calls", 84), ("_law_bent", 85), ("_law_is_right", 86), ("_law_is_refused", 87)] : List (Str × Nat)) ++ ([("_law_all", 88), ("law", 89)] : List (Str × Nat))
def frees : List Str := ["ValueError", "abs", "all", "any", "bool", "dict", "enumerate", "int", "isinstance", "len", "list", "max", "min", "range", "reversed", "sorted", "str", "sum", "tuple", "zip"]
def intsG : List (Str × Int) := [("MOST_WIDTH", 4), ("MOST_WRITTEN", 15), ("MOST_LOCALS", 4), ("MOST_PARAMS", 3), ("MOST_CELL", 4), ("MOST_DEEP", 10), ("MOST_PARTS", 400), ("MOST_PROCEDURES", 12), ("MOST_CELLS", 8), ("MOST_UNITS", 6), ("MOST_STATES", 4096)]
def strsG : List (Str × Str) := [("MAIN", "main")]
def t_DEEDS : List D := [(.str "sum"), (.str "less"), (.str "times"), (.str "and"), (.str "or"), (.str "xor"), (.str "same"), (.str "below"), (.str "over"), (.str "rest")]
def t_EMPTY : List D := []
def rf__law_is_refused : Str → Option Bool := fun c => if c = "BadUnit" then some true else none
/-- what is known of the module -/
structure Gs (P : Program) (w : World) (K : PySem.W.Frag) (mg : Str → Option Value) (base : Heap) : Prop where
  fn : ∀ d ∈ fns, ∃ fd, FunD K d.1 d.1 (defArgs (top d.2)) (defBody (top d.2)) (defScope (top d.2)) [] [] (He.ga K d.1) fd ∧ mg d.1 = some (.ref (He.ga K d.1))
  fr : ∀ x ∈ frees, mg x = none
  gInts : ∀ q ∈ intsG, ∃ t, mg q.1 = some (.int q.2 t)
  gStrs : ∀ q ∈ strsG, ∃ t, mg q.1 = some (.str q.2 t)
  t_DEEDS : TupG K mg "DEEDS" t_DEEDS
  t_EMPTY : TupG K mg "EMPTY" t_EMPTY
  x_BadProgram : ExcG K mg "BadProgram"
  x_BadUnit : ExcG K mg "BadUnit"
  gL_BadUnit : mg "BadUnit" = some (.ref (He.ga K "BadUnit"))
  gL_LinkError : mg "LinkError" = some (.ref (He.ga K "LinkError"))
  rc__law_is_refused : ∀ c b, rf__law_is_refused c = some b → RefC K (He.ga K "LinkError") (He.ga K "BadUnit") c b
  tb__law_all : LamX.TabB base mg (He.codeOf K ("_law_all", none)) (He.tabOf K (He.codeOf K ("_law_all", none)))
  hT : TabCtx.T = [(He.tabOf K (He.codeOf K ("_law_all", none)), lamQ "_law_all")]
def N__law_is_refused : List Str := ["call", "found", "error"]
/-! is_integer -/
def N_is_integer : List Str := ["thing"]
def np_is_integer : Nat → Bool := fun i => ([] : List Nat).contains i
noncomputable def s_is_integer : MS := (retD (andV (isaM "int" (varD 0)) (notV (isaM "bool" (varD 0)))))
noncomputable def m_is_integer : MF := bodyF np_is_integer 1 s_is_integer
/-! is_within -/
def N_is_within : List Str := ["thing", "low", "high"]
def np_is_within : Nat → Bool := fun i => ([] : List Nat).contains i
noncomputable def s_is_within : MS := (retD (andV (asD (callM [none] (argsC (varD 0) args0) m_is_integer)) (chn leS leS (varD 1) (varD 0) (varD 2))))
noncomputable def m_is_within : MF := bodyF np_is_within 3 s_is_within
/-! is_tuple_of -/
def N_is_tuple_of : List Str := ["thing", "many"]
def np_is_tuple_of : Nat → Bool := fun i => ([] : List Nat).contains i
noncomputable def s_is_tuple_of : MS := (retD (andV (isaM "tuple" (varD 0)) (op2 eqS (call1 lenS (varD 0)) (varD 1))))
noncomputable def m_is_tuple_of : MF := bodyF np_is_tuple_of 2 s_is_tuple_of
/-! are_within -/
def N_are_within : List Str := ["thing", "low", "high", "one"]
def np_are_within : Nat → Bool := fun i => ([] : List Nat).contains i
noncomputable def s_are_within : MS := (retD (andV (isaM "tuple" (varD 0)) (call1 allS (lcM [3] (itsA (varD 0)) (nameB 3) allT (asD (callM [none, none, none] (argsC (varD 3) (argsC (varD 1) (argsC (varD 2) args0))) m_is_within))))))
noncomputable def m_are_within : MF := bodyF np_are_within 4 s_are_within
/-! is_name -/
def N_is_name : List Str := ["thing", "sign"]
def np_is_name : Nat → Bool := fun i => ([] : List Nat).contains i
noncomputable def s_is_name : MS := (seqS (iteS (orT (notT (tst (isaM "str" (varD 0)))) (notT (tst (chn leS leS (cst (.int 1)) (call1 lenS (varD 0)) (cst (.int 8)))))) (retD (cst (.bool false))) nxt)
  (retD (call1 allS (lcM [1] (itsA (varD 0)) (nameB 1) allT (op2 inS (varD 1) (cst (.str "abcdefghijklmnopqrstuvwxyz")))))))
noncomputable def m_is_name : MF := bodyF np_is_name 2 s_is_name
/-! sized -/
def N_sized : List Str := ["width"]
def np_sized : Nat → Bool := fun i => ([] : List Nat).contains i
noncomputable def s_sized : MS := (retD (op2 shlS (cst (.int 1)) (varD 0)))
noncomputable def m_sized : MF := bodyF np_sized 1 s_sized
/-! is_deed -/
def N_is_deed : List Str := ["thing"]
def np_is_deed : Nat → Bool := fun i => ([] : List Nat).contains i
noncomputable def s_is_deed : MS := (retD (andV (isaM "str" (varD 0)) (op2 inS (varD 0) (cst (.tuple t_DEEDS)))))
noncomputable def m_is_deed : MF := bodyF np_is_deed 1 s_is_deed
/-! parts_of -/
def N_parts_of : List Str := ["here", "kind"]
def np_parts_of : Nat → Bool := fun i => ([] : List Nat).contains i
noncomputable def s_parts_of : MS := (seqS (setS 1 (op2 getS (varD 0) (cst (.int 0))))
  (seqS (iteS (tst (op2 eqS (varD 1) (cst (.str "word")))) (retD (ifV (andT (tst (op2 eqS (call1 lenS (varD 0)) (cst (.int 2)))) (tst (asD (callM [none, none, none] (argsC (op2 getS (varD 0) (cst (.int 1))) (argsC (cst (.int 0)) (argsC (cst (.int 15)) args0))) m_is_within)))) (lstM (linM args0)) (cst .none))) nxt)
  (seqS (iteS (tst (op2 eqS (varD 1) (cst (.str "local")))) (retD (ifV (andT (tst (op2 eqS (call1 lenS (varD 0)) (cst (.int 2)))) (tst (asD (callM [none, none, none] (argsC (op2 getS (varD 0) (cst (.int 1))) (argsC (cst (.int 0)) (argsC (op2 subS (cst (.int 4)) (cst (.int 1))) args0))) m_is_within)))) (lstM (linM args0)) (cst .none))) nxt)
  (seqS (iteS (tst (op2 eqS (varD 1) (cst (.str "cell")))) (retD (ifV (andT (tst (op2 eqS (call1 lenS (varD 0)) (cst (.int 2)))) (tst (asD (callM [none] (argsC (op2 getS (varD 0) (cst (.int 1))) args0) m_is_name)))) (lstM (linM args0)) (cst .none))) nxt)
  (seqS (iteS (tst (op2 eqS (varD 1) (cst (.str "row")))) (retD (ifV (andT (tst (op2 eqS (call1 lenS (varD 0)) (cst (.int 3)))) (tst (asD (callM [none] (argsC (op2 getS (varD 0) (cst (.int 1))) args0) m_is_name)))) (lstM (linM (argsC (op2 getS (varD 0) (cst (.int 2))) args0))) (cst .none))) nxt)
  (seqS (iteS (tst (op2 eqS (varD 1) (cst (.str "not")))) (retD (ifV (tst (op2 eqS (call1 lenS (varD 0)) (cst (.int 2)))) (lstM (linM (argsC (op2 getS (varD 0) (cst (.int 1))) args0))) (cst .none))) nxt)
  (retD (ifV (andT (tst (asD (callM [none] (argsC (varD 1) args0) m_is_deed))) (tst (op2 eqS (call1 lenS (varD 0)) (cst (.int 3))))) (lstM (linM (argsC (op2 getS (varD 0) (cst (.int 1))) (argsC (op2 getS (varD 0) (cst (.int 2))) args0)))) (cst .none)))))))))
noncomputable def m_parts_of : MF := bodyF np_parts_of 2 s_parts_of
/-! is_expression -/
def N_is_expression : List Str := ["thing", "waiting", "count", "here", "deep", "inner", "one"]
def np_is_expression : Nat → Bool := fun i => ([] : List Nat).contains i
noncomputable def s_is_expression : MS := (seqS (parS [1, 2] (argO (mkL (linM (argsC (tupM (argsC (varD 0) (argsC (cst (.int 0)) args0))) args0))) (argO (asO (cst (.int 0))) argO0)))
  (seqS (whM (tst (hasS 1 (op2p neS 1 (lstM (linM args0))))) (seqS (asgS (tupT [(nameB 3), (nameB 4)]) (mutL0 1 popF))
  (seqS (setS 2 (addA (varD 2) (cst (.int 1))))
  (seqS (iteS (orT (tst (op2 gtS (varD 2) (cst (.int 400)))) (orT (tst (op2 gtS (varD 4) (cst (.int 10)))) (orT (notT (tst (isaM "tuple" (varD 3)))) (tst (op2 eqS (varD 3) (cst (.tuple t_EMPTY))))))) (retD (cst (.bool false))) nxt)
  (seqS (iteS (notT (tst (isaM "str" (op2 getS (varD 3) (cst (.int 0)))))) (retD (cst (.bool false))) nxt)
  (seqS (setS 5 (asD (callM [none] (argsC (varD 3) args0) m_parts_of)))
  (seqS (iteS (tst (op2 isS' (varD 5) (cst .none))) (retD (cst (.bool false))) nxt)
  (dropS (mutL 1 (argsC (lcM [6] (itsA (varD 5)) (nameB 6) allT (tupM (argsC (varD 6) (argsC (addA (varD 4) (cst (.int 1))) args0)))) args0) extF)))))))))
  (retD (cst (.bool true)))))
noncomputable def m_is_expression : MF := bodyF np_is_expression 7 s_is_expression
/-! is_local -/
def N_is_local : List Str := ["thing"]
def np_is_local : Nat → Bool := fun i => ([] : List Nat).contains i
noncomputable def s_is_local : MS := (retD (asD (callM [none, none, none] (argsC (varD 0) (argsC (cst (.int 0)) (argsC (op2 subS (cst (.int 4)) (cst (.int 1))) args0))) m_is_within)))
noncomputable def m_is_local : MF := bodyF np_is_local 1 s_is_local
/-! are_expressions -/
def N_are_expressions : List Str := ["thing", "one"]
def np_are_expressions : Nat → Bool := fun i => ([] : List Nat).contains i
noncomputable def s_are_expressions : MS := (retD (andV (isaM "tuple" (varD 0)) (andV (op2 leS (call1 lenS (varD 0)) (cst (.int 3))) (call1 allS (lcM [1] (itsA (varD 0)) (nameB 1) allT (asD (callM [none] (argsC (varD 1) args0) m_is_expression)))))))
noncomputable def m_are_expressions : MF := bodyF np_are_expressions 2 s_are_expressions
/-! is_statement -/
def N_is_statement : List Str := ["thing", "kind"]
def np_is_statement : Nat → Bool := fun i => ([] : List Nat).contains i
noncomputable def s_is_statement : MS := (seqS (iteS (orT (notT (tst (isaM "tuple" (varD 0)))) (orT (tst (op2 eqS (varD 0) (cst (.tuple t_EMPTY)))) (notT (tst (isaM "str" (op2 getS (varD 0) (cst (.int 0)))))))) (retD (cst (.bool false))) nxt)
  (seqS (setS 1 (op2 getS (varD 0) (cst (.int 0))))
  (seqS (iteS (tst (op2 eqS (varD 1) (cst (.str "set")))) (retD (andV (op2 eqS (call1 lenS (varD 0)) (cst (.int 3))) (andV (asD (callM [none] (argsC (op2 getS (varD 0) (cst (.int 1))) args0) m_is_local)) (asD (callM [none] (argsC (op2 getS (varD 0) (cst (.int 2))) args0) m_is_expression))))) nxt)
  (seqS (iteS (tst (op2 eqS (varD 1) (cst (.str "put")))) (retD (andV (op2 eqS (call1 lenS (varD 0)) (cst (.int 3))) (andV (asD (callM [none] (argsC (op2 getS (varD 0) (cst (.int 1))) args0) m_is_name)) (asD (callM [none] (argsC (op2 getS (varD 0) (cst (.int 2))) args0) m_is_expression))))) nxt)
  (seqS (iteS (tst (op2 eqS (varD 1) (cst (.str "fill")))) (retD (andV (op2 eqS (call1 lenS (varD 0)) (cst (.int 4))) (andV (asD (callM [none] (argsC (op2 getS (varD 0) (cst (.int 1))) args0) m_is_name)) (andV (asD (callM [none] (argsC (op2 getS (varD 0) (cst (.int 2))) args0) m_is_expression)) (asD (callM [none] (argsC (op2 getS (varD 0) (cst (.int 3))) args0) m_is_expression)))))) nxt)
  (seqS (iteS (tst (op2 eqS (varD 1) (cst (.str "if")))) (retD (andV (op2 eqS (call1 lenS (varD 0)) (cst (.int 4))) (asD (callM [none] (argsC (op2 getS (varD 0) (cst (.int 1))) args0) m_is_expression)))) nxt)
  (seqS (iteS (tst (op2 eqS (varD 1) (cst (.str "while")))) (retD (andV (op2 eqS (call1 lenS (varD 0)) (cst (.int 3))) (asD (callM [none] (argsC (op2 getS (varD 0) (cst (.int 1))) args0) m_is_expression)))) nxt)
  (seqS (iteS (tst (op2 eqS (varD 1) (cst (.str "call")))) (retD (andV (op2 eqS (call1 lenS (varD 0)) (cst (.int 4))) (andV (asD (callM [none] (argsC (op2 getS (varD 0) (cst (.int 1))) args0) m_is_local)) (andV (asD (callM [none] (argsC (op2 getS (varD 0) (cst (.int 2))) args0) m_is_name)) (asD (callM [none] (argsC (op2 getS (varD 0) (cst (.int 3))) args0) m_are_expressions)))))) nxt)
  (seqS (iteS (tst (op2 eqS (varD 1) (cst (.str "pick")))) (retD (andV (op2 eqS (call1 lenS (varD 0)) (cst (.int 2))) (asD (callM [none] (argsC (op2 getS (varD 0) (cst (.int 1))) args0) m_is_local)))) nxt)
  (retD (andV (op2 inS (varD 1) (tupM (argsC (cst (.str "check")) (argsC (cst (.str "tell")) (argsC (cst (.str "return")) args0))))) (andV (op2 eqS (call1 lenS (varD 0)) (cst (.int 2))) (asD (callM [none] (argsC (op2 getS (varD 0) (cst (.int 1))) args0) m_is_expression))))))))))))))
noncomputable def m_is_statement : MF := bodyF np_is_statement 2 s_is_statement
/-! blocks_of -/
def N_blocks_of : List Str := ["statement"]
def np_blocks_of : Nat → Bool := fun i => ([] : List Nat).contains i
noncomputable def s_blocks_of : MS := (seqS (iteS (tst (op2 eqS (op2 getS (varD 0) (cst (.int 0))) (cst (.str "if")))) (retD (lstM (linM (argsC (op2 getS (varD 0) (cst (.int 2))) (argsC (op2 getS (varD 0) (cst (.int 3))) args0))))) nxt)
  (retD (ifV (tst (op2 eqS (op2 getS (varD 0) (cst (.int 0))) (cst (.str "while")))) (lstM (linM (argsC (op2 getS (varD 0) (cst (.int 2))) args0))) (lstM (linM args0)))))
noncomputable def m_blocks_of : MF := bodyF np_blocks_of 1 s_blocks_of
/-! is_block -/
def N_is_block : List Str := ["thing", "waiting", "count", "here", "deep", "statement", "block"]
def np_is_block : Nat → Bool := fun i => ([] : List Nat).contains i
noncomputable def s_is_block : MS := (seqS (parS [1, 2] (argO (mkL (linM (argsC (tupM (argsC (varD 0) (argsC (cst (.int 0)) args0))) args0))) (argO (asO (cst (.int 0))) argO0)))
  (seqS (whM (tst (hasS 1 (op2p neS 1 (lstM (linM args0))))) (seqS (asgS (tupT [(nameB 3), (nameB 4)]) (mutL0 1 popF))
  (seqS (iteS (orT (tst (op2 gtS (varD 4) (cst (.int 10)))) (notT (tst (isaM "tuple" (varD 3))))) (retD (cst (.bool false))) nxt)
  (forM (itsA (varD 3)) (nameB 5) (seqS (setS 2 (addA (varD 2) (cst (.int 1))))
  (seqS (iteS (orT (tst (op2 gtS (varD 2) (cst (.int 400)))) (notT (tst (asD (callM [none] (argsC (varD 5) args0) m_is_statement))))) (retD (cst (.bool false))) nxt)
  (dropS (mutL 1 (argsC (lcM [6] (itsA (asD (callM [none] (argsC (varD 5) args0) m_blocks_of))) (nameB 6) allT (tupM (argsC (varD 6) (argsC (addA (varD 4) (cst (.int 1))) args0)))) args0) extF))))))))
  (retD (cst (.bool true)))))
noncomputable def m_is_block : MF := bodyF np_is_block 7 s_is_block
/-! is_procedure -/
def N_is_procedure : List Str := ["thing"]
def np_is_procedure : Nat → Bool := fun i => ([] : List Nat).contains i
noncomputable def s_is_procedure : MS := (seqS (iteS (orT (notT (tst (asD (callM [none, none] (argsC (varD 0) (argsC (cst (.int 4)) args0)) m_is_tuple_of)))) (notT (tst (asD (callM [none] (argsC (op2 getS (varD 0) (cst (.int 0))) args0) m_is_name))))) (retD (cst (.bool false))) nxt)
  (seqS (iteS (orT (notT (tst (asD (callM [none, none, none] (argsC (op2 getS (varD 0) (cst (.int 1))) (argsC (cst (.int 0)) (argsC (cst (.int 3)) args0))) m_is_within)))) (notT (tst (asD (callM [none, none, none] (argsC (op2 getS (varD 0) (cst (.int 2))) (argsC (op2 getS (varD 0) (cst (.int 1))) (argsC (cst (.int 4)) args0))) m_is_within))))) (retD (cst (.bool false))) nxt)
  (retD (asD (callM [none] (argsC (op2 getS (varD 0) (cst (.int 3))) args0) m_is_block)))))
noncomputable def m_is_procedure : MF := bodyF np_is_procedure 1 s_is_procedure
/-! are_cells -/
def N_are_cells : List Str := ["thing", "one", "name", "words"]
def np_are_cells : Nat → Bool := fun i => ([] : List Nat).contains i
noncomputable def s_are_cells : MS := (seqS (iteS (orT (notT (tst (isaM "tuple" (varD 0)))) (orT (tst (op2 gtS (call1 lenS (varD 0)) (cst (.int 8)))) (notT (tst (call1 allS (lcM [1] (itsA (varD 0)) (nameB 1) allT (asD (callM [none, none] (argsC (varD 1) (argsC (cst (.int 2)) args0)) m_is_tuple_of)))))))) (retD (cst (.bool false))) nxt)
  (seqS (forM (itsA (varD 0)) (tupT [(nameB 2), (nameB 3)]) (iteS (orT (notT (tst (asD (callM [none] (argsC (varD 2) args0) m_is_name)))) (orT (notT (tst (asD (callM [none, none, none] (argsC (varD 3) (argsC (cst (.int 0)) (argsC (cst (.int 15)) args0))) m_are_within)))) (notT (tst (chn leS leS (cst (.int 1)) (call1 lenS (varD 3)) (cst (.int 4))))))) (retD (cst (.bool false))) nxt))
  (retD (cst (.bool true)))))
noncomputable def m_are_cells : MF := bodyF np_are_cells 4 s_are_cells
/-! are_needs -/
def N_are_needs : List Str := ["thing", "one", "name", "size"]
def np_are_needs : Nat → Bool := fun i => ([] : List Nat).contains i
noncomputable def s_are_needs : MS := (seqS (iteS (orT (notT (tst (isaM "tuple" (varD 0)))) (orT (tst (op2 gtS (call1 lenS (varD 0)) (cst (.int 8)))) (notT (tst (call1 allS (lcM [1] (itsA (varD 0)) (nameB 1) allT (asD (callM [none, none] (argsC (varD 1) (argsC (cst (.int 2)) args0)) m_is_tuple_of)))))))) (retD (cst (.bool false))) nxt)
  (retD (call1 allS (lcM [2, 3] (itsA (varD 0)) (tupT [(nameB 2), (nameB 3)]) allT (andV (asD (callM [none] (argsC (varD 2) args0) m_is_name)) (asD (callM [none, none, none] (argsC (varD 3) (argsC (cst (.int 1)) (argsC (cst (.int 4)) args0))) m_is_within)))))))
noncomputable def m_are_needs : MF := bodyF np_are_needs 4 s_are_needs
/-! is_shape -/
def N_is_shape : List Str := ["thing", "one"]
def np_is_shape : Nat → Bool := fun i => ([] : List Nat).contains i
noncomputable def s_is_shape : MS := (seqS (iteS (orT (notT (tst (asD (callM [none, none] (argsC (varD 0) (argsC (cst (.int 4)) args0)) m_is_tuple_of)))) (orT (notT (tst (asD (callM [none] (argsC (op2 getS (varD 0) (cst (.int 0))) args0) m_is_name)))) (orT (notT (tst (asD (callM [none] (argsC (op2 getS (varD 0) (cst (.int 1))) args0) m_are_cells)))) (notT (tst (asD (callM [none] (argsC (op2 getS (varD 0) (cst (.int 2))) args0) m_are_needs))))))) (retD (cst (.bool false))) nxt)
  (seqS (iteS (orT (notT (tst (isaM "tuple" (op2 getS (varD 0) (cst (.int 3)))))) (tst (op2 gtS (call1 lenS (op2 getS (varD 0) (cst (.int 3)))) (cst (.int 12))))) (retD (cst (.bool false))) nxt)
  (retD (call1 allS (lcM [1] (itsA (op2 getS (varD 0) (cst (.int 3)))) (nameB 1) allT (asD (callM [none] (argsC (varD 1) args0) m_is_procedure)))))))
noncomputable def m_is_shape : MF := bodyF np_is_shape 2 s_is_shape
/-! check_shape -/
def N_check_shape : List Str := ["unit"]
def np_check_shape : Nat → Bool := fun i => ([] : List Nat).contains i
noncomputable def s_check_shape : MS := (iteS (notT (tst (asD (callM [none] (argsC (varD 0) args0) m_is_shape)))) (raiseS "BadUnit") nxt)
noncomputable def m_check_shape : MF := bodyF np_check_shape 1 s_check_shape
/-! statements_of -/
def N_statements_of : List Str := ["block", "found", "statement", "inner"]
def np_statements_of : Nat → Bool := fun i => ([] : List Nat).contains i

noncomputable def m_statements_of : Nat → MF
  | 0 => fun _ => none
  | n + 1 => bodyF np_statements_of 4 (seqS (setO 1 (mkL (linM args0)))
      (seqS (forM (itsA (varD 0)) (nameB 2) (seqS (dropS (mutL 1 (argsC (varD 2) args0) appF))
      (forM (itsA (asD (callM [none] (argsC (varD 2) args0) m_blocks_of))) (nameB 3) (dropS (mutL 1 (argsC (asD (callM [none] (argsC (varD 3) args0) (m_statements_of n))) args0) extF)))))
      (retD (frzV 1))))
/-! expressions_of -/
def N_expressions_of : List Str := ["statement", "kind"]
def np_expressions_of : Nat → Bool := fun i => ([] : List Nat).contains i
noncomputable def s_expressions_of : MS := (seqS (setS 1 (op2 getS (varD 0) (cst (.int 0))))
  (seqS (iteS (tst (op2 inS (varD 1) (tupM (argsC (cst (.str "set")) (argsC (cst (.str "put")) args0))))) (retD (lstM (linM (argsC (op2 getS (varD 0) (cst (.int 2))) args0)))) nxt)
  (seqS (iteS (tst (op2 eqS (varD 1) (cst (.str "fill")))) (retD (lstM (linM (argsC (op2 getS (varD 0) (cst (.int 2))) (argsC (op2 getS (varD 0) (cst (.int 3))) args0))))) nxt)
  (seqS (iteS (tst (op2 eqS (varD 1) (cst (.str "call")))) (retD (lstM (itemsB (op2 getS (varD 0) (cst (.int 3)))))) nxt)
  (retD (ifV (tst (op2 eqS (varD 1) (cst (.str "pick")))) (lstM (linM args0)) (lstM (linM (argsC (op2 getS (varD 0) (cst (.int 1))) args0)))))))))
noncomputable def m_expressions_of : MF := bodyF np_expressions_of 2 s_expressions_of
/-! inner_expressions -/
def N_inner_expressions : List Str := ["expression", "found", "waiting", "here"]
def np_inner_expressions : Nat → Bool := fun i => ([] : List Nat).contains i
noncomputable def s_inner_expressions : MS := (seqS (parS [1, 2] (argO (mkL (linM args0)) (argO (mkL (linM (argsC (varD 0) args0))) argO0)))
  (seqS (whM (tst (hasS 2 (op2p neS 2 (lstM (linM args0))))) (seqS (setS 3 (mutL0 2 popF))
  (seqS (dropS (mutL 1 (argsC (varD 3) args0) appF))
  (dropS (mutL 2 (argsC (lstM (revB (asD (callM [none] (argsC (varD 3) args0) m_parts_of)))) args0) extF)))))
  (retD (frzV 1))))
noncomputable def m_inner_expressions : MF := bodyF np_inner_expressions 4 s_inner_expressions
/-! locals_told -/
def N_locals_told : List Str := ["statement", "found", "expression", "here"]
def np_locals_told : Nat → Bool := fun i => ([] : List Nat).contains i
noncomputable def s_locals_told : MS := (seqS (setO 1 (ifO (tst (op2 inS (op2 getS (varD 0) (cst (.int 0))) (tupM (argsC (cst (.str "set")) (argsC (cst (.str "call")) (argsC (cst (.str "pick")) args0)))))) (mkL (linM (argsC (op2 getS (varD 0) (cst (.int 1))) args0))) (mkL (linM args0))))
  (seqS (forM (itsA (asD (callM [none] (argsC (varD 0) args0) m_expressions_of))) (nameB 2) (dropS (mutL 1 (argsC (lcM [3] (itsA (asD (callM [none] (argsC (varD 2) args0) m_inner_expressions))) (nameB 3) (tst (op2 eqS (op2 getS (varD 3) (cst (.int 0))) (cst (.str "local")))) (op2 getS (varD 3) (cst (.int 1)))) args0) extF)))
  (retD (frzV 1))))
noncomputable def m_locals_told : MF := bodyF np_locals_told 4 s_locals_told
/-! cells_told -/
def N_cells_told : List Str := ["statement", "found", "expression", "here"]
def np_cells_told : Nat → Bool := fun i => ([] : List Nat).contains i
noncomputable def s_cells_told : MS := (seqS (setO 1 (mkL (linM args0)))
  (seqS (iteS (tst (op2 inS (op2 getS (varD 0) (cst (.int 0))) (tupM (argsC (cst (.str "put")) (argsC (cst (.str "fill")) args0))))) (dropS (mutL 1 (argsC (tupM (argsC (op2 getS (varD 0) (cst (.int 1))) (argsC (ifV (tst (op2 eqS (op2 getS (varD 0) (cst (.int 0))) (cst (.str "put")))) (cst (.str "one")) (cst (.str "row"))) args0))) args0) appF)) nxt)
  (seqS (forM (itsA (asD (callM [none] (argsC (varD 0) args0) m_expressions_of))) (nameB 2) (forM (itsA (asD (callM [none] (argsC (varD 2) args0) m_inner_expressions))) (nameB 3) (iteS (tst (op2 inS (op2 getS (varD 3) (cst (.int 0))) (tupM (argsC (cst (.str "cell")) (argsC (cst (.str "row")) args0))))) (dropS (mutL 1 (argsC (tupM (argsC (op2 getS (varD 3) (cst (.int 1))) (argsC (ifV (tst (op2 eqS (op2 getS (varD 3) (cst (.int 0))) (cst (.str "cell")))) (cst (.str "one")) (cst (.str "row"))) args0))) args0) appF)) nxt)))
  (retD (frzV 1)))))
noncomputable def m_cells_told : MF := bodyF np_cells_told 4 s_cells_told
/-! inner_faults -/
def N_inner_faults : List Str := ["procedure", "sizes", "params", "name", "found", "statement", "number", "cell", "size", "many"]
def np_inner_faults : Nat → Bool := fun i => ([1, 2] : List Nat).contains i
noncomputable def s_inner_faults : MS := (seqS (parS [3, 4] (argO (asO (op2 getS (varD 0) (cst (.int 0)))) (argO (mkL (linM args0)) argO0)))
  (seqS (forM (itsA (asD (callM [none] (argsC (op2 getS (varD 0) (cst (.int 3))) args0) (m_statements_of 12)))) (nameB 5) (seqS (forM (itsA (asD (callM [none] (argsC (varD 5) args0) m_locals_told))) (nameB 6) (iteS (tst (op2 geS (varD 6) (op2 getS (varD 0) (cst (.int 2))))) (dropS (mutL 4 (argsC (tupM (argsC (cst (.str "local")) (argsC (varD 3) (argsC (varD 6) args0)))) args0) appF)) nxt))
  (seqS (forM (itsA (asD (callM [none] (argsC (varD 5) args0) m_cells_told))) (tupT [(nameB 7), (nameB 8)]) (iteS (tst (dnotin 1 (varD 7))) (dropS (mutL 4 (argsC (tupM (argsC (cst (.str "no cell")) (argsC (varD 3) (argsC (varD 7) args0)))) args0) appF)) (iteS (orT (andT (tst (op2 eqS (varD 8) (cst (.str "one")))) (tst (op2 neS (dget 1 (varD 7)) (cst (.int 1))))) (andT (tst (op2 eqS (varD 8) (cst (.str "row")))) (tst (op2 eqS (dget 1 (varD 7)) (cst (.int 1)))))) (dropS (mutL 4 (argsC (tupM (argsC (cst (.str "size")) (argsC (varD 3) (argsC (varD 7) args0)))) args0) appF)) nxt)))
  (iteS (tst (op2 eqS (op2 getS (varD 5) (cst (.int 0))) (cst (.str "call")))) (seqS (setS 9 (dget2 2 (op2 getS (varD 5) (cst (.int 2))) (call1 lenS (op2 getS (varD 5) (cst (.int 3))))))
  (seqS (dput 2 (varD 9) (op2 getS (varD 5) (cst (.int 2))))
  (iteS (tst (op2 neS (varD 9) (call1 lenS (op2 getS (varD 5) (cst (.int 3)))))) (dropS (mutL 4 (argsC (tupM (argsC (cst (.str "arguments")) (argsC (varD 3) (argsC (op2 getS (varD 5) (cst (.int 2))) args0)))) args0) appF)) nxt))) nxt))))
  (retD (frzV 4))))
noncomputable def m_inner_faults : MF := bodyF np_inner_faults 10 s_inner_faults
/-! faults_of -/
def N_faults_of : List Str := ["unit", "found", "sizes", "params", "name", "words", "size", "procedure", "at", "fault"]
def np_faults_of : Nat → Bool := fun i => ([] : List Nat).contains i
noncomputable def s_faults_of : MS := (seqS (parS [1, 2, 3] (argO (mkL (linM args0)) (argO (M.ret (.mk [])) (argO (M.ret (.mk [])) argO0))))
  (seqS (forM (itsA (op2 getS (varD 0) (cst (.int 1)))) (tupT [(nameB 4), (nameB 5)]) (seqS (iteS (tst (din 2 (varD 4))) (dropS (mutL 1 (argsC (tupM (argsC (cst (.str "cell twice")) (argsC (varD 4) args0))) args0) appF)) nxt)
  (dput 2 (call1 lenS (varD 5)) (varD 4))))
  (seqS (forM (itsA (op2 getS (varD 0) (cst (.int 2)))) (tupT [(nameB 4), (nameB 6)]) (seqS (iteS (tst (din 2 (varD 4))) (dropS (mutL 1 (argsC (tupM (argsC (cst (.str "cell twice")) (argsC (varD 4) args0))) args0) appF)) nxt)
  (dput 2 (varD 6) (varD 4))))
  (seqS (forM (itsA (op2 getS (varD 0) (cst (.int 3)))) (nameB 7) (seqS (iteS (tst (din 3 (op2 getS (varD 7) (cst (.int 0))))) (dropS (mutL 1 (argsC (tupM (argsC (cst (.str "procedure twice")) (argsC (op2 getS (varD 7) (cst (.int 0))) args0))) args0) appF)) nxt)
  (dput 3 (op2 getS (varD 7) (cst (.int 1))) (op2 getS (varD 7) (cst (.int 0))))))
  (seqS (forM (itsA (op2 getS (varD 0) (cst (.int 3)))) (nameB 7) (dropS (mutL 1 (argsC (asD (callM [none, some 2, some 3] (argsC (varD 7) (hasS 2 (hasS 3 args0))) m_inner_faults)) args0) extF)))
  (retD (lcM [8, 9] (enumM (argsC (frzV 1) args0)) (tupT [(nameB 8), (nameB 9)]) (tst (op2 notInS (varD 9) (lstM (cutPl 1 noPart (partM (varD 8)))))) (varD 9))))))))
noncomputable def m_faults_of : MF := bodyF np_faults_of 10 s_faults_of
/-! is_unit -/
def N_is_unit : List Str := ["thing"]
def np_is_unit : Nat → Bool := fun i => ([] : List Nat).contains i
noncomputable def s_is_unit : MS := (retD (andV (asD (callM [none] (argsC (varD 0) args0) m_is_shape)) (op2 eqS (asD (callM [none] (argsC (varD 0) args0) m_faults_of)) (lstM (linM args0)))))
noncomputable def m_is_unit : MF := bodyF np_is_unit 1 s_is_unit
/-! check_unit -/
def N_check_unit : List Str := ["unit"]
def np_check_unit : Nat → Bool := fun i => ([] : List Nat).contains i
noncomputable def s_check_unit : MS := (iteS (notT (tst (asD (callM [none] (argsC (varD 0) args0) m_is_unit)))) (raiseS "BadUnit") nxt)
noncomputable def m_check_unit : MF := bodyF np_check_unit 1 s_check_unit
/-! faults -/
def N_faults : List Str := ["unit"]
def np_faults : Nat → Bool := fun i => ([] : List Nat).contains i
noncomputable def s_faults : MS := (seqS (dropS (asD (callM [none] (argsC (varD 0) args0) m_check_shape)))
  (retD (tupB1 (asD (callM [none] (argsC (varD 0) args0) m_faults_of)))))
noncomputable def m_faults : MF := bodyF np_faults 1 s_faults
/-! calls_of -/
def N_calls_of : List Str := ["unit", "found", "procedure", "statement"]
def np_calls_of : Nat → Bool := fun i => ([] : List Nat).contains i
noncomputable def s_calls_of : MS := (seqS (dropS (asD (callM [none] (argsC (varD 0) args0) m_check_unit)))
  (seqS (setO 1 (M.ret (.mk [])))
  (seqS (forM (itsA (op2 getS (varD 0) (cst (.int 3)))) (nameB 2) (forM (itsA (asD (callM [none] (argsC (op2 getS (varD 2) (cst (.int 3))) args0) (m_statements_of 12)))) (nameB 3) (iteS (tst (op2 eqS (op2 getS (varD 3) (cst (.int 0))) (cst (.str "call")))) (dput 1 (call1 lenS (op2 getS (varD 3) (cst (.int 3)))) (op2 getS (varD 3) (cst (.int 2)))) nxt)))
  (retD (tupB1 (lstM (sortB (lstM (keysM 1)))))))))
noncomputable def m_calls_of : MF := bodyF np_calls_of 4 s_calls_of
/-! outer_calls -/
def N_outer_calls : List Str := ["unit", "own", "found", "procedure", "statement", "name"]
def np_outer_calls : Nat → Bool := fun i => ([] : List Nat).contains i
noncomputable def s_outer_calls : MS := (seqS (dropS (asD (callM [none] (argsC (varD 0) args0) m_check_unit)))
  (seqS (parS [1, 2] (argO (lcO [3] (itsA (op2 getS (varD 0) (cst (.int 3)))) (nameB 3) allT (op2 getS (varD 3) (cst (.int 0)))) (argO (M.ret (.mk [])) argO0)))
  (seqS (forM (itsA (op2 getS (varD 0) (cst (.int 3)))) (nameB 3) (forM (itsA (asD (callM [none] (argsC (op2 getS (varD 3) (cst (.int 3))) args0) (m_statements_of 12)))) (nameB 4) (iteS (andT (tst (op2 eqS (op2 getS (varD 4) (cst (.int 0))) (cst (.str "call")))) (tst (op2 notInS (op2 getS (varD 4) (cst (.int 2))) (plc 1)))) (dput 2 (call1 lenS (op2 getS (varD 4) (cst (.int 3)))) (op2 getS (varD 4) (cst (.int 2)))) nxt)))
  (retD (tupB1 (lcM [5] (itsA (lstM (sortB (lstM (keysM 2))))) (nameB 5) allT (tupM (argsC (varD 5) (argsC (dget 2 (varD 5)) args0)))))))))
noncomputable def m_outer_calls : MF := bodyF np_outer_calls 6 s_outer_calls
/-! known_cells -/
def N_known_cells : List Str := ["unit", "name", "words"]
def np_known_cells : Nat → Bool := fun i => ([] : List Nat).contains i
noncomputable def s_known_cells : MS := (seqS (dropS (asD (callM [none] (argsC (varD 0) args0) m_check_unit)))
  (retD (tupB1 (addA (lcM [1, 2] (itsA (op2 getS (varD 0) (cst (.int 1)))) (tupT [(nameB 1), (nameB 2)]) allT (tupM (argsC (varD 1) (argsC (call1 lenS (varD 2)) args0)))) (lstM (itemsB (op2 getS (varD 0) (cst (.int 2)))))))))
noncomputable def m_known_cells : MF := bodyF np_known_cells 3 s_known_cells
/-! procedure_of -/
def N_procedure_of : List Str := ["unit", "name", "some", "procedure"]
def np_procedure_of : Nat → Bool := fun i => ([] : List Nat).contains i
noncomputable def s_procedure_of : MS := (seqS (setO 2 (lcO [3] (itsA (op2 getS (varD 0) (cst (.int 3)))) (nameB 3) (tst (op2 eqS (op2 getS (varD 3) (cst (.int 0))) (varD 1))) (varD 3)))
  (retD (ifV (tst (hasS 2 (op2p neS 2 (lstM (linM args0))))) (hasS 2 (op2p getS 2 (cst (.int 0)))) (cst .none))))
noncomputable def m_procedure_of : MF := bodyF np_procedure_of 4 s_procedure_of
/-! size_of_unit -/
def N_size_of_unit : List Str := ["unit", "statements", "expressions", "procedure", "statement", "one"]
def np_size_of_unit : Nat → Bool := fun i => ([] : List Nat).contains i
noncomputable def s_size_of_unit : MS := (seqS (dropS (asD (callM [none] (argsC (varD 0) args0) m_check_unit)))
  (seqS (parS [1, 2] (argO (asO (cst (.int 0))) (argO (asO (cst (.int 0))) argO0)))
  (seqS (forM (itsA (op2 getS (varD 0) (cst (.int 3)))) (nameB 3) (forM (itsA (asD (callM [none] (argsC (op2 getS (varD 3) (cst (.int 3))) args0) (m_statements_of 12)))) (nameB 4) (seqS (setS 1 (addA (varD 1) (cst (.int 1))))
  (setS 2 (addA (varD 2) (call1 sumS (lcM [5] (itsA (asD (callM [none] (argsC (varD 4) args0) m_expressions_of))) (nameB 5) allT (call1 lenS (asD (callM [none] (argsC (varD 5) args0) m_inner_expressions))))))))))
  (retD (tupM (argsC (call1 lenS (op2 getS (varD 0) (cst (.int 3)))) (argsC (varD 1) (argsC (varD 2) args0))))))))
noncomputable def m_size_of_unit : MF := bodyF np_size_of_unit 6 s_size_of_unit
/-! is_company -/
def N_is_company : List Str := ["thing", "one"]
def np_is_company : Nat → Bool := fun i => ([] : List Nat).contains i
noncomputable def s_is_company : MS := (seqS (iteS (orT (notT (tst (isaM "tuple" (varD 0)))) (notT (tst (chn leS leS (cst (.int 1)) (call1 lenS (varD 0)) (cst (.int 6)))))) (retD (cst (.bool false))) nxt)
  (retD (call1 allS (lcM [1] (itsA (varD 0)) (nameB 1) allT (andV (asD (callM [none] (argsC (varD 1) args0) m_is_shape)) (op2 eqS (asD (callM [none] (argsC (varD 1) args0) m_faults_of)) (lstM (linM args0))))))))
noncomputable def m_is_company : MF := bodyF np_is_company 2 s_is_company
/-! lacking -/
def N_lacking : List Str := ["unit", "params", "sizes", "found", "name", "many", "size"]
def np_lacking : Nat → Bool := fun i => ([1, 2] : List Nat).contains i
noncomputable def s_lacking : MS := (seqS (setO 3 (mkL (linM args0)))
  (seqS (forM (itsA (asD (callM [none] (argsC (varD 0) args0) m_outer_calls))) (tupT [(nameB 4), (nameB 5)]) (iteS (tst (dnotin 1 (varD 4))) (dropS (mutL 3 (argsC (tupM (argsC (cst (.str "missing procedure")) (argsC (op2 getS (varD 0) (cst (.int 0))) (argsC (varD 4) args0)))) args0) appF)) (iteS (tst (op2 neS (dget 1 (varD 4)) (varD 5))) (dropS (mutL 3 (argsC (tupM (argsC (cst (.str "arguments")) (argsC (op2 getS (varD 0) (cst (.int 0))) (argsC (varD 4) args0)))) args0) appF)) nxt)))
  (seqS (forM (itsA (op2 getS (varD 0) (cst (.int 2)))) (tupT [(nameB 4), (nameB 6)]) (iteS (tst (dnotin 2 (varD 4))) (dropS (mutL 3 (argsC (tupM (argsC (cst (.str "missing cell")) (argsC (op2 getS (varD 0) (cst (.int 0))) (argsC (varD 4) args0)))) args0) appF)) (iteS (tst (op2 neS (dget 2 (varD 4)) (varD 6))) (dropS (mutL 3 (argsC (tupM (argsC (cst (.str "size")) (argsC (op2 getS (varD 0) (cst (.int 0))) (argsC (varD 4) args0)))) args0) appF)) nxt)))
  (retD (frzV 3)))))
noncomputable def m_lacking : MF := bodyF np_lacking 7 s_lacking
/-! between -/
def N_between : List Str := ["units", "found", "names", "params", "sizes", "unit", "name", "words", "procedure", "rows", "fault"]
def np_between : Nat → Bool := fun i => ([] : List Nat).contains i
noncomputable def s_between : MS := (seqS (parS [1, 2, 3, 4] (argO (mkL (linM args0)) (argO (M.ret (.mk [])) (argO (M.ret (.mk [])) (argO (M.ret (.mk [])) argO0)))))
  (seqS (forM (itsA (varD 0)) (nameB 5) (seqS (iteS (tst (din 2 (op2 getS (varD 5) (cst (.int 0))))) (dropS (mutL 1 (argsC (tupM (argsC (cst (.str "unit twice")) (argsC (op2 getS (varD 5) (cst (.int 0))) args0))) args0) appF)) nxt)
  (seqS (dput 2 (cst (.bool true)) (op2 getS (varD 5) (cst (.int 0))))
  (seqS (forM (itsA (op2 getS (varD 5) (cst (.int 1)))) (tupT [(nameB 6), (nameB 7)]) (seqS (iteS (tst (din 4 (varD 6))) (dropS (mutL 1 (argsC (tupM (argsC (cst (.str "cell twice")) (argsC (varD 6) args0))) args0) appF)) nxt)
  (dput 4 (call1 lenS (varD 7)) (varD 6))))
  (forM (itsA (op2 getS (varD 5) (cst (.int 3)))) (nameB 8) (seqS (iteS (tst (din 3 (op2 getS (varD 8) (cst (.int 0))))) (dropS (mutL 1 (argsC (tupM (argsC (cst (.str "procedure twice")) (argsC (op2 getS (varD 8) (cst (.int 0))) args0))) args0) appF)) nxt)
  (dput 3 (op2 getS (varD 8) (cst (.int 1))) (op2 getS (varD 8) (cst (.int 0))))))))))
  (seqS (forM (itsA (varD 0)) (nameB 5) (dropS (mutL 1 (argsC (asD (callM [none, some 3, some 4] (argsC (varD 5) (hasS 3 (hasS 4 args0))) m_lacking)) args0) extF)))
  (seqS (iteS (tst (op2 neS (dget2 3 (cst (.str "main")) (cst (.int 1))) (cst (.int 0)))) (dropS (mutL 1 (argsC (tupM (argsC (cst (.str "no main")) args0)) args0) appF)) nxt)
  (seqS (setO 9 (mkL (linM args0)))
  (seqS (forM (itsA (frzV 1)) (nameB 10) (iteS (tst (op2 notInS (varD 10) (plc 9))) (dropS (mutL 9 (argsC (varD 10) args0) appF)) nxt))
  (retD (frzV 9))))))))
noncomputable def m_between : MF := bodyF np_between 11 s_between
/-! words_number -/
def N_words_number : List Str := ["units", "unit", "name", "words"]
def np_words_number : Nat → Bool := fun i => ([] : List Nat).contains i
noncomputable def s_words_number : MS := (retD (call1 sumS (lc2M [1, 2, 3] (itsA (varD 0)) (nameB 1) allT (itsA (op2 getS (varD 1) (cst (.int 1)))) [2, 3] (tupT [(nameB 2), (nameB 3)]) allT (call1 lenS (varD 3)))))
noncomputable def m_words_number : MF := bodyF np_words_number 4 s_words_number
/-! is_program -/
def N_is_program : List Str := ["thing"]
def np_is_program : Nat → Bool := fun i => ([] : List Nat).contains i
noncomputable def s_is_program : MS := (seqS (iteS (orT (notT (tst (asD (callM [none, none] (argsC (varD 0) (argsC (cst (.int 2)) args0)) m_is_tuple_of)))) (orT (notT (tst (asD (callM [none, none, none] (argsC (op2 getS (varD 0) (cst (.int 0))) (argsC (cst (.int 1)) (argsC (cst (.int 4)) args0))) m_is_within)))) (notT (tst (asD (callM [none] (argsC (op2 getS (varD 0) (cst (.int 1))) args0) m_is_company)))))) (retD (cst (.bool false))) nxt)
  (retD (andV (op2 eqS (asD (callM [none] (argsC (op2 getS (varD 0) (cst (.int 1))) args0) m_between)) (lstM (linM args0))) (op2 leS (asD (callM [none] (argsC (op2 mulS (op2 getS (varD 0) (cst (.int 0))) (asD (callM [none] (argsC (op2 getS (varD 0) (cst (.int 1))) args0) m_words_number))) args0) m_sized)) (cst (.int 4096))))))
noncomputable def m_is_program : MF := bodyF np_is_program 1 s_is_program
/-! check_program -/
def N_check_program : List Str := ["program"]
def np_check_program : Nat → Bool := fun i => ([] : List Nat).contains i
noncomputable def s_check_program : MS := (iteS (notT (tst (asD (callM [none] (argsC (varD 0) args0) m_is_program)))) (raiseS "BadProgram") nxt)
noncomputable def m_check_program : MF := bodyF np_check_program 1 s_check_program
/-! cells_of -/
def N_cells_of : List Str := ["units", "unit", "name", "words"]
def np_cells_of : Nat → Bool := fun i => ([] : List Nat).contains i
noncomputable def s_cells_of : MS := (retD (lc2M [1, 2, 3] (itsA (varD 0)) (nameB 1) allT (itsA (op2 getS (varD 1) (cst (.int 1)))) [2, 3] (tupT [(nameB 2), (nameB 3)]) allT (tupM (argsC (varD 2) (argsC (call1 lenS (varD 3)) args0)))))
noncomputable def m_cells_of : MF := bodyF np_cells_of 4 s_cells_of
/-! all_cells -/
def N_all_cells : List Str := ["program"]
def np_all_cells : Nat → Bool := fun i => ([] : List Nat).contains i
noncomputable def s_all_cells : MS := (seqS (dropS (asD (callM [none] (argsC (varD 0) args0) m_check_program)))
  (retO (tupN (asD (callM [none] (argsC (op2 getS (varD 0) (cst (.int 1))) args0) m_cells_of)))))
noncomputable def m_all_cells : MF := bodyF np_all_cells 1 s_all_cells
/-! home_of -/
def N_home_of : List Str := ["units", "name", "some", "at", "unit"]
def np_home_of : Nat → Bool := fun i => ([] : List Nat).contains i
noncomputable def s_home_of : MS := (seqS (setO 2 (lcO [3, 4] (enumM (argsC (varD 0) args0)) (tupT [(nameB 3), (nameB 4)]) (tst (op2 isNotS' (asD (callM [none, none] (argsC (varD 4) (argsC (varD 1) args0)) m_procedure_of)) (cst .none))) (varD 3)))
  (retD (ifV (tst (hasS 2 (op2p neS 2 (lstM (linM args0))))) (hasS 2 (op2p getS 2 (cst (.int 0)))) (cst .none))))
noncomputable def m_home_of : MF := bodyF np_home_of 5 s_home_of
/-! home -/
def N_home : List Str := ["program", "name"]
def np_home : Nat → Bool := fun i => ([] : List Nat).contains i
noncomputable def s_home : MS := (seqS (dropS (asD (callM [none] (argsC (varD 0) args0) m_check_program)))
  (seqS (iteS (notT (tst (isaM "str" (varD 1)))) (retD (cst .none)) nxt)
  (retD (asD (callM [none, none] (argsC (op2 getS (varD 0) (cst (.int 1))) (argsC (varD 1) args0)) m_home_of)))))
noncomputable def m_home : MF := bodyF np_home 2 s_home
/-! _law_hand -/
def N__law_hand : List Str := ["script", "cells", "cell"]
def np__law_hand : Nat → Bool := fun i => ([] : List Nat).contains i
noncomputable def s__law_hand : MS := (seqS (setO 1 (lcO [2] (itsA (cutA (varD 0) noPart (partM (cst (.int 63))))) (nameB 2) allT (call1 absS (call1 intS (varD 2)))))
  (retO (mkL (linM (argsC (frzV 1) (argsC (cst (.int 0)) (argsC (cst (.int 0)) (argsC (addA (cst (.int 61)) (op2 mulS (cst (.int 7)) (call1 lenS (plc 1)))) (argsC (cst (.int 0)) args0)))))))))
noncomputable def m__law_hand : MF := bodyF np__law_hand 3 s__law_hand
/-! _law_draw -/
def N__law_draw : List Str := ["hand", "many", "cell", "digit", "number"]
def np__law_draw : Nat → Bool := fun i => ([0] : List Nat).contains i
noncomputable def s__law_draw : MS := (seqS (iteS (andT (tst (op2 eqS (hasS 0 (op2p getS 0 (cst (.int 2)))) (cst (.int 0)))) (tst (op2 ltS (hasS 0 (op2p getS 0 (cst (.int 1)))) (call1 lenS (hasS 0 (op2p getS 0 (cst (.int 0)))))))) (seqS (setS 2 (op2 getS (hasS 0 (op2p getS 0 (cst (.int 0)))) (hasS 0 (op2p getS 0 (cst (.int 1))))))
  (seqS (setIx 0 (addA (hasS 0 (op2p getS 0 (cst (.int 1)))) (cst (.int 1))) (cst (.int 1)))
  (seqS (setIx 0 (op2 modS (call1 intS (addA (addA (op2 mulS (hasS 0 (op2p getS 0 (cst (.int 3)))) (cst (.int 69621))) (op2 mulS (varD 2) (cst (.int 40692)))) (cst (.int 23)))) (cst (.int 2147483629))) (cst (.int 3)))
  (iteS (tst (op2 geS (varD 2) (op2 powS (cst (.int 10)) (cst (.int 18))))) (setIx 0 (varD 2) (cst (.int 2))) nxt)))) nxt)
  (seqS (iteS (tst (op2 gtS (hasS 0 (op2p getS 0 (cst (.int 2)))) (cst (.int 0)))) (seqS (setS 3 (op2 modS (call1 intS (hasS 0 (op2p getS 0 (cst (.int 2))))) (varD 1)))
  (seqS (setIx 0 (op2 fdivS (hasS 0 (op2p getS 0 (cst (.int 2)))) (varD 1)) (cst (.int 2)))
  (retD (varD 3)))) nxt)
  (seqS (setIx 0 (addA (hasS 0 (op2p getS 0 (cst (.int 4)))) (cst (.int 1))) (cst (.int 4)))
  (seqS (setS 4 (op2 modS (call1 intS (op2 mulS (call1 intS (addA (hasS 0 (op2p getS 0 (cst (.int 3)))) (op2 mulS (cst (.int 7919)) (hasS 0 (op2p getS 0 (cst (.int 4))))))) (cst (.int 48271)))) (cst (.int 2147483647))))
  (seqS (setS 4 (op2 modS (call1 intS (op2 mulS (varD 4) (addA (op2 fdivS (varD 4) (cst (.int 1009))) (cst (.int 69621))))) (cst (.int 2147483647))))
  (seqS (setS 4 (op2 modS (call1 intS (op2 mulS (varD 4) (addA (op2 fdivS (varD 4) (cst (.int 2003))) (cst (.int 40014))))) (cst (.int 2147483563))))
  (retD (op2 modS (call1 intS (op2 fdivS (varD 4) (cst (.int 16)))) (varD 1)))))))))
noncomputable def m__law_draw : MF := bodyF np__law_draw 5 s__law_draw
/-! _law_any -/
def N__law_any : List Str := ["hand", "some"]
def np__law_any : Nat → Bool := fun i => ([0] : List Nat).contains i
noncomputable def s__law_any : MS := (retD (op2 getS (varD 1) (asD (callM [some 0, none] (hasS 0 (argsC (call1 lenS (varD 1)) args0)) m__law_draw))))
noncomputable def m__law_any : MF := bodyF np__law_any 2 s__law_any
/-! _law_is -/
def N__law_is : List Str := ["answer", "due", "one", "other"]
def np__law_is : Nat → Bool := fun i => ([] : List Nat).contains i

noncomputable def m__law_is : Nat → MF
  | 0 => fun _ => none
  | n + 1 => bodyF np__law_is 4 (seqS (iteS (orT (tst (op2 isS' (varD 1) (cst .none))) (tst (op2 isS' (varD 0) (cst .none)))) (retD (andV (op2 isS' (varD 1) (cst .none)) (op2 isS' (varD 0) (cst .none)))) nxt)
      (seqS (iteS (tst (isaM2 "tuple" "list" (varD 1))) (seqS (iteS (orT (tst (op2 neS (isaM "tuple" (varD 0)) (isaM "tuple" (varD 1)))) (tst (op2 neS (isaM "list" (varD 0)) (isaM "list" (varD 1))))) (retD (cst (.bool false))) nxt)
      (retD (andV (op2 eqS (call1 lenS (varD 0)) (call1 lenS (varD 1))) (call1 allS (lcM [2, 3] (zipM (argsC (varD 0) (argsC (varD 1) args0))) (tupT [(nameB 2), (nameB 3)]) allT (asD (callM [none, none] (argsC (varD 2) (argsC (varD 3) args0)) (m__law_is n)))))))) nxt)
      (seqS (iteS (orT (tst (op2 neS (isaM "bool" (varD 0)) (isaM "bool" (varD 1)))) (tst (op2 neS (isaM "int" (varD 0)) (isaM "int" (varD 1))))) (retD (cst (.bool false))) nxt)
      (retD (andV (op2 eqS (isaM "str" (varD 0)) (isaM "str" (varD 1))) (op2 eqS (varD 0) (varD 1)))))))
/-! _law_term -/
def N__law_term : List Str := ["hand", "many", "cells", "deep", "kind", "name", "size", "deed"]
def np__law_term : Nat → Bool := fun i => ([0] : List Nat).contains i

noncomputable def m__law_term : Nat → MF
  | 0 => fun _ => none
  | n + 1 => bodyF np__law_term 8 (seqS (setS 4 (asD (callM [some 0, none] (hasS 0 (argsC (cst (.int 8)) args0)) m__law_draw)))
      (seqS (iteS (orT (tst (op2 eqS (varD 3) (cst (.int 0)))) (tst (op2 ltS (varD 4) (cst (.int 2))))) (retD (tupM (argsC (cst (.str "word")) (argsC (asD (callM [some 0, none] (hasS 0 (argsC (cst (.int 5)) args0)) m__law_draw)) args0)))) nxt)
      (seqS (iteS (andT (tst (op2 ltS (varD 4) (cst (.int 4)))) (tst (op2 gtS (varD 1) (cst (.int 0))))) (retD (tupM (argsC (cst (.str "local")) (argsC (asD (callM [some 0, none] (hasS 0 (argsC (varD 1) args0)) m__law_draw)) args0)))) nxt)
      (seqS (iteS (andT (tst (op2 ltS (varD 4) (cst (.int 5)))) (tst (op2 gtS (call1 lenS (varD 2)) (cst (.int 0))))) (seqS (asgS (tupT [(nameB 5), (nameB 6)]) (asD (callM [some 0, none] (hasS 0 (argsC (varD 2) args0)) m__law_any)))
      (retD (ifV (tst (op2 eqS (varD 6) (cst (.int 1)))) (tupM (argsC (cst (.str "cell")) (argsC (varD 5) args0))) (tupM (argsC (cst (.str "row")) (argsC (varD 5) (argsC (asD (callM [some 0, none, none, none] (hasS 0 (argsC (varD 1) (argsC (varD 2) (argsC (op2 subS (varD 3) (cst (.int 1))) args0)))) (m__law_term n))) args0))))))) nxt)
      (seqS (iteS (tst (op2 eqS (varD 4) (cst (.int 5)))) (retD (tupM (argsC (cst (.str "not")) (argsC (asD (callM [some 0, none, none, none] (hasS 0 (argsC (varD 1) (argsC (varD 2) (argsC (op2 subS (varD 3) (cst (.int 1))) args0)))) (m__law_term n))) args0)))) nxt)
      (seqS (setS 7 (asD (callM [some 0, none] (hasS 0 (argsC (lstM (linM (argsC (cst (.str "sum")) (argsC (cst (.str "less")) (argsC (cst (.str "times")) (argsC (cst (.str "and")) (argsC (cst (.str "or")) (argsC (cst (.str "xor")) (argsC (cst (.str "same")) (argsC (cst (.str "below")) (argsC (cst (.str "same")) (argsC (cst (.str "over")) (argsC (cst (.str "rest")) args0))))))))))))) args0)) m__law_any)))
      (retD (tupM (argsC (varD 7) (argsC (asD (callM [some 0, none, none, none] (hasS 0 (argsC (varD 1) (argsC (varD 2) (argsC (op2 subS (varD 3) (cst (.int 1))) args0)))) (m__law_term n))) (argsC (asD (callM [some 0, none, none, none] (hasS 0 (argsC (varD 1) (argsC (varD 2) (argsC (op2 subS (varD 3) (cst (.int 1))) args0)))) (m__law_term n))) args0)))))))))))
/-! _law_line -/
def N__law_line : List Str := ["hand", "many", "cells", "calls", "deep", "kind", "name", "params", "at", "test", "first", "size"]
def np__law_line : Nat → Bool := fun i => ([0] : List Nat).contains i
/-! _law_lines -/
def N__law_lines : List Str := ["hand", "many", "cells", "calls", "deep", "at"]
def np__law_lines : Nat → Bool := fun i => ([0] : List Nat).contains i
mutual
noncomputable def m__law_line : Nat → MF
  | 0 => fun _ => none
  | n + 1 => bodyF np__law_line 12 (seqS (setS 5 (asD (callM [some 0, none] (hasS 0 (argsC (cst (.int 12)) args0)) m__law_draw)))
      (seqS (iteS (andT (tst (op2 ltS (varD 5) (cst (.int 2)))) (tst (op2 gtS (call1 lenS (varD 3)) (cst (.int 0))))) (seqS (asgS (tupT [(nameB 6), (nameB 7)]) (asD (callM [some 0, none] (hasS 0 (argsC (varD 3) args0)) m__law_any)))
      (retD (tupM (argsC (cst (.str "call")) (argsC (asD (callM [some 0, none] (hasS 0 (argsC (varD 1) args0)) m__law_draw)) (argsC (varD 6) (argsC (tupB1 (lcM [8] (rng1 (argsC (varD 7) args0)) (nameB 8) allT (asD (callM [some 0, none, none, none] (hasS 0 (argsC (varD 1) (argsC (varD 2) (argsC (cst (.int 1)) args0)))) (m__law_term 12))))) args0))))))) nxt)
      (seqS (iteS (tst (op2 ltS (varD 5) (cst (.int 4)))) (retD (tupM (argsC (cst (.str "pick")) (argsC (asD (callM [some 0, none] (hasS 0 (argsC (varD 1) args0)) m__law_draw)) args0)))) nxt)
      (seqS (iteS (tst (op2 eqS (varD 5) (cst (.int 4)))) (retD (tupM (argsC (cst (.str "tell")) (argsC (asD (callM [some 0, none, none, none] (hasS 0 (argsC (varD 1) (argsC (varD 2) (argsC (cst (.int 1)) args0)))) (m__law_term 12))) args0)))) nxt)
      (seqS (iteS (andT (tst (op2 eqS (varD 5) (cst (.int 5)))) (tst (op2 eqS (asD (callM [some 0, none] (hasS 0 (argsC (cst (.int 2)) args0)) m__law_draw)) (cst (.int 0))))) (retD (tupM (argsC (cst (.str "check")) (argsC (asD (callM [some 0, none, none, none] (hasS 0 (argsC (varD 1) (argsC (varD 2) (argsC (cst (.int 2)) args0)))) (m__law_term 12))) args0)))) nxt)
      (seqS (iteS (andT (tst (op2 ltS (varD 5) (cst (.int 8)))) (tst (op2 gtS (varD 4) (cst (.int 0))))) (seqS (parS [9, 10] (argO (asO (asD (callM [some 0, none, none, none] (hasS 0 (argsC (varD 1) (argsC (varD 2) (argsC (cst (.int 2)) args0)))) (m__law_term 12)))) (argO (asO (asD (callM [some 0, none, none, none, none] (hasS 0 (argsC (varD 1) (argsC (varD 2) (argsC (varD 3) (argsC (op2 subS (varD 4) (cst (.int 1))) args0))))) (m__law_lines n)))) argO0)))
      (seqS (iteS (tst (op2 eqS (varD 5) (cst (.int 6)))) (retD (tupM (argsC (cst (.str "while")) (argsC (varD 9) (argsC (varD 10) args0))))) nxt)
      (retD (tupM (argsC (cst (.str "if")) (argsC (varD 9) (argsC (varD 10) (argsC (asD (callM [some 0, none] (hasS 0 (argsC (lstM (linM (argsC (tupM args0) (argsC (asD (callM [some 0, none, none, none, none] (hasS 0 (argsC (varD 1) (argsC (varD 2) (argsC (varD 3) (argsC (op2 subS (varD 4) (cst (.int 1))) args0))))) (m__law_lines n))) args0)))) args0)) m__law_any)) args0)))))))) nxt)
      (seqS (iteS (andT (tst (op2 ltS (varD 5) (cst (.int 10)))) (tst (op2 gtS (call1 lenS (varD 2)) (cst (.int 0))))) (seqS (asgS (tupT [(nameB 6), (nameB 11)]) (asD (callM [some 0, none] (hasS 0 (argsC (varD 2) args0)) m__law_any)))
      (seqS (iteS (tst (op2 eqS (varD 11) (cst (.int 1)))) (retD (tupM (argsC (cst (.str "put")) (argsC (varD 6) (argsC (asD (callM [some 0, none, none, none] (hasS 0 (argsC (varD 1) (argsC (varD 2) (argsC (cst (.int 2)) args0)))) (m__law_term 12))) args0))))) nxt)
      (retD (tupM (argsC (cst (.str "fill")) (argsC (varD 6) (argsC (asD (callM [some 0, none, none, none] (hasS 0 (argsC (varD 1) (argsC (varD 2) (argsC (cst (.int 1)) args0)))) (m__law_term 12))) (argsC (asD (callM [some 0, none, none, none] (hasS 0 (argsC (varD 1) (argsC (varD 2) (argsC (cst (.int 1)) args0)))) (m__law_term 12))) args0)))))))) nxt)
      (seqS (iteS (andT (tst (op2 eqS (varD 5) (cst (.int 10)))) (tst (op2 eqS (asD (callM [some 0, none] (hasS 0 (argsC (cst (.int 3)) args0)) m__law_draw)) (cst (.int 0))))) (retD (tupM (argsC (cst (.str "return")) (argsC (asD (callM [some 0, none, none, none] (hasS 0 (argsC (varD 1) (argsC (varD 2) (argsC (cst (.int 2)) args0)))) (m__law_term 12))) args0)))) nxt)
      (retD (tupM (argsC (cst (.str "set")) (argsC (asD (callM [some 0, none] (hasS 0 (argsC (varD 1) args0)) m__law_draw)) (argsC (asD (callM [some 0, none, none, none] (hasS 0 (argsC (varD 1) (argsC (varD 2) (argsC (cst (.int 2)) args0)))) (m__law_term 12))) args0)))))))))))))
noncomputable def m__law_lines : Nat → MF
  | 0 => fun _ => none
  | n + 1 => bodyF np__law_lines 6 (retD (tupB1 (lcM [5] (rng1 (argsC (addA (cst (.int 1)) (asD (callM [some 0, none] (hasS 0 (argsC (cst (.int 3)) args0)) m__law_draw))) args0)) (nameB 5) allT (asD (callM [some 0, none, none, none, none] (hasS 0 (argsC (varD 1) (argsC (varD 2) (argsC (varD 3) (argsC (varD 4) args0))))) (m__law_line n))))))
end
/-! _law_short -/
def N__law_short : List Str := ["block", "found", "waiting", "here", "row"]
def np__law_short : Nat → Bool := fun i => ([] : List Nat).contains i
noncomputable def s__law_short : MS := (seqS (parS [1, 2] (argO (asO (cst (.int 0))) (argO (mkL (itemsB (varD 0))) argO0)))
  (seqS (whM (tst (op2 gtS (call1 lenS (plc 2)) (cst (.int 0)))) (seqS (setS 3 (mutL0 2 popF))
  (seqS (setS 1 (addA (varD 1) (cst (.int 1))))
  (seqS (iteS (tst (op2 inS (op2 getS (varD 3) (cst (.int 0))) (tupM (argsC (cst (.str "if")) (argsC (cst (.str "while")) args0))))) (dropS (mutL 2 (argsC (lstM (itemsB (op2 getS (varD 3) (cst (.int 2))))) args0) extF)) nxt)
  (iteS (tst (op2 eqS (op2 getS (varD 3) (cst (.int 0))) (cst (.str "if")))) (dropS (mutL 2 (argsC (lstM (itemsB (op2 getS (varD 3) (cst (.int 3))))) args0) extF)) nxt)))))
  (retD (ifV (tst (op2 leS (varD 1) (cst (.int 12)))) (varD 0) (tupB1 (lcM [4] (itsA (varD 0)) (nameB 4) (tst (op2 notInS (op2 getS (varD 4) (cst (.int 0))) (tupM (argsC (cst (.str "if")) (argsC (cst (.str "while")) args0))))) (varD 4)))))))
noncomputable def m__law_short : MF := bodyF np__law_short 5 s__law_short
/-! _law_names_in -/
def N__law_names_in : List Str := ["part", "found", "waiting", "here"]
def np__law_names_in : Nat → Bool := fun i => ([] : List Nat).contains i
noncomputable def s__law_names_in : MS := (seqS (parS [1, 2] (argO (M.ret (.mk [])) (argO (mkL (linM (argsC (varD 0) args0))) argO0)))
  (seqS (whM (tst (op2 gtS (call1 lenS (plc 2)) (cst (.int 0)))) (seqS (setS 3 (mutL0 2 popF))
  (iteS (tst (isaM "tuple" (varD 3))) (seqS (iteS (andT (tst (op2 gtS (call1 lenS (varD 3)) (cst (.int 1)))) (andT (tst (isaM "str" (op2 getS (varD 3) (cst (.int 0))))) (tst (op2 inS (op2 getS (varD 3) (cst (.int 0))) (tupM (argsC (cst (.str "cell")) (argsC (cst (.str "row")) (argsC (cst (.str "put")) (argsC (cst (.str "fill")) args0))))))))) (dput 1 (cst (.bool true)) (op2 getS (varD 3) (cst (.int 1)))) nxt)
  (dropS (mutL 2 (argsC (lstM (itemsB (varD 3))) args0) extF))) nxt)))
  (retO (takeO 1))))
noncomputable def m__law_names_in : MF := bodyF np__law_names_in 4 s__law_names_in
/-! _law_program -/
def N__law_program : List Str := ["hand", "width", "has_rings", "cells", "names", "params", "units", "spots", "name", "cell", "size", "rows", "at", "calls", "other", "many", "found", "spot", "own", "some", "row", "told", "needs"]
def np__law_program : Nat → Bool := fun i => ([0] : List Nat).contains i
noncomputable def s__law_program : MS := (seqS (setS 3 (asD (callM [some 0, none] (hasS 0 (argsC (lstM (linM (argsC (lstM (linM args0)) (argsC (lstM (linM (argsC (tupM (argsC (cst (.str "u")) (argsC (cst (.int 1)) args0))) args0))) (argsC (lstM (linM (argsC (tupM (argsC (cst (.str "u")) (argsC (cst (.int 1)) args0))) (argsC (tupM (argsC (cst (.str "v")) (argsC (cst (.int 2)) args0))) args0)))) (argsC (lstM (linM (argsC (tupM (argsC (cst (.str "v")) (argsC (cst (.int 2)) args0))) args0))) (argsC (lstM (linM (argsC (tupM (argsC (cst (.str "u")) (argsC (cst (.int 1)) args0))) (argsC (tupM (argsC (cst (.str "w")) (argsC (cst (.int 1)) args0))) args0)))) args0))))))) args0)) m__law_any)))
  (seqS (setS 4 (addA (lstM (linM (argsC (cst (.str "main")) args0))) (asD (callM [some 0, none] (hasS 0 (argsC (lstM (linM (argsC (lstM (linM (argsC (cst (.str "aa")) args0))) (argsC (lstM (linM (argsC (cst (.str "aa")) (argsC (cst (.str "bb")) args0)))) (argsC (lstM (linM (argsC (cst (.str "aa")) (argsC (cst (.str "bb")) args0)))) args0))))) args0)) m__law_any))))
  (seqS (setO 5 (dispO [(.inr "main", (cst (.int 0))), (.inr "aa", (asD (callM [some 0, none] (hasS 0 (argsC (cst (.int 2)) args0)) m__law_draw))), (.inr "bb", (asD (callM [some 0, none] (hasS 0 (argsC (cst (.int 2)) args0)) m__law_draw)))]))
  (seqS (parS [6, 7] (argO (asO (addA (cst (.int 1)) (asD (callM [some 0, none] (hasS 0 (argsC (cst (.int 3)) args0)) m__law_draw)))) (argO (M.ret (.mk [])) argO0)))
  (seqS (forM (itsA (addA (varD 4) (lcM [9, 10] (itsA (varD 3)) (tupT [(nameB 9), (nameB 10)]) allT (varD 9)))) (nameB 8) (dput 7 (asD (callM [some 0, none] (hasS 0 (argsC (varD 6) args0)) m__law_draw)) (varD 8)))
  (seqS (setO 11 (mkL (linM args0)))
  (seqS (forM (enumM (argsC (varD 4) args0)) (tupT [(nameB 12), (nameB 8)]) (seqS (setO 13 (lcO [14] (itsA (ifV (tst (varD 2)) (cutA (varD 4) (partM (cst (.int 1))) noPart) (cutA (varD 4) (partM (addA (varD 12) (cst (.int 1)))) noPart))) (nameB 14) allT (tupM (argsC (varD 14) (argsC (dget 5 (varD 14)) args0)))))
  (seqS (setS 15 (call2 maxS (cst (.int 1)) (addA (dget 5 (varD 8)) (asD (callM [some 0, none] (hasS 0 (argsC (cst (.int 2)) args0)) m__law_draw)))))
  (dropS (mutL 11 (argsC (tupM (argsC (varD 8) (argsC (dget 5 (varD 8)) (argsC (varD 15) (argsC (asD (callM [none] (argsC (asD (callM [some 0, none, none, none, none] (hasS 0 (argsC (varD 15) (argsC (varD 3) (argsC (frzV 13) (argsC (cst (.int 2)) args0))))) (m__law_lines 12))) args0) m__law_short)) args0))))) args0) appF)))))
  (seqS (setO 16 (mkL (linM args0)))
  (seqS (forM (rng1 (argsC (varD 6) args0)) (nameB 17) (seqS (setO 18 (mkL (linM args0)))
  (seqS (forM (itsA (varD 3)) (tupT [(nameB 9), (nameB 10)]) (iteS (tst (op2 eqS (dget 7 (varD 9)) (varD 17))) (dropS (mutL 18 (argsC (tupM (argsC (varD 9) (argsC (tupB1 (lcM [12] (rng1 (argsC (varD 10) args0)) (nameB 12) allT (asD (callM [some 0, none] (hasS 0 (argsC (cst (.int 4)) args0)) m__law_draw)))) args0))) args0) appF)) nxt))
  (seqS (setS 19 (tupB1 (lcM [20] (itsA (frzV 11)) (nameB 20) (tst (op2 eqS (dget 7 (op2 getS (varD 20) (cst (.int 0)))) (varD 17))) (varD 20))))
  (seqS (setO 21 (callM [none] (argsC (tupB1 (lcM [20] (itsA (varD 19)) (nameB 20) allT (op2 getS (varD 20) (cst (.int 3))))) args0) m__law_names_in))
  (seqS (setO 22 (lcO [9, 10] (itsA (varD 3)) (tupT [(nameB 9), (nameB 10)]) (andT (tst (din 21 (varD 9))) (tst (op2 neS (dget 7 (varD 9)) (varD 17)))) (tupM (argsC (varD 9) (argsC (varD 10) args0)))))
  (dropS (mutL 16 (argsC (tupM (argsC (op2 getS (lstM (linM (argsC (cst (.str "one")) (argsC (cst (.str "two")) (argsC (cst (.str "three")) args0))))) (varD 17)) (argsC (tupB1 (plc 18)) (argsC (tupB1 (plc 22)) (argsC (varD 19) args0))))) args0) appF))))))))
  (retD (tupM (argsC (varD 1) (argsC (tupB1 (plc 16)) args0)))))))))))))
noncomputable def m__law_program : MF := bodyF np__law_program 23 s__law_program
/-! _law_statements -/
def N__law_statements : List Str := ["block", "found", "waiting", "here"]
def np__law_statements : Nat → Bool := fun i => ([] : List Nat).contains i
noncomputable def s__law_statements : MS := (seqS (parS [1, 2] (argO (mkL (linM args0)) (argO (mkL (revB (lstM (itemsB (varD 0))))) argO0)))
  (seqS (whM (tst (op2 gtS (call1 lenS (plc 2)) (cst (.int 0)))) (seqS (setS 3 (mutL0 2 popF))
  (seqS (dropS (mutL 1 (argsC (varD 3) args0) appF))
  (seqS (iteS (tst (op2 eqS (op2 getS (varD 3) (cst (.int 0))) (cst (.str "if")))) (dropS (mutL 2 (argsC (lstM (revB (lstM (itemsB (op2 getS (varD 3) (cst (.int 3))))))) args0) extF)) nxt)
  (iteS (tst (op2 inS (op2 getS (varD 3) (cst (.int 0))) (tupM (argsC (cst (.str "if")) (argsC (cst (.str "while")) args0))))) (dropS (mutL 2 (argsC (lstM (revB (lstM (itemsB (op2 getS (varD 3) (cst (.int 2))))))) args0) extF)) nxt)))))
  (retD (frzV 1))))
noncomputable def m__law_statements : MF := bodyF np__law_statements 4 s__law_statements
/-! _law_known -/
def N__law_known : List Str := ["unit", "name", "words", "size"]
def np__law_known : Nat → Bool := fun i => ([] : List Nat).contains i
noncomputable def s__law_known : MS := (retD (addA (lcM [1, 2] (itsA (op2 getS (varD 0) (cst (.int 1)))) (tupT [(nameB 1), (nameB 2)]) allT (tupM (argsC (varD 1) (argsC (call1 lenS (varD 2)) args0)))) (lcM [1, 3] (itsA (op2 getS (varD 0) (cst (.int 2)))) (tupT [(nameB 1), (nameB 3)]) allT (tupM (argsC (varD 1) (argsC (varD 3) args0))))))
noncomputable def m__law_known : MF := bodyF np__law_known 4 s__law_known
/-! _law_parts -/
def N__law_parts : List Str := ["term", "found", "waiting", "here"]
def np__law_parts : Nat → Bool := fun i => ([] : List Nat).contains i
noncomputable def s__law_parts : MS := (seqS (parS [1, 2] (argO (mkL (linM args0)) (argO (mkL (linM (argsC (varD 0) args0))) argO0)))
  (seqS (whM (tst (op2 gtS (call1 lenS (plc 2)) (cst (.int 0)))) (seqS (setS 3 (mutL0 2 popF))
  (seqS (dropS (mutL 1 (argsC (varD 3) args0) appF))
  (iteS (tst (op2 eqS (op2 getS (varD 3) (cst (.int 0))) (cst (.str "row")))) (dropS (mutL 2 (argsC (op2 getS (varD 3) (cst (.int 2))) args0) appF)) (iteS (tst (op2 notInS (op2 getS (varD 3) (cst (.int 0))) (tupM (argsC (cst (.str "word")) (argsC (cst (.str "local")) (argsC (cst (.str "cell")) args0)))))) (dropS (mutL 2 (argsC (lstM (revB (lstM (itemsB (cutA (varD 3) (partM (cst (.int 1))) noPart))))) args0) extF)) nxt)))))
  (retD (frzV 1))))
noncomputable def m__law_parts : MF := bodyF np__law_parts 4 s__law_parts
/-! _law_terms -/
def N__law_terms : List Str := ["statement", "kind"]
def np__law_terms : Nat → Bool := fun i => ([] : List Nat).contains i
noncomputable def s__law_terms : MS := (seqS (setS 1 (op2 getS (varD 0) (cst (.int 0))))
  (seqS (iteS (tst (op2 eqS (varD 1) (cst (.str "pick")))) (retD (lstM (linM args0))) nxt)
  (seqS (iteS (tst (op2 eqS (varD 1) (cst (.str "call")))) (retD (lstM (itemsB (op2 getS (varD 0) (cst (.int 3)))))) nxt)
  (seqS (iteS (tst (op2 eqS (varD 1) (cst (.str "fill")))) (retD (lstM (linM (argsC (op2 getS (varD 0) (cst (.int 2))) (argsC (op2 getS (varD 0) (cst (.int 3))) args0))))) nxt)
  (retD (ifV (tst (op2 inS (varD 1) (tupM (argsC (cst (.str "set")) (argsC (cst (.str "put")) args0))))) (lstM (linM (argsC (op2 getS (varD 0) (cst (.int 2))) args0))) (lstM (linM (argsC (op2 getS (varD 0) (cst (.int 1))) args0)))))))))
noncomputable def m__law_terms : MF := bodyF np__law_terms 2 s__law_terms
/-! _law_of_statement -/
def N__law_of_statement : List Str := ["statement", "procedure", "sizes", "params", "found", "cells", "name", "many", "kind", "locals_told_v", "term", "part", "number", "cell", "is_one"]
def np__law_of_statement : Nat → Bool := fun i => ([2, 3] : List Nat).contains i
noncomputable def s__law_of_statement : MS := (seqS (parS [4, 5] (argO (mkL (linM args0)) (argO (mkL (linM args0)) argO0)))
  (seqS (parS [6, 7, 8] (argO (asO (op2 getS (varD 1) (cst (.int 0)))) (argO (asO (op2 getS (varD 1) (cst (.int 2)))) (argO (asO (op2 getS (varD 0) (cst (.int 0)))) argO0))))
  (seqS (setO 9 (ifO (tst (op2 inS (varD 8) (tupM (argsC (cst (.str "set")) (argsC (cst (.str "call")) (argsC (cst (.str "pick")) args0)))))) (mkL (linM (argsC (op2 getS (varD 0) (cst (.int 1))) args0))) (mkL (linM args0))))
  (seqS (iteS (tst (op2 inS (varD 8) (tupM (argsC (cst (.str "put")) (argsC (cst (.str "fill")) args0))))) (dropS (mutL 5 (argsC (tupM (argsC (op2 getS (varD 0) (cst (.int 1))) (argsC (op2 eqS (varD 8) (cst (.str "put"))) args0))) args0) appF)) nxt)
  (seqS (forM (itsA (asD (callM [none] (argsC (varD 0) args0) m__law_terms))) (nameB 10) (forM (itsA (asD (callM [none] (argsC (varD 10) args0) m__law_parts))) (nameB 11) (seqS (iteS (tst (op2 eqS (op2 getS (varD 11) (cst (.int 0))) (cst (.str "local")))) (dropS (mutL 9 (argsC (op2 getS (varD 11) (cst (.int 1))) args0) appF)) nxt)
  (iteS (tst (op2 inS (op2 getS (varD 11) (cst (.int 0))) (tupM (argsC (cst (.str "cell")) (argsC (cst (.str "row")) args0))))) (dropS (mutL 5 (argsC (tupM (argsC (op2 getS (varD 11) (cst (.int 1))) (argsC (op2 eqS (op2 getS (varD 11) (cst (.int 0))) (cst (.str "cell"))) args0))) args0) appF)) nxt))))
  (seqS (setO 4 (lcO [12] (itsA (frzV 9)) (nameB 12) (tst (op2 geS (varD 12) (varD 7))) (tupM (argsC (cst (.str "local")) (argsC (varD 6) (argsC (varD 12) args0))))))
  (seqS (forM (itsA (frzV 5)) (tupT [(nameB 13), (nameB 14)]) (iteS (tst (dnotin 2 (varD 13))) (dropS (mutL 4 (argsC (tupM (argsC (cst (.str "no cell")) (argsC (varD 6) (argsC (varD 13) args0)))) args0) appF)) (iteS (tst (op2 neS (op2 eqS (dget 2 (varD 13)) (cst (.int 1))) (varD 14))) (dropS (mutL 4 (argsC (tupM (argsC (cst (.str "size")) (argsC (varD 6) (argsC (varD 13) args0)))) args0) appF)) nxt)))
  (seqS (iteS (andT (tst (op2 eqS (varD 8) (cst (.str "call")))) (tst (op2 neS (dget 3 (op2 getS (varD 0) (cst (.int 2)))) (call1 lenS (op2 getS (varD 0) (cst (.int 3))))))) (dropS (mutL 4 (argsC (tupM (argsC (cst (.str "arguments")) (argsC (varD 6) (argsC (op2 getS (varD 0) (cst (.int 2))) args0)))) args0) appF)) nxt)
  (retD (frzV 4))))))))))
noncomputable def m__law_of_statement : MF := bodyF np__law_of_statement 15 s__law_of_statement
/-! _law_faults -/
def N__law_faults : List Str := ["unit", "found", "names", "sizes", "params", "name", "size", "at", "procedure", "statement", "fault"]
def np__law_faults : Nat → Bool := fun i => ([] : List Nat).contains i
noncomputable def s__law_faults : MS := (seqS (parS [1, 2, 3, 4] (argO (mkL (linM args0)) (argO (mkL (linM args0)) (argO (dictP (asD (callM [none] (argsC (varD 0) args0) m__law_known))) (argO (M.ret (.mk [])) argO0)))))
  (seqS (forM (itsA (asD (callM [none] (argsC (varD 0) args0) m__law_known))) (tupT [(nameB 5), (nameB 6)]) (seqS (dropS (mutL 1 (argsC (ifV (tst (op2 inS (varD 5) (plc 2))) (lstM (linM (argsC (tupM (argsC (cst (.str "cell twice")) (argsC (varD 5) args0))) args0))) (lstM (linM args0))) args0) extF))
  (dropS (mutL 2 (argsC (varD 5) args0) appF))))
  (seqS (forM (enumM (argsC (op2 getS (varD 0) (cst (.int 3))) args0)) (tupT [(nameB 7), (nameB 8)]) (seqS (dropS (mutL 1 (argsC (ifV (tst (din 4 (op2 getS (varD 8) (cst (.int 0))))) (lstM (linM (argsC (tupM (argsC (cst (.str "procedure twice")) (argsC (op2 getS (varD 8) (cst (.int 0))) args0))) args0))) (lstM (linM args0))) args0) extF))
  (dput 4 (op2 getS (varD 8) (cst (.int 1))) (op2 getS (varD 8) (cst (.int 0))))))
  (seqS (forM (itsA (op2 getS (varD 0) (cst (.int 3)))) (nameB 8) (forM (itsA (asD (callM [none] (argsC (op2 getS (varD 8) (cst (.int 3))) args0) m__law_statements))) (nameB 9) (iteS (andT (tst (op2 eqS (op2 getS (varD 9) (cst (.int 0))) (cst (.str "call")))) (tst (dnotin 4 (op2 getS (varD 9) (cst (.int 2)))))) (dput 4 (call1 lenS (op2 getS (varD 9) (cst (.int 3)))) (op2 getS (varD 9) (cst (.int 2)))) nxt)))
  (seqS (forM (itsA (op2 getS (varD 0) (cst (.int 3)))) (nameB 8) (forM (itsA (asD (callM [none] (argsC (op2 getS (varD 8) (cst (.int 3))) args0) m__law_statements))) (nameB 9) (dropS (mutL 1 (argsC (asD (callM [none, none, some 3, some 4] (argsC (varD 9) (argsC (varD 8) (hasS 3 (hasS 4 args0)))) m__law_of_statement)) args0) extF))))
  (retD (tupB1 (lcM [7, 10] (enumM (argsC (frzV 1) args0)) (tupT [(nameB 7), (nameB 10)]) (tst (op2 notInS (varD 10) (lstM (cutPl 1 noPart (partM (varD 7)))))) (varD 10)))))))))
noncomputable def m__law_faults : MF := bodyF np__law_faults 11 s__law_faults
/-! _law_calls -/
def N__law_calls : List Str := ["unit", "found", "procedure", "statement"]
def np__law_calls : Nat → Bool := fun i => ([] : List Nat).contains i
noncomputable def s__law_calls : MS := (seqS (setO 1 (M.ret (.mk [])))
  (seqS (forM (itsA (op2 getS (varD 0) (cst (.int 3)))) (nameB 2) (forM (itsA (asD (callM [none] (argsC (op2 getS (varD 2) (cst (.int 3))) args0) m__law_statements))) (nameB 3) (iteS (andT (tst (op2 eqS (op2 getS (varD 3) (cst (.int 0))) (cst (.str "call")))) (tst (dnotin 1 (op2 getS (varD 3) (cst (.int 2)))))) (dput 1 (call1 lenS (op2 getS (varD 3) (cst (.int 3)))) (op2 getS (varD 3) (cst (.int 2)))) nxt)))
  (retO (takeO 1))))
noncomputable def m__law_calls : MF := bodyF np__law_calls 4 s__law_calls
/-! _law_bent -/
def N__law_bent : List Str := ["hand", "unit", "name", "cells", "needs", "procedures", "kind", "cell", "at", "first", "params", "many", "block", "cells_here", "calls", "there"]
def np__law_bent : Nat → Bool := fun i => ([0] : List Nat).contains i
noncomputable def s__law_bent : MS := (seqS (asgS (tupT [(nameB 2), (nameB 3), (nameB 4), (nameB 5)]) (varD 1))
  (seqS (parS [6, 7] (argO (asO (asD (callM [some 0, none] (hasS 0 (argsC (cst (.int 8)) args0)) m__law_draw))) (argO (asO (asD (callM [some 0, none] (hasS 0 (argsC (lstM (linM (argsC (cst (.str "u")) (argsC (cst (.str "v")) (argsC (cst (.str "w")) (argsC (cst (.str "zz")) args0)))))) args0)) m__law_any))) argO0)))
  (seqS (iteS (tst (op2 eqS (varD 6) (cst (.int 0)))) (setS 3 (addA (varD 3) (tupM (argsC (tupM (argsC (varD 7) (argsC (op2 mulS (tupM (argsC (cst (.int 1)) args0)) (addA (cst (.int 1)) (asD (callM [some 0, none] (hasS 0 (argsC (cst (.int 3)) args0)) m__law_draw)))) args0))) args0)))) nxt)
  (seqS (iteS (tst (op2 eqS (varD 6) (cst (.int 1)))) (setS 4 (addA (varD 4) (tupM (argsC (tupM (argsC (varD 7) (argsC (addA (cst (.int 1)) (asD (callM [some 0, none] (hasS 0 (argsC (cst (.int 3)) args0)) m__law_draw))) args0))) args0)))) nxt)
  (seqS (iteS (tst (op2 eqS (varD 6) (cst (.int 2)))) (parS [3, 4] (argO (asO (cutA (varD 3) (partM (cst (.int 1))) noPart)) (argO (asO (cutA (varD 4) noPart (partM (asD (callM [some 0, none] (hasS 0 (argsC (cst (.int 2)) args0)) m__law_draw))))) argO0))) nxt)
  (seqS (iteS (andT (tst (op2 gtS (call1 lenS (varD 5)) (cst (.int 0)))) (tst (op2 gtS (varD 6) (cst (.int 2))))) (seqS (setS 8 (asD (callM [some 0, none] (hasS 0 (argsC (call1 lenS (varD 5)) args0)) m__law_draw)))
  (seqS (asgS (tupT [(nameB 9), (nameB 10), (nameB 11), (nameB 12)]) (op2 getS (varD 5) (varD 8)))
  (seqS (iteS (tst (op2 eqS (varD 6) (cst (.int 3)))) (setS 11 (call2 maxS (varD 10) (op2 subS (varD 11) (cst (.int 1))))) nxt)
  (seqS (iteS (tst (op2 eqS (varD 6) (cst (.int 4)))) (setS 10 (op2 modS (call1 intS (addA (varD 10) (cst (.int 1)))) (addA (call2 minS (varD 11) (cst (.int 3))) (cst (.int 1))))) nxt)
  (seqS (iteS (tst (op2 gtS (varD 6) (cst (.int 4)))) (seqS (setS 13 (asD (callM [some 0, none] (hasS 0 (argsC (lstM (linM (argsC (lstM (linM (argsC (tupM (argsC (cst (.str "u")) (argsC (cst (.int 1)) args0))) (argsC (tupM (argsC (cst (.str "v")) (argsC (cst (.int 2)) args0))) args0)))) (argsC (lstM (linM (argsC (tupM (argsC (cst (.str "u")) (argsC (cst (.int 2)) args0))) (argsC (tupM (argsC (cst (.str "w")) (argsC (cst (.int 1)) args0))) args0)))) (argsC (lstM (linM (argsC (tupM (argsC (cst (.str "v")) (argsC (cst (.int 1)) args0))) args0))) args0))))) args0)) m__law_any)))
  (seqS (setS 14 (lstM (linM (argsC (tupM (argsC (cst (.str "aa")) (argsC (asD (callM [some 0, none] (hasS 0 (argsC (cst (.int 3)) args0)) m__law_draw)) args0))) (argsC (tupM (argsC (cst (.str "bb")) (argsC (asD (callM [some 0, none] (hasS 0 (argsC (cst (.int 3)) args0)) m__law_draw)) args0))) (argsC (tupM (argsC (cst (.str "cc")) (argsC (asD (callM [some 0, none] (hasS 0 (argsC (cst (.int 3)) args0)) m__law_draw)) args0))) args0))))))
  (setS 12 (addA (varD 12) (asD (callM [none] (argsC (asD (callM [some 0, none, none, none, none] (hasS 0 (argsC (cst (.int 4)) (argsC (varD 13) (argsC (varD 14) (argsC (cst (.int 1)) args0))))) (m__law_lines 12))) args0) m__law_short)))))) nxt)
  (seqS (setS 15 (tupM (argsC (varD 9) (argsC (varD 10) (argsC (varD 11) (argsC (varD 12) args0))))))
  (setS 5 (addA (addA (cutA (varD 5) noPart (partM (varD 8))) (tupM (argsC (varD 15) args0))) (cutA (varD 5) (partM (addA (varD 8) (ifV (tst (op2 eqS (varD 6) (cst (.int 7)))) (cst (.int 0)) (cst (.int 1))))) noPart))))))))) nxt)
  (retD (tupM (argsC (varD 2) (argsC (varD 3) (argsC (varD 4) (argsC (cutA (varD 5) noPart (partM (cst (.int 12)))) args0))))))))))))
noncomputable def m__law_bent : MF := bodyF np__law_bent 16 s__law_bent
/-! _law_is_right -/
def N__law_is_right : List Str := ["unit", "due", "calls", "own", "procedure", "outer", "name", "told", "statements", "parts", "statement", "term"]
def np__law_is_right : Nat → Bool := fun i => ([] : List Nat).contains i
noncomputable def s__law_is_right : MS := (seqS (parS [1, 2] (argO (asO (asD (callM [none] (argsC (varD 0) args0) m__law_faults))) (argO (callM [none] (argsC (varD 0) args0) m__law_calls) argO0)))
  (seqS (iteS (notT (tst (asD (callM [none, none] (argsC (lstM (linM (argsC (asD (callM [none] (argsC (varD 0) args0) m_is_shape)) (argsC (asD (callM [none] (argsC (varD 0) args0) m_faults)) (argsC (asD (callM [none] (argsC (varD 0) args0) m_is_unit)) args0))))) (argsC (lstM (linM (argsC (cst (.bool true)) (argsC (varD 1) (argsC (op2 eqS (call1 lenS (varD 1)) (cst (.int 0))) args0))))) args0)) (m__law_is 12))))) (retD (cst (.bool false))) nxt)
  (seqS (setO 3 (lcO [4] (itsA (op2 getS (varD 0) (cst (.int 3)))) (nameB 4) allT (op2 getS (varD 4) (cst (.int 0)))))
  (seqS (iteS (tst (op2 gtS (call1 lenS (varD 1)) (cst (.int 0)))) (retD (cst (.bool true))) nxt)
  (seqS (setS 5 (tupB1 (lcM [6] (itsA (lstM (sortKM 2))) (nameB 6) (tst (op2 notInS (varD 6) (plc 3))) (tupM (argsC (varD 6) (argsC (dget 2 (varD 6)) args0))))))
  (seqS (setS 7 (lstM (linM (argsC (asD (callM [none] (argsC (varD 0) args0) m_calls_of)) (argsC (asD (callM [none] (argsC (varD 0) args0) m_outer_calls)) (argsC (asD (callM [none] (argsC (varD 0) args0) m_known_cells)) args0))))))
  (seqS (iteS (notT (tst (asD (callM [none, none] (argsC (varD 7) (argsC (lstM (linM (argsC (tupB1 (lstM (sortKM 2))) (argsC (varD 5) (argsC (tupB1 (asD (callM [none] (argsC (varD 0) args0) m__law_known))) args0))))) args0)) (m__law_is 12))))) (retD (cst (.bool false))) nxt)
  (seqS (parS [8, 9] (argO (asO (cst (.int 0))) (argO (asO (cst (.int 0))) argO0)))
  (seqS (forM (itsA (op2 getS (varD 0) (cst (.int 3)))) (nameB 4) (forM (itsA (asD (callM [none] (argsC (op2 getS (varD 4) (cst (.int 3))) args0) m__law_statements))) (nameB 10) (seqS (setS 8 (addA (varD 8) (cst (.int 1))))
  (setS 9 (addA (varD 9) (call1 sumS (lcM [11] (itsA (asD (callM [none] (argsC (varD 10) args0) m__law_terms))) (nameB 11) allT (call1 lenS (asD (callM [none] (argsC (varD 11) args0) m__law_parts))))))))))
  (retD (asD (callM [none, none] (argsC (asD (callM [none] (argsC (varD 0) args0) m_size_of_unit)) (argsC (tupM (argsC (call1 lenS (plc 3)) (argsC (varD 8) (argsC (varD 9) args0)))) args0)) (m__law_is 12)))))))))))))
noncomputable def m__law_is_right : MF := bodyF np__law_is_right 12 s__law_is_right
/-! _law_all -/
def N__law_all : List Str := ["script", "hand", "turn", "program", "cells", "unit", "name", "given", "size", "here", "again", "bad", "block", "due"]
def np__law_all : Nat → Bool := fun i => ([] : List Nat).contains i
noncomputable def s__law_all : MS := (seqS (setO 1 (callM [none] (argsC (varD 0) args0) m__law_hand))
  (seqS (forM (rng1 (argsC (cst (.int 4)) args0)) (nameB 2) (seqS (setS 3 (asD (callM [some 1, none, none] (hasS 1 (argsC (addA (cst (.int 1)) (asD (callM [some 1, none] (hasS 1 (argsC (cst (.int 2)) args0)) m__law_draw))) (argsC (op2 eqS (asD (callM [some 1, none] (hasS 1 (argsC (cst (.int 2)) args0)) m__law_draw)) (cst (.int 0))) args0))) m__law_program)))
  (seqS (iteS (tst (op2 isNotS' (asD (callM [none] (argsC (varD 3) args0) m_is_program)) (cst (.bool true)))) (retD (cst (.bool false))) nxt)
  (seqS (setO 4 (dictT (callM [none] (argsC (varD 3) args0) m_all_cells)))
  (seqS (forM (itsA (op2 getS (varD 3) (cst (.int 1)))) (nameB 5) (seqS (iteS (orT (notT (tst (asD (callM [none] (argsC (varD 5) args0) m__law_is_right)))) (tst (op2 neS (asD (callM [none] (argsC (varD 5) args0) m_faults)) (tupM args0)))) (retD (cst (.bool false))) nxt)
  (seqS (iteS (tst (call1 anyS (lcM [6, 7] (itsA (asD (callM [none] (argsC (varD 5) args0) m_outer_calls))) (tupT [(nameB 6), (nameB 7)]) allT (op2 isS' (asD (callM [none, none] (argsC (varD 3) (argsC (varD 6) args0)) m_home)) (cst .none))))) (retD (cst (.bool false))) nxt)
  (seqS (iteS (tst (call1 anyS (lcM [6, 8] (itsA (op2 getS (varD 5) (cst (.int 2)))) (tupT [(nameB 6), (nameB 8)]) allT (op2 neS (dget 4 (varD 6)) (varD 8))))) (retD (cst (.bool false))) nxt)
  (seqS (setS 9 (varD 5))
  (forM (rng1 (argsC (cst (.int 3)) args0)) (nameB 10) (seqS (setS 9 (asD (callM [some 1, none] (hasS 1 (argsC (varD 9) args0)) m__law_bent)))
  (iteS (notT (tst (asD (callM [none] (argsC (varD 9) args0) m__law_is_right)))) (retD (cst (.bool false))) nxt))))))))
  (seqS (setS 11 (asD (callM [some 1, none] (hasS 1 (argsC (lstM (linM (argsC (cst .none) (argsC (tupM args0) (argsC (tupM (argsC (cst (.str "one")) (argsC (tupM args0) (argsC (tupM args0) args0)))) (argsC (lstM (linM (argsC (cst (.str "one")) (argsC (tupM args0) (argsC (tupM args0) (argsC (tupM args0) args0)))))) (argsC (tupM (argsC (cst (.str "One")) (argsC (tupM args0) (argsC (tupM args0) (argsC (tupM args0) args0))))) (argsC (cst (.int 0)) (argsC (cst (.dict [])) (argsC (cst (.str "unit")) args0)))))))))) args0)) m__law_any)))
  (iteS (orT (tst (op2 isNotS' (asD (callM [none] (argsC (varD 11) args0) m_is_shape)) (cst (.bool false)))) (orT (tst (op2 isNotS' (asD (callM [none] (argsC (varD 11) args0) m_is_unit)) (cst (.bool false)))) (notT (tst (refM rf__law_is_refused (asD (callM [none] (argsC (varD 11) args0) m_faults))))))) (retD (cst (.bool false))) nxt)))))))
  (seqS (setS 12 (tupM (argsC (tupM (argsC (cst (.str "set")) (argsC (cst (.int 1)) (argsC (tupM (argsC (cst (.str "cell")) (argsC (cst (.str "u")) args0))) args0)))) (argsC (tupM (argsC (cst (.str "call")) (argsC (cst (.int 0)) (argsC (cst (.str "main")) (argsC (tupM (argsC (tupM (argsC (cst (.str "word")) (argsC (cst (.int 1)) args0))) args0)) args0))))) args0))))
  (seqS (setS 5 (tupM (argsC (cst (.str "one")) (argsC (tupM (argsC (tupM (argsC (cst (.str "u")) (argsC (tupM (argsC (cst (.int 1)) (argsC (cst (.int 2)) args0))) args0))) args0)) (argsC (tupM args0) (argsC (tupM (argsC (tupM (argsC (cst (.str "main")) (argsC (cst (.int 0)) (argsC (cst (.int 1)) (argsC (varD 12) args0))))) args0)) args0))))))
  (seqS (setS 13 (tupM (argsC (tupM (argsC (cst (.str "local")) (argsC (cst (.str "main")) (argsC (cst (.int 1)) args0)))) (argsC (tupM (argsC (cst (.str "size")) (argsC (cst (.str "main")) (argsC (cst (.str "u")) args0)))) (argsC (tupM (argsC (cst (.str "arguments")) (argsC (cst (.str "main")) (argsC (cst (.str "main")) args0)))) args0)))))
  (retD (andV (asD (callM [none, none] (argsC (asD (callM [none] (argsC (varD 5) args0) m_faults)) (argsC (varD 13) args0)) (m__law_is 12))) (refM rf__law_is_refused (asD (callM [none] (argsC (cst .none) args0) m_size_of_unit))))))))))
noncomputable def m__law_all : MF := bodyF np__law_all 14 s__law_all
/-! law -/
def N_law : List Str := ["script"]
def np_law : Nat → Bool := fun i => ([0] : List Nat).contains i
noncomputable def s_law : MS := (tryS (retD (asD (callM [none] (argsC (frzV 0) args0) m__law_all))))
noncomputable def m_law : MF := bodyF np_law 1 s_law
section
variable {P : Program} {w : World} {K : PySem.W.Frag} {mg : Str → Option Value} {base : Heap}
theorem Gs.mk_BadProgram {X : Cx} {p pos : Pos} (G : Gs X.prog X.w X.K X.mg X.base) (hg : Gl X "BadProgram" := by rfl) : PMk X (.Call (.Name "BadProgram" p) [] [] pos) (fun _ H Q => Q (.ref (He.ga X.K "BadProgram")) none H) := G.x_BadProgram.pmk hg (by decide)
theorem Gs.mk_BadUnit {X : Cx} {p pos : Pos} (G : Gs X.prog X.w X.K X.mg X.base) (hg : Gl X "BadUnit" := by rfl) : PMk X (.Call (.Name "BadUnit" p) [] [] pos) (fun _ H Q => Q (.ref (He.ga X.K "BadUnit")) none H) := G.x_BadUnit.pmk hg (by decide)
theorem sc__law_is_refused : FnScope N__law_is_refused ["call"] (defScope (top 87)) := ⟨rfl, rfl, rfl, by decide +kernel, rfl, by decide +kernel, by decide +kernel⟩
theorem sc_is_integer : FnScope N_is_integer ["thing"] (defScope (top 1)) := ⟨rfl, rfl, rfl, by decide +kernel, rfl, by decide +kernel, by decide +kernel⟩
theorem ok_is_integer (G : Gs P w K mg base) : FnAt P w K mg base "is_integer" ["thing"] 2 1 m_is_integer := by
  obtain ⟨fd, F, g⟩ := G.fn ("is_integer", 1) (mem_ix 0 rfl)
  refine ⟨_, fd, g, F.kp, F.bindsN fun _ _ _ _ _ _ us hl => match us, hl with | [_], _ => rfl, funD_lk F, fn_body (np := np_is_integer) (ms := s_is_integer) F sc_is_integer rfl rfl fun cdv A outer s H E hr tk => ?_⟩
  have hu := room100 hr
  have hu1 := room1 hr
  have nd := sc_is_integer.nd
  exact (sim_one1 (sim_ret (sim_andV (sim_isa (by decide +kernel) rfl (G.fr "isinstance" (mem_ix 8 rfl)) rfl (G.fr "int" (mem_ix 7 rfl)) (by decide +kernel) (sim_var 0)) (sim_one (sim_notV (sim_isa (by decide +kernel) rfl (G.fr "isinstance" (mem_ix 8 rfl)) rfl (G.fr "bool" (mem_ix 4 rfl)) (by decide +kernel) (sim_var 0)))))))
theorem sc_is_within : FnScope N_is_within ["thing", "low", "high"] (defScope (top 2)) := ⟨rfl, rfl, rfl, by decide +kernel, rfl, by decide +kernel, by decide +kernel⟩
theorem ok_is_within (G : Gs P w K mg base) : FnAt P w K mg base "is_within" ["thing", "low", "high"] 3 3 m_is_within := by
  obtain ⟨fd, F, g⟩ := G.fn ("is_within", 2) (mem_ix 1 rfl)
  refine ⟨_, fd, g, F.kp, F.bindsN fun _ _ _ _ _ _ us hl => match us, hl with | [_, _, _], _ => rfl, funD_lk F, fn_body (np := np_is_within) (ms := s_is_within) F sc_is_within rfl rfl fun cdv A outer s H E hr tk => ?_⟩
  have hu := room100 hr
  have hu1 := room1 hr
  have nd := sc_is_within.nd
  exact (sim_one1 (sim_ret (sim_andV (sim_asD (sim_fnO (ok_is_integer G) (by decide) hr (.inl tk) (sim_cad (sim_var 0) sim_ca0) rfl (by decide))) (sim_one (sim_chn (o2_le hu) (o2_le hu) (sim_var 1) (sim_var 0) (sim_b (sim_var 2)))))))
theorem sc_is_tuple_of : FnScope N_is_tuple_of ["thing", "many"] (defScope (top 3)) := ⟨rfl, rfl, rfl, by decide +kernel, rfl, by decide +kernel, by decide +kernel⟩
theorem ok_is_tuple_of (G : Gs P w K mg base) : FnAt P w K mg base "is_tuple_of" ["thing", "many"] 2 2 m_is_tuple_of := by
  obtain ⟨fd, F, g⟩ := G.fn ("is_tuple_of", 3) (mem_ix 2 rfl)
  refine ⟨_, fd, g, F.kp, F.bindsN fun _ _ _ _ _ _ us hl => match us, hl with | [_, _], _ => rfl, funD_lk F, fn_body (np := np_is_tuple_of) (ms := s_is_tuple_of) F sc_is_tuple_of rfl rfl fun cdv A outer s H E hr tk => ?_⟩
  have hu := room100 hr
  have hu1 := room1 hr
  have nd := sc_is_tuple_of.nd
  exact (sim_one1 (sim_ret (sim_andV (sim_isa (by decide +kernel) rfl (G.fr "isinstance" (mem_ix 8 rfl)) rfl (G.fr "tuple" (mem_ix 18 rfl)) (by decide +kernel) (sim_var 0)) (sim_one (sim_cmp (o2_eq hu) (sim_call1 cl_len rfl (G.fr "len" (mem_ix 9 rfl)) (by decide +kernel) (sim_b (sim_var 0))) (sim_b (sim_var 1)) (nobehind _ (by decide) (by decide)))))))
theorem sc_are_within : FnScope N_are_within ["thing", "low", "high"] (defScope (top 4)) := ⟨rfl, rfl, rfl, by decide +kernel, rfl, by decide +kernel, by decide +kernel⟩
theorem ok_are_within (G : Gs P w K mg base) : FnAt P w K mg base "are_within" ["thing", "low", "high"] 4 3 m_are_within := by
  obtain ⟨fd, F, g⟩ := G.fn ("are_within", 4) (mem_ix 3 rfl)
  refine ⟨_, fd, g, F.kp, F.bindsN fun _ _ _ _ _ _ us hl => match us, hl with | [_, _, _], _ => rfl, funD_lk F, fn_body (np := np_are_within) (ms := s_are_within) F sc_are_within rfl rfl fun cdv A outer s H E hr tk => ?_⟩
  have hu := room100 hr
  have hu1 := room1 hr
  have nd := sc_are_within.nd
  exact (sim_one1 (sim_ret (sim_andV (sim_isa (by decide +kernel) rfl (G.fr "isinstance" (mem_ix 8 rfl)) rfl (G.fr "tuple" (mem_ix 18 rfl)) (by decide +kernel) (sim_var 0)) (sim_one (sim_call1 (cl_all rfl) rfl (G.fr "all" (mem_ix 2 rfl)) (by decide +kernel) (sim_b (sim_lc (own := [("one", 3)]) rfl nd (sim_itA (sim_var 0)) (blkOk_by (N := N_are_within) (sc := defScope (top 4)) (by decide +kernel)) (fun _ _ _ _ _ => (sim_gname rfl nd rfl (by first | exact Or.inl rfl | exact Or.inr rfl))) (fun _ _ _ _ _ => sim_pts0) (fun _ _ _ _ _ => (sim_asD (sim_fnO (ok_is_within G) (by decide) hr (.inr passNo) (sim_cad (sim_var 3) (sim_cad (sim_var 1) (sim_cad (sim_var 2) sim_ca0))) rfl (by decide)))))))))))
theorem sc_is_name : FnScope N_is_name ["thing"] (defScope (top 5)) := ⟨rfl, rfl, rfl, by decide +kernel, rfl, by decide +kernel, by decide +kernel⟩
theorem ok_is_name (G : Gs P w K mg base) : FnAt P w K mg base "is_name" ["thing"] 2 1 m_is_name := by
  obtain ⟨fd, F, g⟩ := G.fn ("is_name", 5) (mem_ix 4 rfl)
  refine ⟨_, fd, g, F.kp, F.bindsN fun _ _ _ _ _ _ us hl => match us, hl with | [_], _ => rfl, funD_lk F, fn_body (np := np_is_name) (ms := s_is_name) F sc_is_name rfl rfl fun cdv A outer s H E hr tk => ?_⟩
  have hu := room100 hr
  have hu1 := room1 hr
  have nd := sc_is_name.nd
  exact (sim_seq (sim_if (PW.pt (sim_tor (sim_tnot (sim_t (sim_isa (by decide +kernel) rfl (G.fr "isinstance" (mem_ix 8 rfl)) rfl (G.fr "str" (mem_ix 16 rfl)) (by decide +kernel) (sim_var 0)))) (sim_tor1 (sim_tnot (sim_tchn (o2_le hu) (o2_le hu) sim_int (sim_call1 cl_len rfl (G.fr "len" (mem_ix 9 rfl)) (by decide +kernel) (sim_b (sim_var 0))) (sim_b sim_int)))))) (sim_one1 (sim_ret sim_bl)) sim_nil)
  (sim_one1 (sim_ret (sim_call1 (cl_all rfl) rfl (G.fr "all" (mem_ix 2 rfl)) (by decide +kernel) (sim_b (sim_lc (own := [("sign", 1)]) rfl nd (sim_itA (sim_var 0)) (blkOk_by (N := N_is_name) (sc := defScope (top 5)) (by decide +kernel)) (fun _ _ _ _ _ => (sim_gname rfl nd rfl (by first | exact Or.inl rfl | exact Or.inr rfl))) (fun _ _ _ _ _ => sim_pts0) (fun _ _ _ _ _ => (sim_cmp (o2_in hu) (sim_var 1) (sim_b sim_str) rfl))))))))
theorem sc_sized : FnScope N_sized ["width"] (defScope (top 15)) := ⟨rfl, rfl, rfl, by decide +kernel, rfl, by decide +kernel, by decide +kernel⟩
theorem ok_sized (G : Gs P w K mg base) : FnAt P w K mg base "sized" ["width"] 2 1 m_sized := by
  obtain ⟨fd, F, g⟩ := G.fn ("sized", 15) (mem_ix 5 rfl)
  refine ⟨_, fd, g, F.kp, F.bindsN fun _ _ _ _ _ _ us hl => match us, hl with | [_], _ => rfl, funD_lk F, fn_body (np := np_sized) (ms := s_sized) F sc_sized rfl rfl fun cdv A outer s H E hr tk => ?_⟩
  have hu := room100 hr
  have hu1 := room1 hr
  have nd := sc_sized.nd
  exact (sim_one1 (sim_ret (sim_bin o2_shl sim_int (sim_b (sim_var 0)))))
theorem sc_is_deed : FnScope N_is_deed ["thing"] (defScope (top 16)) := ⟨rfl, rfl, rfl, by decide +kernel, rfl, by decide +kernel, by decide +kernel⟩
theorem ok_is_deed (G : Gs P w K mg base) : FnAt P w K mg base "is_deed" ["thing"] 2 1 m_is_deed := by
  obtain ⟨fd, F, g⟩ := G.fn ("is_deed", 16) (mem_ix 6 rfl)
  refine ⟨_, fd, g, F.kp, F.bindsN fun _ _ _ _ _ _ us hl => match us, hl with | [_], _ => rfl, funD_lk F, fn_body (np := np_is_deed) (ms := s_is_deed) F sc_is_deed rfl rfl fun cdv A outer s H E hr tk => ?_⟩
  have hu := room100 hr
  have hu1 := room1 hr
  have nd := sc_is_deed.nd
  exact (sim_one1 (sim_ret (sim_andV (sim_isa (by decide +kernel) rfl (G.fr "isinstance" (mem_ix 8 rfl)) rfl (G.fr "str" (mem_ix 16 rfl)) (by decide +kernel) (sim_var 0)) (sim_one (sim_cmp (o2_in hu) (sim_var 0) (sim_b (sim_gtupC rfl G.t_DEEDS)) rfl)))))
theorem sc_parts_of : FnScope N_parts_of ["here"] (defScope (top 27)) := ⟨rfl, rfl, rfl, by decide +kernel, rfl, by decide +kernel, by decide +kernel⟩
theorem ok_parts_of (G : Gs P w K mg base) : FnAt P w K mg base "parts_of" ["here"] 4 1 m_parts_of := by
  obtain ⟨fd, F, g⟩ := G.fn ("parts_of", 27) (mem_ix 8 rfl)
  refine ⟨_, fd, g, F.kp, F.bindsN fun _ _ _ _ _ _ us hl => match us, hl with | [_], _ => rfl, funD_lk F, fn_body (np := np_parts_of) (ms := s_parts_of) F sc_parts_of rfl rfl fun cdv A outer s H E hr tk => ?_⟩
  have hu := room100 hr
  have hu1 := room1 hr
  have nd := sc_parts_of.nd
  exact (sim_seq (sim_set rfl nd rfl (by first | exact Or.inl rfl | exact Or.inr rfl) (sim_ix i2_get (sim_var 0) (sim_b sim_int) (fun _ _ => rfl)))
  (sim_seq (sim_if (sim_tcmp (o2_eq hu) (sim_var 1) (sim_b sim_str) (nobehind _ (by decide) (by decide))) (sim_one1 (sim_ret (sim_ifV (PW.pt (sim_tand (sim_tcmp (o2_eq hu) (sim_call1 cl_len rfl (G.fr "len" (mem_ix 9 rfl)) (by decide +kernel) (sim_b (sim_var 0))) (sim_b sim_int) (nobehind _ (by decide) (by decide))) (sim_tand1 (sim_t (sim_asD (sim_fnO (ok_is_within G) (by decide) hr (.inl tk) (sim_cad (sim_ix i2_get (sim_var 0) (sim_b sim_int) (fun _ _ => rfl)) (sim_cad sim_int (sim_cad (sim_gint rfl (G.gInts ("MOST_WRITTEN", 15) (mem_ix 1 rfl))) sim_ca0))) rfl (by decide))))))) (sim_nF (sim_lstN sim_pa0)) sim_non))) sim_nil)
  (sim_seq (sim_if (sim_tcmp (o2_eq hu) (sim_var 1) (sim_b sim_str) (nobehind _ (by decide) (by decide))) (sim_one1 (sim_ret (sim_ifV (PW.pt (sim_tand (sim_tcmp (o2_eq hu) (sim_call1 cl_len rfl (G.fr "len" (mem_ix 9 rfl)) (by decide +kernel) (sim_b (sim_var 0))) (sim_b sim_int) (nobehind _ (by decide) (by decide))) (sim_tand1 (sim_t (sim_asD (sim_fnO (ok_is_within G) (by decide) hr (.inl tk) (sim_cad (sim_ix i2_get (sim_var 0) (sim_b sim_int) (fun _ _ => rfl)) (sim_cad sim_int (sim_cad (sim_bin o2_sub (sim_gint rfl (G.gInts ("MOST_LOCALS", 4) (mem_ix 2 rfl))) (sim_b sim_int)) sim_ca0))) rfl (by decide))))))) (sim_nF (sim_lstN sim_pa0)) sim_non))) sim_nil)
  (sim_seq (sim_if (sim_tcmp (o2_eq hu) (sim_var 1) (sim_b sim_str) (nobehind _ (by decide) (by decide))) (sim_one1 (sim_ret (sim_ifV (PW.pt (sim_tand (sim_tcmp (o2_eq hu) (sim_call1 cl_len rfl (G.fr "len" (mem_ix 9 rfl)) (by decide +kernel) (sim_b (sim_var 0))) (sim_b sim_int) (nobehind _ (by decide) (by decide))) (sim_tand1 (sim_t (sim_asD (sim_fnO (ok_is_name G) (by decide) hr (.inl tk) (sim_cad (sim_ix i2_get (sim_var 0) (sim_b sim_int) (fun _ _ => rfl)) sim_ca0) rfl (by decide))))))) (sim_nF (sim_lstN sim_pa0)) sim_non))) sim_nil)
  (sim_seq (sim_if (sim_tcmp (o2_eq hu) (sim_var 1) (sim_b sim_str) (nobehind _ (by decide) (by decide))) (sim_one1 (sim_ret (sim_ifV (PW.pt (sim_tand (sim_tcmp (o2_eq hu) (sim_call1 cl_len rfl (G.fr "len" (mem_ix 9 rfl)) (by decide +kernel) (sim_b (sim_var 0))) (sim_b sim_int) (nobehind _ (by decide) (by decide))) (sim_tand1 (sim_t (sim_asD (sim_fnO (ok_is_name G) (by decide) hr (.inl tk) (sim_cad (sim_ix i2_get (sim_var 0) (sim_b sim_int) (fun _ _ => rfl)) sim_ca0) rfl (by decide))))))) (sim_nF (sim_lstN (sim_pa (sim_ix i2_get (sim_var 0) (sim_b sim_int) (fun _ _ => rfl)) sim_pa0))) sim_non))) sim_nil)
  (sim_seq (sim_if (sim_tcmp (o2_eq hu) (sim_var 1) (sim_b sim_str) (nobehind _ (by decide) (by decide))) (sim_one1 (sim_ret (sim_ifV (sim_tcmp (o2_eq hu) (sim_call1 cl_len rfl (G.fr "len" (mem_ix 9 rfl)) (by decide +kernel) (sim_b (sim_var 0))) (sim_b sim_int) (nobehind _ (by decide) (by decide))) (sim_nF (sim_lstN (sim_pa (sim_ix i2_get (sim_var 0) (sim_b sim_int) (fun _ _ => rfl)) sim_pa0))) sim_non))) sim_nil)
  (sim_one1 (sim_ret (sim_ifV (PW.pt (sim_tand (sim_t (sim_asD (sim_fnO (ok_is_deed G) (by decide) hr (.inl tk) (sim_cad (sim_var 1) sim_ca0) rfl (by decide)))) (sim_tand1 (sim_tcmp (o2_eq hu) (sim_call1 cl_len rfl (G.fr "len" (mem_ix 9 rfl)) (by decide +kernel) (sim_b (sim_var 0))) (sim_b sim_int) (nobehind _ (by decide) (by decide)))))) (sim_nF (sim_lstN (sim_pa (sim_ix i2_get (sim_var 0) (sim_b sim_int) (fun _ _ => rfl)) (sim_pa (sim_ix i2_get (sim_var 0) (sim_b sim_int) (fun _ _ => rfl)) sim_pa0)))) sim_non)))))))))
theorem sc_is_expression : FnScope N_is_expression ["thing"] (defScope (top 26)) := ⟨rfl, rfl, rfl, by decide +kernel, rfl, by decide +kernel, by decide +kernel⟩
theorem ok_is_expression (G : Gs P w K mg base) : FnAt P w K mg base "is_expression" ["thing"] 5 1 m_is_expression := by
  obtain ⟨fd, F, g⟩ := G.fn ("is_expression", 26) (mem_ix 7 rfl)
  refine ⟨_, fd, g, F.kp, F.bindsN fun _ _ _ _ _ _ us hl => match us, hl with | [_], _ => rfl, funD_lk F, fn_body (np := np_is_expression) (ms := s_is_expression) F sc_is_expression rfl rfl fun cdv A outer s H E hr tk => ?_⟩
  have hu := room100 hr
  have hu1 := room1 hr
  have nd := sc_is_expression.nd
  exact (sim_seq (sim_par2 (by decide) rfl nd rfl rfl (by decide) rfl rfl (sim_pao (sim_nO (sim_lstN (sim_pa (sim_tup (sim_pa (sim_var 0) (sim_pa sim_int sim_pa0))) sim_pa0))) (sim_pao (sim_asO sim_int) sim_pao0)) rfl)
  (sim_seq (sim_while (passes_of rfl) (sim_tcmpp 1 (o2_ne hu) (sim_b (sim_nF (sim_lstN sim_pa0))) (nobehind _ (by decide) (by decide))) (sim_seq (sim_asg (sim_lm0 1 lop_pop PySem.F.slot_list_pop PySem.F.type_list_pop mt_pop) (sim_gtup rfl (sim_gs (sim_gname rfl nd rfl (by first | exact Or.inl rfl | exact Or.inr rfl)) (sim_gs (sim_gname rfl nd rfl (by first | exact Or.inl rfl | exact Or.inr rfl)) sim_gs0)) rfl))
  (sim_seq (sim_set rfl nd rfl (by first | exact Or.inl rfl | exact Or.inr rfl) (sim_addA (sim_var 2) (sim_b sim_int)))
  (sim_seq (sim_if (PW.pt (sim_tor (sim_tcmp (o2_gt hu) (sim_var 2) (sim_b (sim_gint rfl (G.gInts ("MOST_PARTS", 400) (mem_ix 6 rfl)))) (nobehind _ (by decide) (by decide))) (sim_tor (sim_tcmp (o2_gt hu) (sim_var 4) (sim_b (sim_gint rfl (G.gInts ("MOST_DEEP", 10) (mem_ix 5 rfl)))) (nobehind _ (by decide) (by decide))) (sim_tor (sim_tnot (sim_t (sim_isa (by decide +kernel) rfl (G.fr "isinstance" (mem_ix 8 rfl)) rfl (G.fr "tuple" (mem_ix 18 rfl)) (by decide +kernel) (sim_var 3)))) (sim_tor1 (sim_tcmp (o2_eq hu) (sim_var 3) (sim_b (sim_gtupC rfl G.t_EMPTY)) (nobehind _ (by decide) (by decide)))))))) (sim_one1 (sim_ret sim_bl)) sim_nil)
  (sim_seq (sim_if (sim_tnot (sim_t (sim_isa (by decide +kernel) rfl (G.fr "isinstance" (mem_ix 8 rfl)) rfl (G.fr "str" (mem_ix 16 rfl)) (by decide +kernel) (sim_ix i2_get (sim_var 3) (sim_b sim_int) (fun _ _ => rfl))))) (sim_one1 (sim_ret sim_bl)) sim_nil)
  (sim_seq (sim_set rfl nd rfl (by first | exact Or.inl rfl | exact Or.inr rfl) (sim_asD (sim_fnO (ok_parts_of G) (by decide) hr (.inl tk) (sim_cad (sim_var 3) sim_ca0) rfl (by decide))))
  (sim_seq (sim_if (sim_tcmp o2_is' (sim_var 5) (sim_b sim_non) (nobehind _ (by decide) (by decide))) (sim_one1 (sim_ret sim_bl)) sim_nil)
  (sim_one1 (sim_drop (sim_lm 1 lop_ext PySem.F.slot_list_extend PySem.F.type_list_extend mt_extF (sim_pa (sim_lc (own := [("one", 6)]) rfl nd (sim_itA (sim_var 5)) (blkOk_by (N := N_is_expression) (sc := defScope (top 26)) (by decide +kernel)) (fun _ _ _ _ _ => (sim_gname rfl nd rfl (by first | exact Or.inl rfl | exact Or.inr rfl))) (fun _ _ _ _ _ => sim_pts0) (fun _ _ _ _ _ => (sim_tup (sim_pa (sim_var 6) (sim_pa (sim_addA (sim_var 4) (sim_b sim_int)) sim_pa0))))) sim_pa0)))))))))))
  (sim_one1 (sim_ret sim_bl))))
theorem sc_is_local : FnScope N_is_local ["thing"] (defScope (top 29)) := ⟨rfl, rfl, rfl, by decide +kernel, rfl, by decide +kernel, by decide +kernel⟩
theorem ok_is_local (G : Gs P w K mg base) : FnAt P w K mg base "is_local" ["thing"] 4 1 m_is_local := by
  obtain ⟨fd, F, g⟩ := G.fn ("is_local", 29) (mem_ix 10 rfl)
  refine ⟨_, fd, g, F.kp, F.bindsN fun _ _ _ _ _ _ us hl => match us, hl with | [_], _ => rfl, funD_lk F, fn_body (np := np_is_local) (ms := s_is_local) F sc_is_local rfl rfl fun cdv A outer s H E hr tk => ?_⟩
  have hu := room100 hr
  have hu1 := room1 hr
  have nd := sc_is_local.nd
  exact (sim_one1 (sim_ret (sim_asD (sim_fnO (ok_is_within G) (by decide) hr (.inl tk) (sim_cad (sim_var 0) (sim_cad sim_int (sim_cad (sim_bin o2_sub (sim_gint rfl (G.gInts ("MOST_LOCALS", 4) (mem_ix 2 rfl))) (sim_b sim_int)) sim_ca0))) rfl (by decide)))))
theorem sc_are_expressions : FnScope N_are_expressions ["thing"] (defScope (top 30)) := ⟨rfl, rfl, rfl, by decide +kernel, rfl, by decide +kernel, by decide +kernel⟩
theorem ok_are_expressions (G : Gs P w K mg base) : FnAt P w K mg base "are_expressions" ["thing"] 6 1 m_are_expressions := by
  obtain ⟨fd, F, g⟩ := G.fn ("are_expressions", 30) (mem_ix 11 rfl)
  refine ⟨_, fd, g, F.kp, F.bindsN fun _ _ _ _ _ _ us hl => match us, hl with | [_], _ => rfl, funD_lk F, fn_body (np := np_are_expressions) (ms := s_are_expressions) F sc_are_expressions rfl rfl fun cdv A outer s H E hr tk => ?_⟩
  have hu := room100 hr
  have hu1 := room1 hr
  have nd := sc_are_expressions.nd
  exact (sim_one1 (sim_ret (sim_andV (sim_isa (by decide +kernel) rfl (G.fr "isinstance" (mem_ix 8 rfl)) rfl (G.fr "tuple" (mem_ix 18 rfl)) (by decide +kernel) (sim_var 0)) (sim_andV (sim_cmp (o2_le hu) (sim_call1 cl_len rfl (G.fr "len" (mem_ix 9 rfl)) (by decide +kernel) (sim_b (sim_var 0))) (sim_b (sim_gint rfl (G.gInts ("MOST_PARAMS", 3) (mem_ix 3 rfl)))) (nobehind _ (by decide) (by decide))) (sim_one (sim_call1 (cl_all rfl) rfl (G.fr "all" (mem_ix 2 rfl)) (by decide +kernel) (sim_b (sim_lc (own := [("one", 1)]) rfl nd (sim_itA (sim_var 0)) (blkOk_by (N := N_are_expressions) (sc := defScope (top 30)) (by decide +kernel)) (fun _ _ _ _ _ => (sim_gname rfl nd rfl (by first | exact Or.inl rfl | exact Or.inr rfl))) (fun _ _ _ _ _ => sim_pts0) (fun _ _ _ _ _ => (sim_asD (sim_fnO (ok_is_expression G) (by decide) hr (.inr passNo) (sim_cad (sim_var 1) sim_ca0) rfl (by decide))))))))))))
theorem sc_is_statement : FnScope N_is_statement ["thing"] (defScope (top 28)) := ⟨rfl, rfl, rfl, by decide +kernel, rfl, by decide +kernel, by decide +kernel⟩
theorem ok_is_statement (G : Gs P w K mg base) : FnAt P w K mg base "is_statement" ["thing"] 7 1 m_is_statement := by
  obtain ⟨fd, F, g⟩ := G.fn ("is_statement", 28) (mem_ix 9 rfl)
  refine ⟨_, fd, g, F.kp, F.bindsN fun _ _ _ _ _ _ us hl => match us, hl with | [_], _ => rfl, funD_lk F, fn_body (np := np_is_statement) (ms := s_is_statement) F sc_is_statement rfl rfl fun cdv A outer s H E hr tk => ?_⟩
  have hu := room100 hr
  have hu1 := room1 hr
  have nd := sc_is_statement.nd
  exact (sim_seq (sim_if (PW.pt (sim_tor (sim_tnot (sim_t (sim_isa (by decide +kernel) rfl (G.fr "isinstance" (mem_ix 8 rfl)) rfl (G.fr "tuple" (mem_ix 18 rfl)) (by decide +kernel) (sim_var 0)))) (sim_tor (sim_tcmp (o2_eq hu) (sim_var 0) (sim_b (sim_gtupC rfl G.t_EMPTY)) (nobehind _ (by decide) (by decide))) (sim_tor1 (sim_tnot (sim_t (sim_isa (by decide +kernel) rfl (G.fr "isinstance" (mem_ix 8 rfl)) rfl (G.fr "str" (mem_ix 16 rfl)) (by decide +kernel) (sim_ix i2_get (sim_var 0) (sim_b sim_int) (fun _ _ => rfl))))))))) (sim_one1 (sim_ret sim_bl)) sim_nil)
  (sim_seq (sim_set rfl nd rfl (by first | exact Or.inl rfl | exact Or.inr rfl) (sim_ix i2_get (sim_var 0) (sim_b sim_int) (fun _ _ => rfl)))
  (sim_seq (sim_if (sim_tcmp (o2_eq hu) (sim_var 1) (sim_b sim_str) (nobehind _ (by decide) (by decide))) (sim_one1 (sim_ret (sim_andV (sim_cmp (o2_eq hu) (sim_call1 cl_len rfl (G.fr "len" (mem_ix 9 rfl)) (by decide +kernel) (sim_b (sim_var 0))) (sim_b sim_int) (nobehind _ (by decide) (by decide))) (sim_andV (sim_asD (sim_fnO (ok_is_local G) (by decide) hr (.inl tk) (sim_cad (sim_ix i2_get (sim_var 0) (sim_b sim_int) (fun _ _ => rfl)) sim_ca0) rfl (by decide))) (sim_one (sim_asD (sim_fnO (ok_is_expression G) (by decide) hr (.inl tk) (sim_cad (sim_ix i2_get (sim_var 0) (sim_b sim_int) (fun _ _ => rfl)) sim_ca0) rfl (by decide)))))))) sim_nil)
  (sim_seq (sim_if (sim_tcmp (o2_eq hu) (sim_var 1) (sim_b sim_str) (nobehind _ (by decide) (by decide))) (sim_one1 (sim_ret (sim_andV (sim_cmp (o2_eq hu) (sim_call1 cl_len rfl (G.fr "len" (mem_ix 9 rfl)) (by decide +kernel) (sim_b (sim_var 0))) (sim_b sim_int) (nobehind _ (by decide) (by decide))) (sim_andV (sim_asD (sim_fnO (ok_is_name G) (by decide) hr (.inl tk) (sim_cad (sim_ix i2_get (sim_var 0) (sim_b sim_int) (fun _ _ => rfl)) sim_ca0) rfl (by decide))) (sim_one (sim_asD (sim_fnO (ok_is_expression G) (by decide) hr (.inl tk) (sim_cad (sim_ix i2_get (sim_var 0) (sim_b sim_int) (fun _ _ => rfl)) sim_ca0) rfl (by decide)))))))) sim_nil)
  (sim_seq (sim_if (sim_tcmp (o2_eq hu) (sim_var 1) (sim_b sim_str) (nobehind _ (by decide) (by decide))) (sim_one1 (sim_ret (sim_andV (sim_cmp (o2_eq hu) (sim_call1 cl_len rfl (G.fr "len" (mem_ix 9 rfl)) (by decide +kernel) (sim_b (sim_var 0))) (sim_b sim_int) (nobehind _ (by decide) (by decide))) (sim_andV (sim_asD (sim_fnO (ok_is_name G) (by decide) hr (.inl tk) (sim_cad (sim_ix i2_get (sim_var 0) (sim_b sim_int) (fun _ _ => rfl)) sim_ca0) rfl (by decide))) (sim_andV (sim_asD (sim_fnO (ok_is_expression G) (by decide) hr (.inl tk) (sim_cad (sim_ix i2_get (sim_var 0) (sim_b sim_int) (fun _ _ => rfl)) sim_ca0) rfl (by decide))) (sim_one (sim_asD (sim_fnO (ok_is_expression G) (by decide) hr (.inl tk) (sim_cad (sim_ix i2_get (sim_var 0) (sim_b sim_int) (fun _ _ => rfl)) sim_ca0) rfl (by decide))))))))) sim_nil)
  (sim_seq (sim_if (sim_tcmp (o2_eq hu) (sim_var 1) (sim_b sim_str) (nobehind _ (by decide) (by decide))) (sim_one1 (sim_ret (sim_andV (sim_cmp (o2_eq hu) (sim_call1 cl_len rfl (G.fr "len" (mem_ix 9 rfl)) (by decide +kernel) (sim_b (sim_var 0))) (sim_b sim_int) (nobehind _ (by decide) (by decide))) (sim_one (sim_asD (sim_fnO (ok_is_expression G) (by decide) hr (.inl tk) (sim_cad (sim_ix i2_get (sim_var 0) (sim_b sim_int) (fun _ _ => rfl)) sim_ca0) rfl (by decide))))))) sim_nil)
  (sim_seq (sim_if (sim_tcmp (o2_eq hu) (sim_var 1) (sim_b sim_str) (nobehind _ (by decide) (by decide))) (sim_one1 (sim_ret (sim_andV (sim_cmp (o2_eq hu) (sim_call1 cl_len rfl (G.fr "len" (mem_ix 9 rfl)) (by decide +kernel) (sim_b (sim_var 0))) (sim_b sim_int) (nobehind _ (by decide) (by decide))) (sim_one (sim_asD (sim_fnO (ok_is_expression G) (by decide) hr (.inl tk) (sim_cad (sim_ix i2_get (sim_var 0) (sim_b sim_int) (fun _ _ => rfl)) sim_ca0) rfl (by decide))))))) sim_nil)
  (sim_seq (sim_if (sim_tcmp (o2_eq hu) (sim_var 1) (sim_b sim_str) (nobehind _ (by decide) (by decide))) (sim_one1 (sim_ret (sim_andV (sim_cmp (o2_eq hu) (sim_call1 cl_len rfl (G.fr "len" (mem_ix 9 rfl)) (by decide +kernel) (sim_b (sim_var 0))) (sim_b sim_int) (nobehind _ (by decide) (by decide))) (sim_andV (sim_asD (sim_fnO (ok_is_local G) (by decide) hr (.inl tk) (sim_cad (sim_ix i2_get (sim_var 0) (sim_b sim_int) (fun _ _ => rfl)) sim_ca0) rfl (by decide))) (sim_andV (sim_asD (sim_fnO (ok_is_name G) (by decide) hr (.inl tk) (sim_cad (sim_ix i2_get (sim_var 0) (sim_b sim_int) (fun _ _ => rfl)) sim_ca0) rfl (by decide))) (sim_one (sim_asD (sim_fnO (ok_are_expressions G) (by decide) hr (.inl tk) (sim_cad (sim_ix i2_get (sim_var 0) (sim_b sim_int) (fun _ _ => rfl)) sim_ca0) rfl (by decide))))))))) sim_nil)
  (sim_seq (sim_if (sim_tcmp (o2_eq hu) (sim_var 1) (sim_b sim_str) (nobehind _ (by decide) (by decide))) (sim_one1 (sim_ret (sim_andV (sim_cmp (o2_eq hu) (sim_call1 cl_len rfl (G.fr "len" (mem_ix 9 rfl)) (by decide +kernel) (sim_b (sim_var 0))) (sim_b sim_int) (nobehind _ (by decide) (by decide))) (sim_one (sim_asD (sim_fnO (ok_is_local G) (by decide) hr (.inl tk) (sim_cad (sim_ix i2_get (sim_var 0) (sim_b sim_int) (fun _ _ => rfl)) sim_ca0) rfl (by decide))))))) sim_nil)
  (sim_one1 (sim_ret (sim_andV (sim_cmp (o2_in hu) (sim_var 1) (sim_b (sim_tup (sim_pa sim_str (sim_pa sim_str (sim_pa sim_str sim_pa0))))) rfl) (sim_andV (sim_cmp (o2_eq hu) (sim_call1 cl_len rfl (G.fr "len" (mem_ix 9 rfl)) (by decide +kernel) (sim_b (sim_var 0))) (sim_b sim_int) (nobehind _ (by decide) (by decide))) (sim_one (sim_asD (sim_fnO (ok_is_expression G) (by decide) hr (.inl tk) (sim_cad (sim_ix i2_get (sim_var 0) (sim_b sim_int) (fun _ _ => rfl)) sim_ca0) rfl (by decide)))))))))))))))))
theorem sc_blocks_of : FnScope N_blocks_of ["statement"] (defScope (top 31)) := ⟨rfl, rfl, rfl, by decide +kernel, rfl, by decide +kernel, by decide +kernel⟩
theorem ok_blocks_of (G : Gs P w K mg base) : FnAt P w K mg base "blocks_of" ["statement"] 2 1 m_blocks_of := by
  obtain ⟨fd, F, g⟩ := G.fn ("blocks_of", 31) (mem_ix 12 rfl)
  refine ⟨_, fd, g, F.kp, F.bindsN fun _ _ _ _ _ _ us hl => match us, hl with | [_], _ => rfl, funD_lk F, fn_body (np := np_blocks_of) (ms := s_blocks_of) F sc_blocks_of rfl rfl fun cdv A outer s H E hr tk => ?_⟩
  have hu := room100 hr
  have hu1 := room1 hr
  have nd := sc_blocks_of.nd
  exact (sim_seq (sim_if (sim_tcmp (o2_eq hu) (sim_ix i2_get (sim_var 0) (sim_b sim_int) (fun _ _ => rfl)) (sim_b sim_str) (nobehind _ (by decide) (by decide))) (sim_one1 (sim_ret (sim_nF (sim_lstN (sim_pa (sim_ix i2_get (sim_var 0) (sim_b sim_int) (fun _ _ => rfl)) (sim_pa (sim_ix i2_get (sim_var 0) (sim_b sim_int) (fun _ _ => rfl)) sim_pa0)))))) sim_nil)
  (sim_one1 (sim_ret (sim_ifV (sim_tcmp (o2_eq hu) (sim_ix i2_get (sim_var 0) (sim_b sim_int) (fun _ _ => rfl)) (sim_b sim_str) (nobehind _ (by decide) (by decide))) (sim_nF (sim_lstN (sim_pa (sim_ix i2_get (sim_var 0) (sim_b sim_int) (fun _ _ => rfl)) sim_pa0))) (sim_nF (sim_lstN sim_pa0))))))
theorem sc_is_block : FnScope N_is_block ["thing"] (defScope (top 32)) := ⟨rfl, rfl, rfl, by decide +kernel, rfl, by decide +kernel, by decide +kernel⟩
theorem ok_is_block (G : Gs P w K mg base) : FnAt P w K mg base "is_block" ["thing"] 8 1 m_is_block := by
  obtain ⟨fd, F, g⟩ := G.fn ("is_block", 32) (mem_ix 13 rfl)
  refine ⟨_, fd, g, F.kp, F.bindsN fun _ _ _ _ _ _ us hl => match us, hl with | [_], _ => rfl, funD_lk F, fn_body (np := np_is_block) (ms := s_is_block) F sc_is_block rfl rfl fun cdv A outer s H E hr tk => ?_⟩
  have hu := room100 hr
  have hu1 := room1 hr
  have nd := sc_is_block.nd
  exact (sim_seq (sim_par2 (by decide) rfl nd rfl rfl (by decide) rfl rfl (sim_pao (sim_nO (sim_lstN (sim_pa (sim_tup (sim_pa (sim_var 0) (sim_pa sim_int sim_pa0))) sim_pa0))) (sim_pao (sim_asO sim_int) sim_pao0)) rfl)
  (sim_seq (sim_while (passes_of rfl) (sim_tcmpp 1 (o2_ne hu) (sim_b (sim_nF (sim_lstN sim_pa0))) (nobehind _ (by decide) (by decide))) (sim_seq (sim_asg (sim_lm0 1 lop_pop PySem.F.slot_list_pop PySem.F.type_list_pop mt_pop) (sim_gtup rfl (sim_gs (sim_gname rfl nd rfl (by first | exact Or.inl rfl | exact Or.inr rfl)) (sim_gs (sim_gname rfl nd rfl (by first | exact Or.inl rfl | exact Or.inr rfl)) sim_gs0)) rfl))
  (sim_seq (sim_if (PW.pt (sim_tor (sim_tcmp (o2_gt hu) (sim_var 4) (sim_b (sim_gint rfl (G.gInts ("MOST_DEEP", 10) (mem_ix 5 rfl)))) (nobehind _ (by decide) (by decide))) (sim_tor1 (sim_tnot (sim_t (sim_isa (by decide +kernel) rfl (G.fr "isinstance" (mem_ix 8 rfl)) rfl (G.fr "tuple" (mem_ix 18 rfl)) (by decide +kernel) (sim_var 3))))))) (sim_one1 (sim_ret sim_bl)) sim_nil)
  (sim_one1 (sim_for (passes_of rfl) rfl (sim_itA (sim_var 3)) (sim_gname rfl nd rfl (by first | exact Or.inl rfl | exact Or.inr rfl)) (sim_seq (sim_set rfl nd rfl (by first | exact Or.inl rfl | exact Or.inr rfl) (sim_addA (sim_var 2) (sim_b sim_int)))
  (sim_seq (sim_if (PW.pt (sim_tor (sim_tcmp (o2_gt hu) (sim_var 2) (sim_b (sim_gint rfl (G.gInts ("MOST_PARTS", 400) (mem_ix 6 rfl)))) (nobehind _ (by decide) (by decide))) (sim_tor1 (sim_tnot (sim_t (sim_asD (sim_fnO (ok_is_statement G) (by decide) hr (.inl tk) (sim_cad (sim_var 5) sim_ca0) rfl (by decide)))))))) (sim_one1 (sim_ret sim_bl)) sim_nil)
  (sim_one1 (sim_drop (sim_lm 1 lop_ext PySem.F.slot_list_extend PySem.F.type_list_extend mt_extF (sim_pa (sim_lc (own := [("block", 6)]) rfl nd (sim_itA (sim_asD (sim_fnO (ok_blocks_of G) (by decide) hr (.inl tk) (sim_cad (sim_var 5) sim_ca0) rfl (by decide)))) (blkOk_by (N := N_is_block) (sc := defScope (top 32)) (by decide +kernel)) (fun _ _ _ _ _ => (sim_gname rfl nd rfl (by first | exact Or.inl rfl | exact Or.inr rfl))) (fun _ _ _ _ _ => sim_pts0) (fun _ _ _ _ _ => (sim_tup (sim_pa (sim_var 6) (sim_pa (sim_addA (sim_var 4) (sim_b sim_int)) sim_pa0))))) sim_pa0)))))))))))
  (sim_one1 (sim_ret sim_bl))))
theorem sc_is_procedure : FnScope N_is_procedure ["thing"] (defScope (top 33)) := ⟨rfl, rfl, rfl, by decide +kernel, rfl, by decide +kernel, by decide +kernel⟩
theorem ok_is_procedure (G : Gs P w K mg base) : FnAt P w K mg base "is_procedure" ["thing"] 9 1 m_is_procedure := by
  obtain ⟨fd, F, g⟩ := G.fn ("is_procedure", 33) (mem_ix 14 rfl)
  refine ⟨_, fd, g, F.kp, F.bindsN fun _ _ _ _ _ _ us hl => match us, hl with | [_], _ => rfl, funD_lk F, fn_body (np := np_is_procedure) (ms := s_is_procedure) F sc_is_procedure rfl rfl fun cdv A outer s H E hr tk => ?_⟩
  have hu := room100 hr
  have hu1 := room1 hr
  have nd := sc_is_procedure.nd
  exact (sim_seq (sim_if (PW.pt (sim_tor (sim_tnot (sim_t (sim_asD (sim_fnO (ok_is_tuple_of G) (by decide) hr (.inl tk) (sim_cad (sim_var 0) (sim_cad sim_int sim_ca0)) rfl (by decide))))) (sim_tor1 (sim_tnot (sim_t (sim_asD (sim_fnO (ok_is_name G) (by decide) hr (.inl tk) (sim_cad (sim_ix i2_get (sim_var 0) (sim_b sim_int) (fun _ _ => rfl)) sim_ca0) rfl (by decide)))))))) (sim_one1 (sim_ret sim_bl)) sim_nil)
  (sim_seq (sim_if (PW.pt (sim_tor (sim_tnot (sim_t (sim_asD (sim_fnO (ok_is_within G) (by decide) hr (.inl tk) (sim_cad (sim_ix i2_get (sim_var 0) (sim_b sim_int) (fun _ _ => rfl)) (sim_cad sim_int (sim_cad (sim_gint rfl (G.gInts ("MOST_PARAMS", 3) (mem_ix 3 rfl))) sim_ca0))) rfl (by decide))))) (sim_tor1 (sim_tnot (sim_t (sim_asD (sim_fnO (ok_is_within G) (by decide) hr (.inl tk) (sim_cad (sim_ix i2_get (sim_var 0) (sim_b sim_int) (fun _ _ => rfl)) (sim_cad (sim_ix i2_get (sim_var 0) (sim_b sim_int) (fun _ _ => rfl)) (sim_cad (sim_gint rfl (G.gInts ("MOST_LOCALS", 4) (mem_ix 2 rfl))) sim_ca0))) rfl (by decide)))))))) (sim_one1 (sim_ret sim_bl)) sim_nil)
  (sim_one1 (sim_ret (sim_asD (sim_fnO (ok_is_block G) (by decide) hr (.inl tk) (sim_cad (sim_ix i2_get (sim_var 0) (sim_b sim_int) (fun _ _ => rfl)) sim_ca0) rfl (by decide)))))))
theorem sc_are_cells : FnScope N_are_cells ["thing"] (defScope (top 34)) := ⟨rfl, rfl, rfl, by decide +kernel, rfl, by decide +kernel, by decide +kernel⟩
theorem ok_are_cells (G : Gs P w K mg base) : FnAt P w K mg base "are_cells" ["thing"] 5 1 m_are_cells := by
  obtain ⟨fd, F, g⟩ := G.fn ("are_cells", 34) (mem_ix 15 rfl)
  refine ⟨_, fd, g, F.kp, F.bindsN fun _ _ _ _ _ _ us hl => match us, hl with | [_], _ => rfl, funD_lk F, fn_body (np := np_are_cells) (ms := s_are_cells) F sc_are_cells rfl rfl fun cdv A outer s H E hr tk => ?_⟩
  have hu := room100 hr
  have hu1 := room1 hr
  have nd := sc_are_cells.nd
  exact (sim_seq (sim_if (PW.pt (sim_tor (sim_tnot (sim_t (sim_isa (by decide +kernel) rfl (G.fr "isinstance" (mem_ix 8 rfl)) rfl (G.fr "tuple" (mem_ix 18 rfl)) (by decide +kernel) (sim_var 0)))) (sim_tor (sim_tcmp (o2_gt hu) (sim_call1 cl_len rfl (G.fr "len" (mem_ix 9 rfl)) (by decide +kernel) (sim_b (sim_var 0))) (sim_b (sim_gint rfl (G.gInts ("MOST_CELLS", 8) (mem_ix 8 rfl)))) (nobehind _ (by decide) (by decide))) (sim_tor1 (sim_tnot (sim_t (sim_call1 (cl_all rfl) rfl (G.fr "all" (mem_ix 2 rfl)) (by decide +kernel) (sim_b (sim_lc (own := [("one", 1)]) rfl nd (sim_itA (sim_var 0)) (blkOk_by (N := N_are_cells) (sc := defScope (top 34)) (by decide +kernel)) (fun _ _ _ _ _ => (sim_gname rfl nd rfl (by first | exact Or.inl rfl | exact Or.inr rfl))) (fun _ _ _ _ _ => sim_pts0) (fun _ _ _ _ _ => (sim_asD (sim_fnO (ok_is_tuple_of G) (by decide) hr (.inr passNo) (sim_cad (sim_var 1) (sim_cad sim_int sim_ca0)) rfl (by decide))))))))))))) (sim_one1 (sim_ret sim_bl)) sim_nil)
  (sim_seq (sim_for (passes_of rfl) rfl (sim_itA (sim_var 0)) (sim_gtup rfl (sim_gs (sim_gname rfl nd rfl (by first | exact Or.inl rfl | exact Or.inr rfl)) (sim_gs (sim_gname rfl nd rfl (by first | exact Or.inl rfl | exact Or.inr rfl)) sim_gs0)) rfl) (sim_one1 (sim_if (PW.pt (sim_tor (sim_tnot (sim_t (sim_asD (sim_fnO (ok_is_name G) (by decide) hr (.inl tk) (sim_cad (sim_var 2) sim_ca0) rfl (by decide))))) (sim_tor (sim_tnot (sim_t (sim_asD (sim_fnO (ok_are_within G) (by decide) hr (.inl tk) (sim_cad (sim_var 3) (sim_cad sim_int (sim_cad (sim_gint rfl (G.gInts ("MOST_WRITTEN", 15) (mem_ix 1 rfl))) sim_ca0))) rfl (by decide))))) (sim_tor1 (sim_tnot (sim_tchn (o2_le hu) (o2_le hu) sim_int (sim_call1 cl_len rfl (G.fr "len" (mem_ix 9 rfl)) (by decide +kernel) (sim_b (sim_var 3))) (sim_b (sim_gint rfl (G.gInts ("MOST_CELL", 4) (mem_ix 4 rfl)))))))))) (sim_one1 (sim_ret sim_bl)) sim_nil)))
  (sim_one1 (sim_ret sim_bl))))
theorem sc_are_needs : FnScope N_are_needs ["thing"] (defScope (top 35)) := ⟨rfl, rfl, rfl, by decide +kernel, rfl, by decide +kernel, by decide +kernel⟩
theorem ok_are_needs (G : Gs P w K mg base) : FnAt P w K mg base "are_needs" ["thing"] 4 1 m_are_needs := by
  obtain ⟨fd, F, g⟩ := G.fn ("are_needs", 35) (mem_ix 16 rfl)
  refine ⟨_, fd, g, F.kp, F.bindsN fun _ _ _ _ _ _ us hl => match us, hl with | [_], _ => rfl, funD_lk F, fn_body (np := np_are_needs) (ms := s_are_needs) F sc_are_needs rfl rfl fun cdv A outer s H E hr tk => ?_⟩
  have hu := room100 hr
  have hu1 := room1 hr
  have nd := sc_are_needs.nd
  exact (sim_seq (sim_if (PW.pt (sim_tor (sim_tnot (sim_t (sim_isa (by decide +kernel) rfl (G.fr "isinstance" (mem_ix 8 rfl)) rfl (G.fr "tuple" (mem_ix 18 rfl)) (by decide +kernel) (sim_var 0)))) (sim_tor (sim_tcmp (o2_gt hu) (sim_call1 cl_len rfl (G.fr "len" (mem_ix 9 rfl)) (by decide +kernel) (sim_b (sim_var 0))) (sim_b (sim_gint rfl (G.gInts ("MOST_CELLS", 8) (mem_ix 8 rfl)))) (nobehind _ (by decide) (by decide))) (sim_tor1 (sim_tnot (sim_t (sim_call1 (cl_all rfl) rfl (G.fr "all" (mem_ix 2 rfl)) (by decide +kernel) (sim_b (sim_lc (own := [("one", 1)]) rfl nd (sim_itA (sim_var 0)) (blkOk_by (N := N_are_needs) (sc := defScope (top 35)) (by decide +kernel)) (fun _ _ _ _ _ => (sim_gname rfl nd rfl (by first | exact Or.inl rfl | exact Or.inr rfl))) (fun _ _ _ _ _ => sim_pts0) (fun _ _ _ _ _ => (sim_asD (sim_fnO (ok_is_tuple_of G) (by decide) hr (.inr passNo) (sim_cad (sim_var 1) (sim_cad sim_int sim_ca0)) rfl (by decide))))))))))))) (sim_one1 (sim_ret sim_bl)) sim_nil)
  (sim_one1 (sim_ret (sim_call1 (cl_all rfl) rfl (G.fr "all" (mem_ix 2 rfl)) (by decide +kernel) (sim_b (sim_lc (own := [("name", 2), ("size", 3)]) rfl nd (sim_itA (sim_var 0)) (blkOk_by (N := N_are_needs) (sc := defScope (top 35)) (by decide +kernel)) (fun _ _ _ _ _ => (sim_gtup rfl (sim_gs (sim_gname rfl nd rfl (by first | exact Or.inl rfl | exact Or.inr rfl)) (sim_gs (sim_gname rfl nd rfl (by first | exact Or.inl rfl | exact Or.inr rfl)) sim_gs0)) rfl)) (fun _ _ _ _ _ => sim_pts0) (fun _ _ _ _ _ => (sim_andV (sim_asD (sim_fnO (ok_is_name G) (by decide) hr (.inr passNo) (sim_cad (sim_var 2) sim_ca0) rfl (by decide))) (sim_one (sim_asD (sim_fnO (ok_is_within G) (by decide) hr (.inr passNo) (sim_cad (sim_var 3) (sim_cad sim_int (sim_cad (sim_gint rfl (G.gInts ("MOST_CELL", 4) (mem_ix 4 rfl))) sim_ca0))) rfl (by decide))))))))))))
theorem sc_is_shape : FnScope N_is_shape ["thing"] (defScope (top 36)) := ⟨rfl, rfl, rfl, by decide +kernel, rfl, by decide +kernel, by decide +kernel⟩
theorem ok_is_shape (G : Gs P w K mg base) : FnAt P w K mg base "is_shape" ["thing"] 10 1 m_is_shape := by
  obtain ⟨fd, F, g⟩ := G.fn ("is_shape", 36) (mem_ix 17 rfl)
  refine ⟨_, fd, g, F.kp, F.bindsN fun _ _ _ _ _ _ us hl => match us, hl with | [_], _ => rfl, funD_lk F, fn_body (np := np_is_shape) (ms := s_is_shape) F sc_is_shape rfl rfl fun cdv A outer s H E hr tk => ?_⟩
  have hu := room100 hr
  have hu1 := room1 hr
  have nd := sc_is_shape.nd
  exact (sim_seq (sim_if (PW.pt (sim_tor (sim_tnot (sim_t (sim_asD (sim_fnO (ok_is_tuple_of G) (by decide) hr (.inl tk) (sim_cad (sim_var 0) (sim_cad sim_int sim_ca0)) rfl (by decide))))) (sim_tor (sim_tnot (sim_t (sim_asD (sim_fnO (ok_is_name G) (by decide) hr (.inl tk) (sim_cad (sim_ix i2_get (sim_var 0) (sim_b sim_int) (fun _ _ => rfl)) sim_ca0) rfl (by decide))))) (sim_tor (sim_tnot (sim_t (sim_asD (sim_fnO (ok_are_cells G) (by decide) hr (.inl tk) (sim_cad (sim_ix i2_get (sim_var 0) (sim_b sim_int) (fun _ _ => rfl)) sim_ca0) rfl (by decide))))) (sim_tor1 (sim_tnot (sim_t (sim_asD (sim_fnO (ok_are_needs G) (by decide) hr (.inl tk) (sim_cad (sim_ix i2_get (sim_var 0) (sim_b sim_int) (fun _ _ => rfl)) sim_ca0) rfl (by decide)))))))))) (sim_one1 (sim_ret sim_bl)) sim_nil)
  (sim_seq (sim_if (PW.pt (sim_tor (sim_tnot (sim_t (sim_isa (by decide +kernel) rfl (G.fr "isinstance" (mem_ix 8 rfl)) rfl (G.fr "tuple" (mem_ix 18 rfl)) (by decide +kernel) (sim_ix i2_get (sim_var 0) (sim_b sim_int) (fun _ _ => rfl))))) (sim_tor1 (sim_tcmp (o2_gt hu) (sim_call1 cl_len rfl (G.fr "len" (mem_ix 9 rfl)) (by decide +kernel) (sim_b (sim_ix i2_get (sim_var 0) (sim_b sim_int) (fun _ _ => rfl)))) (sim_b (sim_gint rfl (G.gInts ("MOST_PROCEDURES", 12) (mem_ix 7 rfl)))) (nobehind _ (by decide) (by decide)))))) (sim_one1 (sim_ret sim_bl)) sim_nil)
  (sim_one1 (sim_ret (sim_call1 (cl_all rfl) rfl (G.fr "all" (mem_ix 2 rfl)) (by decide +kernel) (sim_b (sim_lc (own := [("one", 1)]) rfl nd (sim_itA (sim_ix i2_get (sim_var 0) (sim_b sim_int) (fun _ _ => rfl))) (blkOk_by (N := N_is_shape) (sc := defScope (top 36)) (by decide +kernel)) (fun _ _ _ _ _ => (sim_gname rfl nd rfl (by first | exact Or.inl rfl | exact Or.inr rfl))) (fun _ _ _ _ _ => sim_pts0) (fun _ _ _ _ _ => (sim_asD (sim_fnO (ok_is_procedure G) (by decide) hr (.inr passNo) (sim_cad (sim_var 1) sim_ca0) rfl (by decide)))))))))))
theorem sc_check_shape : FnScope N_check_shape ["unit"] (defScope (top 37)) := ⟨rfl, rfl, rfl, by decide +kernel, rfl, by decide +kernel, by decide +kernel⟩
theorem ok_check_shape (G : Gs P w K mg base) : FnAt P w K mg base "check_shape" ["unit"] 11 1 m_check_shape := by
  obtain ⟨fd, F, g⟩ := G.fn ("check_shape", 37) (mem_ix 18 rfl)
  refine ⟨_, fd, g, F.kp, F.bindsN fun _ _ _ _ _ _ us hl => match us, hl with | [_], _ => rfl, funD_lk F, fn_body (np := np_check_shape) (ms := s_check_shape) F sc_check_shape rfl rfl fun cdv A outer s H E hr tk => ?_⟩
  have hu := room100 hr
  have hu1 := room1 hr
  have nd := sc_check_shape.nd
  exact (sim_one1 (sim_if (sim_tnot (sim_t (sim_asD (sim_fnO (ok_is_shape G) (by decide) hr (.inl tk) (sim_cad (sim_var 0) sim_ca0) rfl (by decide))))) (sim_one1 (sim_raise rfl tk (G.mk_BadUnit) (fun _ _ _ h => h) rfl)) sim_nil))
theorem sc_statements_of : FnScope N_statements_of ["block"] (defScope (top 43)) := ⟨rfl, rfl, rfl, by decide +kernel, rfl, by decide +kernel, by decide +kernel⟩
theorem okr_statements_of (G : Gs P w K mg base) : ∀ n : Nat, FnAt P w K mg base "statements_of" ["block"] (3 + n) 1 (m_statements_of n)
  | 0 => (by
    obtain ⟨fd, F, g⟩ := G.fn ("statements_of", 43) (mem_ix 24 rfl)
    exact ⟨_, fd, g, F.kp, F.bindsN fun _ _ _ _ _ _ us hl => match us, hl with | [_], _ => rfl, funD_lk F, fnOk_zero rfl⟩)
  | n + 1 => by
    have IH_statements_of := okr_statements_of G n
    exact (by
      obtain ⟨fd, F, g⟩ := G.fn ("statements_of", 43) (mem_ix 24 rfl)
      refine ⟨_, fd, g, F.kp, F.bindsN fun _ _ _ _ _ _ us hl => match us, hl with | [_], _ => rfl, funD_lk F, fn_body (k := 3 + n) (np := np_statements_of) F sc_statements_of rfl rfl fun cdv A outer s H E hr tk => ?_⟩
      have hu := room100 hr
      have hu1 := room1 hr
      have nd := sc_statements_of.nd
      exact (sim_seq (sim_setO rfl nd rfl (by first | exact Or.inl rfl | exact Or.inr rfl) (sim_nO (sim_lstN sim_pa0)))
        (sim_seq (sim_for (passes_of rfl) rfl (sim_itA (sim_var 0)) (sim_gname rfl nd rfl (by first | exact Or.inl rfl | exact Or.inr rfl)) (sim_seq (sim_drop (sim_lm 1 lop_app PySem.F.slot_list_append PySem.F.type_list_append mt_append (sim_pa (sim_var 2) sim_pa0)))
        (sim_one1 (sim_for (passes_of rfl) rfl (sim_itA (sim_asD (sim_fnO (ok_blocks_of G) (by omega) hr (.inl tk) (sim_cad (sim_var 2) sim_ca0) rfl (by decide)))) (sim_gname rfl nd rfl (by first | exact Or.inl rfl | exact Or.inr rfl)) (sim_one1 (sim_drop (sim_lm 1 lop_ext PySem.F.slot_list_extend PySem.F.type_list_extend mt_extF (sim_pa (sim_asD (sim_fnO IH_statements_of (by omega) hr (.inl tk) (sim_cad (sim_var 3) sim_ca0) rfl (by decide))) sim_pa0))))))))
        (sim_one1 (sim_ret (sim_frz 1))))))
theorem ok_statements_of (G : Gs P w K mg base) (n : Nat) : FnAt P w K mg base "statements_of" ["block"] (3 + n) 1 (m_statements_of n) := (okr_statements_of G n)
theorem sc_expressions_of : FnScope N_expressions_of ["statement"] (defScope (top 44)) := ⟨rfl, rfl, rfl, by decide +kernel, rfl, by decide +kernel, by decide +kernel⟩
theorem ok_expressions_of (G : Gs P w K mg base) : FnAt P w K mg base "expressions_of" ["statement"] 2 1 m_expressions_of := by
  obtain ⟨fd, F, g⟩ := G.fn ("expressions_of", 44) (mem_ix 25 rfl)
  refine ⟨_, fd, g, F.kp, F.bindsN fun _ _ _ _ _ _ us hl => match us, hl with | [_], _ => rfl, funD_lk F, fn_body (np := np_expressions_of) (ms := s_expressions_of) F sc_expressions_of rfl rfl fun cdv A outer s H E hr tk => ?_⟩
  have hu := room100 hr
  have hu1 := room1 hr
  have nd := sc_expressions_of.nd
  exact (sim_seq (sim_set rfl nd rfl (by first | exact Or.inl rfl | exact Or.inr rfl) (sim_ix i2_get (sim_var 0) (sim_b sim_int) (fun _ _ => rfl)))
  (sim_seq (sim_if (sim_tcmp (o2_in hu) (sim_var 1) (sim_b (sim_tup (sim_pa sim_str (sim_pa sim_str sim_pa0)))) rfl) (sim_one1 (sim_ret (sim_nF (sim_lstN (sim_pa (sim_ix i2_get (sim_var 0) (sim_b sim_int) (fun _ _ => rfl)) sim_pa0))))) sim_nil)
  (sim_seq (sim_if (sim_tcmp (o2_eq hu) (sim_var 1) (sim_b sim_str) (nobehind _ (by decide) (by decide))) (sim_one1 (sim_ret (sim_nF (sim_lstN (sim_pa (sim_ix i2_get (sim_var 0) (sim_b sim_int) (fun _ _ => rfl)) (sim_pa (sim_ix i2_get (sim_var 0) (sim_b sim_int) (fun _ _ => rfl)) sim_pa0)))))) sim_nil)
  (sim_seq (sim_if (sim_tcmp (o2_eq hu) (sim_var 1) (sim_b sim_str) (nobehind _ (by decide) (by decide))) (sim_one1 (sim_ret (sim_nF (sim_listN rfl (G.fr "list" (mem_ix 10 rfl)) (sim_b (sim_ix i2_get (sim_var 0) (sim_b sim_int) (fun _ _ => rfl))))))) sim_nil)
  (sim_one1 (sim_ret (sim_ifV (sim_tcmp (o2_eq hu) (sim_var 1) (sim_b sim_str) (nobehind _ (by decide) (by decide))) (sim_nF (sim_lstN sim_pa0)) (sim_nF (sim_lstN (sim_pa (sim_ix i2_get (sim_var 0) (sim_b sim_int) (fun _ _ => rfl)) sim_pa0))))))))))
theorem sc_inner_expressions : FnScope N_inner_expressions ["expression"] (defScope (top 45)) := ⟨rfl, rfl, rfl, by decide +kernel, rfl, by decide +kernel, by decide +kernel⟩
theorem ok_inner_expressions (G : Gs P w K mg base) : FnAt P w K mg base "inner_expressions" ["expression"] 5 1 m_inner_expressions := by
  obtain ⟨fd, F, g⟩ := G.fn ("inner_expressions", 45) (mem_ix 26 rfl)
  refine ⟨_, fd, g, F.kp, F.bindsN fun _ _ _ _ _ _ us hl => match us, hl with | [_], _ => rfl, funD_lk F, fn_body (np := np_inner_expressions) (ms := s_inner_expressions) F sc_inner_expressions rfl rfl fun cdv A outer s H E hr tk => ?_⟩
  have hu := room100 hr
  have hu1 := room1 hr
  have nd := sc_inner_expressions.nd
  exact (sim_seq (sim_par2 (by decide) rfl nd rfl rfl (by decide) rfl rfl (sim_pao (sim_nO (sim_lstN sim_pa0)) (sim_pao (sim_nO (sim_lstN (sim_pa (sim_var 0) sim_pa0))) sim_pao0)) rfl)
  (sim_seq (sim_while (passes_of rfl) (sim_tcmpp 2 (o2_ne hu) (sim_b (sim_nF (sim_lstN sim_pa0))) (nobehind _ (by decide) (by decide))) (sim_seq (sim_set rfl nd rfl (by first | exact Or.inl rfl | exact Or.inr rfl) (sim_lm0 2 lop_pop PySem.F.slot_list_pop PySem.F.type_list_pop mt_pop))
  (sim_seq (sim_drop (sim_lm 1 lop_app PySem.F.slot_list_append PySem.F.type_list_append mt_append (sim_pa (sim_var 3) sim_pa0)))
  (sim_one1 (sim_drop (sim_lm 2 lop_ext PySem.F.slot_list_extend PySem.F.type_list_extend mt_extF (sim_pa (sim_nF (sim_listRevN rfl rfl (G.fr "list" (mem_ix 10 rfl)) rfl (G.fr "reversed" (mem_ix 14 rfl)) (sim_b (sim_asD (sim_fnO (ok_parts_of G) (by decide) hr (.inl tk) (sim_cad (sim_var 3) sim_ca0) rfl (by decide)))))) sim_pa0)))))))
  (sim_one1 (sim_ret (sim_frz 1)))))
theorem sc_locals_told : FnScope N_locals_told ["statement"] (defScope (top 46)) := ⟨rfl, rfl, rfl, by decide +kernel, rfl, by decide +kernel, by decide +kernel⟩
theorem ok_locals_told (G : Gs P w K mg base) : FnAt P w K mg base "locals_told" ["statement"] 6 1 m_locals_told := by
  obtain ⟨fd, F, g⟩ := G.fn ("locals_told", 46) (mem_ix 27 rfl)
  refine ⟨_, fd, g, F.kp, F.bindsN fun _ _ _ _ _ _ us hl => match us, hl with | [_], _ => rfl, funD_lk F, fn_body (np := np_locals_told) (ms := s_locals_told) F sc_locals_told rfl rfl fun cdv A outer s H E hr tk => ?_⟩
  have hu := room100 hr
  have hu1 := room1 hr
  have nd := sc_locals_told.nd
  exact (sim_seq (sim_setO rfl nd rfl (by first | exact Or.inl rfl | exact Or.inr rfl) (sim_ifO (sim_tcmp (o2_in hu) (sim_ix i2_get (sim_var 0) (sim_b sim_int) (fun _ _ => rfl)) (sim_b (sim_tup (sim_pa sim_str (sim_pa sim_str (sim_pa sim_str sim_pa0))))) rfl) (sim_nO (sim_lstN (sim_pa (sim_ix i2_get (sim_var 0) (sim_b sim_int) (fun _ _ => rfl)) sim_pa0))) (sim_nO (sim_lstN sim_pa0))))
  (sim_seq (sim_for (passes_of rfl) rfl (sim_itA (sim_asD (sim_fnO (ok_expressions_of G) (by decide) hr (.inl tk) (sim_cad (sim_var 0) sim_ca0) rfl (by decide)))) (sim_gname rfl nd rfl (by first | exact Or.inl rfl | exact Or.inr rfl)) (sim_one1 (sim_drop (sim_lm 1 lop_ext PySem.F.slot_list_extend PySem.F.type_list_extend mt_extF (sim_pa (sim_lc (own := [("here", 3)]) rfl nd (sim_itA (sim_asD (sim_fnO (ok_inner_expressions G) (by decide) hr (.inl tk) (sim_cad (sim_var 2) sim_ca0) rfl (by decide)))) (blkOk_by (N := N_locals_told) (sc := defScope (top 46)) (by decide +kernel)) (fun _ _ _ _ _ => (sim_gname rfl nd rfl (by first | exact Or.inl rfl | exact Or.inr rfl))) (fun _ _ _ _ _ => (sim_pts1 (sim_tcmp (o2_eq hu) (sim_ix i2_get (sim_var 3) (sim_b sim_int) (fun _ _ => rfl)) (sim_b sim_str) (nobehind _ (by decide) (by decide))))) (fun _ _ _ _ _ => (sim_ix i2_get (sim_var 3) (sim_b sim_int) (fun _ _ => rfl)))) sim_pa0)))))
  (sim_one1 (sim_ret (sim_frz 1)))))
theorem sc_cells_told : FnScope N_cells_told ["statement"] (defScope (top 47)) := ⟨rfl, rfl, rfl, by decide +kernel, rfl, by decide +kernel, by decide +kernel⟩
theorem ok_cells_told (G : Gs P w K mg base) : FnAt P w K mg base "cells_told" ["statement"] 6 1 m_cells_told := by
  obtain ⟨fd, F, g⟩ := G.fn ("cells_told", 47) (mem_ix 28 rfl)
  refine ⟨_, fd, g, F.kp, F.bindsN fun _ _ _ _ _ _ us hl => match us, hl with | [_], _ => rfl, funD_lk F, fn_body (np := np_cells_told) (ms := s_cells_told) F sc_cells_told rfl rfl fun cdv A outer s H E hr tk => ?_⟩
  have hu := room100 hr
  have hu1 := room1 hr
  have nd := sc_cells_told.nd
  exact (sim_seq (sim_setO rfl nd rfl (by first | exact Or.inl rfl | exact Or.inr rfl) (sim_nO (sim_lstN sim_pa0)))
  (sim_seq (sim_if (sim_tcmp (o2_in hu) (sim_ix i2_get (sim_var 0) (sim_b sim_int) (fun _ _ => rfl)) (sim_b (sim_tup (sim_pa sim_str (sim_pa sim_str sim_pa0)))) rfl) (sim_one1 (sim_drop (sim_lm 1 lop_app PySem.F.slot_list_append PySem.F.type_list_append mt_append (sim_pa (sim_tup (sim_pa (sim_ix i2_get (sim_var 0) (sim_b sim_int) (fun _ _ => rfl)) (sim_pa (sim_ifV (sim_tcmp (o2_eq hu) (sim_ix i2_get (sim_var 0) (sim_b sim_int) (fun _ _ => rfl)) (sim_b sim_str) (nobehind _ (by decide) (by decide))) sim_str sim_str) sim_pa0))) sim_pa0)))) sim_nil)
  (sim_seq (sim_for (passes_of rfl) rfl (sim_itA (sim_asD (sim_fnO (ok_expressions_of G) (by decide) hr (.inl tk) (sim_cad (sim_var 0) sim_ca0) rfl (by decide)))) (sim_gname rfl nd rfl (by first | exact Or.inl rfl | exact Or.inr rfl)) (sim_one1 (sim_for (passes_of rfl) rfl (sim_itA (sim_asD (sim_fnO (ok_inner_expressions G) (by decide) hr (.inl tk) (sim_cad (sim_var 2) sim_ca0) rfl (by decide)))) (sim_gname rfl nd rfl (by first | exact Or.inl rfl | exact Or.inr rfl)) (sim_one1 (sim_if (sim_tcmp (o2_in hu) (sim_ix i2_get (sim_var 3) (sim_b sim_int) (fun _ _ => rfl)) (sim_b (sim_tup (sim_pa sim_str (sim_pa sim_str sim_pa0)))) rfl) (sim_one1 (sim_drop (sim_lm 1 lop_app PySem.F.slot_list_append PySem.F.type_list_append mt_append (sim_pa (sim_tup (sim_pa (sim_ix i2_get (sim_var 3) (sim_b sim_int) (fun _ _ => rfl)) (sim_pa (sim_ifV (sim_tcmp (o2_eq hu) (sim_ix i2_get (sim_var 3) (sim_b sim_int) (fun _ _ => rfl)) (sim_b sim_str) (nobehind _ (by decide) (by decide))) sim_str sim_str) sim_pa0))) sim_pa0)))) sim_nil)))))
  (sim_one1 (sim_ret (sim_frz 1))))))
theorem sc_inner_faults : FnScope N_inner_faults ["procedure", "sizes", "params"] (defScope (top 42)) := ⟨rfl, rfl, rfl, by decide +kernel, rfl, by decide +kernel, by decide +kernel⟩
theorem ok_inner_faults (G : Gs P w K mg base) : FnAt P w K mg base "inner_faults" ["procedure", "sizes", "params"] 16 3 m_inner_faults := by
  obtain ⟨fd, F, g⟩ := G.fn ("inner_faults", 42) (mem_ix 23 rfl)
  refine ⟨_, fd, g, F.kp, F.bindsN fun _ _ _ _ _ _ us hl => match us, hl with | [_, _, _], _ => rfl, funD_lk F, fn_body (np := np_inner_faults) (ms := s_inner_faults) F sc_inner_faults rfl rfl fun cdv A outer s H E hr tk => ?_⟩
  have hu := room100 hr
  have hu1 := room1 hr
  have nd := sc_inner_faults.nd
  exact (sim_seq (sim_par2 (by decide) rfl nd rfl rfl (by decide) rfl rfl (sim_pao (sim_asO (sim_ix i2_get (sim_var 0) (sim_b sim_int) (fun _ _ => rfl))) (sim_pao (sim_nO (sim_lstN sim_pa0)) sim_pao0)) rfl)
  (sim_seq (sim_for (passes_of rfl) rfl (sim_itA (sim_asD (sim_fnO (ok_statements_of G 12) (by decide) hr (.inl tk) (sim_cad (sim_ix i2_get (sim_var 0) (sim_b sim_int) (fun _ _ => rfl)) sim_ca0) rfl (by decide)))) (sim_gname rfl nd rfl (by first | exact Or.inl rfl | exact Or.inr rfl)) (sim_seq (sim_for (passes_of rfl) rfl (sim_itA (sim_asD (sim_fnO (ok_locals_told G) (by decide) hr (.inl tk) (sim_cad (sim_var 5) sim_ca0) rfl (by decide)))) (sim_gname rfl nd rfl (by first | exact Or.inl rfl | exact Or.inr rfl)) (sim_one1 (sim_if (sim_tcmp (o2_ge hu) (sim_var 6) (sim_b (sim_ix i2_get (sim_var 0) (sim_b sim_int) (fun _ _ => rfl))) (nobehind _ (by decide) (by decide))) (sim_one1 (sim_drop (sim_lm 4 lop_app PySem.F.slot_list_append PySem.F.type_list_append mt_append (sim_pa (sim_tup (sim_pa sim_str (sim_pa (sim_var 3) (sim_pa (sim_var 6) sim_pa0)))) sim_pa0)))) sim_nil)))
  (sim_seq (sim_for (passes_of rfl) rfl (sim_itA (sim_asD (sim_fnO (ok_cells_told G) (by decide) hr (.inl tk) (sim_cad (sim_var 5) sim_ca0) rfl (by decide)))) (sim_gtup rfl (sim_gs (sim_gname rfl nd rfl (by first | exact Or.inl rfl | exact Or.inr rfl)) (sim_gs (sim_gname rfl nd rfl (by first | exact Or.inl rfl | exact Or.inr rfl)) sim_gs0)) rfl) (sim_one1 (sim_if (sim_tdnotin 1 hu1 (sim_var 7)) (sim_one1 (sim_drop (sim_lm 4 lop_app PySem.F.slot_list_append PySem.F.type_list_append mt_append (sim_pa (sim_tup (sim_pa sim_str (sim_pa (sim_var 3) (sim_pa (sim_var 7) sim_pa0)))) sim_pa0)))) (sim_one1 (sim_if (PW.pt (sim_tor (PW.pt (sim_tand (sim_tcmp (o2_eq hu) (sim_var 8) (sim_b sim_str) (nobehind _ (by decide) (by decide))) (sim_tand1 (sim_tcmp (o2_ne hu) (sim_dget 1 hu1 (sim_var 7) (fun _ _ => rfl)) (sim_b sim_int) (nobehind _ (by decide) (by decide)))))) (sim_tor1 (PW.pt (sim_tand (sim_tcmp (o2_eq hu) (sim_var 8) (sim_b sim_str) (nobehind _ (by decide) (by decide))) (sim_tand1 (sim_tcmp (o2_eq hu) (sim_dget 1 hu1 (sim_var 7) (fun _ _ => rfl)) (sim_b sim_int) (nobehind _ (by decide) (by decide))))))))) (sim_one1 (sim_drop (sim_lm 4 lop_app PySem.F.slot_list_append PySem.F.type_list_append mt_append (sim_pa (sim_tup (sim_pa sim_str (sim_pa (sim_var 3) (sim_pa (sim_var 7) sim_pa0)))) sim_pa0)))) sim_nil)))))
  (sim_one1 (sim_if (sim_tcmp (o2_eq hu) (sim_ix i2_get (sim_var 5) (sim_b sim_int) (fun _ _ => rfl)) (sim_b sim_str) (nobehind _ (by decide) (by decide))) (sim_seq (sim_set rfl nd rfl (by first | exact Or.inl rfl | exact Or.inr rfl) (sim_dget2 2 hu1 (sim_ix i2_get (sim_var 5) (sim_b sim_int) (fun _ _ => rfl)) (sim_call1 cl_len rfl (G.fr "len" (mem_ix 9 rfl)) (by decide +kernel) (sim_b (sim_ix i2_get (sim_var 5) (sim_b sim_int) (fun _ _ => rfl)))) ⟨rfl, rfl, rfl, rfl⟩))
  (sim_seq (sim_dput 2 hu1 (sim_var 9) (sim_ix i2_get (sim_var 5) (sim_b sim_int) (fun _ _ => rfl)))
  (sim_one1 (sim_if (sim_tcmp (o2_ne hu) (sim_var 9) (sim_b (sim_call1 cl_len rfl (G.fr "len" (mem_ix 9 rfl)) (by decide +kernel) (sim_b (sim_ix i2_get (sim_var 5) (sim_b sim_int) (fun _ _ => rfl))))) (nobehind _ (by decide) (by decide))) (sim_one1 (sim_drop (sim_lm 4 lop_app PySem.F.slot_list_append PySem.F.type_list_append mt_append (sim_pa (sim_tup (sim_pa sim_str (sim_pa (sim_var 3) (sim_pa (sim_ix i2_get (sim_var 5) (sim_b sim_int) (fun _ _ => rfl)) sim_pa0)))) sim_pa0)))) sim_nil)))) sim_nil)))))
  (sim_one1 (sim_ret (sim_frz 4)))))
theorem sc_faults_of : FnScope N_faults_of ["unit"] (defScope (top 41)) := ⟨rfl, rfl, rfl, by decide +kernel, rfl, by decide +kernel, by decide +kernel⟩
theorem ok_faults_of (G : Gs P w K mg base) : FnAt P w K mg base "faults_of" ["unit"] 17 1 m_faults_of := by
  obtain ⟨fd, F, g⟩ := G.fn ("faults_of", 41) (mem_ix 22 rfl)
  refine ⟨_, fd, g, F.kp, F.bindsN fun _ _ _ _ _ _ us hl => match us, hl with | [_], _ => rfl, funD_lk F, fn_body (np := np_faults_of) (ms := s_faults_of) F sc_faults_of rfl rfl fun cdv A outer s H E hr tk => ?_⟩
  have hu := room100 hr
  have hu1 := room1 hr
  have nd := sc_faults_of.nd
  exact (sim_seq (sim_parT (sl := [1, 2, 3]) (by decide) rfl (by decide) (by decide) (pgs_cons (pg_name nd rfl (by first | exact Or.inl rfl | exact Or.inr rfl)) (pgs_cons (pg_name nd rfl (by first | exact Or.inl rfl | exact Or.inr rfl)) (pgs_cons (pg_name nd rfl (by first | exact Or.inl rfl | exact Or.inr rfl)) pgs_nil))) (sim_pao (sim_nO (sim_lstN sim_pa0)) (sim_pao sim_dnew (sim_pao sim_dnew sim_pao0))))
  (sim_seq (sim_for (passes_of rfl) rfl (sim_itA (sim_ix i2_get (sim_var 0) (sim_b sim_int) (fun _ _ => rfl))) (sim_gtup rfl (sim_gs (sim_gname rfl nd rfl (by first | exact Or.inl rfl | exact Or.inr rfl)) (sim_gs (sim_gname rfl nd rfl (by first | exact Or.inl rfl | exact Or.inr rfl)) sim_gs0)) rfl) (sim_seq (sim_if (sim_tdin 2 hu1 (sim_var 4)) (sim_one1 (sim_drop (sim_lm 1 lop_app PySem.F.slot_list_append PySem.F.type_list_append mt_append (sim_pa (sim_tup (sim_pa sim_str (sim_pa (sim_var 4) sim_pa0))) sim_pa0)))) sim_nil)
  (sim_one1 (sim_dput 2 hu1 (sim_call1 cl_len rfl (G.fr "len" (mem_ix 9 rfl)) (by decide +kernel) (sim_b (sim_var 5))) (sim_var 4)))))
  (sim_seq (sim_for (passes_of rfl) rfl (sim_itA (sim_ix i2_get (sim_var 0) (sim_b sim_int) (fun _ _ => rfl))) (sim_gtup rfl (sim_gs (sim_gname rfl nd rfl (by first | exact Or.inl rfl | exact Or.inr rfl)) (sim_gs (sim_gname rfl nd rfl (by first | exact Or.inl rfl | exact Or.inr rfl)) sim_gs0)) rfl) (sim_seq (sim_if (sim_tdin 2 hu1 (sim_var 4)) (sim_one1 (sim_drop (sim_lm 1 lop_app PySem.F.slot_list_append PySem.F.type_list_append mt_append (sim_pa (sim_tup (sim_pa sim_str (sim_pa (sim_var 4) sim_pa0))) sim_pa0)))) sim_nil)
  (sim_one1 (sim_dput 2 hu1 (sim_var 6) (sim_var 4)))))
  (sim_seq (sim_for (passes_of rfl) rfl (sim_itA (sim_ix i2_get (sim_var 0) (sim_b sim_int) (fun _ _ => rfl))) (sim_gname rfl nd rfl (by first | exact Or.inl rfl | exact Or.inr rfl)) (sim_seq (sim_if (sim_tdin 3 hu1 (sim_ix i2_get (sim_var 7) (sim_b sim_int) (fun _ _ => rfl))) (sim_one1 (sim_drop (sim_lm 1 lop_app PySem.F.slot_list_append PySem.F.type_list_append mt_append (sim_pa (sim_tup (sim_pa sim_str (sim_pa (sim_ix i2_get (sim_var 7) (sim_b sim_int) (fun _ _ => rfl)) sim_pa0))) sim_pa0)))) sim_nil)
  (sim_one1 (sim_dput 3 hu1 (sim_ix i2_get (sim_var 7) (sim_b sim_int) (fun _ _ => rfl)) (sim_ix i2_get (sim_var 7) (sim_b sim_int) (fun _ _ => rfl))))))
  (sim_seq (sim_for (passes_of rfl) rfl (sim_itA (sim_ix i2_get (sim_var 0) (sim_b sim_int) (fun _ _ => rfl))) (sim_gname rfl nd rfl (by first | exact Or.inl rfl | exact Or.inr rfl)) (sim_one1 (sim_drop (sim_lm 1 lop_ext PySem.F.slot_list_extend PySem.F.type_list_extend mt_extF (sim_pa (sim_asD (sim_fnO (ok_inner_faults G) (by decide) hr (.inl tk) (sim_cad (sim_var 7) (sim_cap 2 (sim_cap 3 sim_ca0))) rfl (by decide))) sim_pa0)))))
  (sim_one1 (sim_ret (sim_lc (own := [("at", 8), ("fault", 9)]) rfl nd (sim_enum rfl (G.fr "enumerate" (mem_ix 6 rfl)) (sim_pa (sim_frz 1) sim_pa0)) (blkOk_by (N := N_faults_of) (sc := defScope (top 41)) (by decide +kernel)) (fun _ _ _ _ _ => (sim_gtup rfl (sim_gs (sim_gname rfl nd rfl (by first | exact Or.inl rfl | exact Or.inr rfl)) (sim_gs (sim_gname rfl nd rfl (by first | exact Or.inl rfl | exact Or.inr rfl)) sim_gs0)) rfl)) (fun _ _ _ _ _ => (sim_pts1 (sim_tcmp (o2_notIn hu) (sim_var 9) (sim_b (sim_nF (sim_cutPl 1 sim_po0 (sim_po (sim_var 8))))) rfl))) (fun _ _ _ _ _ => (sim_var 9))))))))))
theorem sc_is_unit : FnScope N_is_unit ["thing"] (defScope (top 38)) := ⟨rfl, rfl, rfl, by decide +kernel, rfl, by decide +kernel, by decide +kernel⟩
theorem ok_is_unit (G : Gs P w K mg base) : FnAt P w K mg base "is_unit" ["thing"] 18 1 m_is_unit := by
  obtain ⟨fd, F, g⟩ := G.fn ("is_unit", 38) (mem_ix 19 rfl)
  refine ⟨_, fd, g, F.kp, F.bindsN fun _ _ _ _ _ _ us hl => match us, hl with | [_], _ => rfl, funD_lk F, fn_body (np := np_is_unit) (ms := s_is_unit) F sc_is_unit rfl rfl fun cdv A outer s H E hr tk => ?_⟩
  have hu := room100 hr
  have hu1 := room1 hr
  have nd := sc_is_unit.nd
  exact (sim_one1 (sim_ret (sim_andV (sim_asD (sim_fnO (ok_is_shape G) (by decide) hr (.inl tk) (sim_cad (sim_var 0) sim_ca0) rfl (by decide))) (sim_one (sim_cmp (o2_eq hu) (sim_asD (sim_fnO (ok_faults_of G) (by decide) hr (.inl tk) (sim_cad (sim_var 0) sim_ca0) rfl (by decide))) (sim_b (sim_nF (sim_lstN sim_pa0))) (nobehind _ (by decide) (by decide)))))))
theorem sc_check_unit : FnScope N_check_unit ["unit"] (defScope (top 39)) := ⟨rfl, rfl, rfl, by decide +kernel, rfl, by decide +kernel, by decide +kernel⟩
theorem ok_check_unit (G : Gs P w K mg base) : FnAt P w K mg base "check_unit" ["unit"] 19 1 m_check_unit := by
  obtain ⟨fd, F, g⟩ := G.fn ("check_unit", 39) (mem_ix 20 rfl)
  refine ⟨_, fd, g, F.kp, F.bindsN fun _ _ _ _ _ _ us hl => match us, hl with | [_], _ => rfl, funD_lk F, fn_body (np := np_check_unit) (ms := s_check_unit) F sc_check_unit rfl rfl fun cdv A outer s H E hr tk => ?_⟩
  have hu := room100 hr
  have hu1 := room1 hr
  have nd := sc_check_unit.nd
  exact (sim_one1 (sim_if (sim_tnot (sim_t (sim_asD (sim_fnO (ok_is_unit G) (by decide) hr (.inl tk) (sim_cad (sim_var 0) sim_ca0) rfl (by decide))))) (sim_one1 (sim_raise rfl tk (G.mk_BadUnit) (fun _ _ _ h => h) rfl)) sim_nil))
theorem sc_faults : FnScope N_faults ["unit"] (defScope (top 40)) := ⟨rfl, rfl, rfl, by decide +kernel, rfl, by decide +kernel, by decide +kernel⟩
theorem ok_faults (G : Gs P w K mg base) : FnAt P w K mg base "faults" ["unit"] 18 1 m_faults := by
  obtain ⟨fd, F, g⟩ := G.fn ("faults", 40) (mem_ix 21 rfl)
  refine ⟨_, fd, g, F.kp, F.bindsN fun _ _ _ _ _ _ us hl => match us, hl with | [_], _ => rfl, funD_lk F, fn_body (np := np_faults) (ms := s_faults) F sc_faults rfl rfl fun cdv A outer s H E hr tk => ?_⟩
  have hu := room100 hr
  have hu1 := room1 hr
  have nd := sc_faults.nd
  exact (sim_seq (sim_drop (sim_asD (sim_fnO (ok_check_shape G) (by decide) hr (.inl tk) (sim_cad (sim_var 0) sim_ca0) rfl (by decide))))
  (sim_one1 (sim_ret (sim_tupleC rfl (G.fr "tuple" (mem_ix 18 rfl)) (sim_b (sim_asD (sim_fnO (ok_faults_of G) (by decide) hr (.inl tk) (sim_cad (sim_var 0) sim_ca0) rfl (by decide))))))))
theorem sc_calls_of : FnScope N_calls_of ["unit"] (defScope (top 48)) := ⟨rfl, rfl, rfl, by decide +kernel, rfl, by decide +kernel, by decide +kernel⟩
theorem ok_calls_of (G : Gs P w K mg base) : FnAt P w K mg base "calls_of" ["unit"] 20 1 m_calls_of := by
  obtain ⟨fd, F, g⟩ := G.fn ("calls_of", 48) (mem_ix 29 rfl)
  refine ⟨_, fd, g, F.kp, F.bindsN fun _ _ _ _ _ _ us hl => match us, hl with | [_], _ => rfl, funD_lk F, fn_body (np := np_calls_of) (ms := s_calls_of) F sc_calls_of rfl rfl fun cdv A outer s H E hr tk => ?_⟩
  have hu := room100 hr
  have hu1 := room1 hr
  have nd := sc_calls_of.nd
  exact (sim_seq (sim_drop (sim_asD (sim_fnO (ok_check_unit G) (by decide) hr (.inl tk) (sim_cad (sim_var 0) sim_ca0) rfl (by decide))))
  (sim_seq (sim_setO rfl nd rfl (by first | exact Or.inl rfl | exact Or.inr rfl) sim_dnew)
  (sim_seq (sim_for (passes_of rfl) rfl (sim_itA (sim_ix i2_get (sim_var 0) (sim_b sim_int) (fun _ _ => rfl))) (sim_gname rfl nd rfl (by first | exact Or.inl rfl | exact Or.inr rfl)) (sim_one1 (sim_for (passes_of rfl) rfl (sim_itA (sim_asD (sim_fnO (ok_statements_of G 12) (by decide) hr (.inl tk) (sim_cad (sim_ix i2_get (sim_var 2) (sim_b sim_int) (fun _ _ => rfl)) sim_ca0) rfl (by decide)))) (sim_gname rfl nd rfl (by first | exact Or.inl rfl | exact Or.inr rfl)) (sim_one1 (sim_if (sim_tcmp (o2_eq hu) (sim_ix i2_get (sim_var 3) (sim_b sim_int) (fun _ _ => rfl)) (sim_b sim_str) (nobehind _ (by decide) (by decide))) (sim_one1 (sim_dput 1 hu1 (sim_call1 cl_len rfl (G.fr "len" (mem_ix 9 rfl)) (by decide +kernel) (sim_b (sim_ix i2_get (sim_var 3) (sim_b sim_int) (fun _ _ => rfl)))) (sim_ix i2_get (sim_var 3) (sim_b sim_int) (fun _ _ => rfl)))) sim_nil)))))
  (sim_one1 (sim_ret (sim_tupleC rfl (G.fr "tuple" (mem_ix 18 rfl)) (sim_b (sim_nF (sim_sortN rfl (G.fr "sorted" (mem_ix 15 rfl)) (sim_b (sim_nF (sim_listDN 1 rfl rfl (G.fr "list" (mem_ix 10 rfl))))))))))))))
theorem sc_outer_calls : FnScope N_outer_calls ["unit"] (defScope (top 49)) := ⟨rfl, rfl, rfl, by decide +kernel, rfl, by decide +kernel, by decide +kernel⟩
theorem ok_outer_calls (G : Gs P w K mg base) : FnAt P w K mg base "outer_calls" ["unit"] 20 1 m_outer_calls := by
  obtain ⟨fd, F, g⟩ := G.fn ("outer_calls", 49) (mem_ix 30 rfl)
  refine ⟨_, fd, g, F.kp, F.bindsN fun _ _ _ _ _ _ us hl => match us, hl with | [_], _ => rfl, funD_lk F, fn_body (np := np_outer_calls) (ms := s_outer_calls) F sc_outer_calls rfl rfl fun cdv A outer s H E hr tk => ?_⟩
  have hu := room100 hr
  have hu1 := room1 hr
  have nd := sc_outer_calls.nd
  exact (sim_seq (sim_drop (sim_asD (sim_fnO (ok_check_unit G) (by decide) hr (.inl tk) (sim_cad (sim_var 0) sim_ca0) rfl (by decide))))
  (sim_seq (sim_parT (sl := [1, 2]) (by decide) rfl (by decide) (by decide) (pgs_cons (pg_name nd rfl (by first | exact Or.inl rfl | exact Or.inr rfl)) (pgs_cons (pg_name nd rfl (by first | exact Or.inl rfl | exact Or.inr rfl)) pgs_nil)) (sim_pao (sim_lcO (own := [("procedure", 3)]) rfl nd (sim_itA (sim_ix i2_get (sim_var 0) (sim_b sim_int) (fun _ _ => rfl))) (blkOk_by (N := N_outer_calls) (sc := defScope (top 49)) (by decide +kernel)) (fun _ _ _ _ _ => (sim_gname rfl nd rfl (by first | exact Or.inl rfl | exact Or.inr rfl))) (fun _ _ _ _ _ => sim_pts0) (fun _ _ _ _ _ => (sim_ix i2_get (sim_var 3) (sim_b sim_int) (fun _ _ => rfl)))) (sim_pao sim_dnew sim_pao0)))
  (sim_seq (sim_for (passes_of rfl) rfl (sim_itA (sim_ix i2_get (sim_var 0) (sim_b sim_int) (fun _ _ => rfl))) (sim_gname rfl nd rfl (by first | exact Or.inl rfl | exact Or.inr rfl)) (sim_one1 (sim_for (passes_of rfl) rfl (sim_itA (sim_asD (sim_fnO (ok_statements_of G 12) (by decide) hr (.inl tk) (sim_cad (sim_ix i2_get (sim_var 3) (sim_b sim_int) (fun _ _ => rfl)) sim_ca0) rfl (by decide)))) (sim_gname rfl nd rfl (by first | exact Or.inl rfl | exact Or.inr rfl)) (sim_one1 (sim_if (PW.pt (sim_tand (sim_tcmp (o2_eq hu) (sim_ix i2_get (sim_var 4) (sim_b sim_int) (fun _ _ => rfl)) (sim_b sim_str) (nobehind _ (by decide) (by decide))) (sim_tand1 (sim_tcmp (o2_notIn hu) (sim_ix i2_get (sim_var 4) (sim_b sim_int) (fun _ _ => rfl)) (sim_plc 1) rfl)))) (sim_one1 (sim_dput 2 hu1 (sim_call1 cl_len rfl (G.fr "len" (mem_ix 9 rfl)) (by decide +kernel) (sim_b (sim_ix i2_get (sim_var 4) (sim_b sim_int) (fun _ _ => rfl)))) (sim_ix i2_get (sim_var 4) (sim_b sim_int) (fun _ _ => rfl)))) sim_nil)))))
  (sim_one1 (sim_ret (sim_tupleC rfl (G.fr "tuple" (mem_ix 18 rfl)) (sim_b (sim_lc (own := [("name", 5)]) rfl nd (sim_itA (sim_nF (sim_sortN rfl (G.fr "sorted" (mem_ix 15 rfl)) (sim_b (sim_nF (sim_listDN 2 rfl rfl (G.fr "list" (mem_ix 10 rfl)))))))) (blkOk_by (N := N_outer_calls) (sc := defScope (top 49)) (by decide +kernel)) (fun _ _ _ _ _ => (sim_gname rfl nd rfl (by first | exact Or.inl rfl | exact Or.inr rfl))) (fun _ _ _ _ _ => sim_pts0) (fun _ _ _ _ _ => (sim_tup (sim_pa (sim_var 5) (sim_pa (sim_dget 2 hu1 (sim_var 5) (fun _ _ => rfl)) sim_pa0))))))))))))
theorem sc_known_cells : FnScope N_known_cells ["unit"] (defScope (top 50)) := ⟨rfl, rfl, rfl, by decide +kernel, rfl, by decide +kernel, by decide +kernel⟩
theorem ok_known_cells (G : Gs P w K mg base) : FnAt P w K mg base "known_cells" ["unit"] 20 1 m_known_cells := by
  obtain ⟨fd, F, g⟩ := G.fn ("known_cells", 50) (mem_ix 31 rfl)
  refine ⟨_, fd, g, F.kp, F.bindsN fun _ _ _ _ _ _ us hl => match us, hl with | [_], _ => rfl, funD_lk F, fn_body (np := np_known_cells) (ms := s_known_cells) F sc_known_cells rfl rfl fun cdv A outer s H E hr tk => ?_⟩
  have hu := room100 hr
  have hu1 := room1 hr
  have nd := sc_known_cells.nd
  exact (sim_seq (sim_drop (sim_asD (sim_fnO (ok_check_unit G) (by decide) hr (.inl tk) (sim_cad (sim_var 0) sim_ca0) rfl (by decide))))
  (sim_one1 (sim_ret (sim_tupleC rfl (G.fr "tuple" (mem_ix 18 rfl)) (sim_b (sim_addA (sim_lc (own := [("name", 1), ("words", 2)]) rfl nd (sim_itA (sim_ix i2_get (sim_var 0) (sim_b sim_int) (fun _ _ => rfl))) (blkOk_by (N := N_known_cells) (sc := defScope (top 50)) (by decide +kernel)) (fun _ _ _ _ _ => (sim_gtup rfl (sim_gs (sim_gname rfl nd rfl (by first | exact Or.inl rfl | exact Or.inr rfl)) (sim_gs (sim_gname rfl nd rfl (by first | exact Or.inl rfl | exact Or.inr rfl)) sim_gs0)) rfl)) (fun _ _ _ _ _ => sim_pts0) (fun _ _ _ _ _ => (sim_tup (sim_pa (sim_var 1) (sim_pa (sim_call1 cl_len rfl (G.fr "len" (mem_ix 9 rfl)) (by decide +kernel) (sim_b (sim_var 2))) sim_pa0))))) (sim_b (sim_nF (sim_listN rfl (G.fr "list" (mem_ix 10 rfl)) (sim_b (sim_ix i2_get (sim_var 0) (sim_b sim_int) (fun _ _ => rfl))))))))))))
theorem sc_procedure_of : FnScope N_procedure_of ["unit", "name"] (defScope (top 51)) := ⟨rfl, rfl, rfl, by decide +kernel, rfl, by decide +kernel, by decide +kernel⟩
theorem ok_procedure_of (G : Gs P w K mg base) : FnAt P w K mg base "procedure_of" ["unit", "name"] 2 2 m_procedure_of := by
  obtain ⟨fd, F, g⟩ := G.fn ("procedure_of", 51) (mem_ix 32 rfl)
  refine ⟨_, fd, g, F.kp, F.bindsN fun _ _ _ _ _ _ us hl => match us, hl with | [_, _], _ => rfl, funD_lk F, fn_body (np := np_procedure_of) (ms := s_procedure_of) F sc_procedure_of rfl rfl fun cdv A outer s H E hr tk => ?_⟩
  have hu := room100 hr
  have hu1 := room1 hr
  have nd := sc_procedure_of.nd
  exact (sim_seq (sim_setLc (own := [("procedure", 3)]) rfl rfl nd rfl rfl (sw_true rfl rfl rfl rfl) (sim_itA (sim_ix i2_get (sim_var 0) (sim_b sim_int) (fun _ _ => rfl))) (blkOk_by (N := N_procedure_of) (sc := defScope (top 51)) (by decide +kernel)) (fun _ _ _ _ _ => (sim_gname rfl nd rfl (by first | exact Or.inl rfl | exact Or.inr rfl))) (fun _ _ _ _ _ => (sim_pts1 (sim_tcmp (o2_eq hu) (sim_ix i2_get (sim_var 3) (sim_b sim_int) (fun _ _ => rfl)) (sim_b (sim_var 1)) (nobehind _ (by decide) (by decide))))) (fun _ _ _ _ _ => (sim_var 3)))
  (sim_one1 (sim_ret (sim_ifV (sim_tcmpp 2 (o2_ne hu) (sim_b (sim_nF (sim_lstN sim_pa0))) (nobehind _ (by decide) (by decide))) (sim_ixp 2 i2_get (sim_b sim_int) (fun _ _ => rfl)) sim_non))))
theorem sc_size_of_unit : FnScope N_size_of_unit ["unit"] (defScope (top 52)) := ⟨rfl, rfl, rfl, by decide +kernel, rfl, by decide +kernel, by decide +kernel⟩
theorem ok_size_of_unit (G : Gs P w K mg base) : FnAt P w K mg base "size_of_unit" ["unit"] 20 1 m_size_of_unit := by
  obtain ⟨fd, F, g⟩ := G.fn ("size_of_unit", 52) (mem_ix 33 rfl)
  refine ⟨_, fd, g, F.kp, F.bindsN fun _ _ _ _ _ _ us hl => match us, hl with | [_], _ => rfl, funD_lk F, fn_body (np := np_size_of_unit) (ms := s_size_of_unit) F sc_size_of_unit rfl rfl fun cdv A outer s H E hr tk => ?_⟩
  have hu := room100 hr
  have hu1 := room1 hr
  have nd := sc_size_of_unit.nd
  exact (sim_seq (sim_drop (sim_asD (sim_fnO (ok_check_unit G) (by decide) hr (.inl tk) (sim_cad (sim_var 0) sim_ca0) rfl (by decide))))
  (sim_seq (sim_parT (sl := [1, 2]) (by decide) rfl (by decide) (by decide) (pgs_cons (pg_name nd rfl (by first | exact Or.inl rfl | exact Or.inr rfl)) (pgs_cons (pg_name nd rfl (by first | exact Or.inl rfl | exact Or.inr rfl)) pgs_nil)) (sim_pao (sim_asO sim_int) (sim_pao (sim_asO sim_int) sim_pao0)))
  (sim_seq (sim_for (passes_of rfl) rfl (sim_itA (sim_ix i2_get (sim_var 0) (sim_b sim_int) (fun _ _ => rfl))) (sim_gname rfl nd rfl (by first | exact Or.inl rfl | exact Or.inr rfl)) (sim_one1 (sim_for (passes_of rfl) rfl (sim_itA (sim_asD (sim_fnO (ok_statements_of G 12) (by decide) hr (.inl tk) (sim_cad (sim_ix i2_get (sim_var 3) (sim_b sim_int) (fun _ _ => rfl)) sim_ca0) rfl (by decide)))) (sim_gname rfl nd rfl (by first | exact Or.inl rfl | exact Or.inr rfl)) (sim_seq (sim_set rfl nd rfl (by first | exact Or.inl rfl | exact Or.inr rfl) (sim_addA (sim_var 1) (sim_b sim_int)))
  (sim_one1 (sim_set rfl nd rfl (by first | exact Or.inl rfl | exact Or.inr rfl) (sim_addA (sim_var 2) (sim_b (sim_call1 (cl_sum rfl) rfl (G.fr "sum" (mem_ix 17 rfl)) (by decide +kernel) (sim_b (sim_lc (own := [("one", 5)]) rfl nd (sim_itA (sim_asD (sim_fnO (ok_expressions_of G) (by decide) hr (.inl tk) (sim_cad (sim_var 4) sim_ca0) rfl (by decide)))) (blkOk_by (N := N_size_of_unit) (sc := defScope (top 52)) (by decide +kernel)) (fun _ _ _ _ _ => (sim_gname rfl nd rfl (by first | exact Or.inl rfl | exact Or.inr rfl))) (fun _ _ _ _ _ => sim_pts0) (fun _ _ _ _ _ => (sim_call1 cl_len rfl (G.fr "len" (mem_ix 9 rfl)) (by decide +kernel) (sim_b (sim_asD (sim_fnO (ok_inner_expressions G) (by decide) hr (.inr passNo) (sim_cad (sim_var 5) sim_ca0) rfl (by decide)))))))))))))))))
  (sim_one1 (sim_ret (sim_tup (sim_pa (sim_call1 cl_len rfl (G.fr "len" (mem_ix 9 rfl)) (by decide +kernel) (sim_b (sim_ix i2_get (sim_var 0) (sim_b sim_int) (fun _ _ => rfl)))) (sim_pa (sim_var 1) (sim_pa (sim_var 2) sim_pa0)))))))))
theorem sc_is_company : FnScope N_is_company ["thing"] (defScope (top 57)) := ⟨rfl, rfl, rfl, by decide +kernel, rfl, by decide +kernel, by decide +kernel⟩
theorem ok_is_company (G : Gs P w K mg base) : FnAt P w K mg base "is_company" ["thing"] 18 1 m_is_company := by
  obtain ⟨fd, F, g⟩ := G.fn ("is_company", 57) (mem_ix 34 rfl)
  refine ⟨_, fd, g, F.kp, F.bindsN fun _ _ _ _ _ _ us hl => match us, hl with | [_], _ => rfl, funD_lk F, fn_body (np := np_is_company) (ms := s_is_company) F sc_is_company rfl rfl fun cdv A outer s H E hr tk => ?_⟩
  have hu := room100 hr
  have hu1 := room1 hr
  have nd := sc_is_company.nd
  exact (sim_seq (sim_if (PW.pt (sim_tor (sim_tnot (sim_t (sim_isa (by decide +kernel) rfl (G.fr "isinstance" (mem_ix 8 rfl)) rfl (G.fr "tuple" (mem_ix 18 rfl)) (by decide +kernel) (sim_var 0)))) (sim_tor1 (sim_tnot (sim_tchn (o2_le hu) (o2_le hu) sim_int (sim_call1 cl_len rfl (G.fr "len" (mem_ix 9 rfl)) (by decide +kernel) (sim_b (sim_var 0))) (sim_b (sim_gint rfl (G.gInts ("MOST_UNITS", 6) (mem_ix 9 rfl))))))))) (sim_one1 (sim_ret sim_bl)) sim_nil)
  (sim_one1 (sim_ret (sim_call1 (cl_all rfl) rfl (G.fr "all" (mem_ix 2 rfl)) (by decide +kernel) (sim_b (sim_lc (own := [("one", 1)]) rfl nd (sim_itA (sim_var 0)) (blkOk_by (N := N_is_company) (sc := defScope (top 57)) (by decide +kernel)) (fun _ _ _ _ _ => (sim_gname rfl nd rfl (by first | exact Or.inl rfl | exact Or.inr rfl))) (fun _ _ _ _ _ => sim_pts0) (fun _ _ _ _ _ => (sim_andV (sim_asD (sim_fnO (ok_is_shape G) (by decide) hr (.inr passNo) (sim_cad (sim_var 1) sim_ca0) rfl (by decide))) (sim_one (sim_cmp (o2_eq hu) (sim_asD (sim_fnO (ok_faults_of G) (by decide) hr (.inr passNo) (sim_cad (sim_var 1) sim_ca0) rfl (by decide))) (sim_b (sim_nF (sim_lstN sim_pa0))) (nobehind _ (by decide) (by decide))))))))))))
theorem sc_lacking : FnScope N_lacking ["unit", "params", "sizes"] (defScope (top 59)) := ⟨rfl, rfl, rfl, by decide +kernel, rfl, by decide +kernel, by decide +kernel⟩
theorem ok_lacking (G : Gs P w K mg base) : FnAt P w K mg base "lacking" ["unit", "params", "sizes"] 21 3 m_lacking := by
  obtain ⟨fd, F, g⟩ := G.fn ("lacking", 59) (mem_ix 36 rfl)
  refine ⟨_, fd, g, F.kp, F.bindsN fun _ _ _ _ _ _ us hl => match us, hl with | [_, _, _], _ => rfl, funD_lk F, fn_body (np := np_lacking) (ms := s_lacking) F sc_lacking rfl rfl fun cdv A outer s H E hr tk => ?_⟩
  have hu := room100 hr
  have hu1 := room1 hr
  have nd := sc_lacking.nd
  exact (sim_seq (sim_setO rfl nd rfl (by first | exact Or.inl rfl | exact Or.inr rfl) (sim_nO (sim_lstN sim_pa0)))
  (sim_seq (sim_for (passes_of rfl) rfl (sim_itA (sim_asD (sim_fnO (ok_outer_calls G) (by decide) hr (.inl tk) (sim_cad (sim_var 0) sim_ca0) rfl (by decide)))) (sim_gtup rfl (sim_gs (sim_gname rfl nd rfl (by first | exact Or.inl rfl | exact Or.inr rfl)) (sim_gs (sim_gname rfl nd rfl (by first | exact Or.inl rfl | exact Or.inr rfl)) sim_gs0)) rfl) (sim_one1 (sim_if (sim_tdnotin 1 hu1 (sim_var 4)) (sim_one1 (sim_drop (sim_lm 3 lop_app PySem.F.slot_list_append PySem.F.type_list_append mt_append (sim_pa (sim_tup (sim_pa sim_str (sim_pa (sim_ix i2_get (sim_var 0) (sim_b sim_int) (fun _ _ => rfl)) (sim_pa (sim_var 4) sim_pa0)))) sim_pa0)))) (sim_one1 (sim_if (sim_tcmp (o2_ne hu) (sim_dget 1 hu1 (sim_var 4) (fun _ _ => rfl)) (sim_b (sim_var 5)) (nobehind _ (by decide) (by decide))) (sim_one1 (sim_drop (sim_lm 3 lop_app PySem.F.slot_list_append PySem.F.type_list_append mt_append (sim_pa (sim_tup (sim_pa sim_str (sim_pa (sim_ix i2_get (sim_var 0) (sim_b sim_int) (fun _ _ => rfl)) (sim_pa (sim_var 4) sim_pa0)))) sim_pa0)))) sim_nil)))))
  (sim_seq (sim_for (passes_of rfl) rfl (sim_itA (sim_ix i2_get (sim_var 0) (sim_b sim_int) (fun _ _ => rfl))) (sim_gtup rfl (sim_gs (sim_gname rfl nd rfl (by first | exact Or.inl rfl | exact Or.inr rfl)) (sim_gs (sim_gname rfl nd rfl (by first | exact Or.inl rfl | exact Or.inr rfl)) sim_gs0)) rfl) (sim_one1 (sim_if (sim_tdnotin 2 hu1 (sim_var 4)) (sim_one1 (sim_drop (sim_lm 3 lop_app PySem.F.slot_list_append PySem.F.type_list_append mt_append (sim_pa (sim_tup (sim_pa sim_str (sim_pa (sim_ix i2_get (sim_var 0) (sim_b sim_int) (fun _ _ => rfl)) (sim_pa (sim_var 4) sim_pa0)))) sim_pa0)))) (sim_one1 (sim_if (sim_tcmp (o2_ne hu) (sim_dget 2 hu1 (sim_var 4) (fun _ _ => rfl)) (sim_b (sim_var 6)) (nobehind _ (by decide) (by decide))) (sim_one1 (sim_drop (sim_lm 3 lop_app PySem.F.slot_list_append PySem.F.type_list_append mt_append (sim_pa (sim_tup (sim_pa sim_str (sim_pa (sim_ix i2_get (sim_var 0) (sim_b sim_int) (fun _ _ => rfl)) (sim_pa (sim_var 4) sim_pa0)))) sim_pa0)))) sim_nil)))))
  (sim_one1 (sim_ret (sim_frz 3))))))
theorem sc_between : FnScope N_between ["units"] (defScope (top 58)) := ⟨rfl, rfl, rfl, by decide +kernel, rfl, by decide +kernel, by decide +kernel⟩
theorem ok_between (G : Gs P w K mg base) : FnAt P w K mg base "between" ["units"] 22 1 m_between := by
  obtain ⟨fd, F, g⟩ := G.fn ("between", 58) (mem_ix 35 rfl)
  refine ⟨_, fd, g, F.kp, F.bindsN fun _ _ _ _ _ _ us hl => match us, hl with | [_], _ => rfl, funD_lk F, fn_body (np := np_between) (ms := s_between) F sc_between rfl rfl fun cdv A outer s H E hr tk => ?_⟩
  have hu := room100 hr
  have hu1 := room1 hr
  have nd := sc_between.nd
  exact (sim_seq (sim_parT (sl := [1, 2, 3, 4]) (by decide) rfl (by decide) (by decide) (pgs_cons (pg_name nd rfl (by first | exact Or.inl rfl | exact Or.inr rfl)) (pgs_cons (pg_name nd rfl (by first | exact Or.inl rfl | exact Or.inr rfl)) (pgs_cons (pg_name nd rfl (by first | exact Or.inl rfl | exact Or.inr rfl)) (pgs_cons (pg_name nd rfl (by first | exact Or.inl rfl | exact Or.inr rfl)) pgs_nil)))) (sim_pao (sim_nO (sim_lstN sim_pa0)) (sim_pao sim_dnew (sim_pao sim_dnew (sim_pao sim_dnew sim_pao0)))))
  (sim_seq (sim_for (passes_of rfl) rfl (sim_itA (sim_var 0)) (sim_gname rfl nd rfl (by first | exact Or.inl rfl | exact Or.inr rfl)) (sim_seq (sim_if (sim_tdin 2 hu1 (sim_ix i2_get (sim_var 5) (sim_b sim_int) (fun _ _ => rfl))) (sim_one1 (sim_drop (sim_lm 1 lop_app PySem.F.slot_list_append PySem.F.type_list_append mt_append (sim_pa (sim_tup (sim_pa sim_str (sim_pa (sim_ix i2_get (sim_var 5) (sim_b sim_int) (fun _ _ => rfl)) sim_pa0))) sim_pa0)))) sim_nil)
  (sim_seq (sim_dput 2 hu1 sim_bl (sim_ix i2_get (sim_var 5) (sim_b sim_int) (fun _ _ => rfl)))
  (sim_seq (sim_for (passes_of rfl) rfl (sim_itA (sim_ix i2_get (sim_var 5) (sim_b sim_int) (fun _ _ => rfl))) (sim_gtup rfl (sim_gs (sim_gname rfl nd rfl (by first | exact Or.inl rfl | exact Or.inr rfl)) (sim_gs (sim_gname rfl nd rfl (by first | exact Or.inl rfl | exact Or.inr rfl)) sim_gs0)) rfl) (sim_seq (sim_if (sim_tdin 4 hu1 (sim_var 6)) (sim_one1 (sim_drop (sim_lm 1 lop_app PySem.F.slot_list_append PySem.F.type_list_append mt_append (sim_pa (sim_tup (sim_pa sim_str (sim_pa (sim_var 6) sim_pa0))) sim_pa0)))) sim_nil)
  (sim_one1 (sim_dput 4 hu1 (sim_call1 cl_len rfl (G.fr "len" (mem_ix 9 rfl)) (by decide +kernel) (sim_b (sim_var 7))) (sim_var 6)))))
  (sim_one1 (sim_for (passes_of rfl) rfl (sim_itA (sim_ix i2_get (sim_var 5) (sim_b sim_int) (fun _ _ => rfl))) (sim_gname rfl nd rfl (by first | exact Or.inl rfl | exact Or.inr rfl)) (sim_seq (sim_if (sim_tdin 3 hu1 (sim_ix i2_get (sim_var 8) (sim_b sim_int) (fun _ _ => rfl))) (sim_one1 (sim_drop (sim_lm 1 lop_app PySem.F.slot_list_append PySem.F.type_list_append mt_append (sim_pa (sim_tup (sim_pa sim_str (sim_pa (sim_ix i2_get (sim_var 8) (sim_b sim_int) (fun _ _ => rfl)) sim_pa0))) sim_pa0)))) sim_nil)
  (sim_one1 (sim_dput 3 hu1 (sim_ix i2_get (sim_var 8) (sim_b sim_int) (fun _ _ => rfl)) (sim_ix i2_get (sim_var 8) (sim_b sim_int) (fun _ _ => rfl)))))))))))
  (sim_seq (sim_for (passes_of rfl) rfl (sim_itA (sim_var 0)) (sim_gname rfl nd rfl (by first | exact Or.inl rfl | exact Or.inr rfl)) (sim_one1 (sim_drop (sim_lm 1 lop_ext PySem.F.slot_list_extend PySem.F.type_list_extend mt_extF (sim_pa (sim_asD (sim_fnO (ok_lacking G) (by decide) hr (.inl tk) (sim_cad (sim_var 5) (sim_cap 3 (sim_cap 4 sim_ca0))) rfl (by decide))) sim_pa0)))))
  (sim_seq (sim_if (sim_tcmp (o2_ne hu) (sim_dget2 3 hu1 (sim_gstr rfl (G.gStrs ("MAIN", "main") (by decide))) sim_int ⟨rfl, rfl, rfl, rfl⟩) (sim_b sim_int) (nobehind _ (by decide) (by decide))) (sim_one1 (sim_drop (sim_lm 1 lop_app PySem.F.slot_list_append PySem.F.type_list_append mt_append (sim_pa (sim_tup (sim_pa sim_str sim_pa0)) sim_pa0)))) sim_nil)
  (sim_seq (sim_setO rfl nd rfl (by first | exact Or.inl rfl | exact Or.inr rfl) (sim_nO (sim_lstN sim_pa0)))
  (sim_seq (sim_for (passes_of rfl) rfl (sim_itA (sim_frz 1)) (sim_gname rfl nd rfl (by first | exact Or.inl rfl | exact Or.inr rfl)) (sim_one1 (sim_if (sim_tcmp (o2_notIn hu) (sim_var 10) (sim_plc 9) rfl) (sim_one1 (sim_drop (sim_lm 9 lop_app PySem.F.slot_list_append PySem.F.type_list_append mt_append (sim_pa (sim_var 10) sim_pa0)))) sim_nil)))
  (sim_one1 (sim_ret (sim_frz 9)))))))))
theorem sc_words_number : FnScope N_words_number ["units"] (defScope (top 62)) := ⟨rfl, rfl, rfl, by decide +kernel, rfl, by decide +kernel, by decide +kernel⟩
theorem ok_words_number (G : Gs P w K mg base) : FnAt P w K mg base "words_number" ["units"] 2 1 m_words_number := by
  obtain ⟨fd, F, g⟩ := G.fn ("words_number", 62) (mem_ix 39 rfl)
  refine ⟨_, fd, g, F.kp, F.bindsN fun _ _ _ _ _ _ us hl => match us, hl with | [_], _ => rfl, funD_lk F, fn_body (np := np_words_number) (ms := s_words_number) F sc_words_number rfl rfl fun cdv A outer s H E hr tk => ?_⟩
  have hu := room100 hr
  have hu1 := room1 hr
  have nd := sc_words_number.nd
  exact (sim_one1 (sim_ret (sim_call1 (cl_sum rfl) rfl (G.fr "sum" (mem_ix 17 rfl)) (by decide +kernel) (sim_b (sim_lc2 (own := [("unit", 1), ("name", 2), ("words", 3)]) (vs1 := [2, 3]) rfl nd (sim_itA (sim_var 0)) (blkOk_by (N := N_words_number) (sc := defScope (top 62)) (by decide +kernel)) (by decide) (fun _ _ _ _ _ => (sim_gname rfl nd rfl (by first | exact Or.inl rfl | exact Or.inr rfl))) (fun _ _ _ _ _ => sim_pts0) (fun _ _ _ _ _ => (sim_itA (sim_ix i2_get (sim_var 1) (sim_b sim_int) (fun _ _ => rfl)))) (fun _ _ _ _ _ => (sim_gtup rfl (sim_gs (sim_gname rfl nd rfl (by first | exact Or.inl rfl | exact Or.inr rfl)) (sim_gs (sim_gname rfl nd rfl (by first | exact Or.inl rfl | exact Or.inr rfl)) sim_gs0)) rfl)) (fun _ _ _ _ _ => sim_pts0) (fun _ _ _ _ _ => (sim_call1 cl_len rfl (G.fr "len" (mem_ix 9 rfl)) (by decide +kernel) (sim_b (sim_var 3)))))))))
theorem sc_is_program : FnScope N_is_program ["thing"] (defScope (top 60)) := ⟨rfl, rfl, rfl, by decide +kernel, rfl, by decide +kernel, by decide +kernel⟩
theorem ok_is_program (G : Gs P w K mg base) : FnAt P w K mg base "is_program" ["thing"] 23 1 m_is_program := by
  obtain ⟨fd, F, g⟩ := G.fn ("is_program", 60) (mem_ix 37 rfl)
  refine ⟨_, fd, g, F.kp, F.bindsN fun _ _ _ _ _ _ us hl => match us, hl with | [_], _ => rfl, funD_lk F, fn_body (np := np_is_program) (ms := s_is_program) F sc_is_program rfl rfl fun cdv A outer s H E hr tk => ?_⟩
  have hu := room100 hr
  have hu1 := room1 hr
  have nd := sc_is_program.nd
  exact (sim_seq (sim_if (PW.pt (sim_tor (sim_tnot (sim_t (sim_asD (sim_fnO (ok_is_tuple_of G) (by decide) hr (.inl tk) (sim_cad (sim_var 0) (sim_cad sim_int sim_ca0)) rfl (by decide))))) (sim_tor (sim_tnot (sim_t (sim_asD (sim_fnO (ok_is_within G) (by decide) hr (.inl tk) (sim_cad (sim_ix i2_get (sim_var 0) (sim_b sim_int) (fun _ _ => rfl)) (sim_cad sim_int (sim_cad (sim_gint rfl (G.gInts ("MOST_WIDTH", 4) (mem_ix 0 rfl))) sim_ca0))) rfl (by decide))))) (sim_tor1 (sim_tnot (sim_t (sim_asD (sim_fnO (ok_is_company G) (by decide) hr (.inl tk) (sim_cad (sim_ix i2_get (sim_var 0) (sim_b sim_int) (fun _ _ => rfl)) sim_ca0) rfl (by decide))))))))) (sim_one1 (sim_ret sim_bl)) sim_nil)
  (sim_one1 (sim_ret (sim_andV (sim_cmp (o2_eq hu) (sim_asD (sim_fnO (ok_between G) (by decide) hr (.inl tk) (sim_cad (sim_ix i2_get (sim_var 0) (sim_b sim_int) (fun _ _ => rfl)) sim_ca0) rfl (by decide))) (sim_b (sim_nF (sim_lstN sim_pa0))) (nobehind _ (by decide) (by decide))) (sim_one (sim_cmp (o2_le hu) (sim_asD (sim_fnO (ok_sized G) (by decide) hr (.inl tk) (sim_cad (sim_bin o2_mul (sim_ix i2_get (sim_var 0) (sim_b sim_int) (fun _ _ => rfl)) (sim_b (sim_asD (sim_fnO (ok_words_number G) (by decide) hr (.inl tk) (sim_cad (sim_ix i2_get (sim_var 0) (sim_b sim_int) (fun _ _ => rfl)) sim_ca0) rfl (by decide))))) sim_ca0) rfl (by decide))) (sim_b (sim_gint rfl (G.gInts ("MOST_STATES", 4096) (mem_ix 10 rfl)))) (nobehind _ (by decide) (by decide))))))))
theorem sc_check_program : FnScope N_check_program ["program"] (defScope (top 61)) := ⟨rfl, rfl, rfl, by decide +kernel, rfl, by decide +kernel, by decide +kernel⟩
theorem ok_check_program (G : Gs P w K mg base) : FnAt P w K mg base "check_program" ["program"] 24 1 m_check_program := by
  obtain ⟨fd, F, g⟩ := G.fn ("check_program", 61) (mem_ix 38 rfl)
  refine ⟨_, fd, g, F.kp, F.bindsN fun _ _ _ _ _ _ us hl => match us, hl with | [_], _ => rfl, funD_lk F, fn_body (np := np_check_program) (ms := s_check_program) F sc_check_program rfl rfl fun cdv A outer s H E hr tk => ?_⟩
  have hu := room100 hr
  have hu1 := room1 hr
  have nd := sc_check_program.nd
  exact (sim_one1 (sim_if (sim_tnot (sim_t (sim_asD (sim_fnO (ok_is_program G) (by decide) hr (.inl tk) (sim_cad (sim_var 0) sim_ca0) rfl (by decide))))) (sim_one1 (sim_raise rfl tk (G.mk_BadProgram) (fun _ _ _ h => h) rfl)) sim_nil))
theorem sc_cells_of : FnScope N_cells_of ["units"] (defScope (top 63)) := ⟨rfl, rfl, rfl, by decide +kernel, rfl, by decide +kernel, by decide +kernel⟩
theorem ok_cells_of (G : Gs P w K mg base) : FnAt P w K mg base "cells_of" ["units"] 2 1 m_cells_of := by
  obtain ⟨fd, F, g⟩ := G.fn ("cells_of", 63) (mem_ix 40 rfl)
  refine ⟨_, fd, g, F.kp, F.bindsN fun _ _ _ _ _ _ us hl => match us, hl with | [_], _ => rfl, funD_lk F, fn_body (np := np_cells_of) (ms := s_cells_of) F sc_cells_of rfl rfl fun cdv A outer s H E hr tk => ?_⟩
  have hu := room100 hr
  have hu1 := room1 hr
  have nd := sc_cells_of.nd
  exact (sim_one1 (sim_ret (sim_lc2 (own := [("unit", 1), ("name", 2), ("words", 3)]) (vs1 := [2, 3]) rfl nd (sim_itA (sim_var 0)) (blkOk_by (N := N_cells_of) (sc := defScope (top 63)) (by decide +kernel)) (by decide) (fun _ _ _ _ _ => (sim_gname rfl nd rfl (by first | exact Or.inl rfl | exact Or.inr rfl))) (fun _ _ _ _ _ => sim_pts0) (fun _ _ _ _ _ => (sim_itA (sim_ix i2_get (sim_var 1) (sim_b sim_int) (fun _ _ => rfl)))) (fun _ _ _ _ _ => (sim_gtup rfl (sim_gs (sim_gname rfl nd rfl (by first | exact Or.inl rfl | exact Or.inr rfl)) (sim_gs (sim_gname rfl nd rfl (by first | exact Or.inl rfl | exact Or.inr rfl)) sim_gs0)) rfl)) (fun _ _ _ _ _ => sim_pts0) (fun _ _ _ _ _ => (sim_tup (sim_pa (sim_var 2) (sim_pa (sim_call1 cl_len rfl (G.fr "len" (mem_ix 9 rfl)) (by decide +kernel) (sim_b (sim_var 3))) sim_pa0)))))))
theorem sc_all_cells : FnScope N_all_cells ["program"] (defScope (top 64)) := ⟨rfl, rfl, rfl, by decide +kernel, rfl, by decide +kernel, by decide +kernel⟩
theorem ok_all_cells (G : Gs P w K mg base) : FnAt P w K mg base "all_cells" ["program"] 25 1 m_all_cells := by
  obtain ⟨fd, F, g⟩ := G.fn ("all_cells", 64) (mem_ix 41 rfl)
  refine ⟨_, fd, g, F.kp, F.bindsN fun _ _ _ _ _ _ us hl => match us, hl with | [_], _ => rfl, funD_lk F, fn_body (np := np_all_cells) (ms := s_all_cells) F sc_all_cells rfl rfl fun cdv A outer s H E hr tk => ?_⟩
  have hu := room100 hr
  have hu1 := room1 hr
  have nd := sc_all_cells.nd
  exact (sim_seq (sim_drop (sim_asD (sim_fnO (ok_check_program G) (by decide) hr (.inl tk) (sim_cad (sim_var 0) sim_ca0) rfl (by decide))))
  (sim_one1 (sim_retO (sim_tupN rfl (G.fr "tuple" (mem_ix 18 rfl)) (sim_b (sim_asD (sim_fnO (ok_cells_of G) (by decide) hr (.inl tk) (sim_cad (sim_ix i2_get (sim_var 0) (sim_b sim_int) (fun _ _ => rfl)) sim_ca0) rfl (by decide))))))))
theorem sc_home_of : FnScope N_home_of ["units", "name"] (defScope (top 65)) := ⟨rfl, rfl, rfl, by decide +kernel, rfl, by decide +kernel, by decide +kernel⟩
theorem ok_home_of (G : Gs P w K mg base) : FnAt P w K mg base "home_of" ["units", "name"] 3 2 m_home_of := by
  obtain ⟨fd, F, g⟩ := G.fn ("home_of", 65) (mem_ix 42 rfl)
  refine ⟨_, fd, g, F.kp, F.bindsN fun _ _ _ _ _ _ us hl => match us, hl with | [_, _], _ => rfl, funD_lk F, fn_body (np := np_home_of) (ms := s_home_of) F sc_home_of rfl rfl fun cdv A outer s H E hr tk => ?_⟩
  have hu := room100 hr
  have hu1 := room1 hr
  have nd := sc_home_of.nd
  exact (sim_seq (sim_setLc (own := [("at", 3), ("unit", 4)]) rfl rfl nd rfl rfl (sw_true rfl rfl rfl rfl) (sim_enum rfl (G.fr "enumerate" (mem_ix 6 rfl)) (sim_pa (sim_var 0) sim_pa0)) (blkOk_by (N := N_home_of) (sc := defScope (top 65)) (by decide +kernel)) (fun _ _ _ _ _ => (sim_gtup rfl (sim_gs (sim_gname rfl nd rfl (by first | exact Or.inl rfl | exact Or.inr rfl)) (sim_gs (sim_gname rfl nd rfl (by first | exact Or.inl rfl | exact Or.inr rfl)) sim_gs0)) rfl)) (fun _ _ _ _ _ => (sim_pts1 (sim_tcmp o2_isNot' (sim_asD (sim_fnO (ok_procedure_of G) (by decide) hr (.inr passNo) (sim_cad (sim_var 4) (sim_cad (sim_var 1) sim_ca0)) rfl (by decide))) (sim_b sim_non) (nobehind _ (by decide) (by decide))))) (fun _ _ _ _ _ => (sim_var 3)))
  (sim_one1 (sim_ret (sim_ifV (sim_tcmpp 2 (o2_ne hu) (sim_b (sim_nF (sim_lstN sim_pa0))) (nobehind _ (by decide) (by decide))) (sim_ixp 2 i2_get (sim_b sim_int) (fun _ _ => rfl)) sim_non))))
theorem sc_home : FnScope N_home ["program", "name"] (defScope (top 66)) := ⟨rfl, rfl, rfl, by decide +kernel, rfl, by decide +kernel, by decide +kernel⟩
theorem ok_home (G : Gs P w K mg base) : FnAt P w K mg base "home" ["program", "name"] 25 2 m_home := by
  obtain ⟨fd, F, g⟩ := G.fn ("home", 66) (mem_ix 43 rfl)
  refine ⟨_, fd, g, F.kp, F.bindsN fun _ _ _ _ _ _ us hl => match us, hl with | [_, _], _ => rfl, funD_lk F, fn_body (np := np_home) (ms := s_home) F sc_home rfl rfl fun cdv A outer s H E hr tk => ?_⟩
  have hu := room100 hr
  have hu1 := room1 hr
  have nd := sc_home.nd
  exact (sim_seq (sim_drop (sim_asD (sim_fnO (ok_check_program G) (by decide) hr (.inl tk) (sim_cad (sim_var 0) sim_ca0) rfl (by decide))))
  (sim_seq (sim_if (sim_tnot (sim_t (sim_isa (by decide +kernel) rfl (G.fr "isinstance" (mem_ix 8 rfl)) rfl (G.fr "str" (mem_ix 16 rfl)) (by decide +kernel) (sim_var 1)))) (sim_one1 (sim_ret sim_non)) sim_nil)
  (sim_one1 (sim_ret (sim_asD (sim_fnO (ok_home_of G) (by decide) hr (.inl tk) (sim_cad (sim_ix i2_get (sim_var 0) (sim_b sim_int) (fun _ _ => rfl)) (sim_cad (sim_var 1) sim_ca0)) rfl (by decide)))))))
theorem sc__law_hand : FnScope N__law_hand ["script"] (defScope (top 68)) := ⟨rfl, rfl, rfl, by decide +kernel, rfl, by decide +kernel, by decide +kernel⟩
theorem ok__law_hand (G : Gs P w K mg base) : FnAt P w K mg base "_law_hand" ["script"] 2 1 m__law_hand := by
  obtain ⟨fd, F, g⟩ := G.fn ("_law_hand", 68) (mem_ix 44 rfl)
  refine ⟨_, fd, g, F.kp, F.bindsN fun _ _ _ _ _ _ us hl => match us, hl with | [_], _ => rfl, funD_lk F, fn_body (np := np__law_hand) (ms := s__law_hand) F sc__law_hand rfl rfl fun cdv A outer s H E hr tk => ?_⟩
  have hu := room100 hr
  have hu1 := room1 hr
  have nd := sc__law_hand.nd
  exact (sim_seq (sim_setLc (own := [("cell", 2)]) rfl rfl nd rfl rfl (sw_true rfl rfl rfl rfl) (sim_itA (sim_cutA (sim_var 0) sim_po0 (sim_po sim_int))) (blkOk_by (N := N__law_hand) (sc := defScope (top 68)) (by decide +kernel)) (fun _ _ _ _ _ => (sim_gname rfl nd rfl (by first | exact Or.inl rfl | exact Or.inr rfl))) (fun _ _ _ _ _ => sim_pts0) (fun _ _ _ _ _ => (sim_call1 cl_abs rfl (G.fr "abs" (mem_ix 1 rfl)) (by decide +kernel) (sim_b (sim_callT1 cl_int rfl (G.fr "int" (mem_ix 7 rfl)) (by decide +kernel) (sim_b (sim_var 2)))))))
  (sim_one1 (sim_retO (sim_nO (sim_lstN (sim_pa (sim_frz 1) (sim_pa sim_int (sim_pa sim_int (sim_pa (sim_addA sim_int (sim_b (sim_bin o2_mul sim_int (sim_b (sim_call1 cl_len rfl (G.fr "len" (mem_ix 9 rfl)) (by decide +kernel) (sim_plc 1)))))) (sim_pa sim_int sim_pa0))))))))))
theorem sc__law_draw : FnScope N__law_draw ["hand", "many"] (defScope (top 69)) := ⟨rfl, rfl, rfl, by decide +kernel, rfl, by decide +kernel, by decide +kernel⟩
theorem ok__law_draw (G : Gs P w K mg base) : FnAt P w K mg base "_law_draw" ["hand", "many"] 2 2 m__law_draw := by
  obtain ⟨fd, F, g⟩ := G.fn ("_law_draw", 69) (mem_ix 45 rfl)
  refine ⟨_, fd, g, F.kp, F.bindsN fun _ _ _ _ _ _ us hl => match us, hl with | [_, _], _ => rfl, funD_lk F, fn_body (np := np__law_draw) (ms := s__law_draw) F sc__law_draw rfl rfl fun cdv A outer s H E hr tk => ?_⟩
  have hu := room100 hr
  have hu1 := room1 hr
  have nd := sc__law_draw.nd
  exact (sim_seq (sim_if (PW.pt (sim_tand (sim_tcmp (o2_eq hu) (sim_ixp 0 i2_get (sim_b sim_int) (fun _ _ => rfl)) (sim_b sim_int) (nobehind _ (by decide) (by decide))) (sim_tand1 (sim_tcmp (o2_lt hu) (sim_ixp 0 i2_get (sim_b sim_int) (fun _ _ => rfl)) (sim_b (sim_call1 cl_len rfl (G.fr "len" (mem_ix 9 rfl)) (by decide +kernel) (sim_b (sim_ixp 0 i2_get (sim_b sim_int) (fun _ _ => rfl))))) (nobehind _ (by decide) (by decide)))))) (sim_seq (sim_set rfl nd rfl (by first | exact Or.inl rfl | exact Or.inr rfl) (sim_ix i2_get (sim_ixp 0 i2_get (sim_b sim_int) (fun _ _ => rfl)) (sim_b (sim_ixp 0 i2_get (sim_b sim_int) (fun _ _ => rfl))) (fun _ _ => rfl)))
  (sim_seq (sim_setIx 0 (sim_addA (sim_ixp 0 i2_get (sim_b sim_int) (fun _ _ => rfl)) (sim_b sim_int)) sim_int)
  (sim_seq (sim_setIx 0 (sim_bin o2_mod (sim_callT1 cl_int rfl (G.fr "int" (mem_ix 7 rfl)) (by decide +kernel) (sim_b (sim_addA (sim_addA (sim_bin o2_mul (sim_ixp 0 i2_get (sim_b sim_int) (fun _ _ => rfl)) (sim_b sim_int)) (sim_b (sim_bin o2_mul (sim_var 2) (sim_b sim_int)))) (sim_b sim_int)))) (sim_b sim_int)) sim_int)
  (sim_one1 (sim_if (sim_tcmp (o2_ge hu) (sim_var 2) (sim_b (sim_bin o2_pow sim_int (sim_b sim_int))) (nobehind _ (by decide) (by decide))) (sim_one1 (sim_setIx 0 (sim_var 2) sim_int)) sim_nil))))) sim_nil)
  (sim_seq (sim_if (sim_tcmp (o2_gt hu) (sim_ixp 0 i2_get (sim_b sim_int) (fun _ _ => rfl)) (sim_b sim_int) (nobehind _ (by decide) (by decide))) (sim_seq (sim_set rfl nd rfl (by first | exact Or.inl rfl | exact Or.inr rfl) (sim_bin o2_mod (sim_callT1 cl_int rfl (G.fr "int" (mem_ix 7 rfl)) (by decide +kernel) (sim_b (sim_ixp 0 i2_get (sim_b sim_int) (fun _ _ => rfl)))) (sim_b (sim_var 1))))
  (sim_seq (sim_setIx 0 (sim_bin o2_fdiv (sim_ixp 0 i2_get (sim_b sim_int) (fun _ _ => rfl)) (sim_b (sim_var 1))) sim_int)
  (sim_one1 (sim_ret (sim_var 3))))) sim_nil)
  (sim_seq (sim_setIx 0 (sim_addA (sim_ixp 0 i2_get (sim_b sim_int) (fun _ _ => rfl)) (sim_b sim_int)) sim_int)
  (sim_seq (sim_set rfl nd rfl (by first | exact Or.inl rfl | exact Or.inr rfl) (sim_bin o2_mod (sim_callT1 cl_int rfl (G.fr "int" (mem_ix 7 rfl)) (by decide +kernel) (sim_b (sim_bin o2_mul (sim_callT1 cl_int rfl (G.fr "int" (mem_ix 7 rfl)) (by decide +kernel) (sim_b (sim_addA (sim_ixp 0 i2_get (sim_b sim_int) (fun _ _ => rfl)) (sim_b (sim_bin o2_mul sim_int (sim_b (sim_ixp 0 i2_get (sim_b sim_int) (fun _ _ => rfl)))))))) (sim_b sim_int)))) (sim_b sim_int)))
  (sim_seq (sim_set rfl nd rfl (by first | exact Or.inl rfl | exact Or.inr rfl) (sim_bin o2_mod (sim_callT1 cl_int rfl (G.fr "int" (mem_ix 7 rfl)) (by decide +kernel) (sim_b (sim_bin o2_mul (sim_var 4) (sim_b (sim_addA (sim_bin o2_fdiv (sim_var 4) (sim_b sim_int)) (sim_b sim_int)))))) (sim_b sim_int)))
  (sim_seq (sim_set rfl nd rfl (by first | exact Or.inl rfl | exact Or.inr rfl) (sim_bin o2_mod (sim_callT1 cl_int rfl (G.fr "int" (mem_ix 7 rfl)) (by decide +kernel) (sim_b (sim_bin o2_mul (sim_var 4) (sim_b (sim_addA (sim_bin o2_fdiv (sim_var 4) (sim_b sim_int)) (sim_b sim_int)))))) (sim_b sim_int)))
  (sim_one1 (sim_ret (sim_bin o2_mod (sim_callT1 cl_int rfl (G.fr "int" (mem_ix 7 rfl)) (by decide +kernel) (sim_b (sim_bin o2_fdiv (sim_var 4) (sim_b sim_int)))) (sim_b (sim_var 1)))))))))))
theorem sc__law_any : FnScope N__law_any ["hand", "some"] (defScope (top 70)) := ⟨rfl, rfl, rfl, by decide +kernel, rfl, by decide +kernel, by decide +kernel⟩
theorem ok__law_any (G : Gs P w K mg base) : FnAt P w K mg base "_law_any" ["hand", "some"] 3 2 m__law_any := by
  obtain ⟨fd, F, g⟩ := G.fn ("_law_any", 70) (mem_ix 46 rfl)
  refine ⟨_, fd, g, F.kp, F.bindsN fun _ _ _ _ _ _ us hl => match us, hl with | [_, _], _ => rfl, funD_lk F, fn_body (np := np__law_any) (ms := s__law_any) F sc__law_any rfl rfl fun cdv A outer s H E hr tk => ?_⟩
  have hu := room100 hr
  have hu1 := room1 hr
  have nd := sc__law_any.nd
  exact (sim_one1 (sim_ret (sim_ix i2_get (sim_var 1) (sim_b (sim_asD (sim_fnO (ok__law_draw G) (by decide) hr (.inl tk) (sim_cap 0 (sim_cad (sim_call1 cl_len rfl (G.fr "len" (mem_ix 9 rfl)) (by decide +kernel) (sim_b (sim_var 1))) sim_ca0)) rfl (by decide)))) (fun _ _ => rfl))))
theorem sc__law_is : FnScope N__law_is ["answer", "due"] (defScope (top 71)) := ⟨rfl, rfl, rfl, by decide +kernel, rfl, by decide +kernel, by decide +kernel⟩
theorem okr__law_is (G : Gs P w K mg base) : ∀ n : Nat, FnAt P w K mg base "_law_is" ["answer", "due"] (2 + n) 2 (m__law_is n)
  | 0 => (by
    obtain ⟨fd, F, g⟩ := G.fn ("_law_is", 71) (mem_ix 47 rfl)
    exact ⟨_, fd, g, F.kp, F.bindsN fun _ _ _ _ _ _ us hl => match us, hl with | [_, _], _ => rfl, funD_lk F, fnOk_zero rfl⟩)
  | n + 1 => by
    have IH__law_is := okr__law_is G n
    exact (by
      obtain ⟨fd, F, g⟩ := G.fn ("_law_is", 71) (mem_ix 47 rfl)
      refine ⟨_, fd, g, F.kp, F.bindsN fun _ _ _ _ _ _ us hl => match us, hl with | [_, _], _ => rfl, funD_lk F, fn_body (k := 2 + n) (np := np__law_is) F sc__law_is rfl rfl fun cdv A outer s H E hr tk => ?_⟩
      have hu := room100 hr
      have hu1 := room1 hr
      have nd := sc__law_is.nd
      exact (sim_seq (sim_if (PW.pt (sim_tor (sim_tcmp o2_is' (sim_var 1) (sim_b sim_non) (nobehind _ (by decide) (by decide))) (sim_tor1 (sim_tcmp o2_is' (sim_var 0) (sim_b sim_non) (nobehind _ (by decide) (by decide)))))) (sim_one1 (sim_ret (sim_andV (sim_cmp o2_is' (sim_var 1) (sim_b sim_non) (nobehind _ (by decide) (by decide))) (sim_one (sim_cmp o2_is' (sim_var 0) (sim_b sim_non) (nobehind _ (by decide) (by decide))))))) sim_nil)
        (sim_seq (sim_if (sim_t (sim_isa2 (by decide +kernel) (by decide +kernel) rfl (G.fr "isinstance" (mem_ix 8 rfl)) rfl (G.fr "tuple" (mem_ix 18 rfl)) (by decide +kernel) rfl (G.fr "list" (mem_ix 10 rfl)) (by decide +kernel) (sim_var 1))) (sim_seq (sim_if (PW.pt (sim_tor (sim_tcmp (o2_ne hu) (sim_isa (by decide +kernel) rfl (G.fr "isinstance" (mem_ix 8 rfl)) rfl (G.fr "tuple" (mem_ix 18 rfl)) (by decide +kernel) (sim_var 0)) (sim_b (sim_isa (by decide +kernel) rfl (G.fr "isinstance" (mem_ix 8 rfl)) rfl (G.fr "tuple" (mem_ix 18 rfl)) (by decide +kernel) (sim_var 1))) (nobehind _ (by decide) (by decide))) (sim_tor1 (sim_tcmp (o2_ne hu) (sim_isa (by decide +kernel) rfl (G.fr "isinstance" (mem_ix 8 rfl)) rfl (G.fr "list" (mem_ix 10 rfl)) (by decide +kernel) (sim_var 0)) (sim_b (sim_isa (by decide +kernel) rfl (G.fr "isinstance" (mem_ix 8 rfl)) rfl (G.fr "list" (mem_ix 10 rfl)) (by decide +kernel) (sim_var 1))) (nobehind _ (by decide) (by decide)))))) (sim_one1 (sim_ret sim_bl)) sim_nil)
        (sim_one1 (sim_ret (sim_andV (sim_cmp (o2_eq hu) (sim_call1 cl_len rfl (G.fr "len" (mem_ix 9 rfl)) (by decide +kernel) (sim_b (sim_var 0))) (sim_b (sim_call1 cl_len rfl (G.fr "len" (mem_ix 9 rfl)) (by decide +kernel) (sim_b (sim_var 1)))) (nobehind _ (by decide) (by decide))) (sim_one (sim_call1 (cl_all rfl) rfl (G.fr "all" (mem_ix 2 rfl)) (by decide +kernel) (sim_b (sim_lc (own := [("one", 2), ("other", 3)]) rfl nd (sim_zip rfl (G.fr "zip" (mem_ix 19 rfl)) (sim_pa (sim_var 0) (sim_pa (sim_var 1) sim_pa0))) (blkOk_by (N := N__law_is) (sc := defScope (top 71)) (by decide +kernel)) (fun _ _ _ _ _ => (sim_gtup rfl (sim_gs (sim_gname rfl nd rfl (by first | exact Or.inl rfl | exact Or.inr rfl)) (sim_gs (sim_gname rfl nd rfl (by first | exact Or.inl rfl | exact Or.inr rfl)) sim_gs0)) rfl)) (fun _ _ _ _ _ => sim_pts0) (fun _ _ _ _ _ => (sim_asD (sim_fnO IH__law_is (by omega) hr (.inr passNo) (sim_cad (sim_var 2) (sim_cad (sim_var 3) sim_ca0)) rfl (by decide)))))))))))) sim_nil)
        (sim_seq (sim_if (PW.pt (sim_tor (sim_tcmp (o2_ne hu) (sim_isa (by decide +kernel) rfl (G.fr "isinstance" (mem_ix 8 rfl)) rfl (G.fr "bool" (mem_ix 4 rfl)) (by decide +kernel) (sim_var 0)) (sim_b (sim_isa (by decide +kernel) rfl (G.fr "isinstance" (mem_ix 8 rfl)) rfl (G.fr "bool" (mem_ix 4 rfl)) (by decide +kernel) (sim_var 1))) (nobehind _ (by decide) (by decide))) (sim_tor1 (sim_tcmp (o2_ne hu) (sim_isa (by decide +kernel) rfl (G.fr "isinstance" (mem_ix 8 rfl)) rfl (G.fr "int" (mem_ix 7 rfl)) (by decide +kernel) (sim_var 0)) (sim_b (sim_isa (by decide +kernel) rfl (G.fr "isinstance" (mem_ix 8 rfl)) rfl (G.fr "int" (mem_ix 7 rfl)) (by decide +kernel) (sim_var 1))) (nobehind _ (by decide) (by decide)))))) (sim_one1 (sim_ret sim_bl)) sim_nil)
        (sim_one1 (sim_ret (sim_andV (sim_cmp (o2_eq hu) (sim_isa (by decide +kernel) rfl (G.fr "isinstance" (mem_ix 8 rfl)) rfl (G.fr "str" (mem_ix 16 rfl)) (by decide +kernel) (sim_var 0)) (sim_b (sim_isa (by decide +kernel) rfl (G.fr "isinstance" (mem_ix 8 rfl)) rfl (G.fr "str" (mem_ix 16 rfl)) (by decide +kernel) (sim_var 1))) (nobehind _ (by decide) (by decide))) (sim_one (sim_cmp (o2_eq hu) (sim_var 0) (sim_b (sim_var 1)) (nobehind _ (by decide) (by decide)))))))))))
theorem ok__law_is (G : Gs P w K mg base) (n : Nat) : FnAt P w K mg base "_law_is" ["answer", "due"] (2 + n) 2 (m__law_is n) := (okr__law_is G n)
theorem sc__law_term : FnScope N__law_term ["hand", "many", "cells", "deep"] (defScope (top 72)) := ⟨rfl, rfl, rfl, by decide +kernel, rfl, by decide +kernel, by decide +kernel⟩
theorem okr__law_term (G : Gs P w K mg base) : ∀ n : Nat, FnAt P w K mg base "_law_term" ["hand", "many", "cells", "deep"] (4 + n) 4 (m__law_term n)
  | 0 => (by
    obtain ⟨fd, F, g⟩ := G.fn ("_law_term", 72) (mem_ix 48 rfl)
    exact ⟨_, fd, g, F.kp, F.bindsN fun _ _ _ _ _ _ us hl => match us, hl with | [_, _, _, _], _ => rfl, funD_lk F, fnOk_zero rfl⟩)
  | n + 1 => by
    have IH__law_term := okr__law_term G n
    exact (by
      obtain ⟨fd, F, g⟩ := G.fn ("_law_term", 72) (mem_ix 48 rfl)
      refine ⟨_, fd, g, F.kp, F.bindsN fun _ _ _ _ _ _ us hl => match us, hl with | [_, _, _, _], _ => rfl, funD_lk F, fn_body (k := 4 + n) (np := np__law_term) F sc__law_term rfl rfl fun cdv A outer s H E hr tk => ?_⟩
      have hu := room100 hr
      have hu1 := room1 hr
      have nd := sc__law_term.nd
      exact (sim_seq (sim_set rfl nd rfl (by first | exact Or.inl rfl | exact Or.inr rfl) (sim_asD (sim_fnO (ok__law_draw G) (by omega) hr (.inl tk) (sim_cap 0 (sim_cad sim_int sim_ca0)) rfl (by decide))))
        (sim_seq (sim_if (PW.pt (sim_tor (sim_tcmp (o2_eq hu) (sim_var 3) (sim_b sim_int) (nobehind _ (by decide) (by decide))) (sim_tor1 (sim_tcmp (o2_lt hu) (sim_var 4) (sim_b sim_int) (nobehind _ (by decide) (by decide)))))) (sim_one1 (sim_ret (sim_tup (sim_pa sim_str (sim_pa (sim_asD (sim_fnO (ok__law_draw G) (by omega) hr (.inl tk) (sim_cap 0 (sim_cad sim_int sim_ca0)) rfl (by decide))) sim_pa0))))) sim_nil)
        (sim_seq (sim_if (PW.pt (sim_tand (sim_tcmp (o2_lt hu) (sim_var 4) (sim_b sim_int) (nobehind _ (by decide) (by decide))) (sim_tand1 (sim_tcmp (o2_gt hu) (sim_var 1) (sim_b sim_int) (nobehind _ (by decide) (by decide)))))) (sim_one1 (sim_ret (sim_tup (sim_pa sim_str (sim_pa (sim_asD (sim_fnO (ok__law_draw G) (by omega) hr (.inl tk) (sim_cap 0 (sim_cad (sim_var 1) sim_ca0)) rfl (by decide))) sim_pa0))))) sim_nil)
        (sim_seq (sim_if (PW.pt (sim_tand (sim_tcmp (o2_lt hu) (sim_var 4) (sim_b sim_int) (nobehind _ (by decide) (by decide))) (sim_tand1 (sim_tcmp (o2_gt hu) (sim_call1 cl_len rfl (G.fr "len" (mem_ix 9 rfl)) (by decide +kernel) (sim_b (sim_var 2))) (sim_b sim_int) (nobehind _ (by decide) (by decide)))))) (sim_seq (sim_asg (sim_asD (sim_fnO (ok__law_any G) (by omega) hr (.inl tk) (sim_cap 0 (sim_cad (sim_var 2) sim_ca0)) rfl (by decide))) (sim_gtup rfl (sim_gs (sim_gname rfl nd rfl (by first | exact Or.inl rfl | exact Or.inr rfl)) (sim_gs (sim_gname rfl nd rfl (by first | exact Or.inl rfl | exact Or.inr rfl)) sim_gs0)) rfl))
        (sim_one1 (sim_ret (sim_ifV (sim_tcmp (o2_eq hu) (sim_var 6) (sim_b sim_int) (nobehind _ (by decide) (by decide))) (sim_tup (sim_pa sim_str (sim_pa (sim_var 5) sim_pa0))) (sim_tup (sim_pa sim_str (sim_pa (sim_var 5) (sim_pa (sim_asD (sim_fnO IH__law_term (by omega) hr (.inl tk) (sim_cap 0 (sim_cad (sim_var 1) (sim_cad (sim_var 2) (sim_cad (sim_bin o2_sub (sim_var 3) (sim_b sim_int)) sim_ca0)))) rfl (by decide))) sim_pa0)))))))) sim_nil)
        (sim_seq (sim_if (sim_tcmp (o2_eq hu) (sim_var 4) (sim_b sim_int) (nobehind _ (by decide) (by decide))) (sim_one1 (sim_ret (sim_tup (sim_pa sim_str (sim_pa (sim_asD (sim_fnO IH__law_term (by omega) hr (.inl tk) (sim_cap 0 (sim_cad (sim_var 1) (sim_cad (sim_var 2) (sim_cad (sim_bin o2_sub (sim_var 3) (sim_b sim_int)) sim_ca0)))) rfl (by decide))) sim_pa0))))) sim_nil)
        (sim_seq (sim_set rfl nd rfl (by first | exact Or.inl rfl | exact Or.inr rfl) (sim_asD (sim_fnO (ok__law_any G) (by omega) hr (.inl tk) (sim_cap 0 (sim_cad (sim_nF (sim_lstN (sim_pa sim_str (sim_pa sim_str (sim_pa sim_str (sim_pa sim_str (sim_pa sim_str (sim_pa sim_str (sim_pa sim_str (sim_pa sim_str (sim_pa sim_str (sim_pa sim_str (sim_pa sim_str sim_pa0))))))))))))) sim_ca0)) rfl (by decide))))
        (sim_one1 (sim_ret (sim_tup (sim_pa (sim_var 7) (sim_pa (sim_asD (sim_fnO IH__law_term (by omega) hr (.inl tk) (sim_cap 0 (sim_cad (sim_var 1) (sim_cad (sim_var 2) (sim_cad (sim_bin o2_sub (sim_var 3) (sim_b sim_int)) sim_ca0)))) rfl (by decide))) (sim_pa (sim_asD (sim_fnO IH__law_term (by omega) hr (.inl tk) (sim_cap 0 (sim_cad (sim_var 1) (sim_cad (sim_var 2) (sim_cad (sim_bin o2_sub (sim_var 3) (sim_b sim_int)) sim_ca0)))) rfl (by decide))) sim_pa0)))))))))))))
theorem ok__law_term (G : Gs P w K mg base) (n : Nat) : FnAt P w K mg base "_law_term" ["hand", "many", "cells", "deep"] (4 + n) 4 (m__law_term n) := (okr__law_term G n)
theorem sc__law_line : FnScope N__law_line ["hand", "many", "cells", "calls", "deep"] (defScope (top 73)) := ⟨rfl, rfl, rfl, by decide +kernel, rfl, by decide +kernel, by decide +kernel⟩
theorem sc__law_lines : FnScope N__law_lines ["hand", "many", "cells", "calls", "deep"] (defScope (top 74)) := ⟨rfl, rfl, rfl, by decide +kernel, rfl, by decide +kernel, by decide +kernel⟩
theorem okr__law_line__law_lines (G : Gs P w K mg base) : ∀ n : Nat, FnAt P w K mg base "_law_line" ["hand", "many", "cells", "calls", "deep"] (17 + n) 5 (m__law_line n) ∧ FnAt P w K mg base "_law_lines" ["hand", "many", "cells", "calls", "deep"] (17 + n) 5 (m__law_lines n)
  | 0 => ⟨(by
    obtain ⟨fd, F, g⟩ := G.fn ("_law_line", 73) (mem_ix 49 rfl)
    exact ⟨_, fd, g, F.kp, F.bindsN fun _ _ _ _ _ _ us hl => match us, hl with | [_, _, _, _, _], _ => rfl, funD_lk F, fnOk_zero rfl⟩), (by
    obtain ⟨fd, F, g⟩ := G.fn ("_law_lines", 74) (mem_ix 50 rfl)
    exact ⟨_, fd, g, F.kp, F.bindsN fun _ _ _ _ _ _ us hl => match us, hl with | [_, _, _, _, _], _ => rfl, funD_lk F, fnOk_zero rfl⟩)⟩
  | n + 1 => by
    obtain ⟨IH__law_line, IH__law_lines⟩ := okr__law_line__law_lines G n
    exact ⟨(by
      obtain ⟨fd, F, g⟩ := G.fn ("_law_line", 73) (mem_ix 49 rfl)
      refine ⟨_, fd, g, F.kp, F.bindsN fun _ _ _ _ _ _ us hl => match us, hl with | [_, _, _, _, _], _ => rfl, funD_lk F, fn_body (k := 17 + n) (np := np__law_line) F sc__law_line rfl rfl fun cdv A outer s H E hr tk => ?_⟩
      have hu := room100 hr
      have hu1 := room1 hr
      have nd := sc__law_line.nd
      exact (sim_seq (sim_set rfl nd rfl (by first | exact Or.inl rfl | exact Or.inr rfl) (sim_asD (sim_fnO (ok__law_draw G) (by omega) hr (.inl tk) (sim_cap 0 (sim_cad sim_int sim_ca0)) rfl (by decide))))
        (sim_seq (sim_if (PW.pt (sim_tand (sim_tcmp (o2_lt hu) (sim_var 5) (sim_b sim_int) (nobehind _ (by decide) (by decide))) (sim_tand1 (sim_tcmp (o2_gt hu) (sim_call1 cl_len rfl (G.fr "len" (mem_ix 9 rfl)) (by decide +kernel) (sim_b (sim_var 3))) (sim_b sim_int) (nobehind _ (by decide) (by decide)))))) (sim_seq (sim_asg (sim_asD (sim_fnO (ok__law_any G) (by omega) hr (.inl tk) (sim_cap 0 (sim_cad (sim_var 3) sim_ca0)) rfl (by decide))) (sim_gtup rfl (sim_gs (sim_gname rfl nd rfl (by first | exact Or.inl rfl | exact Or.inr rfl)) (sim_gs (sim_gname rfl nd rfl (by first | exact Or.inl rfl | exact Or.inr rfl)) sim_gs0)) rfl))
        (sim_one1 (sim_ret (sim_tup (sim_pa sim_str (sim_pa (sim_asD (sim_fnO (ok__law_draw G) (by omega) hr (.inl tk) (sim_cap 0 (sim_cad (sim_var 1) sim_ca0)) rfl (by decide))) (sim_pa (sim_var 6) (sim_pa (sim_tupleC rfl (G.fr "tuple" (mem_ix 18 rfl)) (sim_b (sim_lc (own := [("at", 8)]) rfl nd (sim_rng1 rfl (G.fr "range" (mem_ix 13 rfl)) (sim_pa (sim_var 7) sim_pa0)) (blkOk_by (N := N__law_line) (sc := defScope (top 73)) (by decide +kernel)) (fun _ _ _ _ _ => (sim_gname rfl nd rfl (by first | exact Or.inl rfl | exact Or.inr rfl))) (fun _ _ _ _ _ => sim_pts0) (fun _ _ _ _ _ => (sim_asD (sim_fnO (ok__law_term G 12) (by omega) hr (.inr passNo) (sim_cap 0 (sim_cad (sim_var 1) (sim_cad (sim_var 2) (sim_cad sim_int sim_ca0)))) rfl (by decide))))))) sim_pa0)))))))) sim_nil)
        (sim_seq (sim_if (sim_tcmp (o2_lt hu) (sim_var 5) (sim_b sim_int) (nobehind _ (by decide) (by decide))) (sim_one1 (sim_ret (sim_tup (sim_pa sim_str (sim_pa (sim_asD (sim_fnO (ok__law_draw G) (by omega) hr (.inl tk) (sim_cap 0 (sim_cad (sim_var 1) sim_ca0)) rfl (by decide))) sim_pa0))))) sim_nil)
        (sim_seq (sim_if (sim_tcmp (o2_eq hu) (sim_var 5) (sim_b sim_int) (nobehind _ (by decide) (by decide))) (sim_one1 (sim_ret (sim_tup (sim_pa sim_str (sim_pa (sim_asD (sim_fnO (ok__law_term G 12) (by omega) hr (.inl tk) (sim_cap 0 (sim_cad (sim_var 1) (sim_cad (sim_var 2) (sim_cad sim_int sim_ca0)))) rfl (by decide))) sim_pa0))))) sim_nil)
        (sim_seq (sim_if (PW.pt (sim_tand (sim_tcmp (o2_eq hu) (sim_var 5) (sim_b sim_int) (nobehind _ (by decide) (by decide))) (sim_tand1 (sim_tcmp (o2_eq hu) (sim_asD (sim_fnO (ok__law_draw G) (by omega) hr (.inl tk) (sim_cap 0 (sim_cad sim_int sim_ca0)) rfl (by decide))) (sim_b sim_int) (nobehind _ (by decide) (by decide)))))) (sim_one1 (sim_ret (sim_tup (sim_pa sim_str (sim_pa (sim_asD (sim_fnO (ok__law_term G 12) (by omega) hr (.inl tk) (sim_cap 0 (sim_cad (sim_var 1) (sim_cad (sim_var 2) (sim_cad sim_int sim_ca0)))) rfl (by decide))) sim_pa0))))) sim_nil)
        (sim_seq (sim_if (PW.pt (sim_tand (sim_tcmp (o2_lt hu) (sim_var 5) (sim_b sim_int) (nobehind _ (by decide) (by decide))) (sim_tand1 (sim_tcmp (o2_gt hu) (sim_var 4) (sim_b sim_int) (nobehind _ (by decide) (by decide)))))) (sim_seq (sim_par2 (by decide) rfl nd rfl rfl (by decide) rfl rfl (sim_pao (sim_asO (sim_asD (sim_fnO (ok__law_term G 12) (by omega) hr (.inl tk) (sim_cap 0 (sim_cad (sim_var 1) (sim_cad (sim_var 2) (sim_cad sim_int sim_ca0)))) rfl (by decide)))) (sim_pao (sim_asO (sim_asD (sim_fnO IH__law_lines (by omega) hr (.inl tk) (sim_cap 0 (sim_cad (sim_var 1) (sim_cad (sim_var 2) (sim_cad (sim_var 3) (sim_cad (sim_bin o2_sub (sim_var 4) (sim_b sim_int)) sim_ca0))))) rfl (by decide)))) sim_pao0)) rfl)
        (sim_seq (sim_if (sim_tcmp (o2_eq hu) (sim_var 5) (sim_b sim_int) (nobehind _ (by decide) (by decide))) (sim_one1 (sim_ret (sim_tup (sim_pa sim_str (sim_pa (sim_var 9) (sim_pa (sim_var 10) sim_pa0)))))) sim_nil)
        (sim_one1 (sim_ret (sim_tup (sim_pa sim_str (sim_pa (sim_var 9) (sim_pa (sim_var 10) (sim_pa (sim_asD (sim_fnO (ok__law_any G) (by omega) hr (.inl tk) (sim_cap 0 (sim_cad (sim_nF (sim_lstN (sim_pa (sim_tup sim_pa0) (sim_pa (sim_asD (sim_fnO IH__law_lines (by omega) hr (.inl tk) (sim_cap 0 (sim_cad (sim_var 1) (sim_cad (sim_var 2) (sim_cad (sim_var 3) (sim_cad (sim_bin o2_sub (sim_var 4) (sim_b sim_int)) sim_ca0))))) rfl (by decide))) sim_pa0)))) sim_ca0)) rfl (by decide))) sim_pa0))))))))) sim_nil)
        (sim_seq (sim_if (PW.pt (sim_tand (sim_tcmp (o2_lt hu) (sim_var 5) (sim_b sim_int) (nobehind _ (by decide) (by decide))) (sim_tand1 (sim_tcmp (o2_gt hu) (sim_call1 cl_len rfl (G.fr "len" (mem_ix 9 rfl)) (by decide +kernel) (sim_b (sim_var 2))) (sim_b sim_int) (nobehind _ (by decide) (by decide)))))) (sim_seq (sim_asg (sim_asD (sim_fnO (ok__law_any G) (by omega) hr (.inl tk) (sim_cap 0 (sim_cad (sim_var 2) sim_ca0)) rfl (by decide))) (sim_gtup rfl (sim_gs (sim_gname rfl nd rfl (by first | exact Or.inl rfl | exact Or.inr rfl)) (sim_gs (sim_gname rfl nd rfl (by first | exact Or.inl rfl | exact Or.inr rfl)) sim_gs0)) rfl))
        (sim_seq (sim_if (sim_tcmp (o2_eq hu) (sim_var 11) (sim_b sim_int) (nobehind _ (by decide) (by decide))) (sim_one1 (sim_ret (sim_tup (sim_pa sim_str (sim_pa (sim_var 6) (sim_pa (sim_asD (sim_fnO (ok__law_term G 12) (by omega) hr (.inl tk) (sim_cap 0 (sim_cad (sim_var 1) (sim_cad (sim_var 2) (sim_cad sim_int sim_ca0)))) rfl (by decide))) sim_pa0)))))) sim_nil)
        (sim_one1 (sim_ret (sim_tup (sim_pa sim_str (sim_pa (sim_var 6) (sim_pa (sim_asD (sim_fnO (ok__law_term G 12) (by omega) hr (.inl tk) (sim_cap 0 (sim_cad (sim_var 1) (sim_cad (sim_var 2) (sim_cad sim_int sim_ca0)))) rfl (by decide))) (sim_pa (sim_asD (sim_fnO (ok__law_term G 12) (by omega) hr (.inl tk) (sim_cap 0 (sim_cad (sim_var 1) (sim_cad (sim_var 2) (sim_cad sim_int sim_ca0)))) rfl (by decide))) sim_pa0))))))))) sim_nil)
        (sim_seq (sim_if (PW.pt (sim_tand (sim_tcmp (o2_eq hu) (sim_var 5) (sim_b sim_int) (nobehind _ (by decide) (by decide))) (sim_tand1 (sim_tcmp (o2_eq hu) (sim_asD (sim_fnO (ok__law_draw G) (by omega) hr (.inl tk) (sim_cap 0 (sim_cad sim_int sim_ca0)) rfl (by decide))) (sim_b sim_int) (nobehind _ (by decide) (by decide)))))) (sim_one1 (sim_ret (sim_tup (sim_pa sim_str (sim_pa (sim_asD (sim_fnO (ok__law_term G 12) (by omega) hr (.inl tk) (sim_cap 0 (sim_cad (sim_var 1) (sim_cad (sim_var 2) (sim_cad sim_int sim_ca0)))) rfl (by decide))) sim_pa0))))) sim_nil)
        (sim_one1 (sim_ret (sim_tup (sim_pa sim_str (sim_pa (sim_asD (sim_fnO (ok__law_draw G) (by omega) hr (.inl tk) (sim_cap 0 (sim_cad (sim_var 1) sim_ca0)) rfl (by decide))) (sim_pa (sim_asD (sim_fnO (ok__law_term G 12) (by omega) hr (.inl tk) (sim_cap 0 (sim_cad (sim_var 1) (sim_cad (sim_var 2) (sim_cad sim_int sim_ca0)))) rfl (by decide))) sim_pa0))))))))))))))),
      (by
      obtain ⟨fd, F, g⟩ := G.fn ("_law_lines", 74) (mem_ix 50 rfl)
      refine ⟨_, fd, g, F.kp, F.bindsN fun _ _ _ _ _ _ us hl => match us, hl with | [_, _, _, _, _], _ => rfl, funD_lk F, fn_body (k := 17 + n) (np := np__law_lines) F sc__law_lines rfl rfl fun cdv A outer s H E hr tk => ?_⟩
      have hu := room100 hr
      have hu1 := room1 hr
      have nd := sc__law_lines.nd
      exact (sim_one1 (sim_ret (sim_tupleC rfl (G.fr "tuple" (mem_ix 18 rfl)) (sim_b (sim_lc (own := [("at", 5)]) rfl nd (sim_rng1 rfl (G.fr "range" (mem_ix 13 rfl)) (sim_pa (sim_addA sim_int (sim_b (sim_asD (sim_fnO (ok__law_draw G) (by omega) hr (.inl tk) (sim_cap 0 (sim_cad sim_int sim_ca0)) rfl (by decide))))) sim_pa0)) (blkOk_by (N := N__law_lines) (sc := defScope (top 74)) (by decide +kernel)) (fun _ _ _ _ _ => (sim_gname rfl nd rfl (by first | exact Or.inl rfl | exact Or.inr rfl))) (fun _ _ _ _ _ => sim_pts0) (fun _ _ _ _ _ => (sim_asD (sim_fnO IH__law_line (by omega) hr (.inr passNo) (sim_cap 0 (sim_cad (sim_var 1) (sim_cad (sim_var 2) (sim_cad (sim_var 3) (sim_cad (sim_var 4) sim_ca0))))) rfl (by decide))))))))))⟩
theorem ok__law_line (G : Gs P w K mg base) (n : Nat) : FnAt P w K mg base "_law_line" ["hand", "many", "cells", "calls", "deep"] (17 + n) 5 (m__law_line n) := (okr__law_line__law_lines G n).1
theorem ok__law_lines (G : Gs P w K mg base) (n : Nat) : FnAt P w K mg base "_law_lines" ["hand", "many", "cells", "calls", "deep"] (17 + n) 5 (m__law_lines n) := (okr__law_line__law_lines G n).2
theorem sc__law_short : FnScope N__law_short ["block"] (defScope (top 75)) := ⟨rfl, rfl, rfl, by decide +kernel, rfl, by decide +kernel, by decide +kernel⟩
theorem ok__law_short (G : Gs P w K mg base) : FnAt P w K mg base "_law_short" ["block"] 2 1 m__law_short := by
  obtain ⟨fd, F, g⟩ := G.fn ("_law_short", 75) (mem_ix 51 rfl)
  refine ⟨_, fd, g, F.kp, F.bindsN fun _ _ _ _ _ _ us hl => match us, hl with | [_], _ => rfl, funD_lk F, fn_body (np := np__law_short) (ms := s__law_short) F sc__law_short rfl rfl fun cdv A outer s H E hr tk => ?_⟩
  have hu := room100 hr
  have hu1 := room1 hr
  have nd := sc__law_short.nd
  exact (sim_seq (sim_par2 (by decide) rfl nd rfl rfl (by decide) rfl rfl (sim_pao (sim_asO sim_int) (sim_pao (sim_nO (sim_listN rfl (G.fr "list" (mem_ix 10 rfl)) (sim_b (sim_var 0)))) sim_pao0)) rfl)
  (sim_seq (sim_while (passes_of rfl) (sim_tcmp (o2_gt hu) (sim_call1 cl_len rfl (G.fr "len" (mem_ix 9 rfl)) (by decide +kernel) (sim_plc 2)) (sim_b sim_int) (nobehind _ (by decide) (by decide))) (sim_seq (sim_set rfl nd rfl (by first | exact Or.inl rfl | exact Or.inr rfl) (sim_lm0 2 lop_pop PySem.F.slot_list_pop PySem.F.type_list_pop mt_pop))
  (sim_seq (sim_set rfl nd rfl (by first | exact Or.inl rfl | exact Or.inr rfl) (sim_addA (sim_var 1) (sim_b sim_int)))
  (sim_seq (sim_if (sim_tcmp (o2_in hu) (sim_ix i2_get (sim_var 3) (sim_b sim_int) (fun _ _ => rfl)) (sim_b (sim_tup (sim_pa sim_str (sim_pa sim_str sim_pa0)))) rfl) (sim_one1 (sim_drop (sim_lm 2 lop_ext PySem.F.slot_list_extend PySem.F.type_list_extend mt_extF (sim_pa (sim_nF (sim_listN rfl (G.fr "list" (mem_ix 10 rfl)) (sim_b (sim_ix i2_get (sim_var 3) (sim_b sim_int) (fun _ _ => rfl))))) sim_pa0)))) sim_nil)
  (sim_one1 (sim_if (sim_tcmp (o2_eq hu) (sim_ix i2_get (sim_var 3) (sim_b sim_int) (fun _ _ => rfl)) (sim_b sim_str) (nobehind _ (by decide) (by decide))) (sim_one1 (sim_drop (sim_lm 2 lop_ext PySem.F.slot_list_extend PySem.F.type_list_extend mt_extF (sim_pa (sim_nF (sim_listN rfl (G.fr "list" (mem_ix 10 rfl)) (sim_b (sim_ix i2_get (sim_var 3) (sim_b sim_int) (fun _ _ => rfl))))) sim_pa0)))) sim_nil))))))
  (sim_one1 (sim_ret (sim_ifV (sim_tcmp (o2_le hu) (sim_var 1) (sim_b sim_int) (nobehind _ (by decide) (by decide))) (sim_var 0) (sim_tupleC rfl (G.fr "tuple" (mem_ix 18 rfl)) (sim_b (sim_lc (own := [("row", 4)]) rfl nd (sim_itA (sim_var 0)) (blkOk_by (N := N__law_short) (sc := defScope (top 75)) (by decide +kernel)) (fun _ _ _ _ _ => (sim_gname rfl nd rfl (by first | exact Or.inl rfl | exact Or.inr rfl))) (fun _ _ _ _ _ => (sim_pts1 (sim_tcmp (o2_notIn hu) (sim_ix i2_get (sim_var 4) (sim_b sim_int) (fun _ _ => rfl)) (sim_b (sim_tup (sim_pa sim_str (sim_pa sim_str sim_pa0)))) rfl))) (fun _ _ _ _ _ => (sim_var 4))))))))))
theorem sc__law_names_in : FnScope N__law_names_in ["part"] (defScope (top 76)) := ⟨rfl, rfl, rfl, by decide +kernel, rfl, by decide +kernel, by decide +kernel⟩
theorem ok__law_names_in (G : Gs P w K mg base) : FnAt P w K mg base "_law_names_in" ["part"] 2 1 m__law_names_in := by
  obtain ⟨fd, F, g⟩ := G.fn ("_law_names_in", 76) (mem_ix 52 rfl)
  refine ⟨_, fd, g, F.kp, F.bindsN fun _ _ _ _ _ _ us hl => match us, hl with | [_], _ => rfl, funD_lk F, fn_body (np := np__law_names_in) (ms := s__law_names_in) F sc__law_names_in rfl rfl fun cdv A outer s H E hr tk => ?_⟩
  have hu := room100 hr
  have hu1 := room1 hr
  have nd := sc__law_names_in.nd
  exact (sim_seq (sim_par2 (by decide) rfl nd rfl rfl (by decide) rfl rfl (sim_pao sim_dnew (sim_pao (sim_nO (sim_lstN (sim_pa (sim_var 0) sim_pa0))) sim_pao0)) rfl)
  (sim_seq (sim_while (passes_of rfl) (sim_tcmp (o2_gt hu) (sim_call1 cl_len rfl (G.fr "len" (mem_ix 9 rfl)) (by decide +kernel) (sim_plc 2)) (sim_b sim_int) (nobehind _ (by decide) (by decide))) (sim_seq (sim_set rfl nd rfl (by first | exact Or.inl rfl | exact Or.inr rfl) (sim_lm0 2 lop_pop PySem.F.slot_list_pop PySem.F.type_list_pop mt_pop))
  (sim_one1 (sim_if (sim_t (sim_isa (by decide +kernel) rfl (G.fr "isinstance" (mem_ix 8 rfl)) rfl (G.fr "tuple" (mem_ix 18 rfl)) (by decide +kernel) (sim_var 3))) (sim_seq (sim_if (PW.pt (sim_tand (sim_tcmp (o2_gt hu) (sim_call1 cl_len rfl (G.fr "len" (mem_ix 9 rfl)) (by decide +kernel) (sim_b (sim_var 3))) (sim_b sim_int) (nobehind _ (by decide) (by decide))) (sim_tand (sim_t (sim_isa (by decide +kernel) rfl (G.fr "isinstance" (mem_ix 8 rfl)) rfl (G.fr "str" (mem_ix 16 rfl)) (by decide +kernel) (sim_ix i2_get (sim_var 3) (sim_b sim_int) (fun _ _ => rfl)))) (sim_tand1 (sim_tcmp (o2_in hu) (sim_ix i2_get (sim_var 3) (sim_b sim_int) (fun _ _ => rfl)) (sim_b (sim_tup (sim_pa sim_str (sim_pa sim_str (sim_pa sim_str (sim_pa sim_str sim_pa0)))))) rfl))))) (sim_one1 (sim_dput 1 hu1 sim_bl (sim_ix i2_get (sim_var 3) (sim_b sim_int) (fun _ _ => rfl)))) sim_nil)
  (sim_one1 (sim_drop (sim_lm 2 lop_ext PySem.F.slot_list_extend PySem.F.type_list_extend mt_extF (sim_pa (sim_nF (sim_listN rfl (G.fr "list" (mem_ix 10 rfl)) (sim_b (sim_var 3)))) sim_pa0))))) sim_nil))))
  (sim_one1 (sim_retO (sim_takeO 1)))))
theorem sc__law_program : FnScope N__law_program ["hand", "width", "has_rings"] (defScope (top 77)) := ⟨rfl, rfl, rfl, by decide +kernel, rfl, by decide +kernel, by decide +kernel⟩
theorem ok__law_program (G : Gs P w K mg base) : FnAt P w K mg base "_law_program" ["hand", "width", "has_rings"] 30 3 m__law_program := by
  obtain ⟨fd, F, g⟩ := G.fn ("_law_program", 77) (mem_ix 53 rfl)
  refine ⟨_, fd, g, F.kp, F.bindsN fun _ _ _ _ _ _ us hl => match us, hl with | [_, _, _], _ => rfl, funD_lk F, fn_body (np := np__law_program) (ms := s__law_program) F sc__law_program rfl rfl fun cdv A outer s H E hr tk => ?_⟩
  have hu := room100 hr
  have hu1 := room1 hr
  have nd := sc__law_program.nd
  exact (sim_seq (sim_set rfl nd rfl (by first | exact Or.inl rfl | exact Or.inr rfl) (sim_asD (sim_fnO (ok__law_any G) (by decide) hr (.inl tk) (sim_cap 0 (sim_cad (sim_nF (sim_lstN (sim_pa (sim_nF (sim_lstN sim_pa0)) (sim_pa (sim_nF (sim_lstN (sim_pa (sim_tup (sim_pa sim_str (sim_pa sim_int sim_pa0))) sim_pa0))) (sim_pa (sim_nF (sim_lstN (sim_pa (sim_tup (sim_pa sim_str (sim_pa sim_int sim_pa0))) (sim_pa (sim_tup (sim_pa sim_str (sim_pa sim_int sim_pa0))) sim_pa0)))) (sim_pa (sim_nF (sim_lstN (sim_pa (sim_tup (sim_pa sim_str (sim_pa sim_int sim_pa0))) sim_pa0))) (sim_pa (sim_nF (sim_lstN (sim_pa (sim_tup (sim_pa sim_str (sim_pa sim_int sim_pa0))) (sim_pa (sim_tup (sim_pa sim_str (sim_pa sim_int sim_pa0))) sim_pa0)))) sim_pa0))))))) sim_ca0)) rfl (by decide))))
  (sim_seq (sim_set rfl nd rfl (by first | exact Or.inl rfl | exact Or.inr rfl) (sim_addA (sim_nF (sim_lstN (sim_pa sim_str sim_pa0))) (sim_b (sim_asD (sim_fnO (ok__law_any G) (by decide) hr (.inl tk) (sim_cap 0 (sim_cad (sim_nF (sim_lstN (sim_pa (sim_nF (sim_lstN (sim_pa sim_str sim_pa0))) (sim_pa (sim_nF (sim_lstN (sim_pa sim_str (sim_pa sim_str sim_pa0)))) (sim_pa (sim_nF (sim_lstN (sim_pa sim_str (sim_pa sim_str sim_pa0)))) sim_pa0))))) sim_ca0)) rfl (by decide))))))
  (sim_seq (sim_setO rfl nd rfl (by first | exact Or.inl rfl | exact Or.inr rfl) (sim_disp (sim_pps sim_int (sim_pps (sim_asD (sim_fnO (ok__law_draw G) (by decide) hr (.inl tk) (sim_cap 0 (sim_cad sim_int sim_ca0)) rfl (by decide))) (sim_pps (sim_asD (sim_fnO (ok__law_draw G) (by decide) hr (.inl tk) (sim_cap 0 (sim_cad sim_int sim_ca0)) rfl (by decide))) sim_pps0))) rfl rfl (by simp) (by decide) (by simp)))
  (sim_seq (sim_parT (sl := [6, 7]) (by decide) rfl (by decide) (by decide) (pgs_cons (pg_name nd rfl (by first | exact Or.inl rfl | exact Or.inr rfl)) (pgs_cons (pg_name nd rfl (by first | exact Or.inl rfl | exact Or.inr rfl)) pgs_nil)) (sim_pao (sim_asO (sim_addA sim_int (sim_b (sim_asD (sim_fnO (ok__law_draw G) (by decide) hr (.inl tk) (sim_cap 0 (sim_cad sim_int sim_ca0)) rfl (by decide)))))) (sim_pao sim_dnew sim_pao0)))
  (sim_seq (sim_for (passes_of rfl) rfl (sim_itA (sim_addA (sim_var 4) (sim_b (sim_lc (own := [("cell", 9), ("size", 10)]) rfl nd (sim_itA (sim_var 3)) (blkOk_by (N := N__law_program) (sc := defScope (top 77)) (by decide +kernel)) (fun _ _ _ _ _ => (sim_gtup rfl (sim_gs (sim_gname rfl nd rfl (by first | exact Or.inl rfl | exact Or.inr rfl)) (sim_gs (sim_gname rfl nd rfl (by first | exact Or.inl rfl | exact Or.inr rfl)) sim_gs0)) rfl)) (fun _ _ _ _ _ => sim_pts0) (fun _ _ _ _ _ => (sim_var 9)))))) (sim_gname rfl nd rfl (by first | exact Or.inl rfl | exact Or.inr rfl)) (sim_one1 (sim_dput 7 hu1 (sim_asD (sim_fnO (ok__law_draw G) (by decide) hr (.inl tk) (sim_cap 0 (sim_cad (sim_var 6) sim_ca0)) rfl (by decide))) (sim_var 8))))
  (sim_seq (sim_setO rfl nd rfl (by first | exact Or.inl rfl | exact Or.inr rfl) (sim_nO (sim_lstN sim_pa0)))
  (sim_seq (sim_for (passes_of rfl) rfl (sim_enum rfl (G.fr "enumerate" (mem_ix 6 rfl)) (sim_pa (sim_var 4) sim_pa0)) (sim_gtup rfl (sim_gs (sim_gname rfl nd rfl (by first | exact Or.inl rfl | exact Or.inr rfl)) (sim_gs (sim_gname rfl nd rfl (by first | exact Or.inl rfl | exact Or.inr rfl)) sim_gs0)) rfl) (sim_seq (sim_setLc (own := [("other", 14)]) rfl rfl nd rfl rfl (sw_true rfl rfl rfl rfl) (sim_itA (sim_ifV (sim_t (sim_var 2)) (sim_cutA (sim_var 4) (sim_po sim_int) sim_po0) (sim_cutA (sim_var 4) (sim_po (sim_addA (sim_var 12) (sim_b sim_int))) sim_po0))) (blkOk_by (N := N__law_program) (sc := defScope (top 77)) (by decide +kernel)) (fun _ _ _ _ _ => (sim_gname rfl nd rfl (by first | exact Or.inl rfl | exact Or.inr rfl))) (fun _ _ _ _ _ => sim_pts0) (fun _ _ _ _ _ => (sim_tup (sim_pa (sim_var 14) (sim_pa (sim_dget 5 hu1 (sim_var 14) (fun _ _ => rfl)) sim_pa0)))))
  (sim_seq (sim_set rfl nd rfl (by first | exact Or.inl rfl | exact Or.inr rfl) (sim_call2 (cl_max rfl) rfl (G.fr "max" (mem_ix 11 rfl)) (by decide +kernel) sim_int (sim_b (sim_addA (sim_dget 5 hu1 (sim_var 8) (fun _ _ => rfl)) (sim_b (sim_asD (sim_fnO (ok__law_draw G) (by decide) hr (.inl tk) (sim_cap 0 (sim_cad sim_int sim_ca0)) rfl (by decide))))))))
  (sim_one1 (sim_drop (sim_lm 11 lop_app PySem.F.slot_list_append PySem.F.type_list_append mt_append (sim_pa (sim_tup (sim_pa (sim_var 8) (sim_pa (sim_dget 5 hu1 (sim_var 8) (fun _ _ => rfl)) (sim_pa (sim_var 15) (sim_pa (sim_asD (sim_fnO (ok__law_short G) (by decide) hr (.inl tk) (sim_cad (sim_asD (sim_fnO (ok__law_lines G 12) (by decide) hr (.inl tk) (sim_cap 0 (sim_cad (sim_var 15) (sim_cad (sim_var 3) (sim_cad (sim_frz 13) (sim_cad sim_int sim_ca0))))) rfl (by decide))) sim_ca0) rfl (by decide))) sim_pa0))))) sim_pa0)))))))
  (sim_seq (sim_setO rfl nd rfl (by first | exact Or.inl rfl | exact Or.inr rfl) (sim_nO (sim_lstN sim_pa0)))
  (sim_seq (sim_for (passes_of rfl) rfl (sim_rng1 rfl (G.fr "range" (mem_ix 13 rfl)) (sim_pa (sim_var 6) sim_pa0)) (sim_gname rfl nd rfl (by first | exact Or.inl rfl | exact Or.inr rfl)) (sim_seq (sim_setO rfl nd rfl (by first | exact Or.inl rfl | exact Or.inr rfl) (sim_nO (sim_lstN sim_pa0)))
  (sim_seq (sim_for (passes_of rfl) rfl (sim_itA (sim_var 3)) (sim_gtup rfl (sim_gs (sim_gname rfl nd rfl (by first | exact Or.inl rfl | exact Or.inr rfl)) (sim_gs (sim_gname rfl nd rfl (by first | exact Or.inl rfl | exact Or.inr rfl)) sim_gs0)) rfl) (sim_one1 (sim_if (sim_tcmp (o2_eq hu) (sim_dget 7 hu1 (sim_var 9) (fun _ _ => rfl)) (sim_b (sim_var 17)) (nobehind _ (by decide) (by decide))) (sim_one1 (sim_drop (sim_lm 18 lop_app PySem.F.slot_list_append PySem.F.type_list_append mt_append (sim_pa (sim_tup (sim_pa (sim_var 9) (sim_pa (sim_tupleC rfl (G.fr "tuple" (mem_ix 18 rfl)) (sim_b (sim_lc (own := [("at", 12)]) rfl nd (sim_rng1 rfl (G.fr "range" (mem_ix 13 rfl)) (sim_pa (sim_var 10) sim_pa0)) (blkOk_by (N := N__law_program) (sc := defScope (top 77)) (by decide +kernel)) (fun _ _ _ _ _ => (sim_gname rfl nd rfl (by first | exact Or.inl rfl | exact Or.inr rfl))) (fun _ _ _ _ _ => sim_pts0) (fun _ _ _ _ _ => (sim_asD (sim_fnO (ok__law_draw G) (by decide) hr (.inr passNo) (sim_cap 0 (sim_cad sim_int sim_ca0)) rfl (by decide))))))) sim_pa0))) sim_pa0)))) sim_nil)))
  (sim_seq (sim_set rfl nd rfl (by first | exact Or.inl rfl | exact Or.inr rfl) (sim_tupleC rfl (G.fr "tuple" (mem_ix 18 rfl)) (sim_b (sim_lc (own := [("row", 20)]) rfl nd (sim_itA (sim_frz 11)) (blkOk_by (N := N__law_program) (sc := defScope (top 77)) (by decide +kernel)) (fun _ _ _ _ _ => (sim_gname rfl nd rfl (by first | exact Or.inl rfl | exact Or.inr rfl))) (fun _ _ _ _ _ => (sim_pts1 (sim_tcmp (o2_eq hu) (sim_dget 7 hu1 (sim_ix i2_get (sim_var 20) (sim_b sim_int) (fun _ _ => rfl)) (fun _ _ => rfl)) (sim_b (sim_var 17)) (nobehind _ (by decide) (by decide))))) (fun _ _ _ _ _ => (sim_var 20))))))
  (sim_seq (sim_setO rfl nd rfl (by first | exact Or.inl rfl | exact Or.inr rfl) (sim_fnO (ok__law_names_in G) (by decide) hr (.inl tk) (sim_cad (sim_tupleC rfl (G.fr "tuple" (mem_ix 18 rfl)) (sim_b (sim_lc (own := [("row", 20)]) rfl nd (sim_itA (sim_var 19)) (blkOk_by (N := N__law_program) (sc := defScope (top 77)) (by decide +kernel)) (fun _ _ _ _ _ => (sim_gname rfl nd rfl (by first | exact Or.inl rfl | exact Or.inr rfl))) (fun _ _ _ _ _ => sim_pts0) (fun _ _ _ _ _ => (sim_ix i2_get (sim_var 20) (sim_b sim_int) (fun _ _ => rfl)))))) sim_ca0) rfl (by decide)))
  (sim_seq (sim_setLc (own := [("cell", 9), ("size", 10)]) rfl rfl nd rfl rfl (sw_true rfl rfl rfl rfl) (sim_itA (sim_var 3)) (blkOk_by (N := N__law_program) (sc := defScope (top 77)) (by decide +kernel)) (fun _ _ _ _ _ => (sim_gtup rfl (sim_gs (sim_gname rfl nd rfl (by first | exact Or.inl rfl | exact Or.inr rfl)) (sim_gs (sim_gname rfl nd rfl (by first | exact Or.inl rfl | exact Or.inr rfl)) sim_gs0)) rfl)) (fun _ _ _ _ _ => (sim_pts1 (PW.pt (sim_tand (sim_tdin 21 hu1 (sim_var 9)) (sim_tand1 (sim_tcmp (o2_ne hu) (sim_dget 7 hu1 (sim_var 9) (fun _ _ => rfl)) (sim_b (sim_var 17)) (nobehind _ (by decide) (by decide)))))))) (fun _ _ _ _ _ => (sim_tup (sim_pa (sim_var 9) (sim_pa (sim_var 10) sim_pa0)))))
  (sim_one1 (sim_drop (sim_lm 16 lop_app PySem.F.slot_list_append PySem.F.type_list_append mt_append (sim_pa (sim_tup (sim_pa (sim_ix i2_get (sim_nF (sim_lstN (sim_pa sim_str (sim_pa sim_str (sim_pa sim_str sim_pa0))))) (sim_b (sim_var 17)) (fun _ _ => rfl)) (sim_pa (sim_tupleC rfl (G.fr "tuple" (mem_ix 18 rfl)) (sim_plc 18)) (sim_pa (sim_tupleC rfl (G.fr "tuple" (mem_ix 18 rfl)) (sim_plc 22)) (sim_pa (sim_var 19) sim_pa0))))) sim_pa0))))))))))
  (sim_one1 (sim_ret (sim_tup (sim_pa (sim_var 1) (sim_pa (sim_tupleC rfl (G.fr "tuple" (mem_ix 18 rfl)) (sim_plc 16)) sim_pa0))))))))))))))
theorem sc__law_statements : FnScope N__law_statements ["block"] (defScope (top 78)) := ⟨rfl, rfl, rfl, by decide +kernel, rfl, by decide +kernel, by decide +kernel⟩
theorem ok__law_statements (G : Gs P w K mg base) : FnAt P w K mg base "_law_statements" ["block"] 2 1 m__law_statements := by
  obtain ⟨fd, F, g⟩ := G.fn ("_law_statements", 78) (mem_ix 54 rfl)
  refine ⟨_, fd, g, F.kp, F.bindsN fun _ _ _ _ _ _ us hl => match us, hl with | [_], _ => rfl, funD_lk F, fn_body (np := np__law_statements) (ms := s__law_statements) F sc__law_statements rfl rfl fun cdv A outer s H E hr tk => ?_⟩
  have hu := room100 hr
  have hu1 := room1 hr
  have nd := sc__law_statements.nd
  exact (sim_seq (sim_par2 (by decide) rfl nd rfl rfl (by decide) rfl rfl (sim_pao (sim_nO (sim_lstN sim_pa0)) (sim_pao (sim_nO (sim_revN (sim_b (sim_nF (sim_listN rfl (G.fr "list" (mem_ix 10 rfl)) (sim_b (sim_var 0))))))) sim_pao0)) rfl)
  (sim_seq (sim_while (passes_of rfl) (sim_tcmp (o2_gt hu) (sim_call1 cl_len rfl (G.fr "len" (mem_ix 9 rfl)) (by decide +kernel) (sim_plc 2)) (sim_b sim_int) (nobehind _ (by decide) (by decide))) (sim_seq (sim_set rfl nd rfl (by first | exact Or.inl rfl | exact Or.inr rfl) (sim_lm0 2 lop_pop PySem.F.slot_list_pop PySem.F.type_list_pop mt_pop))
  (sim_seq (sim_drop (sim_lm 1 lop_app PySem.F.slot_list_append PySem.F.type_list_append mt_append (sim_pa (sim_var 3) sim_pa0)))
  (sim_seq (sim_if (sim_tcmp (o2_eq hu) (sim_ix i2_get (sim_var 3) (sim_b sim_int) (fun _ _ => rfl)) (sim_b sim_str) (nobehind _ (by decide) (by decide))) (sim_one1 (sim_drop (sim_lm 2 lop_ext PySem.F.slot_list_extend PySem.F.type_list_extend mt_extF (sim_pa (sim_nF (sim_revN (sim_b (sim_nF (sim_listN rfl (G.fr "list" (mem_ix 10 rfl)) (sim_b (sim_ix i2_get (sim_var 3) (sim_b sim_int) (fun _ _ => rfl)))))))) sim_pa0)))) sim_nil)
  (sim_one1 (sim_if (sim_tcmp (o2_in hu) (sim_ix i2_get (sim_var 3) (sim_b sim_int) (fun _ _ => rfl)) (sim_b (sim_tup (sim_pa sim_str (sim_pa sim_str sim_pa0)))) rfl) (sim_one1 (sim_drop (sim_lm 2 lop_ext PySem.F.slot_list_extend PySem.F.type_list_extend mt_extF (sim_pa (sim_nF (sim_revN (sim_b (sim_nF (sim_listN rfl (G.fr "list" (mem_ix 10 rfl)) (sim_b (sim_ix i2_get (sim_var 3) (sim_b sim_int) (fun _ _ => rfl)))))))) sim_pa0)))) sim_nil))))))
  (sim_one1 (sim_ret (sim_frz 1)))))
theorem sc__law_known : FnScope N__law_known ["unit"] (defScope (top 79)) := ⟨rfl, rfl, rfl, by decide +kernel, rfl, by decide +kernel, by decide +kernel⟩
theorem ok__law_known (G : Gs P w K mg base) : FnAt P w K mg base "_law_known" ["unit"] 2 1 m__law_known := by
  obtain ⟨fd, F, g⟩ := G.fn ("_law_known", 79) (mem_ix 55 rfl)
  refine ⟨_, fd, g, F.kp, F.bindsN fun _ _ _ _ _ _ us hl => match us, hl with | [_], _ => rfl, funD_lk F, fn_body (np := np__law_known) (ms := s__law_known) F sc__law_known rfl rfl fun cdv A outer s H E hr tk => ?_⟩
  have hu := room100 hr
  have hu1 := room1 hr
  have nd := sc__law_known.nd
  exact (sim_one1 (sim_ret (sim_addA (sim_lc (own := [("name", 1), ("words", 2)]) rfl nd (sim_itA (sim_ix i2_get (sim_var 0) (sim_b sim_int) (fun _ _ => rfl))) (blkOk_by (N := N__law_known) (sc := defScope (top 79)) (by decide +kernel)) (fun _ _ _ _ _ => (sim_gtup rfl (sim_gs (sim_gname rfl nd rfl (by first | exact Or.inl rfl | exact Or.inr rfl)) (sim_gs (sim_gname rfl nd rfl (by first | exact Or.inl rfl | exact Or.inr rfl)) sim_gs0)) rfl)) (fun _ _ _ _ _ => sim_pts0) (fun _ _ _ _ _ => (sim_tup (sim_pa (sim_var 1) (sim_pa (sim_call1 cl_len rfl (G.fr "len" (mem_ix 9 rfl)) (by decide +kernel) (sim_b (sim_var 2))) sim_pa0))))) (sim_b (sim_lc (own := [("name", 1), ("size", 3)]) rfl nd (sim_itA (sim_ix i2_get (sim_var 0) (sim_b sim_int) (fun _ _ => rfl))) (blkOk_by (N := N__law_known) (sc := defScope (top 79)) (by decide +kernel)) (fun _ _ _ _ _ => (sim_gtup rfl (sim_gs (sim_gname rfl nd rfl (by first | exact Or.inl rfl | exact Or.inr rfl)) (sim_gs (sim_gname rfl nd rfl (by first | exact Or.inl rfl | exact Or.inr rfl)) sim_gs0)) rfl)) (fun _ _ _ _ _ => sim_pts0) (fun _ _ _ _ _ => (sim_tup (sim_pa (sim_var 1) (sim_pa (sim_var 3) sim_pa0)))))))))
theorem sc__law_parts : FnScope N__law_parts ["term"] (defScope (top 80)) := ⟨rfl, rfl, rfl, by decide +kernel, rfl, by decide +kernel, by decide +kernel⟩
theorem ok__law_parts (G : Gs P w K mg base) : FnAt P w K mg base "_law_parts" ["term"] 2 1 m__law_parts := by
  obtain ⟨fd, F, g⟩ := G.fn ("_law_parts", 80) (mem_ix 56 rfl)
  refine ⟨_, fd, g, F.kp, F.bindsN fun _ _ _ _ _ _ us hl => match us, hl with | [_], _ => rfl, funD_lk F, fn_body (np := np__law_parts) (ms := s__law_parts) F sc__law_parts rfl rfl fun cdv A outer s H E hr tk => ?_⟩
  have hu := room100 hr
  have hu1 := room1 hr
  have nd := sc__law_parts.nd
  exact (sim_seq (sim_par2 (by decide) rfl nd rfl rfl (by decide) rfl rfl (sim_pao (sim_nO (sim_lstN sim_pa0)) (sim_pao (sim_nO (sim_lstN (sim_pa (sim_var 0) sim_pa0))) sim_pao0)) rfl)
  (sim_seq (sim_while (passes_of rfl) (sim_tcmp (o2_gt hu) (sim_call1 cl_len rfl (G.fr "len" (mem_ix 9 rfl)) (by decide +kernel) (sim_plc 2)) (sim_b sim_int) (nobehind _ (by decide) (by decide))) (sim_seq (sim_set rfl nd rfl (by first | exact Or.inl rfl | exact Or.inr rfl) (sim_lm0 2 lop_pop PySem.F.slot_list_pop PySem.F.type_list_pop mt_pop))
  (sim_seq (sim_drop (sim_lm 1 lop_app PySem.F.slot_list_append PySem.F.type_list_append mt_append (sim_pa (sim_var 3) sim_pa0)))
  (sim_one1 (sim_if (sim_tcmp (o2_eq hu) (sim_ix i2_get (sim_var 3) (sim_b sim_int) (fun _ _ => rfl)) (sim_b sim_str) (nobehind _ (by decide) (by decide))) (sim_one1 (sim_drop (sim_lm 2 lop_app PySem.F.slot_list_append PySem.F.type_list_append mt_append (sim_pa (sim_ix i2_get (sim_var 3) (sim_b sim_int) (fun _ _ => rfl)) sim_pa0)))) (sim_one1 (sim_if (sim_tcmp (o2_notIn hu) (sim_ix i2_get (sim_var 3) (sim_b sim_int) (fun _ _ => rfl)) (sim_b (sim_tup (sim_pa sim_str (sim_pa sim_str (sim_pa sim_str sim_pa0))))) rfl) (sim_one1 (sim_drop (sim_lm 2 lop_ext PySem.F.slot_list_extend PySem.F.type_list_extend mt_extF (sim_pa (sim_nF (sim_revN (sim_b (sim_nF (sim_listN rfl (G.fr "list" (mem_ix 10 rfl)) (sim_b (sim_cutA (sim_var 3) (sim_po sim_int) sim_po0))))))) sim_pa0)))) sim_nil)))))))
  (sim_one1 (sim_ret (sim_frz 1)))))
theorem sc__law_terms : FnScope N__law_terms ["statement"] (defScope (top 81)) := ⟨rfl, rfl, rfl, by decide +kernel, rfl, by decide +kernel, by decide +kernel⟩
theorem ok__law_terms (G : Gs P w K mg base) : FnAt P w K mg base "_law_terms" ["statement"] 2 1 m__law_terms := by
  obtain ⟨fd, F, g⟩ := G.fn ("_law_terms", 81) (mem_ix 57 rfl)
  refine ⟨_, fd, g, F.kp, F.bindsN fun _ _ _ _ _ _ us hl => match us, hl with | [_], _ => rfl, funD_lk F, fn_body (np := np__law_terms) (ms := s__law_terms) F sc__law_terms rfl rfl fun cdv A outer s H E hr tk => ?_⟩
  have hu := room100 hr
  have hu1 := room1 hr
  have nd := sc__law_terms.nd
  exact (sim_seq (sim_set rfl nd rfl (by first | exact Or.inl rfl | exact Or.inr rfl) (sim_ix i2_get (sim_var 0) (sim_b sim_int) (fun _ _ => rfl)))
  (sim_seq (sim_if (sim_tcmp (o2_eq hu) (sim_var 1) (sim_b sim_str) (nobehind _ (by decide) (by decide))) (sim_one1 (sim_ret (sim_nF (sim_lstN sim_pa0)))) sim_nil)
  (sim_seq (sim_if (sim_tcmp (o2_eq hu) (sim_var 1) (sim_b sim_str) (nobehind _ (by decide) (by decide))) (sim_one1 (sim_ret (sim_nF (sim_listN rfl (G.fr "list" (mem_ix 10 rfl)) (sim_b (sim_ix i2_get (sim_var 0) (sim_b sim_int) (fun _ _ => rfl))))))) sim_nil)
  (sim_seq (sim_if (sim_tcmp (o2_eq hu) (sim_var 1) (sim_b sim_str) (nobehind _ (by decide) (by decide))) (sim_one1 (sim_ret (sim_nF (sim_lstN (sim_pa (sim_ix i2_get (sim_var 0) (sim_b sim_int) (fun _ _ => rfl)) (sim_pa (sim_ix i2_get (sim_var 0) (sim_b sim_int) (fun _ _ => rfl)) sim_pa0)))))) sim_nil)
  (sim_one1 (sim_ret (sim_ifV (sim_tcmp (o2_in hu) (sim_var 1) (sim_b (sim_tup (sim_pa sim_str (sim_pa sim_str sim_pa0)))) rfl) (sim_nF (sim_lstN (sim_pa (sim_ix i2_get (sim_var 0) (sim_b sim_int) (fun _ _ => rfl)) sim_pa0))) (sim_nF (sim_lstN (sim_pa (sim_ix i2_get (sim_var 0) (sim_b sim_int) (fun _ _ => rfl)) sim_pa0))))))))))
theorem sc__law_of_statement : FnScope N__law_of_statement ["statement", "procedure", "sizes", "params"] (defScope (top 82)) := ⟨rfl, rfl, rfl, by decide +kernel, rfl, by decide +kernel, by decide +kernel⟩
theorem ok__law_of_statement (G : Gs P w K mg base) : FnAt P w K mg base "_law_of_statement" ["statement", "procedure", "sizes", "params"] 3 4 m__law_of_statement := by
  obtain ⟨fd, F, g⟩ := G.fn ("_law_of_statement", 82) (mem_ix 58 rfl)
  refine ⟨_, fd, g, F.kp, F.bindsN fun _ _ _ _ _ _ us hl => match us, hl with | [_, _, _, _], _ => rfl, funD_lk F, fn_body (np := np__law_of_statement) (ms := s__law_of_statement) F sc__law_of_statement rfl rfl fun cdv A outer s H E hr tk => ?_⟩
  have hu := room100 hr
  have hu1 := room1 hr
  have nd := sc__law_of_statement.nd
  exact (sim_seq (sim_par2 (by decide) rfl nd rfl rfl (by decide) rfl rfl (sim_pao (sim_nO (sim_lstN sim_pa0)) (sim_pao (sim_nO (sim_lstN sim_pa0)) sim_pao0)) rfl)
  (sim_seq (sim_parT (sl := [6, 7, 8]) (by decide) rfl (by decide) (by decide) (pgs_cons (pg_name nd rfl (by first | exact Or.inl rfl | exact Or.inr rfl)) (pgs_cons (pg_name nd rfl (by first | exact Or.inl rfl | exact Or.inr rfl)) (pgs_cons (pg_name nd rfl (by first | exact Or.inl rfl | exact Or.inr rfl)) pgs_nil))) (sim_pao (sim_asO (sim_ix i2_get (sim_var 1) (sim_b sim_int) (fun _ _ => rfl))) (sim_pao (sim_asO (sim_ix i2_get (sim_var 1) (sim_b sim_int) (fun _ _ => rfl))) (sim_pao (sim_asO (sim_ix i2_get (sim_var 0) (sim_b sim_int) (fun _ _ => rfl))) sim_pao0))))
  (sim_seq (sim_setO rfl nd rfl (by first | exact Or.inl rfl | exact Or.inr rfl) (sim_ifO (sim_tcmp (o2_in hu) (sim_var 8) (sim_b (sim_tup (sim_pa sim_str (sim_pa sim_str (sim_pa sim_str sim_pa0))))) rfl) (sim_nO (sim_lstN (sim_pa (sim_ix i2_get (sim_var 0) (sim_b sim_int) (fun _ _ => rfl)) sim_pa0))) (sim_nO (sim_lstN sim_pa0))))
  (sim_seq (sim_if (sim_tcmp (o2_in hu) (sim_var 8) (sim_b (sim_tup (sim_pa sim_str (sim_pa sim_str sim_pa0)))) rfl) (sim_one1 (sim_drop (sim_lm 5 lop_app PySem.F.slot_list_append PySem.F.type_list_append mt_append (sim_pa (sim_tup (sim_pa (sim_ix i2_get (sim_var 0) (sim_b sim_int) (fun _ _ => rfl)) (sim_pa (sim_cmp (o2_eq hu) (sim_var 8) (sim_b sim_str) (nobehind _ (by decide) (by decide))) sim_pa0))) sim_pa0)))) sim_nil)
  (sim_seq (sim_for (passes_of rfl) rfl (sim_itA (sim_asD (sim_fnO (ok__law_terms G) (by decide) hr (.inl tk) (sim_cad (sim_var 0) sim_ca0) rfl (by decide)))) (sim_gname rfl nd rfl (by first | exact Or.inl rfl | exact Or.inr rfl)) (sim_one1 (sim_for (passes_of rfl) rfl (sim_itA (sim_asD (sim_fnO (ok__law_parts G) (by decide) hr (.inl tk) (sim_cad (sim_var 10) sim_ca0) rfl (by decide)))) (sim_gname rfl nd rfl (by first | exact Or.inl rfl | exact Or.inr rfl)) (sim_seq (sim_if (sim_tcmp (o2_eq hu) (sim_ix i2_get (sim_var 11) (sim_b sim_int) (fun _ _ => rfl)) (sim_b sim_str) (nobehind _ (by decide) (by decide))) (sim_one1 (sim_drop (sim_lm 9 lop_app PySem.F.slot_list_append PySem.F.type_list_append mt_append (sim_pa (sim_ix i2_get (sim_var 11) (sim_b sim_int) (fun _ _ => rfl)) sim_pa0)))) sim_nil)
  (sim_one1 (sim_if (sim_tcmp (o2_in hu) (sim_ix i2_get (sim_var 11) (sim_b sim_int) (fun _ _ => rfl)) (sim_b (sim_tup (sim_pa sim_str (sim_pa sim_str sim_pa0)))) rfl) (sim_one1 (sim_drop (sim_lm 5 lop_app PySem.F.slot_list_append PySem.F.type_list_append mt_append (sim_pa (sim_tup (sim_pa (sim_ix i2_get (sim_var 11) (sim_b sim_int) (fun _ _ => rfl)) (sim_pa (sim_cmp (o2_eq hu) (sim_ix i2_get (sim_var 11) (sim_b sim_int) (fun _ _ => rfl)) (sim_b sim_str) (nobehind _ (by decide) (by decide))) sim_pa0))) sim_pa0)))) sim_nil))))))
  (sim_seq (sim_setLc (own := [("number", 12)]) rfl rfl nd rfl rfl (sw_true rfl rfl rfl rfl) (sim_itA (sim_frz 9)) (blkOk_by (N := N__law_of_statement) (sc := defScope (top 82)) (by decide +kernel)) (fun _ _ _ _ _ => (sim_gname rfl nd rfl (by first | exact Or.inl rfl | exact Or.inr rfl))) (fun _ _ _ _ _ => (sim_pts1 (sim_tcmp (o2_ge hu) (sim_var 12) (sim_b (sim_var 7)) (nobehind _ (by decide) (by decide))))) (fun _ _ _ _ _ => (sim_tup (sim_pa sim_str (sim_pa (sim_var 6) (sim_pa (sim_var 12) sim_pa0))))))
  (sim_seq (sim_for (passes_of rfl) rfl (sim_itA (sim_frz 5)) (sim_gtup rfl (sim_gs (sim_gname rfl nd rfl (by first | exact Or.inl rfl | exact Or.inr rfl)) (sim_gs (sim_gname rfl nd rfl (by first | exact Or.inl rfl | exact Or.inr rfl)) sim_gs0)) rfl) (sim_one1 (sim_if (sim_tdnotin 2 hu1 (sim_var 13)) (sim_one1 (sim_drop (sim_lm 4 lop_app PySem.F.slot_list_append PySem.F.type_list_append mt_append (sim_pa (sim_tup (sim_pa sim_str (sim_pa (sim_var 6) (sim_pa (sim_var 13) sim_pa0)))) sim_pa0)))) (sim_one1 (sim_if (sim_tcmp (o2_ne hu) (sim_cmp (o2_eq hu) (sim_dget 2 hu1 (sim_var 13) (fun _ _ => rfl)) (sim_b sim_int) (nobehind _ (by decide) (by decide))) (sim_b (sim_var 14)) (nobehind _ (by decide) (by decide))) (sim_one1 (sim_drop (sim_lm 4 lop_app PySem.F.slot_list_append PySem.F.type_list_append mt_append (sim_pa (sim_tup (sim_pa sim_str (sim_pa (sim_var 6) (sim_pa (sim_var 13) sim_pa0)))) sim_pa0)))) sim_nil)))))
  (sim_seq (sim_if (PW.pt (sim_tand (sim_tcmp (o2_eq hu) (sim_var 8) (sim_b sim_str) (nobehind _ (by decide) (by decide))) (sim_tand1 (sim_tcmp (o2_ne hu) (sim_dget 3 hu1 (sim_ix i2_get (sim_var 0) (sim_b sim_int) (fun _ _ => rfl)) (fun _ _ => rfl)) (sim_b (sim_call1 cl_len rfl (G.fr "len" (mem_ix 9 rfl)) (by decide +kernel) (sim_b (sim_ix i2_get (sim_var 0) (sim_b sim_int) (fun _ _ => rfl))))) (nobehind _ (by decide) (by decide)))))) (sim_one1 (sim_drop (sim_lm 4 lop_app PySem.F.slot_list_append PySem.F.type_list_append mt_append (sim_pa (sim_tup (sim_pa sim_str (sim_pa (sim_var 6) (sim_pa (sim_ix i2_get (sim_var 0) (sim_b sim_int) (fun _ _ => rfl)) sim_pa0)))) sim_pa0)))) sim_nil)
  (sim_one1 (sim_ret (sim_frz 4)))))))))))
theorem sc__law_faults : FnScope N__law_faults ["unit"] (defScope (top 83)) := ⟨rfl, rfl, rfl, by decide +kernel, rfl, by decide +kernel, by decide +kernel⟩
theorem ok__law_faults (G : Gs P w K mg base) : FnAt P w K mg base "_law_faults" ["unit"] 4 1 m__law_faults := by
  obtain ⟨fd, F, g⟩ := G.fn ("_law_faults", 83) (mem_ix 59 rfl)
  refine ⟨_, fd, g, F.kp, F.bindsN fun _ _ _ _ _ _ us hl => match us, hl with | [_], _ => rfl, funD_lk F, fn_body (np := np__law_faults) (ms := s__law_faults) F sc__law_faults rfl rfl fun cdv A outer s H E hr tk => ?_⟩
  have hu := room100 hr
  have hu1 := room1 hr
  have nd := sc__law_faults.nd
  exact (sim_seq (sim_parT (sl := [1, 2, 3, 4]) (by decide) rfl (by decide) (by decide) (pgs_cons (pg_name nd rfl (by first | exact Or.inl rfl | exact Or.inr rfl)) (pgs_cons (pg_name nd rfl (by first | exact Or.inl rfl | exact Or.inr rfl)) (pgs_cons (pg_name nd rfl (by first | exact Or.inl rfl | exact Or.inr rfl)) (pgs_cons (pg_name nd rfl (by first | exact Or.inl rfl | exact Or.inr rfl)) pgs_nil)))) (sim_pao (sim_nO (sim_lstN sim_pa0)) (sim_pao (sim_nO (sim_lstN sim_pa0)) (sim_pao (sim_dictP rfl rfl (G.fr "dict" (mem_ix 5 rfl)) (sim_b (sim_asD (sim_fnO (ok__law_known G) (by decide) hr (.inl tk) (sim_cad (sim_var 0) sim_ca0) rfl (by decide))))) (sim_pao sim_dnew sim_pao0)))))
  (sim_seq (sim_for (passes_of rfl) rfl (sim_itA (sim_asD (sim_fnO (ok__law_known G) (by decide) hr (.inl tk) (sim_cad (sim_var 0) sim_ca0) rfl (by decide)))) (sim_gtup rfl (sim_gs (sim_gname rfl nd rfl (by first | exact Or.inl rfl | exact Or.inr rfl)) (sim_gs (sim_gname rfl nd rfl (by first | exact Or.inl rfl | exact Or.inr rfl)) sim_gs0)) rfl) (sim_seq (sim_drop (sim_lm 1 lop_ext PySem.F.slot_list_extend PySem.F.type_list_extend mt_extF (sim_pa (sim_ifV (sim_tcmp (o2_in hu) (sim_var 5) (sim_plc 2) rfl) (sim_nF (sim_lstN (sim_pa (sim_tup (sim_pa sim_str (sim_pa (sim_var 5) sim_pa0))) sim_pa0))) (sim_nF (sim_lstN sim_pa0))) sim_pa0)))
  (sim_one1 (sim_drop (sim_lm 2 lop_app PySem.F.slot_list_append PySem.F.type_list_append mt_append (sim_pa (sim_var 5) sim_pa0))))))
  (sim_seq (sim_for (passes_of rfl) rfl (sim_enum rfl (G.fr "enumerate" (mem_ix 6 rfl)) (sim_pa (sim_ix i2_get (sim_var 0) (sim_b sim_int) (fun _ _ => rfl)) sim_pa0)) (sim_gtup rfl (sim_gs (sim_gname rfl nd rfl (by first | exact Or.inl rfl | exact Or.inr rfl)) (sim_gs (sim_gname rfl nd rfl (by first | exact Or.inl rfl | exact Or.inr rfl)) sim_gs0)) rfl) (sim_seq (sim_drop (sim_lm 1 lop_ext PySem.F.slot_list_extend PySem.F.type_list_extend mt_extF (sim_pa (sim_ifV (sim_tdin 4 hu1 (sim_ix i2_get (sim_var 8) (sim_b sim_int) (fun _ _ => rfl))) (sim_nF (sim_lstN (sim_pa (sim_tup (sim_pa sim_str (sim_pa (sim_ix i2_get (sim_var 8) (sim_b sim_int) (fun _ _ => rfl)) sim_pa0))) sim_pa0))) (sim_nF (sim_lstN sim_pa0))) sim_pa0)))
  (sim_one1 (sim_dput 4 hu1 (sim_ix i2_get (sim_var 8) (sim_b sim_int) (fun _ _ => rfl)) (sim_ix i2_get (sim_var 8) (sim_b sim_int) (fun _ _ => rfl))))))
  (sim_seq (sim_for (passes_of rfl) rfl (sim_itA (sim_ix i2_get (sim_var 0) (sim_b sim_int) (fun _ _ => rfl))) (sim_gname rfl nd rfl (by first | exact Or.inl rfl | exact Or.inr rfl)) (sim_one1 (sim_for (passes_of rfl) rfl (sim_itA (sim_asD (sim_fnO (ok__law_statements G) (by decide) hr (.inl tk) (sim_cad (sim_ix i2_get (sim_var 8) (sim_b sim_int) (fun _ _ => rfl)) sim_ca0) rfl (by decide)))) (sim_gname rfl nd rfl (by first | exact Or.inl rfl | exact Or.inr rfl)) (sim_one1 (sim_if (PW.pt (sim_tand (sim_tcmp (o2_eq hu) (sim_ix i2_get (sim_var 9) (sim_b sim_int) (fun _ _ => rfl)) (sim_b sim_str) (nobehind _ (by decide) (by decide))) (sim_tand1 (sim_tdnotin 4 hu1 (sim_ix i2_get (sim_var 9) (sim_b sim_int) (fun _ _ => rfl)))))) (sim_one1 (sim_dput 4 hu1 (sim_call1 cl_len rfl (G.fr "len" (mem_ix 9 rfl)) (by decide +kernel) (sim_b (sim_ix i2_get (sim_var 9) (sim_b sim_int) (fun _ _ => rfl)))) (sim_ix i2_get (sim_var 9) (sim_b sim_int) (fun _ _ => rfl)))) sim_nil)))))
  (sim_seq (sim_for (passes_of rfl) rfl (sim_itA (sim_ix i2_get (sim_var 0) (sim_b sim_int) (fun _ _ => rfl))) (sim_gname rfl nd rfl (by first | exact Or.inl rfl | exact Or.inr rfl)) (sim_one1 (sim_for (passes_of rfl) rfl (sim_itA (sim_asD (sim_fnO (ok__law_statements G) (by decide) hr (.inl tk) (sim_cad (sim_ix i2_get (sim_var 8) (sim_b sim_int) (fun _ _ => rfl)) sim_ca0) rfl (by decide)))) (sim_gname rfl nd rfl (by first | exact Or.inl rfl | exact Or.inr rfl)) (sim_one1 (sim_drop (sim_lm 1 lop_ext PySem.F.slot_list_extend PySem.F.type_list_extend mt_extF (sim_pa (sim_asD (sim_fnO (ok__law_of_statement G) (by decide) hr (.inl tk) (sim_cad (sim_var 9) (sim_cad (sim_var 8) (sim_cap 3 (sim_cap 4 sim_ca0)))) rfl (by decide))) sim_pa0)))))))
  (sim_one1 (sim_ret (sim_tupleC rfl (G.fr "tuple" (mem_ix 18 rfl)) (sim_b (sim_lc (own := [("at", 7), ("fault", 10)]) rfl nd (sim_enum rfl (G.fr "enumerate" (mem_ix 6 rfl)) (sim_pa (sim_frz 1) sim_pa0)) (blkOk_by (N := N__law_faults) (sc := defScope (top 83)) (by decide +kernel)) (fun _ _ _ _ _ => (sim_gtup rfl (sim_gs (sim_gname rfl nd rfl (by first | exact Or.inl rfl | exact Or.inr rfl)) (sim_gs (sim_gname rfl nd rfl (by first | exact Or.inl rfl | exact Or.inr rfl)) sim_gs0)) rfl)) (fun _ _ _ _ _ => (sim_pts1 (sim_tcmp (o2_notIn hu) (sim_var 10) (sim_b (sim_nF (sim_cutPl 1 sim_po0 (sim_po (sim_var 7))))) rfl))) (fun _ _ _ _ _ => (sim_var 10))))))))))))
theorem sc__law_calls : FnScope N__law_calls ["unit"] (defScope (top 84)) := ⟨rfl, rfl, rfl, by decide +kernel, rfl, by decide +kernel, by decide +kernel⟩
theorem ok__law_calls (G : Gs P w K mg base) : FnAt P w K mg base "_law_calls" ["unit"] 3 1 m__law_calls := by
  obtain ⟨fd, F, g⟩ := G.fn ("_law_calls", 84) (mem_ix 60 rfl)
  refine ⟨_, fd, g, F.kp, F.bindsN fun _ _ _ _ _ _ us hl => match us, hl with | [_], _ => rfl, funD_lk F, fn_body (np := np__law_calls) (ms := s__law_calls) F sc__law_calls rfl rfl fun cdv A outer s H E hr tk => ?_⟩
  have hu := room100 hr
  have hu1 := room1 hr
  have nd := sc__law_calls.nd
  exact (sim_seq (sim_setO rfl nd rfl (by first | exact Or.inl rfl | exact Or.inr rfl) sim_dnew)
  (sim_seq (sim_for (passes_of rfl) rfl (sim_itA (sim_ix i2_get (sim_var 0) (sim_b sim_int) (fun _ _ => rfl))) (sim_gname rfl nd rfl (by first | exact Or.inl rfl | exact Or.inr rfl)) (sim_one1 (sim_for (passes_of rfl) rfl (sim_itA (sim_asD (sim_fnO (ok__law_statements G) (by decide) hr (.inl tk) (sim_cad (sim_ix i2_get (sim_var 2) (sim_b sim_int) (fun _ _ => rfl)) sim_ca0) rfl (by decide)))) (sim_gname rfl nd rfl (by first | exact Or.inl rfl | exact Or.inr rfl)) (sim_one1 (sim_if (PW.pt (sim_tand (sim_tcmp (o2_eq hu) (sim_ix i2_get (sim_var 3) (sim_b sim_int) (fun _ _ => rfl)) (sim_b sim_str) (nobehind _ (by decide) (by decide))) (sim_tand1 (sim_tdnotin 1 hu1 (sim_ix i2_get (sim_var 3) (sim_b sim_int) (fun _ _ => rfl)))))) (sim_one1 (sim_dput 1 hu1 (sim_call1 cl_len rfl (G.fr "len" (mem_ix 9 rfl)) (by decide +kernel) (sim_b (sim_ix i2_get (sim_var 3) (sim_b sim_int) (fun _ _ => rfl)))) (sim_ix i2_get (sim_var 3) (sim_b sim_int) (fun _ _ => rfl)))) sim_nil)))))
  (sim_one1 (sim_retO (sim_takeO 1)))))
theorem sc__law_bent : FnScope N__law_bent ["hand", "unit"] (defScope (top 85)) := ⟨rfl, rfl, rfl, by decide +kernel, rfl, by decide +kernel, by decide +kernel⟩
theorem ok__law_bent (G : Gs P w K mg base) : FnAt P w K mg base "_law_bent" ["hand", "unit"] 30 2 m__law_bent := by
  obtain ⟨fd, F, g⟩ := G.fn ("_law_bent", 85) (mem_ix 61 rfl)
  refine ⟨_, fd, g, F.kp, F.bindsN fun _ _ _ _ _ _ us hl => match us, hl with | [_, _], _ => rfl, funD_lk F, fn_body (np := np__law_bent) (ms := s__law_bent) F sc__law_bent rfl rfl fun cdv A outer s H E hr tk => ?_⟩
  have hu := room100 hr
  have hu1 := room1 hr
  have nd := sc__law_bent.nd
  exact (sim_seq (sim_asg (sim_var 1) (sim_gtup rfl (sim_gs (sim_gname rfl nd rfl (by first | exact Or.inl rfl | exact Or.inr rfl)) (sim_gs (sim_gname rfl nd rfl (by first | exact Or.inl rfl | exact Or.inr rfl)) (sim_gs (sim_gname rfl nd rfl (by first | exact Or.inl rfl | exact Or.inr rfl)) (sim_gs (sim_gname rfl nd rfl (by first | exact Or.inl rfl | exact Or.inr rfl)) sim_gs0)))) rfl))
  (sim_seq (sim_par2 (by decide) rfl nd rfl rfl (by decide) rfl rfl (sim_pao (sim_asO (sim_asD (sim_fnO (ok__law_draw G) (by decide) hr (.inl tk) (sim_cap 0 (sim_cad sim_int sim_ca0)) rfl (by decide)))) (sim_pao (sim_asO (sim_asD (sim_fnO (ok__law_any G) (by decide) hr (.inl tk) (sim_cap 0 (sim_cad (sim_nF (sim_lstN (sim_pa sim_str (sim_pa sim_str (sim_pa sim_str (sim_pa sim_str sim_pa0)))))) sim_ca0)) rfl (by decide)))) sim_pao0)) rfl)
  (sim_seq (sim_if (sim_tcmp (o2_eq hu) (sim_var 6) (sim_b sim_int) (nobehind _ (by decide) (by decide))) (sim_one1 (sim_set rfl nd rfl (by first | exact Or.inl rfl | exact Or.inr rfl) (sim_addA (sim_var 3) (sim_b (sim_tup (sim_pa (sim_tup (sim_pa (sim_var 7) (sim_pa (sim_bin o2_mul (sim_tup (sim_pa sim_int sim_pa0)) (sim_b (sim_addA sim_int (sim_b (sim_asD (sim_fnO (ok__law_draw G) (by decide) hr (.inl tk) (sim_cap 0 (sim_cad sim_int sim_ca0)) rfl (by decide))))))) sim_pa0))) sim_pa0)))))) sim_nil)
  (sim_seq (sim_if (sim_tcmp (o2_eq hu) (sim_var 6) (sim_b sim_int) (nobehind _ (by decide) (by decide))) (sim_one1 (sim_set rfl nd rfl (by first | exact Or.inl rfl | exact Or.inr rfl) (sim_addA (sim_var 4) (sim_b (sim_tup (sim_pa (sim_tup (sim_pa (sim_var 7) (sim_pa (sim_addA sim_int (sim_b (sim_asD (sim_fnO (ok__law_draw G) (by decide) hr (.inl tk) (sim_cap 0 (sim_cad sim_int sim_ca0)) rfl (by decide))))) sim_pa0))) sim_pa0)))))) sim_nil)
  (sim_seq (sim_if (sim_tcmp (o2_eq hu) (sim_var 6) (sim_b sim_int) (nobehind _ (by decide) (by decide))) (sim_one1 (sim_par2 (by decide) rfl nd rfl rfl (by decide) rfl rfl (sim_pao (sim_asO (sim_cutA (sim_var 3) (sim_po sim_int) sim_po0)) (sim_pao (sim_asO (sim_cutA (sim_var 4) sim_po0 (sim_po (sim_asD (sim_fnO (ok__law_draw G) (by decide) hr (.inl tk) (sim_cap 0 (sim_cad sim_int sim_ca0)) rfl (by decide)))))) sim_pao0)) rfl)) sim_nil)
  (sim_seq (sim_if (PW.pt (sim_tand (sim_tcmp (o2_gt hu) (sim_call1 cl_len rfl (G.fr "len" (mem_ix 9 rfl)) (by decide +kernel) (sim_b (sim_var 5))) (sim_b sim_int) (nobehind _ (by decide) (by decide))) (sim_tand1 (sim_tcmp (o2_gt hu) (sim_var 6) (sim_b sim_int) (nobehind _ (by decide) (by decide)))))) (sim_seq (sim_set rfl nd rfl (by first | exact Or.inl rfl | exact Or.inr rfl) (sim_asD (sim_fnO (ok__law_draw G) (by decide) hr (.inl tk) (sim_cap 0 (sim_cad (sim_call1 cl_len rfl (G.fr "len" (mem_ix 9 rfl)) (by decide +kernel) (sim_b (sim_var 5))) sim_ca0)) rfl (by decide))))
  (sim_seq (sim_asg (sim_ix i2_get (sim_var 5) (sim_b (sim_var 8)) (fun _ _ => rfl)) (sim_gtup rfl (sim_gs (sim_gname rfl nd rfl (by first | exact Or.inl rfl | exact Or.inr rfl)) (sim_gs (sim_gname rfl nd rfl (by first | exact Or.inl rfl | exact Or.inr rfl)) (sim_gs (sim_gname rfl nd rfl (by first | exact Or.inl rfl | exact Or.inr rfl)) (sim_gs (sim_gname rfl nd rfl (by first | exact Or.inl rfl | exact Or.inr rfl)) sim_gs0)))) rfl))
  (sim_seq (sim_if (sim_tcmp (o2_eq hu) (sim_var 6) (sim_b sim_int) (nobehind _ (by decide) (by decide))) (sim_one1 (sim_set rfl nd rfl (by first | exact Or.inl rfl | exact Or.inr rfl) (sim_call2 (cl_max rfl) rfl (G.fr "max" (mem_ix 11 rfl)) (by decide +kernel) (sim_var 10) (sim_b (sim_bin o2_sub (sim_var 11) (sim_b sim_int)))))) sim_nil)
  (sim_seq (sim_if (sim_tcmp (o2_eq hu) (sim_var 6) (sim_b sim_int) (nobehind _ (by decide) (by decide))) (sim_one1 (sim_set rfl nd rfl (by first | exact Or.inl rfl | exact Or.inr rfl) (sim_bin o2_mod (sim_callT1 cl_int rfl (G.fr "int" (mem_ix 7 rfl)) (by decide +kernel) (sim_b (sim_addA (sim_var 10) (sim_b sim_int)))) (sim_b (sim_addA (sim_call2 (cl_min rfl) rfl (G.fr "min" (mem_ix 12 rfl)) (by decide +kernel) (sim_var 11) (sim_b sim_int)) (sim_b sim_int)))))) sim_nil)
  (sim_seq (sim_if (sim_tcmp (o2_gt hu) (sim_var 6) (sim_b sim_int) (nobehind _ (by decide) (by decide))) (sim_seq (sim_set rfl nd rfl (by first | exact Or.inl rfl | exact Or.inr rfl) (sim_asD (sim_fnO (ok__law_any G) (by decide) hr (.inl tk) (sim_cap 0 (sim_cad (sim_nF (sim_lstN (sim_pa (sim_nF (sim_lstN (sim_pa (sim_tup (sim_pa sim_str (sim_pa sim_int sim_pa0))) (sim_pa (sim_tup (sim_pa sim_str (sim_pa sim_int sim_pa0))) sim_pa0)))) (sim_pa (sim_nF (sim_lstN (sim_pa (sim_tup (sim_pa sim_str (sim_pa sim_int sim_pa0))) (sim_pa (sim_tup (sim_pa sim_str (sim_pa sim_int sim_pa0))) sim_pa0)))) (sim_pa (sim_nF (sim_lstN (sim_pa (sim_tup (sim_pa sim_str (sim_pa sim_int sim_pa0))) sim_pa0))) sim_pa0))))) sim_ca0)) rfl (by decide))))
  (sim_seq (sim_set rfl nd rfl (by first | exact Or.inl rfl | exact Or.inr rfl) (sim_nF (sim_lstN (sim_pa (sim_tup (sim_pa sim_str (sim_pa (sim_asD (sim_fnO (ok__law_draw G) (by decide) hr (.inl tk) (sim_cap 0 (sim_cad sim_int sim_ca0)) rfl (by decide))) sim_pa0))) (sim_pa (sim_tup (sim_pa sim_str (sim_pa (sim_asD (sim_fnO (ok__law_draw G) (by decide) hr (.inl tk) (sim_cap 0 (sim_cad sim_int sim_ca0)) rfl (by decide))) sim_pa0))) (sim_pa (sim_tup (sim_pa sim_str (sim_pa (sim_asD (sim_fnO (ok__law_draw G) (by decide) hr (.inl tk) (sim_cap 0 (sim_cad sim_int sim_ca0)) rfl (by decide))) sim_pa0))) sim_pa0))))))
  (sim_one1 (sim_set rfl nd rfl (by first | exact Or.inl rfl | exact Or.inr rfl) (sim_addA (sim_var 12) (sim_b (sim_asD (sim_fnO (ok__law_short G) (by decide) hr (.inl tk) (sim_cad (sim_asD (sim_fnO (ok__law_lines G 12) (by decide) hr (.inl tk) (sim_cap 0 (sim_cad sim_int (sim_cad (sim_var 13) (sim_cad (sim_var 14) (sim_cad sim_int sim_ca0))))) rfl (by decide))) sim_ca0) rfl (by decide))))))))) sim_nil)
  (sim_seq (sim_set rfl nd rfl (by first | exact Or.inl rfl | exact Or.inr rfl) (sim_tup (sim_pa (sim_var 9) (sim_pa (sim_var 10) (sim_pa (sim_var 11) (sim_pa (sim_var 12) sim_pa0))))))
  (sim_one1 (sim_set rfl nd rfl (by first | exact Or.inl rfl | exact Or.inr rfl) (sim_addA (sim_addA (sim_cutA (sim_var 5) sim_po0 (sim_po (sim_var 8))) (sim_b (sim_tup (sim_pa (sim_var 15) sim_pa0)))) (sim_b (sim_cutA (sim_var 5) (sim_po (sim_addA (sim_var 8) (sim_b (sim_ifV (sim_tcmp (o2_eq hu) (sim_var 6) (sim_b sim_int) (nobehind _ (by decide) (by decide))) sim_int sim_int)))) sim_po0))))))))))) sim_nil)
  (sim_one1 (sim_ret (sim_tup (sim_pa (sim_var 2) (sim_pa (sim_var 3) (sim_pa (sim_var 4) (sim_pa (sim_cutA (sim_var 5) sim_po0 (sim_po sim_int)) sim_pa0)))))))))))))
theorem sc__law_is_right : FnScope N__law_is_right ["unit"] (defScope (top 86)) := ⟨rfl, rfl, rfl, by decide +kernel, rfl, by decide +kernel, by decide +kernel⟩
theorem ok__law_is_right (G : Gs P w K mg base) : FnAt P w K mg base "_law_is_right" ["unit"] 21 1 m__law_is_right := by
  obtain ⟨fd, F, g⟩ := G.fn ("_law_is_right", 86) (mem_ix 62 rfl)
  refine ⟨_, fd, g, F.kp, F.bindsN fun _ _ _ _ _ _ us hl => match us, hl with | [_], _ => rfl, funD_lk F, fn_body (np := np__law_is_right) (ms := s__law_is_right) F sc__law_is_right rfl rfl fun cdv A outer s H E hr tk => ?_⟩
  have hu := room100 hr
  have hu1 := room1 hr
  have nd := sc__law_is_right.nd
  exact (sim_seq (sim_parT (sl := [1, 2]) (by decide) rfl (by decide) (by decide) (pgs_cons (pg_name nd rfl (by first | exact Or.inl rfl | exact Or.inr rfl)) (pgs_cons (pg_name nd rfl (by first | exact Or.inl rfl | exact Or.inr rfl)) pgs_nil)) (sim_pao (sim_asO (sim_asD (sim_fnO (ok__law_faults G) (by decide) hr (.inl tk) (sim_cad (sim_var 0) sim_ca0) rfl (by decide)))) (sim_pao (sim_fnO (ok__law_calls G) (by decide) hr (.inl tk) (sim_cad (sim_var 0) sim_ca0) rfl (by decide)) sim_pao0)))
  (sim_seq (sim_if (sim_tnot (sim_t (sim_asD (sim_fnO (ok__law_is G 12) (by decide) hr (.inl tk) (sim_cad (sim_nF (sim_lstN (sim_pa (sim_asD (sim_fnO (ok_is_shape G) (by decide) hr (.inl tk) (sim_cad (sim_var 0) sim_ca0) rfl (by decide))) (sim_pa (sim_asD (sim_fnO (ok_faults G) (by decide) hr (.inl tk) (sim_cad (sim_var 0) sim_ca0) rfl (by decide))) (sim_pa (sim_asD (sim_fnO (ok_is_unit G) (by decide) hr (.inl tk) (sim_cad (sim_var 0) sim_ca0) rfl (by decide))) sim_pa0))))) (sim_cad (sim_nF (sim_lstN (sim_pa sim_bl (sim_pa (sim_var 1) (sim_pa (sim_cmp (o2_eq hu) (sim_call1 cl_len rfl (G.fr "len" (mem_ix 9 rfl)) (by decide +kernel) (sim_b (sim_var 1))) (sim_b sim_int) (nobehind _ (by decide) (by decide))) sim_pa0))))) sim_ca0)) rfl (by decide))))) (sim_one1 (sim_ret sim_bl)) sim_nil)
  (sim_seq (sim_setO rfl nd rfl (by first | exact Or.inl rfl | exact Or.inr rfl) (sim_lcO (own := [("procedure", 4)]) rfl nd (sim_itA (sim_ix i2_get (sim_var 0) (sim_b sim_int) (fun _ _ => rfl))) (blkOk_by (N := N__law_is_right) (sc := defScope (top 86)) (by decide +kernel)) (fun _ _ _ _ _ => (sim_gname rfl nd rfl (by first | exact Or.inl rfl | exact Or.inr rfl))) (fun _ _ _ _ _ => sim_pts0) (fun _ _ _ _ _ => (sim_ix i2_get (sim_var 4) (sim_b sim_int) (fun _ _ => rfl)))))
  (sim_seq (sim_if (sim_tcmp (o2_gt hu) (sim_call1 cl_len rfl (G.fr "len" (mem_ix 9 rfl)) (by decide +kernel) (sim_b (sim_var 1))) (sim_b sim_int) (nobehind _ (by decide) (by decide))) (sim_one1 (sim_ret sim_bl)) sim_nil)
  (sim_seq (sim_set rfl nd rfl (by first | exact Or.inl rfl | exact Or.inr rfl) (sim_tupleC rfl (G.fr "tuple" (mem_ix 18 rfl)) (sim_b (sim_lc (own := [("name", 6)]) rfl nd (sim_itA (sim_nF (sim_sortDN 2 rfl rfl (G.fr "sorted" (mem_ix 15 rfl))))) (blkOk_by (N := N__law_is_right) (sc := defScope (top 86)) (by decide +kernel)) (fun _ _ _ _ _ => (sim_gname rfl nd rfl (by first | exact Or.inl rfl | exact Or.inr rfl))) (fun _ _ _ _ _ => (sim_pts1 (sim_tcmp (o2_notIn hu) (sim_var 6) (sim_plc 3) rfl))) (fun _ _ _ _ _ => (sim_tup (sim_pa (sim_var 6) (sim_pa (sim_dget 2 hu1 (sim_var 6) (fun _ _ => rfl)) sim_pa0))))))))
  (sim_seq (sim_set rfl nd rfl (by first | exact Or.inl rfl | exact Or.inr rfl) (sim_nF (sim_lstN (sim_pa (sim_asD (sim_fnO (ok_calls_of G) (by decide) hr (.inl tk) (sim_cad (sim_var 0) sim_ca0) rfl (by decide))) (sim_pa (sim_asD (sim_fnO (ok_outer_calls G) (by decide) hr (.inl tk) (sim_cad (sim_var 0) sim_ca0) rfl (by decide))) (sim_pa (sim_asD (sim_fnO (ok_known_cells G) (by decide) hr (.inl tk) (sim_cad (sim_var 0) sim_ca0) rfl (by decide))) sim_pa0))))))
  (sim_seq (sim_if (sim_tnot (sim_t (sim_asD (sim_fnO (ok__law_is G 12) (by decide) hr (.inl tk) (sim_cad (sim_var 7) (sim_cad (sim_nF (sim_lstN (sim_pa (sim_tupleC rfl (G.fr "tuple" (mem_ix 18 rfl)) (sim_b (sim_nF (sim_sortDN 2 rfl rfl (G.fr "sorted" (mem_ix 15 rfl)))))) (sim_pa (sim_var 5) (sim_pa (sim_tupleC rfl (G.fr "tuple" (mem_ix 18 rfl)) (sim_b (sim_asD (sim_fnO (ok__law_known G) (by decide) hr (.inl tk) (sim_cad (sim_var 0) sim_ca0) rfl (by decide))))) sim_pa0))))) sim_ca0)) rfl (by decide))))) (sim_one1 (sim_ret sim_bl)) sim_nil)
  (sim_seq (sim_parT (sl := [8, 9]) (by decide) rfl (by decide) (by decide) (pgs_cons (pg_name nd rfl (by first | exact Or.inl rfl | exact Or.inr rfl)) (pgs_cons (pg_name nd rfl (by first | exact Or.inl rfl | exact Or.inr rfl)) pgs_nil)) (sim_pao (sim_asO sim_int) (sim_pao (sim_asO sim_int) sim_pao0)))
  (sim_seq (sim_for (passes_of rfl) rfl (sim_itA (sim_ix i2_get (sim_var 0) (sim_b sim_int) (fun _ _ => rfl))) (sim_gname rfl nd rfl (by first | exact Or.inl rfl | exact Or.inr rfl)) (sim_one1 (sim_for (passes_of rfl) rfl (sim_itA (sim_asD (sim_fnO (ok__law_statements G) (by decide) hr (.inl tk) (sim_cad (sim_ix i2_get (sim_var 4) (sim_b sim_int) (fun _ _ => rfl)) sim_ca0) rfl (by decide)))) (sim_gname rfl nd rfl (by first | exact Or.inl rfl | exact Or.inr rfl)) (sim_seq (sim_set rfl nd rfl (by first | exact Or.inl rfl | exact Or.inr rfl) (sim_addA (sim_var 8) (sim_b sim_int)))
  (sim_one1 (sim_set rfl nd rfl (by first | exact Or.inl rfl | exact Or.inr rfl) (sim_addA (sim_var 9) (sim_b (sim_call1 (cl_sum rfl) rfl (G.fr "sum" (mem_ix 17 rfl)) (by decide +kernel) (sim_b (sim_lc (own := [("term", 11)]) rfl nd (sim_itA (sim_asD (sim_fnO (ok__law_terms G) (by decide) hr (.inl tk) (sim_cad (sim_var 10) sim_ca0) rfl (by decide)))) (blkOk_by (N := N__law_is_right) (sc := defScope (top 86)) (by decide +kernel)) (fun _ _ _ _ _ => (sim_gname rfl nd rfl (by first | exact Or.inl rfl | exact Or.inr rfl))) (fun _ _ _ _ _ => sim_pts0) (fun _ _ _ _ _ => (sim_call1 cl_len rfl (G.fr "len" (mem_ix 9 rfl)) (by decide +kernel) (sim_b (sim_asD (sim_fnO (ok__law_parts G) (by decide) hr (.inr passNo) (sim_cad (sim_var 11) sim_ca0) rfl (by decide)))))))))))))))))
  (sim_one1 (sim_ret (sim_asD (sim_fnO (ok__law_is G 12) (by decide) hr (.inl tk) (sim_cad (sim_asD (sim_fnO (ok_size_of_unit G) (by decide) hr (.inl tk) (sim_cad (sim_var 0) sim_ca0) rfl (by decide))) (sim_cad (sim_tup (sim_pa (sim_call1 cl_len rfl (G.fr "len" (mem_ix 9 rfl)) (by decide +kernel) (sim_plc 3)) (sim_pa (sim_var 8) (sim_pa (sim_var 9) sim_pa0)))) sim_ca0)) rfl (by decide))))))))))))))
theorem sc__law_all : FnScope N__law_all ["script"] (defScope (top 88)) := ⟨rfl, rfl, rfl, by decide +kernel, rfl, by decide +kernel, by decide +kernel⟩
theorem ok__law_all (G : Gs P w K mg base) : FnAt P w K mg base "_law_all" ["script"] 33 1 m__law_all := by
  obtain ⟨fd, F, g⟩ := G.fn ("_law_all", 88) (mem_ix 64 rfl)
  obtain ⟨fdR, FR__law_is_refused, gR__law_is_refused⟩ := G.fn ("_law_is_refused", 87) (mem_ix 63 rfl)
  have bR__law_is_refused : Binds K fdR ["call"] [] := FR__law_is_refused.bindsN fun _ _ _ _ _ _ us hl => match us, hl with | [_], _ => rfl
  obtain ⟨ocR, odR, dVR, kVR, docR, pmR, anR, cdvR, ctR, oslR, rfl, lkR__law_is_refused, hcR__law_is_refused, _, _⟩ := FR__law_is_refused.ex
  refine ⟨_, fd, g, F.kp, F.bindsN fun _ _ _ _ _ _ us hl => match us, hl with | [_], _ => rfl, funD_lk F, fn_bodyC (np := np__law_all) (ms := s__law_all) F sc__law_all rfl rfl fun c A outer s H E hcc hr tk => ?_⟩
  have hcc := hcc ("_law_all", none) rfl
  subst hcc
  have hu := room100 hr
  have hu1 := room1 hr
  have nd := sc__law_all.nd
  exact (sim_seq (sim_setO rfl nd rfl (by first | exact Or.inl rfl | exact Or.inr rfl) (sim_fnO (ok__law_hand G) (by decide) hr (.inl tk) (sim_cad (sim_var 0) sim_ca0) rfl (by decide)))
  (sim_seq (sim_for (passes_of rfl) rfl (sim_rng1 rfl (G.fr "range" (mem_ix 13 rfl)) (sim_pa sim_int sim_pa0)) (sim_gname rfl nd rfl (by first | exact Or.inl rfl | exact Or.inr rfl)) (sim_seq (sim_set rfl nd rfl (by first | exact Or.inl rfl | exact Or.inr rfl) (sim_asD (sim_fnO (ok__law_program G) (by decide) hr (.inl tk) (sim_cap 1 (sim_cad (sim_addA sim_int (sim_b (sim_asD (sim_fnO (ok__law_draw G) (by decide) hr (.inl tk) (sim_cap 1 (sim_cad sim_int sim_ca0)) rfl (by decide))))) (sim_cad (sim_cmp (o2_eq hu) (sim_asD (sim_fnO (ok__law_draw G) (by decide) hr (.inl tk) (sim_cap 1 (sim_cad sim_int sim_ca0)) rfl (by decide))) (sim_b sim_int) (nobehind _ (by decide) (by decide))) sim_ca0))) rfl (by decide))))
  (sim_seq (sim_if (sim_tcmp o2_isNot' (sim_asD (sim_fnO (ok_is_program G) (by decide) hr (.inl tk) (sim_cad (sim_var 3) sim_ca0) rfl (by decide))) (sim_b sim_bl) (nobehind _ (by decide) (by decide))) (sim_one1 (sim_ret sim_bl)) sim_nil)
  (sim_seq (sim_setO rfl nd rfl (by first | exact Or.inl rfl | exact Or.inr rfl) (sim_dictT rfl rfl (G.fr "dict" (mem_ix 5 rfl)) (sim_fnO (ok_all_cells G) (by decide) hr (.inl tk) (sim_cad (sim_var 3) sim_ca0) rfl (by decide))))
  (sim_seq (sim_for (passes_of rfl) rfl (sim_itA (sim_ix i2_get (sim_var 3) (sim_b sim_int) (fun _ _ => rfl))) (sim_gname rfl nd rfl (by first | exact Or.inl rfl | exact Or.inr rfl)) (sim_seq (sim_if (PW.pt (sim_tor (sim_tnot (sim_t (sim_asD (sim_fnO (ok__law_is_right G) (by decide) hr (.inl tk) (sim_cad (sim_var 5) sim_ca0) rfl (by decide))))) (sim_tor1 (sim_tcmp (o2_ne hu) (sim_asD (sim_fnO (ok_faults G) (by decide) hr (.inl tk) (sim_cad (sim_var 5) sim_ca0) rfl (by decide))) (sim_b (sim_tup sim_pa0)) (nobehind _ (by decide) (by decide)))))) (sim_one1 (sim_ret sim_bl)) sim_nil)
  (sim_seq (sim_if (sim_t (sim_call1 (cl_any rfl) rfl (G.fr "any" (mem_ix 3 rfl)) (by decide +kernel) (sim_b (sim_lc (own := [("name", 6), ("given", 7)]) rfl nd (sim_itA (sim_asD (sim_fnO (ok_outer_calls G) (by decide) hr (.inl tk) (sim_cad (sim_var 5) sim_ca0) rfl (by decide)))) (blkOk_by (N := N__law_all) (sc := defScope (top 88)) (by decide +kernel)) (fun _ _ _ _ _ => (sim_gtup rfl (sim_gs (sim_gname rfl nd rfl (by first | exact Or.inl rfl | exact Or.inr rfl)) (sim_gs (sim_gname rfl nd rfl (by first | exact Or.inl rfl | exact Or.inr rfl)) sim_gs0)) rfl)) (fun _ _ _ _ _ => sim_pts0) (fun _ _ _ _ _ => (sim_cmp o2_is' (sim_asD (sim_fnO (ok_home G) (by decide) hr (.inr passNo) (sim_cad (sim_var 3) (sim_cad (sim_var 6) sim_ca0)) rfl (by decide))) (sim_b sim_non) (nobehind _ (by decide) (by decide)))))))) (sim_one1 (sim_ret sim_bl)) sim_nil)
  (sim_seq (sim_if (sim_t (sim_call1 (cl_any rfl) rfl (G.fr "any" (mem_ix 3 rfl)) (by decide +kernel) (sim_b (sim_lc (own := [("name", 6), ("size", 8)]) rfl nd (sim_itA (sim_ix i2_get (sim_var 5) (sim_b sim_int) (fun _ _ => rfl))) (blkOk_by (N := N__law_all) (sc := defScope (top 88)) (by decide +kernel)) (fun _ _ _ _ _ => (sim_gtup rfl (sim_gs (sim_gname rfl nd rfl (by first | exact Or.inl rfl | exact Or.inr rfl)) (sim_gs (sim_gname rfl nd rfl (by first | exact Or.inl rfl | exact Or.inr rfl)) sim_gs0)) rfl)) (fun _ _ _ _ _ => sim_pts0) (fun _ _ _ _ _ => (sim_cmp (o2_ne hu) (sim_dget 4 hu1 (sim_var 6) (fun _ _ => rfl)) (sim_b (sim_var 8)) (nobehind _ (by decide) (by decide)))))))) (sim_one1 (sim_ret sim_bl)) sim_nil)
  (sim_seq (sim_set rfl nd rfl (by first | exact Or.inl rfl | exact Or.inr rfl) (sim_var 5))
  (sim_one1 (sim_for (passes_of rfl) rfl (sim_rng1 rfl (G.fr "range" (mem_ix 13 rfl)) (sim_pa sim_int sim_pa0)) (sim_gname rfl nd rfl (by first | exact Or.inl rfl | exact Or.inr rfl)) (sim_seq (sim_set rfl nd rfl (by first | exact Or.inl rfl | exact Or.inr rfl) (sim_asD (sim_fnO (ok__law_bent G) (by decide) hr (.inl tk) (sim_cap 1 (sim_cad (sim_var 9) sim_ca0)) rfl (by decide))))
  (sim_one1 (sim_if (sim_tnot (sim_t (sim_asD (sim_fnO (ok__law_is_right G) (by decide) hr (.inl tk) (sim_cad (sim_var 9) sim_ca0) rfl (by decide))))) (sim_one1 (sim_ret sim_bl)) sim_nil))))))))))
  (sim_seq (sim_set rfl nd rfl (by first | exact Or.inl rfl | exact Or.inr rfl) (sim_asD (sim_fnO (ok__law_any G) (by decide) hr (.inl tk) (sim_cap 1 (sim_cad (sim_nF (sim_lstN (sim_pa sim_non (sim_pa (sim_tup sim_pa0) (sim_pa (sim_tup (sim_pa sim_str (sim_pa (sim_tup sim_pa0) (sim_pa (sim_tup sim_pa0) sim_pa0)))) (sim_pa (sim_nF (sim_lstN (sim_pa sim_str (sim_pa (sim_tup sim_pa0) (sim_pa (sim_tup sim_pa0) (sim_pa (sim_tup sim_pa0) sim_pa0)))))) (sim_pa (sim_tup (sim_pa sim_str (sim_pa (sim_tup sim_pa0) (sim_pa (sim_tup sim_pa0) (sim_pa (sim_tup sim_pa0) sim_pa0))))) (sim_pa sim_int (sim_pa sim_dnewF (sim_pa sim_str sim_pa0)))))))))) sim_ca0)) rfl (by decide))))
  (sim_one1 (sim_if (PW.pt (sim_tor (sim_tcmp o2_isNot' (sim_asD (sim_fnO (ok_is_shape G) (by decide) hr (.inl tk) (sim_cad (sim_var 11) sim_ca0) rfl (by decide))) (sim_b sim_bl) (nobehind _ (by decide) (by decide))) (sim_tor (sim_tcmp o2_isNot' (sim_asD (sim_fnO (ok_is_unit G) (by decide) hr (.inl tk) (sim_cad (sim_var 11) sim_ca0) rfl (by decide))) (sim_b sim_bl) (nobehind _ (by decide) (by decide))) (sim_tor1 (sim_tnot (sim_t (sim_lamref (rf := rf__law_is_refused) (Ng := N__law_is_refused) (sg := defScope (top 87)) rfl gR__law_is_refused FR__law_is_refused.kp lkR__law_is_refused hcR__law_is_refused bR__law_is_refused sc__law_is_refused rfl (Or.inl rfl) (ref_gives (CS := He.ga K "LinkError") (B := He.ga K "BadUnit") G.rc__law_is_refused sc__law_is_refused.nd rfl rfl rfl rfl rfl G.gL_LinkError rfl G.gL_BadUnit rfl (G.fr "isinstance" (mem_ix 8 rfl)) (by decide +kernel) rfl (G.fr "ValueError" (mem_ix 0 rfl)) (by decide +kernel) rfl (by decide) (by decide) (by decide) (by decide) (by decide) (by decide) (by decide) (by decide) (by decide) (by decide)) G.tb__law_all rfl (tabs_mem G.hT) (tabs_hu G.hT) hr (LamX.lamS_by (sc := defScope (top 88)) (by decide +kernel)) rfl (fun _ _ _ _ _ => rfl) (fun A outer s H E f c' hr tk => have hu := room100 hr; have hu1 := room1 hr; (sim_asD (sim_fnO (ok_faults G) (by decide) hr (.inl tk) (sim_cad (sim_var 11) sim_ca0) rfl (by decide))))))))))) (sim_one1 (sim_ret sim_bl)) sim_nil))))))))
  (sim_seq (sim_set rfl nd rfl (by first | exact Or.inl rfl | exact Or.inr rfl) (sim_tup (sim_pa (sim_tup (sim_pa sim_str (sim_pa sim_int (sim_pa (sim_tup (sim_pa sim_str (sim_pa sim_str sim_pa0))) sim_pa0)))) (sim_pa (sim_tup (sim_pa sim_str (sim_pa sim_int (sim_pa sim_str (sim_pa (sim_tup (sim_pa (sim_tup (sim_pa sim_str (sim_pa sim_int sim_pa0))) sim_pa0)) sim_pa0))))) sim_pa0))))
  (sim_seq (sim_set rfl nd rfl (by first | exact Or.inl rfl | exact Or.inr rfl) (sim_tup (sim_pa sim_str (sim_pa (sim_tup (sim_pa (sim_tup (sim_pa sim_str (sim_pa (sim_tup (sim_pa sim_int (sim_pa sim_int sim_pa0))) sim_pa0))) sim_pa0)) (sim_pa (sim_tup sim_pa0) (sim_pa (sim_tup (sim_pa (sim_tup (sim_pa sim_str (sim_pa sim_int (sim_pa sim_int (sim_pa (sim_var 12) sim_pa0))))) sim_pa0)) sim_pa0))))))
  (sim_seq (sim_set rfl nd rfl (by first | exact Or.inl rfl | exact Or.inr rfl) (sim_tup (sim_pa (sim_tup (sim_pa sim_str (sim_pa sim_str (sim_pa sim_int sim_pa0)))) (sim_pa (sim_tup (sim_pa sim_str (sim_pa sim_str (sim_pa sim_str sim_pa0)))) (sim_pa (sim_tup (sim_pa sim_str (sim_pa sim_str (sim_pa sim_str sim_pa0)))) sim_pa0)))))
  (sim_one1 (sim_ret (sim_andV (sim_asD (sim_fnO (ok__law_is G 12) (by decide) hr (.inl tk) (sim_cad (sim_asD (sim_fnO (ok_faults G) (by decide) hr (.inl tk) (sim_cad (sim_var 5) sim_ca0) rfl (by decide))) (sim_cad (sim_var 13) sim_ca0)) rfl (by decide))) (sim_one (sim_lamref (rf := rf__law_is_refused) (Ng := N__law_is_refused) (sg := defScope (top 87)) rfl gR__law_is_refused FR__law_is_refused.kp lkR__law_is_refused hcR__law_is_refused bR__law_is_refused sc__law_is_refused rfl (Or.inl rfl) (ref_gives (CS := He.ga K "LinkError") (B := He.ga K "BadUnit") G.rc__law_is_refused sc__law_is_refused.nd rfl rfl rfl rfl rfl G.gL_LinkError rfl G.gL_BadUnit rfl (G.fr "isinstance" (mem_ix 8 rfl)) (by decide +kernel) rfl (G.fr "ValueError" (mem_ix 0 rfl)) (by decide +kernel) rfl (by decide) (by decide) (by decide) (by decide) (by decide) (by decide) (by decide) (by decide) (by decide) (by decide)) G.tb__law_all rfl (tabs_mem G.hT) (tabs_hu G.hT) hr (LamX.lamS_by (sc := defScope (top 88)) (by decide +kernel)) rfl (fun _ _ _ _ _ => rfl) (fun A outer s H E f c' hr tk => have hu := room100 hr; have hu1 := room1 hr; (sim_asD (sim_fnO (ok_size_of_unit G) (by decide) hr (.inl tk) (sim_cad sim_non sim_ca0) rfl (by decide))))))))))))))
theorem sc_law : FnScope N_law ["script"] (defScope (top 89)) := ⟨rfl, rfl, rfl, by decide +kernel, rfl, by decide +kernel, by decide +kernel⟩
theorem ok_law (G : Gs P w K mg base) : FnAt P w K mg base "law" ["script"] 34 1 m_law := by
  obtain ⟨fd, F, g⟩ := G.fn ("law", 89) (mem_ix 65 rfl)
  refine ⟨_, fd, g, F.kp, F.bindsN fun _ _ _ _ _ _ us hl => match us, hl with | [_], _ => rfl, funD_lk F, fn_body (np := np_law) (ms := s_law) F sc_law rfl rfl fun cdv A outer s H E hr tk => ?_⟩
  have hu := room100 hr
  have hu1 := room1 hr
  have nd := sc_law.nd
  exact (sim_one1 (sim_tryT (sim_one1 (sim_ret (sim_asD (sim_fnO (ok__law_all G) (by decide) hr (.inr passNo) (sim_cad (sim_frz 0) sim_ca0) rfl (by decide)))))))
end
end K13

/-! ## K13p -/
set_option Elab.async false
set_option linter.all false
set_option maxRecDepth 100000
set_option maxHeartbeats 4000000
/-! K13p: the plain law of k13: what the plain functions say. -/
namespace K13
open PySem PySem.Spec L2 Pm
@[simp] theorem is_integer_at {Q : O → List O → Prop} (d : D) : WpF m_is_integer [.f (.d d)] Q ↔ Q (.f (.d (.bool (match d with | .int _ => true | _ => false)))) [.f (.d d)] := by
  refine WpF.of (WpF.eq (wpf_body ?_))
  cases d <;> simp [s_is_integer, env0, outs, np_is_integer, isaN]
@[simp] theorem is_within_at {Q : O → List O → Prop} (x lo hi : Int) : WpF m_is_within [.f (.d (.int x)), .f (.d (.int lo)), .f (.d (.int hi))] Q ↔ Q (.f (.d (.bool (decide (lo ≤ x) && decide (x ≤ hi))))) [.f (.d (.int x)), .f (.d (.int lo)), .f (.d (.int hi))] := by
  refine WpF.of (WpF.eq (wpf_body ?_))
  by_cases h : lo ≤ x <;> simp [s_is_within, env0, outs, np_is_within, fill, store, leS, h]
/-- the terms that the law draws -/
inductive Term where
  | word (n : Nat)
  | loc (n : Nat)
  | cell (s : Str)
  | row (s : Str) (t : Term)
  | not (t : Term)
  | deed (s : Str) (a b : Term)
def Term.enc : Term → D
  | .word n => .tuple [.str "word", .int n]
  | .loc n => .tuple [.str "local", .int n]
  | .cell s => .tuple [.str "cell", .str s]
  | .row s t => .tuple [.str "row", .str s, t.enc]
  | .not t => .tuple [.str "not", t.enc]
  | .deed s a b => .tuple [.str s, a.enc, b.enc]
@[simp] theorem blocks_if {Q : O → List O → Prop} (a b c : D) : WpF m_blocks_of [.f (.d (.tuple [.str "if", a, b, c]))] Q ↔ Q (.f (.d (.list [b, c]))) [.f (.d (.tuple [.str "if", a, b, c]))] := by
  refine WpF.of (WpF.eq (wpf_body ?_))
  simp [s_blocks_of, env0, outs, np_blocks_of]
@[simp] theorem blocks_while {Q : O → List O → Prop} (a b : D) : WpF m_blocks_of [.f (.d (.tuple [.str "while", a, b]))] Q ↔ Q (.f (.d (.list [b]))) [.f (.d (.tuple [.str "while", a, b]))] := by
  refine WpF.of (WpF.eq (wpf_body ?_))
  simp [s_blocks_of, env0, outs, np_blocks_of]
theorem blocks_no {Q : O → List O → Prop} (s : Str) (h1 : s ≠ "if") (h2 : s ≠ "while") (r : List D) : WpF m_blocks_of [.f (.d (.tuple (.str s :: r)))] Q ↔ Q (.f (.d (.list []))) [.f (.d (.tuple (.str s :: r)))] := by
  refine WpF.of (WpF.eq (wpf_body ?_))
  simp [s_blocks_of, env0, outs, np_blocks_of, h1, h2]
/-- the names that the law draws -/
def names : List String := ["main", "aa", "bb", "cc", "u", "v", "w", "zz", "one", "two", "three"]
theorem is_name_all : ∀ s ∈ names, m_is_name [.f (.d (.str (Str.ofString s)))] = some (.ok (.f (.d (.bool true))) [.f (.d (.str (Str.ofString s)))]) := by
  intro s hs
  simp only [names, List.mem_cons, List.not_mem_nil, or_false] at hs
  rcases hs with rfl | rfl | rfl | rfl | rfl | rfl | rfl | rfl | rfl | rfl | rfl <;> kernel_rfl
def deeds : List String := ["sum", "less", "times", "and", "or", "xor", "same", "below", "over", "rest"]
theorem is_deed_all : ∀ s ∈ deeds, m_is_deed [.f (.d (.str (Str.ofString s)))] = some (.ok (.f (.d (.bool true))) [.f (.d (.str (Str.ofString s)))]) := by
  intro s hs
  simp only [deeds, List.mem_cons, List.not_mem_nil, or_false] at hs
  rcases hs with rfl | rfl | rfl | rfl | rfl | rfl | rfl | rfl | rfl | rfl <;> kernel_rfl
def NameOk (x : Str) : Prop := ∃ s ∈ names, x = Str.ofString s
def DeedOk (x : Str) : Prop := ∃ s ∈ deeds, x = Str.ofString s
theorem is_name_ok {Q : O → List O → Prop} {x : Str} (h : NameOk x) : WpF m_is_name [.f (.d (.str x))] Q ↔ Q (.f (.d (.bool true))) [.f (.d (.str x))] := by
  obtain ⟨s, hs, rfl⟩ := h
  exact WpF.of (is_name_all s hs)
theorem is_deed_ok {Q : O → List O → Prop} {x : Str} (h : DeedOk x) : WpF m_is_deed [.f (.d (.str x))] Q ↔ Q (.f (.d (.bool true))) [.f (.d (.str x))] := by
  obtain ⟨s, hs, rfl⟩ := h
  exact WpF.of (is_deed_all s hs)
def Term.ok : Term → Prop
  | .word n => n ≤ 15
  | .loc n => n ≤ 3
  | .cell s => NameOk s
  | .row s t => NameOk s ∧ t.ok
  | .not t => t.ok
  | .deed s a b => DeedOk s ∧ a.ok ∧ b.ok
def Term.kids : Term → List Term
  | .row _ t => [t]
  | .not t => [t]
  | .deed _ a b => [a, b]
  | _ => []
theorem deed_ne {x : Str} (h : DeedOk x) : x ≠ "word" ∧ x ≠ "local" ∧ x ≠ "cell" ∧ x ≠ "row" ∧ x ≠ "not" := by
  obtain ⟨s, hs, rfl⟩ := h
  simp only [deeds, List.mem_cons, List.not_mem_nil, or_false] at hs
  rcases hs with rfl | rfl | rfl | rfl | rfl | rfl | rfl | rfl | rfl | rfl <;> simp
theorem parts_at {Q : O → List O → Prop} (t : Term) (h : t.ok) : WpF m_parts_of [.f (.d t.enc)] Q ↔ Q (.f (.d (.list (t.kids.map Term.enc)))) [.f (.d t.enc)] := by
  refine WpF.of (WpF.eq (wpf_body ?_))
  cases t with
  | word n => 
    have h1 : (n : Int) ≤ 15 := by exact_mod_cast h
    simp [s_parts_of, env0, outs, np_parts_of, Term.enc, Term.kids, fill, store, h1]
  | loc n =>
    have h1 : (n : Int) ≤ 3 := by exact_mod_cast h
    simp [s_parts_of, env0, outs, np_parts_of, Term.enc, Term.kids, fill, store, h1]
  | cell s => simp [s_parts_of, env0, outs, np_parts_of, Term.enc, Term.kids, fill, store, is_name_ok h]
  | row s t => simp [s_parts_of, env0, outs, np_parts_of, Term.enc, Term.kids, fill, store, is_name_ok h.1]
  | not t => simp [s_parts_of, env0, outs, np_parts_of, Term.enc, Term.kids, fill, store]
  | deed s a b =>
    obtain ⟨h1, h2, h3, h4, h5⟩ := deed_ne h.1
    simp [s_parts_of, env0, outs, np_parts_of, Term.enc, Term.kids, fill, store, is_deed_ok h.1, h1, h2, h3, h4, h5]
end K13

/-! ## K13t -/
set_option Elab.async false
set_option linter.all false
set_option maxRecDepth 100000
set_option maxHeartbeats 4000000
/-! K13t: typed terms, statements, blocks, units. -/
namespace K13
open PySem PySem.Spec L2 Pm
def Term.pre : Term → List Term
  | .row s t => .row s t :: t.pre
  | .not t => .not t :: t.pre
  | .deed s a b => .deed s a b :: (a.pre ++ b.pre)
  | t => [t]
def Term.dep : Term → Nat
  | .row _ t => t.dep + 1
  | .not t => t.dep + 1
  | .deed _ a b => max a.dep b.dep + 1
  | _ => 0
def preT (ts : List Term) : List Term := ts.flatMap Term.pre
theorem Term.pre_kids (t : Term) : t.pre = t :: preT t.kids := by
  cases t <;> simp [Term.pre, Term.kids, preT]
theorem Term.ok_kids {t : Term} (h : t.ok) : ∀ x ∈ t.kids, x.ok := by
  cases t <;> simp_all [Term.kids, Term.ok]
theorem Term.dep_kids {t : Term} : ∀ x ∈ t.kids, x.dep + 1 ≤ t.dep := by
  cases t <;> simp [Term.kids, Term.dep] <;> omega
theorem Term.pre_pos (t : Term) : 0 < t.pre.length := by
  rw [t.pre_kids]
  simp
theorem Term.pre_len : ∀ t : Term, t.pre.length + 1 ≤ 2 ^ (t.dep + 1)
  | .word n => by simp [Term.pre, Term.dep]
  | .loc n => by simp [Term.pre, Term.dep]
  | .cell s => by simp [Term.pre, Term.dep]
  | .row s t => by
    have := t.pre_len
    simp only [Term.pre, Term.dep, List.length_cons, Nat.pow_succ] at this ⊢
    omega
  | .not t => by
    have := t.pre_len
    simp only [Term.pre, Term.dep, List.length_cons, Nat.pow_succ] at this ⊢
    omega
  | .deed s a b => by
    have h1 := a.pre_len
    have h2 := b.pre_len
    have h3 : 2 ^ (a.dep + 1) ≤ 2 ^ (max a.dep b.dep + 1) := Nat.pow_le_pow_right (by omega) (by omega)
    have h4 : 2 ^ (b.dep + 1) ≤ 2 ^ (max a.dep b.dep + 1) := Nat.pow_le_pow_right (by omega) (by omega)
    simp only [Term.pre, Term.dep, List.length_cons, List.length_append, Nat.pow_succ] at h1 h2 h3 h4 ⊢
    omega
@[simp] theorem Term.plain_enc : ∀ t : Term, t.enc.plain = true
  | .word n => by simp [Term.enc, PyData.plain, PyData.plainAll]
  | .loc n => by simp [Term.enc, PyData.plain, PyData.plainAll]
  | .cell s => by simp [Term.enc, PyData.plain, PyData.plainAll]
  | .row s t => by simp [Term.enc, PyData.plain, PyData.plainAll, t.plain_enc]
  | .not t => by simp [Term.enc, PyData.plain, PyData.plainAll, t.plain_enc]
  | .deed s a b => by simp [Term.enc, PyData.plain, PyData.plainAll, a.plain_enc, b.plain_enc]
theorem plainAll_map {α : Type} (f : α → D) (h : ∀ a, (f a).plain = true) : ∀ l : List α, PyData.plainAll (l.map f) = true
  | [] => by simp [PyData.plainAll]
  | a :: l => by simp [PyData.plainAll, h a, plainAll_map f h l]
theorem plainAll_iff : ∀ l : List D, PyData.plainAll l = true ↔ ∀ d ∈ l, d.plain = true
  | [] => by simp [PyData.plainAll]
  | a :: l => by simp [PyData.plainAll, plainAll_iff l]
theorem eqS_of {a b : D} (h : okEq a b) : eqS a b = some (.bool (PyData.eqv a b)) := if_pos h
theorem neS_of {a b : D} (h : okEq a b) : neS a b = some (.bool (!PyData.eqv a b)) := if_pos h
theorem eqS_nil (xs : List D) (h : PyData.plainAll xs = true) : eqS (.list xs) (.list []) = some (.bool (decide (xs = []))) := by
  have h1 : PyData.depth (.list ([] : List D)) ≤ 64 := by decide
  rw [eqS_of ⟨Nat.le_trans (Nat.min_le_right _ _) h1, by simpa [PyData.plain] using h, by simp [PyData.plain, PyData.plainAll]⟩]
  cases xs <;> simp [PyData.eqv, PyData.eqvAll]
theorem neS_nil (xs : List D) (h : PyData.plainAll xs = true) : neS (.list xs) (.list []) = some (.bool (!decide (xs = []))) := by
  have h1 : PyData.depth (.list ([] : List D)) ≤ 64 := by decide
  rw [neS_of ⟨Nat.le_trans (Nat.min_le_right _ _) h1, by simpa [PyData.plain] using h, by simp [PyData.plain, PyData.plainAll]⟩]
  cases xs <;> simp [PyData.eqv, PyData.eqvAll]
theorem eqS_tnil (xs : List D) (h : PyData.plainAll xs = true) : eqS (.tuple xs) (.tuple []) = some (.bool (decide (xs = []))) := by
  have h1 : PyData.depth (.tuple ([] : List D)) ≤ 64 := by decide
  rw [eqS_of ⟨Nat.le_trans (Nat.min_le_right _ _) h1, by simpa [PyData.plain] using h, by simp [PyData.plain, PyData.plainAll]⟩]
  cases xs <;> simp [PyData.eqv, PyData.eqvAll]
theorem neS_tnil (xs : List D) (h : PyData.plainAll xs = true) : neS (.tuple xs) (.tuple []) = some (.bool (!decide (xs = []))) := by
  have h1 : PyData.depth (.tuple ([] : List D)) ≤ 64 := by decide
  rw [neS_of ⟨Nat.le_trans (Nat.min_le_right _ _) h1, by simpa [PyData.plain] using h, by simp [PyData.plain, PyData.plainAll]⟩]
  cases xs <;> simp [PyData.eqv, PyData.eqvAll]
@[simp] theorem neS_nn : neS (.list []) (.list []) = some (.bool false) := neS_nil [] (by simp [PyData.plainAll])
@[simp] theorem eqS_nn : eqS (.list []) (.list []) = some (.bool true) := eqS_nil [] (by simp [PyData.plainAll])
theorem neS_snoc (xs : List D) (x : D) (h : PyData.plainAll (xs ++ [x]) = true) : neS (.list (xs ++ [x])) (.list []) = some (.bool true) := by
  rw [neS_nil _ h]
  simp
theorem eqS_tcons (x : D) (xs : List D) (h : PyData.plainAll (x :: xs) = true) : eqS (.tuple (x :: xs)) (.tuple []) = some (.bool false) := by
  rw [eqS_tnil _ h]
  simp
@[simp] theorem plainAll_app (xs ys : List D) : PyData.plainAll (xs ++ ys) = (PyData.plainAll xs && PyData.plainAll ys) := by
  induction xs with
  | nil => simp [PyData.plainAll]
  | cons x xs ih => simp [PyData.plainAll, ih, Bool.and_assoc]
/-! ### statements without blocks -/
inductive Act where
  | set (i : Nat) (t : Term)
  | put (s : Str) (t : Term)
  | fill (s : Str) (a b : Term)
  | call (i : Nat) (s : Str) (as : List Term)
  | pick (i : Nat)
  | check (t : Term)
  | tell (t : Term)
  | ret (t : Term)
def Act.enc : Act → D
  | .set i t => .tuple [.str "set", .int i, t.enc]
  | .put s t => .tuple [.str "put", .str s, t.enc]
  | .fill s a b => .tuple [.str "fill", .str s, a.enc, b.enc]
  | .call i s as => .tuple [.str "call", .int i, .str s, .tuple (as.map Term.enc)]
  | .pick i => .tuple [.str "pick", .int i]
  | .check t => .tuple [.str "check", t.enc]
  | .tell t => .tuple [.str "tell", t.enc]
  | .ret t => .tuple [.str "return", t.enc]
/-- blocks: a statement, its blocks, the rest -/
inductive Blk where
  | nil
  | act (a : Act) (r : Blk)
  | ife (t : Term) (b c r : Blk)
  | whl (t : Term) (b r : Blk)
inductive Sta where
  | act (a : Act)
  | ife (t : Term) (b c : Blk)
  | whl (t : Term) (b : Blk)
def Blk.encs : Blk → List D
  | .nil => []
  | .act a r => a.enc :: r.encs
  | .ife t b c r => .tuple [.str "if", t.enc, .tuple b.encs, .tuple c.encs] :: r.encs
  | .whl t b r => .tuple [.str "while", t.enc, .tuple b.encs] :: r.encs
def Sta.enc : Sta → D
  | .act a => a.enc
  | .ife t b c => .tuple [.str "if", t.enc, .tuple b.encs, .tuple c.encs]
  | .whl t b => .tuple [.str "while", t.enc, .tuple b.encs]
/-- all statements, each ahead of those of its blocks -/
def Blk.pre : Blk → List Sta
  | .nil => []
  | .act a r => .act a :: r.pre
  | .ife t b c r => .ife t b c :: (b.pre ++ (c.pre ++ r.pre))
  | .whl t b r => .whl t b :: (b.pre ++ r.pre)
def Blk.dep : Blk → Nat
  | .nil => 0
  | .act a r => r.dep
  | .ife t b c r => max (max b.dep c.dep + 1) r.dep
  | .whl t b r => max (b.dep + 1) r.dep
def Blk.app : Blk → Blk → Blk
  | .nil, x => x
  | .act a r, x => .act a (r.app x)
  | .ife t b c r, x => .ife t b c (r.app x)
  | .whl t b r, x => .whl t b (r.app x)
@[simp] theorem Blk.app_encs : ∀ b x : Blk, (b.app x).encs = b.encs ++ x.encs
  | .nil, x => rfl
  | .act a r, x => by simp [Blk.app, Blk.encs, app_encs r x]
  | .ife t b c r, x => by simp [Blk.app, Blk.encs, app_encs r x]
  | .whl t b r, x => by simp [Blk.app, Blk.encs, app_encs r x]
@[simp] theorem Blk.app_pre : ∀ b x : Blk, (b.app x).pre = b.pre ++ x.pre
  | .nil, x => rfl
  | .act a r, x => by simp [Blk.app, Blk.pre, app_pre r x]
  | .ife t b c r, x => by simp [Blk.app, Blk.pre, app_pre r x]
  | .whl t b r, x => by simp [Blk.app, Blk.pre, app_pre r x]
@[simp] theorem Blk.app_dep : ∀ b x : Blk, (b.app x).dep = max b.dep x.dep
  | .nil, x => by simp [Blk.app, Blk.dep]
  | .act a r, x => by simp [Blk.app, Blk.dep, app_dep r x]
  | .ife t b c r, x => by simp [Blk.app, Blk.dep, app_dep r x, Nat.max_assoc]
  | .whl t b r, x => by simp [Blk.app, Blk.dep, app_dep r x, Nat.max_assoc]
def Blk.cons : Sta → Blk → Blk
  | .act a, r => .act a r
  | .ife t b c, r => .ife t b c r
  | .whl t b, r => .whl t b r
theorem Blk.encs_len : ∀ b : Blk, b.encs.length ≤ b.pre.length
  | .nil => by simp [Blk.encs]
  | .act a r => by simp [Blk.encs, Blk.pre, encs_len r]
  | .ife t b c r => by have := encs_len r; simp [Blk.encs, Blk.pre]; omega
  | .whl t b r => by have := encs_len r; simp [Blk.encs, Blk.pre]; omega
@[simp] theorem Act.plain_enc : ∀ a : Act, a.enc.plain = true
  | .set i t => by simp [Act.enc, PyData.plain, PyData.plainAll]
  | .put s t => by simp [Act.enc, PyData.plain, PyData.plainAll]
  | .fill s a b => by simp [Act.enc, PyData.plain, PyData.plainAll]
  | .call i s as => by simp [Act.enc, PyData.plain, PyData.plainAll, plainAll_map]
  | .pick i => by simp [Act.enc, PyData.plain, PyData.plainAll]
  | .check t => by simp [Act.enc, PyData.plain, PyData.plainAll]
  | .tell t => by simp [Act.enc, PyData.plain, PyData.plainAll]
  | .ret t => by simp [Act.enc, PyData.plain, PyData.plainAll]
@[simp] theorem Blk.plain_encs : ∀ b : Blk, PyData.plainAll b.encs = true
  | .nil => by simp [Blk.encs, PyData.plainAll]
  | .act a r => by simp [Blk.encs, PyData.plainAll, plain_encs r]
  | .ife t b c r => by simp [Blk.encs, PyData.plain, PyData.plainAll, plain_encs r, plain_encs b, plain_encs c]
  | .whl t b r => by simp [Blk.encs, PyData.plain, PyData.plainAll, plain_encs r, plain_encs b]
@[simp] theorem Sta.plain_enc : ∀ s : Sta, s.enc.plain = true
  | .act a => by simp [Sta.enc]
  | .ife t b c => by simp [Sta.enc, PyData.plain, PyData.plainAll]
  | .whl t b => by simp [Sta.enc, PyData.plain, PyData.plainAll]
/-! ### what a statement tells -/
def Sta.terms : Sta → List Term
  | .act (.set _ t) => [t]
  | .act (.put _ t) => [t]
  | .act (.fill _ a b) => [a, b]
  | .act (.call _ _ as) => as
  | .act (.pick _) => []
  | .act (.check t) => [t]
  | .act (.tell t) => [t]
  | .act (.ret t) => [t]
  | .ife t _ _ => [t]
  | .whl t _ => [t]
def Sta.locs : Sta → List Nat
  | .act (.set i _) => [i]
  | .act (.call i _ _) => [i]
  | .act (.pick i) => [i]
  | _ => []
/-- cells put and filled: is it one? -/
def Sta.puts : Sta → List (Str × Bool)
  | .act (.put s _) => [(s, true)]
  | .act (.fill s _ _) => [(s, false)]
  | _ => []
def Sta.call : Sta → Option (Str × Nat)
  | .act (.call _ s as) => some (s, as.length)
  | _ => none
def Term.loc1 : Term → Option Nat
  | .loc n => some n
  | _ => none
def Term.cell1 : Term → Option (Str × Bool)
  | .cell s => some (s, true)
  | .row s _ => some (s, false)
  | _ => none
def Sta.locT (s : Sta) : List Nat := s.locs ++ (preT s.terms).filterMap Term.loc1
def Sta.cellT (s : Sta) : List (Str × Bool) := s.puts ++ (preT s.terms).filterMap Term.cell1
/-- terms as they are drawn -/
def Term.good (t : Term) : Prop := t.ok ∧ t.dep ≤ 3
structure Sta.ok (s : Sta) : Prop where
  terms : ∀ t ∈ s.terms, t.good
  locs : ∀ i ∈ s.locs, i ≤ 3
  puts : ∀ p ∈ s.puts, NameOk p.1
  call : ∀ p, s.call = some p → NameOk p.1 ∧ p.2 ≤ 3
def Blk.ok (b : Blk) : Prop := ∀ s ∈ b.pre, s.ok
theorem Term.good_len {t : Term} (h : t.good) : t.pre.length ≤ 15 := by
  have h1 := t.pre_len
  have h2 : 2 ^ (t.dep + 1) ≤ 2 ^ 4 := Nat.pow_le_pow_right (by omega) (by have := h.2; omega)
  omega
end K13

/-! ## K13q -/
set_option Elab.async false
set_option linter.all false
set_option maxRecDepth 100000
set_option maxHeartbeats 4000000
/-! K13q: expressions. -/
namespace K13
open PySem PySem.Spec L2 Pm
def wE (p : Term × Nat) : D := .tuple [p.1.enc, .int p.2]
@[simp] theorem wE_plain (l : List (Term × Nat)) : PyData.plainAll (l.map wE) = true := plainAll_map _ (fun p => by simp [wE, PyData.plain, PyData.plainAll]) l
def wsz (l : List (Term × Nat)) : Nat := (l.map fun p => p.1.pre.length).sum
theorem enc_tuple (t : Term) : ∃ x r, t.enc = .tuple (.str x :: r) := by
  cases t <;> exact ⟨_, _, rfl⟩
theorem line_small {n : Nat} (h : n ≤ 100000) : n ≤ sizeLine := by
  rw [sizeLine_eq]
  omega
theorem line_small' {n : Nat} (h : n ≤ 1000000) : n ≤ sizeLine := by
  rw [sizeLine_eq]
  omega
theorem wsz_len : ∀ l : List (Term × Nat), l.length ≤ wsz l
  | [] => by simp [wsz]
  | p :: l => by
    have h1 := p.1.pre_pos
    have h2 := wsz_len l
    simp [wsz] at h2 ⊢
    omega
theorem wsz_app (l m : List (Term × Nat)) : wsz (l ++ m) = wsz l + wsz m := by simp [wsz]
theorem wsz_kids (d : Nat) (l : List Term) : wsz (l.map fun k => (k, d)) = (preT l).length := by
  induction l with
  | nil => rfl
  | cons t l ih => simp [wsz, preT] at ih ⊢; omega
theorem kids_len (t : Term) : t.kids.length ≤ 2 := by
  cases t <;> simp [Term.kids]
variable [TabCtx]
theorem is_expression_ok {Q : O → List O → Prop} (t : Term) (h : t.good) : WpF m_is_expression [.f (.d t.enc)] Q ↔ Q (.f (.d (.bool true))) [.f (.d t.enc)] := by
  refine WpF.of (WpF.eq (wpf_body ?_))
  simp [s_is_expression, env0, outs, np_is_expression, parE]
  refine wps_whM (fun n e => ∃ (ws : List (Term × Nat)) (c : Nat) (x3 x4 x5 x6 : Option O), e = [some (.f (.d t.enc)), some (.f (.l (ws.map wE))), some (.f (.d (.int c))), x3, x4, x5, x6] ∧ n = wsz ws ∧ c + n ≤ 400 ∧ (∀ p ∈ ws, p.1.ok ∧ p.2 + p.1.dep ≤ 10)) ?_ _ _ ⟨[(t, 0)], 0, none, none, none, none, rfl, rfl, ?_, ?_⟩
  · rintro n e ⟨ws, c, x3, x4, x5, x6, rfl, rfl, hc, hw⟩
    rcases List.eq_nil_or_concat ws with rfl | ⟨ws, ⟨t1, d⟩, rfl⟩
    · simp [outs, np_is_expression]
    · obtain ⟨h1, h2⟩ := hw (t1, d) (by simp)
      have hp := t1.pre_pos
      have hsz : wsz (ws.concat (t1, d)) = wsz ws + t1.pre.length := by simp [wsz]
      rw [hsz] at hc
      obtain ⟨x, r, hx⟩ := enc_tuple t1
      have hpl : PyData.plainAll (.str x :: r) = true := by
        have := t1.plain_enc
        rw [hx] at this
        simpa [PyData.plain] using this
      have e1 : neS (.list (ws.map wE ++ [.tuple [t1.enc, .int (d : Nat)]])) (.list []) = some (.bool true) := neS_snoc _ _ (by
        have := wE_plain (ws ++ [(t1, d)])
        simpa [wE] using this)
      have c1 : ¬ (400 : Int) < c + 1 := by omega
      have c2 : ¬ (10 : Int) < d := by omega
      have e2 : eqS t1.enc (.tuple t_EMPTY) = some (.bool false) := by
        rw [hx]
        exact eqS_tcons _ _ hpl
      have e3 : isaN "tuple" t1.enc = true := by
        rw [hx]
        rfl
      have e4 : getS t1.enc (.int 0) = some (.str x) := by
        rw [hx]
        simp
      have hsl : ws.length + 1 ≤ sizeLine := line_small (by
        have := wsz_len ws
        omega)
      simp [e1, e2, e3, e4, wE, c1, c2, fill, store, parts_at t1 h1, hsl]
      refine wp_lcA Term.enc (fun k => .tuple [k.enc, .int ((d : Int) + 1)]) (line_small (by have := kids_len t1; omega)) (fun k hk => ?_) ?_
      · simp
      · have hk := t1.pre_kids
        have hl : (t1.pre).length = (preT t1.kids).length + 1 := by rw [hk]; simp
        have h6 := wsz_len ws
        have h7 := kids_len t1
        have hsl3 : ws.length + t1.kids.length ≤ sizeLine := line_small (by omega)
        have hsl2 : ws.length ≤ sizeLine := line_small (by omega)
        simp [hsl3, hsl2]
        refine ⟨_, ?_, ws ++ t1.kids.map (fun k => (k, d + 1)), c + 1, ?_, rfl, ?_, ?_⟩
        · rw [wsz_app, wsz_app, wsz_kids]
          simp [wsz]
          omega
        · simp [wE]
        · rw [wsz_app, wsz_kids]
          omega
        · intro a b hab
          rcases List.mem_append.mp hab with hab | hab
          · exact hw (a, b) (by simp [hab])
          · simp at hab
            obtain ⟨a', h8, rfl, rfl⟩ := hab
            have := t1.dep_kids a' h8
            simp at h2
            exact ⟨t1.ok_kids h1 a' h8, by omega⟩
  · have := t.good_len h
    simp [wsz]
    have := Term.good_len h
    omega
  · have := h.2
    simp
    exact ⟨h.1, by omega⟩
theorem preT_cons (t : Term) (ts : List Term) : preT (t :: ts) = t :: preT (t.kids ++ ts) := by
  simp [preT, t.pre_kids]
theorem preT_len (ts : List Term) : ts.length ≤ (preT ts).length := by
  induction ts with
  | nil => simp
  | cons t ts ih => 
    have := t.pre_pos
    simp [preT] at ih ⊢
    omega
theorem inner_at {Q : O → List O → Prop} (t : Term) (h : t.good) : WpF m_inner_expressions [.f (.d t.enc)] Q ↔ Q (.f (.d (.list (t.pre.map Term.enc)))) [.f (.d t.enc)] := by
  refine WpF.of (WpF.eq (wpf_body ?_))
  simp [s_inner_expressions, env0, outs, np_inner_expressions, parE]
  refine wps_whM (fun n e => ∃ (fs ts : List Term) (x3 : Option O), e = [some (.f (.d t.enc)), some (.f (.l (fs.map Term.enc))), some (.f (.l (ts.map Term.enc).reverse)), x3] ∧ n = (preT ts).length ∧ fs ++ preT ts = t.pre ∧ (∀ p ∈ ts, p.ok)) ?_ _ _ ⟨[], [t], none, rfl, rfl, by simp [preT], by simpa using h.1⟩
  have hlen := t.good_len h
  rintro n e ⟨fs, ts, x3, rfl, rfl, ht, ho⟩
  rcases ts with _ | ⟨t1, ts⟩
  · simp [preT] at ht
    simp [ht, outs, np_inner_expressions]
  · have h1 := ho t1 (by simp)
    rw [preT_cons] at ht
    have hl := congrArg List.length ht
    have hl2 := preT_len (t1.kids ++ ts)
    simp at hl hl2
    have e1 : neS (.list ((ts.map Term.enc).reverse ++ [t1.enc])) (.list []) = some (.bool true) := neS_snoc _ _ (by
      have := plainAll_map Term.enc Term.plain_enc (ts.reverse ++ [t1])
      simpa using this)
    have z1 : ts.length + 1 ≤ sizeLine := line_small (by omega)
    have z2 : fs.length < sizeLine := Nat.lt_of_succ_le (line_small (by omega))
    have z3 : fs.length ≤ sizeLine := Nat.le_of_lt z2
    have z4 : t1.kids.length ≤ sizeLine := line_small (by omega)
    have z5 : ts.length ≤ sizeLine := line_small (by omega)
    have z6 : ts.length + t1.kids.length ≤ sizeLine := line_small (by omega)
    simp [e1, z1, z2, z3, z4, z5, z6, parts_at t1 h1]
    refine ⟨_, ?_, fs ++ [t1], t1.kids ++ ts, ?_, rfl, ?_, ?_⟩
    · rw [preT_cons]
      simp
    · simp
    · simpa using ht
    · intro p hp
      rcases List.mem_append.mp hp with hp | hp
      · exact t1.ok_kids h1 p hp
      · exact ho p (by simp [hp])
end K13

/-! ## K13q2 -/
set_option Elab.async false
set_option linter.all false
set_option maxRecDepth 100000
set_option maxHeartbeats 4000000
/-! K13q2: the law's parts of a term; terms of a statement. -/
namespace K13
open PySem PySem.Spec L2 Pm
variable [TabCtx]
theorem law_parts_at {Q : O → List O → Prop} (t : Term) (h : t.good) : WpF m__law_parts [.f (.d t.enc)] Q ↔ Q (.f (.d (.list (t.pre.map Term.enc)))) [.f (.d t.enc)] := by
  refine WpF.of (WpF.eq (wpf_body ?_))
  simp [s__law_parts, env0, outs, np__law_parts, parE]
  refine wps_whM (fun n e => ∃ (fs ts : List Term) (x3 : Option O), e = [some (.f (.d t.enc)), some (.f (.l (fs.map Term.enc))), some (.f (.l (ts.map Term.enc).reverse)), x3] ∧ n = (preT ts).length ∧ fs ++ preT ts = t.pre ∧ (∀ p ∈ ts, p.ok)) ?_ _ _ ⟨[], [t], none, rfl, rfl, by simp [preT], by simpa using h.1⟩
  have hlen := t.good_len h
  rintro n e ⟨fs, ts, x3, rfl, rfl, ht, ho⟩
  rcases ts with _ | ⟨t1, ts⟩
  · simp [preT] at ht
    simp [ht, outs, np__law_parts]
  · have h1 := ho t1 (by simp)
    rw [preT_cons] at ht
    have hl := congrArg List.length ht
    have hl2 := preT_len (t1.kids ++ ts)
    simp at hl hl2
    have z1 : ts.length + 1 ≤ sizeLine := line_small (by omega)
    have z2 : fs.length < sizeLine := Nat.lt_of_succ_le (line_small (by omega))
    have z3 : fs.length ≤ sizeLine := Nat.le_of_lt z2
    have z4 : t1.kids.length ≤ sizeLine := line_small (by omega)
    have z5 : ts.length ≤ sizeLine := line_small (by omega)
    have z6 : ts.length < sizeLine := Nat.lt_of_succ_le (line_small (by omega))
    have hk : ∀ p ∈ t1.kids ++ ts, p.ok := fun p hp => by
      rcases List.mem_append.mp hp with hp | hp
      · exact t1.ok_kids h1 p hp
      · exact ho p (by simp [hp])
    have fin : ∃ k, k < (preT (t1 :: ts)).length ∧ ∃ fs' ts' x3', [some (.f (.d t.enc)), some (.f (.l (fs.map Term.enc ++ [t1.enc]))), some (.f (.l ((ts.map Term.enc).reverse ++ (t1.kids.map Term.enc).reverse))), some (.f (.d t1.enc))] = [some (.f (.d t.enc)), some (O.f (.l (List.map Term.enc fs'))), some (.f (.l (ts'.map Term.enc).reverse)), x3'] ∧ k = (preT ts').length ∧ fs' ++ preT ts' = t.pre ∧ (∀ p ∈ ts', p.ok) := by
      refine ⟨_, ?_, fs ++ [t1], t1.kids ++ ts, some (.f (.d t1.enc)), ?_, rfl, ?_, hk⟩
      · rw [preT_cons]
        simp
      · simp
      · simpa using ht
    have c0 : (0 : Int) < (ts.length : Int) + 1 := by omega
    have z7 : ts.length + 2 ≤ sizeLine := line_small (by omega)
    cases t1 with
    | word n =>
      simp [z1, z2, z3, z5, z6, z7, c0, Term.enc]
      simpa [Term.enc, Term.kids] using fin
    | loc n =>
      simp [z1, z2, z3, z5, z6, z7, c0, Term.enc]
      simpa [Term.enc, Term.kids] using fin
    | cell n =>
      simp [z1, z2, z3, z5, z6, z7, c0, Term.enc]
      simpa [Term.enc, Term.kids] using fin
    | row s t2 =>
      simp [z1, z2, z3, z5, z6, z7, c0, Term.enc]
      simpa [Term.enc, Term.kids] using fin
    | not t2 =>
      simp [z1, z2, z3, z5, z6, z7, c0, Term.enc]
      simpa [Term.enc, Term.kids] using fin
    | deed s a b =>
      obtain ⟨n1, n2, n3, n4, n5⟩ := deed_ne h1.1
      simp [z1, z2, z3, z5, z6, z7, c0, Term.enc, n1, n2, n3, n4, n5]
      simpa [Term.enc, Term.kids] using fin
@[simp] theorem terms_at {Q : O → List O → Prop} (s : Sta) (h : s.terms.length ≤ 100) : WpF m_expressions_of [.f (.d s.enc)] Q ↔ Q (.f (.d (.list (s.terms.map Term.enc)))) [.f (.d s.enc)] := by
  refine WpF.of (WpF.eq (wpf_body ?_))
  cases s with
  | act a =>
    have h2 := line_small (Nat.le_trans h (by omega))
    cases a <;> simp [s_expressions_of, env0, outs, np_expressions_of, Sta.enc, Act.enc, Sta.terms]
    simpa [Sta.terms] using h2
  | ife t b c => simp [s_expressions_of, env0, outs, np_expressions_of, Sta.enc, Sta.terms]
  | whl t b => simp [s_expressions_of, env0, outs, np_expressions_of, Sta.enc, Sta.terms]
@[simp] theorem law_terms_at {Q : O → List O → Prop} (s : Sta) (h : s.terms.length ≤ 100) : WpF m__law_terms [.f (.d s.enc)] Q ↔ Q (.f (.d (.list (s.terms.map Term.enc)))) [.f (.d s.enc)] := by
  refine WpF.of (WpF.eq (wpf_body ?_))
  cases s with
  | act a =>
    have h2 := line_small (Nat.le_trans h (by omega))
    cases a <;> simp [s__law_terms, env0, outs, np__law_terms, Sta.enc, Act.enc, Sta.terms]
    simpa [Sta.terms] using h2
  | ife t b c => simp [s__law_terms, env0, outs, np__law_terms, Sta.enc, Sta.terms]
  | whl t b => simp [s__law_terms, env0, outs, np__law_terms, Sta.enc, Sta.terms]
end K13

/-! ## K13s -/
set_option Elab.async false
set_option linter.all false
set_option maxRecDepth 100000
set_option maxHeartbeats 4000000
/-! K13s: statements and blocks. -/
namespace K13
open PySem PySem.Spec L2 Pm
variable [TabCtx]
@[simp] theorem allS_true {α : Type} (l : List α) : allS [.list (l.map fun _ => .bool true)] = some (.bool true) := by
  rw [allS_map]
  simp
def Sta.blks : Sta → List Blk
  | .act _ => []
  | .ife _ b c => [b, c]
  | .whl _ b => [b]
def Blk.tup (b : Blk) : D := .tuple b.encs
@[simp] theorem blocks_at {Q : O → List O → Prop} (s : Sta) : WpF m_blocks_of [.f (.d s.enc)] Q ↔ Q (.f (.d (.list (s.blks.map Blk.tup)))) [.f (.d s.enc)] := by
  refine WpF.of (WpF.eq (wpf_body ?_))
  cases s with
  | act a => cases a <;> simp [s_blocks_of, env0, outs, np_blocks_of, Sta.enc, Act.enc, Sta.blks]
  | ife t b c => simp [s_blocks_of, env0, outs, np_blocks_of, Sta.enc, Sta.blks, Blk.tup]
  | whl t b => simp [s_blocks_of, env0, outs, np_blocks_of, Sta.enc, Sta.blks, Blk.tup]
theorem is_local_ok {Q : O → List O → Prop} (i : Nat) (h : i ≤ 3) : WpF m_is_local [.f (.d (.int i))] Q ↔ Q (.f (.d (.bool true))) [.f (.d (.int i))] := by
  refine WpF.of (WpF.eq (wpf_body ?_))
  have h1 : (i : Int) ≤ 3 := by omega
  simp [s_is_local, env0, outs, np_is_local, fill, store, h1]
theorem are_exprs_ok {Q : O → List O → Prop} (as : List Term) (h : ∀ t ∈ as, t.good) (hl : as.length ≤ 3) : WpF m_are_expressions [.f (.d (.tuple (as.map Term.enc)))] Q ↔ Q (.f (.d (.bool true))) [.f (.d (.tuple (as.map Term.enc)))] := by
  refine WpF.of (WpF.eq (wpf_body ?_))
  have h1 : (as.length : Int) ≤ 3 := by omega
  simp [s_are_expressions, env0, outs, np_are_expressions, fill, store, h1]
  refine wp_lcA Term.enc (fun _ => .bool true) (line_small (by omega)) (fun t ht => ?_) ?_
  · simp [fill, store, is_expression_ok t (h t ht)]
  · simp [outs, np_are_expressions]
theorem eqS_enc (s : Sta) : eqS s.enc (.tuple t_EMPTY) = some (.bool false) := by
  have h := s.plain_enc
  cases s with
  | act a => cases a <;> exact eqS_tcons _ _ (by simpa [Sta.enc, Act.enc, PyData.plain] using h)
  | ife t b c => exact eqS_tcons _ _ (by simpa [Sta.enc, PyData.plain] using h)
  | whl t b => exact eqS_tcons _ _ (by simpa [Sta.enc, PyData.plain] using h)
theorem is_statement_ok {Q : O → List O → Prop} (s : Sta) (h : s.ok) : WpF m_is_statement [.f (.d s.enc)] Q ↔ Q (.f (.d (.bool true))) [.f (.d s.enc)] := by
  refine WpF.of (WpF.eq (wpf_body ?_))
  have he := eqS_enc s
  obtain ⟨h1, h2, h3, h4⟩ := h
  cases s with
  | act a =>
    cases a with
    | set i t => simp only [Sta.enc, Act.enc] at he; simp [s_is_statement, env0, outs, np_is_statement, Sta.enc, Act.enc, fill, store, is_local_ok i (h2 i (by simp [Sta.locs])), is_expression_ok t (h1 t (by simp [Sta.terms])), he]
    | put s t => simp only [Sta.enc, Act.enc] at he; simp [s_is_statement, env0, outs, np_is_statement, Sta.enc, Act.enc, fill, store, is_name_ok (h3 (s, true) (by simp [Sta.puts])), is_expression_ok t (h1 t (by simp [Sta.terms])), he]
    | fill s a b => simp only [Sta.enc, Act.enc] at he; simp [s_is_statement, env0, outs, np_is_statement, Sta.enc, Act.enc, fill, store, is_name_ok (h3 (s, false) (by simp [Sta.puts])), is_expression_ok a (h1 a (by simp [Sta.terms])), is_expression_ok b (h1 b (by simp [Sta.terms])), he]
    | call i s as =>
      obtain ⟨h5, h6⟩ := h4 (s, as.length) rfl
      simp only [Sta.enc, Act.enc] at he
      simp [s_is_statement, env0, outs, np_is_statement, Sta.enc, Act.enc, fill, store, is_local_ok i (h2 i (by simp [Sta.locs])), is_name_ok h5, are_exprs_ok as h1 h6, he]
    | pick i => simp only [Sta.enc, Act.enc] at he; simp [s_is_statement, env0, outs, np_is_statement, Sta.enc, Act.enc, fill, store, is_local_ok i (h2 i (by simp [Sta.locs])), he]
    | check t => simp only [Sta.enc, Act.enc] at he; simp [s_is_statement, env0, outs, np_is_statement, Sta.enc, Act.enc, fill, store, is_expression_ok t (h1 t (by simp [Sta.terms])), he]
    | tell t => simp only [Sta.enc, Act.enc] at he; simp [s_is_statement, env0, outs, np_is_statement, Sta.enc, Act.enc, fill, store, is_expression_ok t (h1 t (by simp [Sta.terms])), he]
    | ret t => simp only [Sta.enc, Act.enc] at he; simp [s_is_statement, env0, outs, np_is_statement, Sta.enc, Act.enc, fill, store, is_expression_ok t (h1 t (by simp [Sta.terms])), he]
  | ife t b c => simp only [Sta.enc, Act.enc] at he; simp [s_is_statement, env0, outs, np_is_statement, Sta.enc, fill, store, is_expression_ok t (h1 t (by simp [Sta.terms])), he]
  | whl t b => simp only [Sta.enc, Act.enc] at he; simp [s_is_statement, env0, outs, np_is_statement, Sta.enc, fill, store, is_expression_ok t (h1 t (by simp [Sta.terms])), he]
end K13

/-! ## K13b -/
set_option Elab.async false
set_option linter.all false
set_option maxRecDepth 100000
set_option maxHeartbeats 4000000
/-! K13b: blocks. -/
namespace K13
open PySem PySem.Spec L2 Pm
variable [TabCtx]
theorem Blk.nil_or (b : Blk) : b = .nil ∨ ∃ (s : Sta) (r : Blk), b.encs = s.enc :: r.encs ∧ b.pre = s :: (s.blks.flatMap Blk.pre ++ r.pre) ∧ (∀ x ∈ s.blks, x.dep + 1 ≤ b.dep) ∧ r.dep ≤ b.dep := by
  cases b with
  | nil => exact .inl rfl
  | act a r => exact .inr ⟨.act a, r, rfl, by simp [Blk.pre, Sta.blks], by simp [Sta.blks], by simp [Blk.dep]⟩
  | ife t b c r => exact .inr ⟨.ife t b c, r, rfl, by simp [Blk.pre, Sta.blks], by simp [Sta.blks, Blk.dep]; omega, by simp [Blk.dep]; omega⟩
  | whl t b r => exact .inr ⟨.whl t b, r, rfl, by simp [Blk.pre, Sta.blks], by simp [Sta.blks, Blk.dep]; omega, by simp [Blk.dep]; omega⟩
def bE (p : Blk × Nat) : D := .tuple [p.1.tup, .int p.2]
def bsz (l : List (Blk × Nat)) : Nat := (l.map fun p => p.1.pre.length).sum
def bms (l : List (Blk × Nat)) : Nat := (l.map fun p => 2 * p.1.pre.length + 1).sum
@[simp] theorem Blk.plain_tup (b : Blk) : b.tup.plain = true := by simp [Blk.tup, PyData.plain]
@[simp] theorem bE_plain (l : List (Blk × Nat)) : PyData.plainAll (l.map bE) = true := plainAll_map _ (fun p => by simp [bE, PyData.plain, PyData.plainAll]) l
theorem bsz_app (l m : List (Blk × Nat)) : bsz (l ++ m) = bsz l + bsz m := by simp [bsz]
theorem bms_app (l m : List (Blk × Nat)) : bms (l ++ m) = bms l + bms m := by simp [bms]
theorem bsz_kids (d : Nat) (l : List Blk) : bsz (l.map fun k => (k, d)) = (l.flatMap Blk.pre).length := by
  induction l with
  | nil => rfl
  | cons t l ih => simp [bsz] at ih ⊢; omega
theorem bms_kids (d : Nat) (l : List Blk) : bms (l.map fun k => (k, d)) = 2 * (l.flatMap Blk.pre).length + l.length := by
  induction l with
  | nil => rfl
  | cons t l ih => simp [bms] at ih ⊢; omega
theorem bms_len (l : List (Blk × Nat)) : l.length ≤ bms l := by
  induction l with
  | nil => simp
  | cons t l ih => simp [bms] at ih ⊢; omega
theorem blks_len (s : Sta) : s.blks.length ≤ 2 := by cases s <;> simp [Sta.blks]
theorem is_block_ok {Q : O → List O → Prop} (b : Blk) (h : b.ok) (hd : b.dep ≤ 10) (hn : b.pre.length ≤ 400) : WpF m_is_block [.f (.d b.tup)] Q ↔ Q (.f (.d (.bool true))) [.f (.d b.tup)] := by
  refine WpF.of (WpF.eq (wpf_body ?_))
  simp [s_is_block, env0, outs, np_is_block, parE]
  refine wps_whM (fun n e => Hold (∃ (ws : List (Blk × Nat)) (c : Nat) (x3 x4 x5 x6 : Option O), e = [some (.f (.d b.tup)), some (.f (.l (ws.map bE))), some (.f (.d (.int c))), x3, x4, x5, x6] ∧ n = bms ws ∧ n ≤ 1000 ∧ c + bsz ws ≤ 400 ∧ (∀ p ∈ ws, p.1.ok ∧ p.2 + p.1.dep ≤ 10))) ?_ _ _ (.of ⟨[(b, 0)], 0, none, none, none, none, rfl, rfl, by simp [bms]; omega, by simp [bsz]; omega, by simp; exact ⟨h, hd⟩⟩)
  rintro n e ⟨ws, c, x3, x4, x5, x6, rfl, rfl, hn, hc, hw⟩
  rcases List.eq_nil_or_concat ws with rfl | ⟨ws, ⟨b1, d⟩, rfl⟩
  · simp [outs, np_is_block]
  · obtain ⟨h1, h2⟩ := hw (b1, d) (by simp)
    simp only at h1 h2
    rw [List.concat_eq_append] at hn hc hw ⊢
    rw [bms_app] at hn ⊢
    rw [bsz_app] at hc
    simp [bms, bsz] at hn hc
    have hlen := bms_len ws
    have hn' : bms ws + (2 * b1.pre.length + 1) ≤ 1000 := by simpa [bms] using hn
    have hc' : c + (bsz ws + b1.pre.length) ≤ 400 := by simpa [bsz] using hc
    have e1 : neS (.list (ws.map bE ++ [.tuple [b1.tup, .int (d : Nat)]])) (.list []) = some (.bool true) := neS_snoc _ _ (by
      have := bE_plain (ws ++ [(b1, d)])
      simpa [bE] using this)
    have c2 : ¬ (10 : Int) < d := by omega
    have z1 : ws.length + 1 ≤ sizeLine := line_small (by omega)
    have e3 : isaN "tuple" b1.tup = true := rfl
    have e4 : itsD b1.tup = some b1.encs := rfl
    simp [e1, bE, c2, z1, e3, e4]
    refine wps_forL (fun ds e => Hold (∃ (r : Blk) (ws' : List (Blk × Nat)) (c : Nat) (L : List D) (ci : Int) (x5 x6 : Option O), ds = r.encs ∧ L = ws'.map bE ∧ ci = (c : Nat) ∧ e = [some (.f (.d b.tup)), some (.f (.l L)), some (.f (.d (.int ci))), some (.f (.d b1.tup)), some (.f (.d (.int d))), x5, x6] ∧ bms ws' + 2 * r.pre.length < bms ws + (2 * b1.pre.length + 1) ∧ c + r.pre.length + bsz ws' ≤ 400 ∧ r.ok ∧ d + r.dep ≤ 10 ∧ (∀ p ∈ ws', p.1.ok ∧ p.2 + p.1.dep ≤ 10))) ?_ ?_ _ _ (.of ⟨b1, ws, c, _, _, x5, x6, rfl, rfl, rfl, rfl, by omega, by omega, h1, h2, fun p hp => hw p (by simp [hp])⟩)
    · rintro ds0 ds e ⟨r, ws', c, L, ci, x5, x6, hds, rfl, rfl, rfl, hm, hc, hr, hdr, hw'⟩
      rcases r.nil_or with rfl | ⟨s, r', he, hp, hb, hd'⟩
      · cases hds
      · rw [he] at hds
        cases hds
        have hp2 := congrArg List.length hp
        simp at hp2
        have hs : s.ok := hr s (by rw [hp]; simp)
        have c3 : ¬ (400 : Int) < (c : Int) + 1 := by omega
        have hbl := blks_len s
        have hl2 := bms_len ws'
        have z2 : ws'.length ≤ sizeLine := line_small (by omega)
        have z3 : ws'.length + s.blks.length ≤ sizeLine := line_small (by omega)
        simp [c3, is_statement_ok s hs]
        refine wp_lcA Blk.tup (fun k => .tuple [k.tup, .int ((d : Int) + 1)]) (line_small (by omega)) (fun k hk => ?_) ?_
        · simp
        · simp [z2, z3]
          have hpl : ((List.map (List.length ∘ Blk.pre) s.blks).sum) = (s.blks.flatMap Blk.pre).length := by
            rw [List.length_flatMap]
            rfl
          have hpl' : r.pre.length = (s.blks.flatMap Blk.pre).length + r'.pre.length + 1 := by rw [hp]; simp
          refine .of ⟨r', ws' ++ s.blks.map (fun k => (k, d + 1)), c + 1, _, _, _, _, rfl, ?_, ?_, rfl, ?_, ?_, ?_, ?_, ?_⟩
          · simp [bE]
          · simp
          · rw [bms_app, bms_kids]
            omega
          · rw [bsz_app, bsz_kids]
            omega
          · exact fun x hx => hr x (by rw [hp]; simp [hx])
          · omega
          · intro p hp'
            rcases List.mem_append.mp hp' with hp' | hp'
            · exact hw' p hp'
            · simp at hp'
              obtain ⟨k, hk, rfl⟩ := hp'
              refine ⟨fun x hx => hr x (by rw [hp]; simp; exact .inr (.inl ⟨k, hk, hx⟩)), ?_⟩
              have := hb k hk
              simp
              omega
    · rintro e ⟨r, ws', c, L, ci, x5, x6, hds, rfl, rfl, rfl, hm, hc, hr, hdr, hw'⟩
      simp
      refine ⟨_, ?_, .of ⟨ws', c, _, _, _, _, rfl, rfl, by omega, by omega, ?_⟩⟩
      · simp [bms] at hm ⊢
        omega
      · exact hw'
theorem statements_at : ∀ (n : Nat) (b : Blk) {Q : O → List O → Prop}, b.dep < n → b.pre.length ≤ 10000 → (WpF (m_statements_of n) [.f (.d b.tup)] Q ↔ Q (.f (.d (.list (b.pre.map Sta.enc)))) [.f (.d b.tup)])
  | 0, b, Q, h, _ => absurd h (by omega)
  | n + 1, b, Q, h, hn => by
    refine WpF.of (WpF.eq ?_)
    rw [m_statements_of]
    refine wpf_body ?_
    have e4 : itsD b.tup = some b.encs := rfl
    simp [env0, e4]
    refine wps_forL (fun ds e => Hold (∃ (r : Blk) (fs : List Sta) (x2 x3 : Option O), ds = r.encs ∧ e = [some (.f (.d b.tup)), some (.f (.l (fs.map Sta.enc))), x2, x3] ∧ fs ++ r.pre = b.pre ∧ r.dep < n + 1)) ?_ ?_ _ _ (.of ⟨b, [], none, none, rfl, rfl, rfl, h⟩)
    · rintro ds0 ds e ⟨r, fs, x2, x3, hds, rfl, hf, hdr⟩
      rcases r.nil_or with rfl | ⟨s, r', he, hp, hb, hd'⟩
      · cases hds
      · rw [he] at hds
        cases hds
        have hl := congrArg List.length hf
        rw [hp] at hl
        simp only [List.length_append, List.length_cons] at hl
        have z1 : fs.length ≤ sizeLine := line_small (by omega)
        have z2 : fs.length < sizeLine := Nat.lt_of_succ_le (line_small (by omega))
        simp [z1, z2]
        refine wps_forT Blk.tup (fun bs e => Hold (∃ (fs : List Sta) (L : List D) (x3 : Option O), L = fs.map Sta.enc ∧ e = [some (.f (.d b.tup)), some (.f (.l L)), some (.f (.d s.enc)), x3] ∧ fs ++ (bs.flatMap Blk.pre ++ r'.pre) = b.pre ∧ ∀ x ∈ bs, x.dep < n)) ?_ ?_ (.of ⟨fs ++ [s], _, x3, ?_, rfl, by rw [← hf, hp]; simp, fun x hx => by have := hb x hx; omega⟩)
        rotate_left 2
        · simp
        · rintro k bs e ⟨fs, L, x3, rfl, rfl, hf, hx⟩
          have hl := congrArg List.length hf
          simp only [List.length_append, List.flatMap_cons] at hl
          have z1 : fs.length ≤ sizeLine := line_small (by omega)
          have z2 : fs.length + k.pre.length ≤ sizeLine := line_small (by omega)
          simp [z1, z2, statements_at n k (hx k (by simp)) (by omega)]
          exact .of ⟨fs ++ k.pre, _, _, by simp, rfl, by rw [← hf]; simp, fun x hx' => hx x (by simp [hx'])⟩
        · rintro e ⟨fs, L, x3, rfl, rfl, hf, hx⟩
          simp
          exact .of ⟨r', fs, _, _, rfl, rfl, by simpa using hf, by omega⟩
    · rintro e ⟨r, fs, x2, x3, hds, rfl, hf, hdr⟩
      have : r = .nil := by cases r <;> first | rfl | cases hds
      subst this
      simp [Blk.pre] at hf
      simp [hf, outs, np_statements_of]
end K13

/-! ## K13u -/
set_option Elab.async false
set_option linter.all false
set_option maxRecDepth 100000
set_option maxHeartbeats 4000000
/-! K13u: units and their shape; the law's statements. -/
namespace K13
open PySem PySem.Spec L2 Pm
variable [TabCtx]
theorem law_statements_at {Q : O → List O → Prop} (b : Blk) (hn : b.pre.length ≤ 10000) : WpF m__law_statements [.f (.d b.tup)] Q ↔ Q (.f (.d (.list (b.pre.map Sta.enc)))) [.f (.d b.tup)] := by
  refine WpF.of (WpF.eq (wpf_body ?_))
  have e4 : itemsD b.tup = some b.encs := rfl
  have hle := b.encs_len
  have z0 : b.encs.length ≤ sizeLine := line_small (by omega)
  simp [s__law_statements, env0, outs, np__law_statements, e4, z0]
  refine wps_whM (fun n e => Hold (∃ (fs : List Sta) (r : Blk) (L M : List D) (x3 : Option O), L = fs.map Sta.enc ∧ M = r.encs.reverse ∧ e = [some (.f (.d b.tup)), some (.f (.l L)), some (.f (.l M)), x3] ∧ n = r.pre.length ∧ fs ++ r.pre = b.pre)) ?_ _ _ (.of ⟨[], b, _, _, _, rfl, rfl, rfl, rfl, rfl⟩)
  rintro n e ⟨fs, r, L, M, x3, rfl, rfl, rfl, rfl, hf⟩
  rcases r.nil_or with rfl | ⟨s, r', he, hp, hb, hd'⟩
  · simp [Blk.pre] at hf
    simp [Blk.encs, hf, outs, np__law_statements]
  · have hl := congrArg List.length hf
    rw [hp] at hl
    simp only [List.length_append, List.length_cons] at hl
    have hle := r'.encs_len
    have c0 : (0 : Int) < (r'.encs.length : Int) + 1 := by omega
    have z1 : r'.encs.length + 1 ≤ sizeLine := line_small (by omega)
    have z2 : fs.length < sizeLine := Nat.lt_of_succ_le (line_small (by omega))
    have z3 : fs.length ≤ sizeLine := Nat.le_of_lt z2
    have z4 : r'.encs.length ≤ sizeLine := line_small (by omega)
    have hf' : fs ++ [s] ++ (s.blks.flatMap Blk.pre ++ r'.pre) = b.pre := by rw [← hf, hp]; simp
    have hm : (s.blks.flatMap Blk.pre ++ r'.pre).length < r.pre.length := by rw [hp]; simp
    cases s with
    | act a =>
      simp [Sta.blks] at hf' hm
      cases a <;> simp [he, c0, z1, z2, z3, z4, Sta.enc, Act.enc] <;> refine ⟨_, hm, .of ⟨fs ++ [_], r', _, _, _, ?_, rfl, rfl, rfl, by simpa using hf'⟩⟩ <;> simp [Sta.enc, Act.enc]
    | ife t x y =>
      have l1 := x.encs_len
      have l2 := y.encs_len
      have hm' : (x.app (y.app r')).pre.length < r.pre.length := by simpa [Sta.blks] using hm
      simp [Sta.blks] at hl
      have w1 : y.encs.length ≤ sizeLine := line_small (by omega)
      have w2 : x.encs.length ≤ sizeLine := line_small (by omega)
      have w3 : r'.encs.length + y.encs.length ≤ sizeLine := line_small (by omega)
      have w4 : r'.encs.length + y.encs.length + x.encs.length ≤ sizeLine := line_small (by omega)
      have w5 : r'.encs.length + (y.encs.length + x.encs.length) ≤ sizeLine := line_small (by omega)
      simp [he, c0, z1, z2, z3, z4, Sta.enc, w1, w2, w3, w4, w5]
      refine ⟨_, hm', .of ⟨fs ++ [.ife t x y], x.app (y.app r'), _, _, _, ?_, ?_, rfl, rfl, by simpa [Sta.blks] using hf'⟩⟩ <;> simp [Sta.enc]
    | whl t x =>
      have l1 := x.encs_len
      have hm' : (x.app r').pre.length < r.pre.length := by simpa [Sta.blks] using hm
      simp [Sta.blks] at hl
      have w2 : x.encs.length ≤ sizeLine := line_small (by omega)
      have w3 : r'.encs.length + x.encs.length ≤ sizeLine := line_small (by omega)
      simp [he, c0, z1, z2, z3, z4, Sta.enc, w2, w3]
      refine ⟨_, hm', .of ⟨fs ++ [.whl t x], x.app r', _, _, _, ?_, ?_, rfl, rfl, by simpa [Sta.blks] using hf'⟩⟩ <;> simp [Sta.enc]
structure Pr where
  name : Str
  params : Nat
  many : Nat
  body : Blk
def Pr.enc (p : Pr) : D := .tuple [.str p.name, .int p.params, .int p.many, p.body.tup]
structure Un where
  name : Str
  cells : List (Str × List Nat)
  needs : List (Str × Nat)
  procs : List Pr
def cE (c : Str × List Nat) : D := .tuple [.str c.1, .tuple (c.2.map fun w => .int (w : Nat))]
def nE (c : Str × Nat) : D := .tuple [.str c.1, .int (c.2 : Nat)]
def Un.enc (u : Un) : D := .tuple [.str u.name, .tuple (u.cells.map cE), .tuple (u.needs.map nE), .tuple (u.procs.map Pr.enc)]
structure Pr.ok (p : Pr) : Prop where
  name : NameOk p.name
  params : p.params ≤ 3
  many : p.params ≤ p.many ∧ p.many ≤ 4
  body : p.body.ok
  dep : p.body.dep ≤ 3
  len : p.body.pre.length ≤ 400
structure Un.ok (u : Un) : Prop where
  name : NameOk u.name
  cells : ∀ c ∈ u.cells, NameOk c.1 ∧ 1 ≤ c.2.length ∧ c.2.length ≤ 4 ∧ ∀ w ∈ c.2, w ≤ 15
  ncells : u.cells.length ≤ 8
  needs : ∀ c ∈ u.needs, NameOk c.1 ∧ 1 ≤ c.2 ∧ c.2 ≤ 4
  nneeds : u.needs.length ≤ 8
  procs : ∀ p ∈ u.procs, p.ok
  nprocs : u.procs.length ≤ 12
@[simp] theorem is_tuple_of_at {Q : O → List O → Prop} (ds : List D) (n : Int) : WpF m_is_tuple_of [.f (.d (.tuple ds)), .f (.d (.int n))] Q ↔ Q (.f (.d (.bool (decide ((ds.length : Int) = n))))) [.f (.d (.tuple ds)), .f (.d (.int n))] := by
  refine WpF.of (WpF.eq (wpf_body ?_))
  simp [s_is_tuple_of, env0, outs, np_is_tuple_of]
theorem are_within_ok {Q : O → List O → Prop} (ws : List Nat) (h : ∀ w ∈ ws, w ≤ 15) (hl : ws.length ≤ 4) : WpF m_are_within [.f (.d (.tuple (ws.map fun w => .int (w : Nat)))), .f (.d (.int 0)), .f (.d (.int 15))] Q ↔ Q (.f (.d (.bool true))) [.f (.d (.tuple (ws.map fun w => .int (w : Nat)))), .f (.d (.int 0)), .f (.d (.int 15))] := by
  refine WpF.of (WpF.eq (wpf_body ?_))
  simp [s_are_within, env0]
  refine wp_lcA (fun w : Nat => .int (w : Nat)) (fun _ => .bool true) (line_small (by omega)) (fun w hw => ?_) ?_
  · have : (w : Int) ≤ 15 := by have := h w hw; omega
    simp [this]
  · simp [outs, np_are_within]
theorem is_procedure_ok {Q : O → List O → Prop} (p : Pr) (h : p.ok) : WpF m_is_procedure [.f (.d p.enc)] Q ↔ Q (.f (.d (.bool true))) [.f (.d p.enc)] := by
  refine WpF.of (WpF.eq (wpf_body ?_))
  have h1 : (p.params : Int) ≤ 3 := by have := h.params; omega
  have h2 : (p.params : Int) ≤ p.many := by have := h.many; omega
  have h3 : (p.many : Int) ≤ 4 := by have := h.many; omega
  simp [s_is_procedure, env0, Pr.enc, outs, np_is_procedure, is_name_ok h.name, h1, h2, h3, is_block_ok p.body h.body (Nat.le_trans h.dep (by omega)) h.len]
theorem are_cells_ok {Q : O → List O → Prop} (cs : List (Str × List Nat)) (h : ∀ c ∈ cs, NameOk c.1 ∧ 1 ≤ c.2.length ∧ c.2.length ≤ 4 ∧ ∀ w ∈ c.2, w ≤ 15) (hl : cs.length ≤ 8) : WpF m_are_cells [.f (.d (.tuple (cs.map cE)))] Q ↔ Q (.f (.d (.bool true))) [.f (.d (.tuple (cs.map cE)))] := by
  refine WpF.of (WpF.eq (wpf_body ?_))
  have h1 : ¬ (8 : Int) < cs.length := by omega
  simp [s_are_cells, env0, h1]
  refine wp_lcA cE (fun _ => .bool true) (line_small (by omega)) (fun c hc => ?_) ?_
  · simp [cE]
  · simp
    refine wps_forT cE (fun r e => Hold (∃ (x2 x3 : Option O), e = [some (.f (.d (.tuple (cs.map cE)))), none, x2, x3] ∧ ∀ c ∈ r, c ∈ cs)) ?_ ?_ (.of ⟨_, _, rfl, fun _ h => h⟩)
    · rintro c r e ⟨x2, x3, rfl, hr⟩
      obtain ⟨g1, g2, g3, g4⟩ := h c (hr c (by simp))
      have z1 : (1 : Int) ≤ c.2.length := by omega
      have z2 : (c.2.length : Int) ≤ 4 := by omega
      simp [cE, is_name_ok g1, are_within_ok c.2 g4 g3, z1, z2]
      exact .of ⟨_, _, rfl, fun c hc => hr c (by simp [hc])⟩
    · rintro e ⟨x2, x3, rfl, hr⟩
      simp [outs, np_are_cells]
theorem are_needs_ok {Q : O → List O → Prop} (cs : List (Str × Nat)) (h : ∀ c ∈ cs, NameOk c.1 ∧ 1 ≤ c.2 ∧ c.2 ≤ 4) (hl : cs.length ≤ 8) : WpF m_are_needs [.f (.d (.tuple (cs.map nE)))] Q ↔ Q (.f (.d (.bool true))) [.f (.d (.tuple (cs.map nE)))] := by
  refine WpF.of (WpF.eq (wpf_body ?_))
  have h1 : ¬ (8 : Int) < cs.length := by omega
  simp [s_are_needs, env0, h1]
  refine wp_lcA nE (fun _ => .bool true) (line_small (by omega)) (fun c hc => ?_) ?_
  · simp [nE]
  · simp
    refine wp_lcA nE (fun _ => .bool true) (line_small (by omega)) (fun c hc => ?_) ?_
    · obtain ⟨g1, g2, g3⟩ := h c hc
      have z1 : (1 : Int) ≤ c.2 := by omega
      have z2 : (c.2 : Int) ≤ 4 := by omega
      simp [nE, is_name_ok g1, z1, z2]
    · simp [outs, np_are_needs]
theorem is_shape_ok {Q : O → List O → Prop} (u : Un) (h : u.ok) : WpF m_is_shape [.f (.d u.enc)] Q ↔ Q (.f (.d (.bool true))) [.f (.d u.enc)] := by
  refine WpF.of (WpF.eq (wpf_body ?_))
  have h1 : ¬ (12 : Int) < u.procs.length := by have := h.nprocs; omega
  simp [s_is_shape, env0, Un.enc, is_name_ok h.name, are_cells_ok u.cells h.cells h.ncells, are_needs_ok u.needs h.needs h.nneeds, h1]
  refine wp_lcA Pr.enc (fun _ => .bool true) (line_small (by have := h.nprocs; omega)) (fun p hp => ?_) ?_
  · simp [is_procedure_ok p (h.procs p hp)]
  · simp [outs, np_is_shape]
theorem check_shape_ok {Q : O → List O → Prop} (u : Un) (h : u.ok) : WpF m_check_shape [.f (.d u.enc)] Q ↔ Q (.f (.d .none)) [.f (.d u.enc)] := by
  refine WpF.of (WpF.eq (wpf_body ?_))
  simp [s_check_shape, env0, is_shape_ok u h, outs, np_check_shape]
end K13

/-! ## K13v -/
set_option Elab.async false
set_option linter.all false
set_option maxRecDepth 100000
set_option maxHeartbeats 4000000
/-! K13v: faults as plain lists; what statements and terms tell. -/
namespace K13
open PySem PySem.Spec L2 Pm
def Term.kind : Term → Str
  | .word _ => "word"
  | .loc _ => "local"
  | .cell _ => "cell"
  | .row _ _ => "row"
  | .not _ => "not"
  | .deed s _ _ => s
@[simp] theorem Term.get0 (t : Term) : getS t.enc (.int 0) = some (.str t.kind) := by
  cases t <;> simp [Term.enc, Term.kind]
theorem Term.loc_is (t : Term) (h : t.ok) : decide (t.kind = "local") = t.loc1.isSome := by
  cases t with
  | deed s a b => simp [Term.kind, Term.loc1, (deed_ne h.1).2.1]
  | _ => simp [Term.kind, Term.loc1]
theorem Term.loc_get (t : Term) (n : Nat) (h : t.loc1 = some n) : getS t.enc (.int 1) = some (.int n) := by
  cases t <;> simp_all [Term.loc1, Term.enc]
theorem Term.cell_is (t : Term) (h : t.ok) : (decide (t.kind = "cell") || decide (t.kind = "row")) = t.cell1.isSome := by
  cases t with
  | deed s a b => simp [Term.kind, Term.cell1, (deed_ne h.1).2.2.1, (deed_ne h.1).2.2.2.1]
  | _ => simp [Term.kind, Term.cell1]
theorem Term.cell_get (t : Term) (c : Str) (o : Bool) (h : t.cell1 = some (c, o)) : getS t.enc (.int 1) = some (.str c) ∧ decide (t.kind = "cell") = o := by
  cases t <;> simp_all [Term.cell1, Term.enc, Term.kind]
def Sta.kind : Sta → Str
  | .act (.set _ _) => "set"
  | .act (.put _ _) => "put"
  | .act (.fill _ _ _) => "fill"
  | .act (.call _ _ _) => "call"
  | .act (.pick _) => "pick"
  | .act (.check _) => "check"
  | .act (.tell _) => "tell"
  | .act (.ret _) => "return"
  | .ife _ _ _ => "if"
  | .whl _ _ => "while"
@[simp] theorem Sta.get0 (s : Sta) : getS s.enc (.int 0) = some (.str s.kind) := by
  cases s with
  | act a => cases a <;> simp [Sta.enc, Act.enc, Sta.kind]
  | _ => simp [Sta.enc, Sta.kind]
theorem Sta.locs_or (s : Sta) : (s.locs = [] ∧ (decide (s.kind = "set") || (decide (s.kind = "call") || decide (s.kind = "pick"))) = false) ∨ ∃ i, s.locs = [i] ∧ (decide (s.kind = "set") || (decide (s.kind = "call") || decide (s.kind = "pick"))) = true ∧ getS s.enc (.int 1) = some (.int (i : Nat)) := by
  cases s with
  | act a => cases a <;> simp [Sta.enc, Act.enc, Sta.kind, Sta.locs]
  | _ => simp [Sta.enc, Sta.kind, Sta.locs]
theorem Sta.puts_or (s : Sta) : (s.puts = [] ∧ (decide (s.kind = "put") || decide (s.kind = "fill")) = false) ∨ ∃ c o, s.puts = [(c, o)] ∧ (decide (s.kind = "put") || decide (s.kind = "fill")) = true ∧ getS s.enc (.int 1) = some (.str c) ∧ decide (s.kind = "put") = o := by
  cases s with
  | act a => cases a <;> simp [Sta.enc, Act.enc, Sta.kind, Sta.puts]
  | _ => simp [Sta.enc, Sta.kind, Sta.puts]
theorem Sta.call_or (s : Sta) : (s.call = none ∧ decide (s.kind = "call") = false) ∨ ∃ c xs, s.call = some (c, xs.length) ∧ decide (s.kind = "call") = true ∧ getS s.enc (.int 2) = some (.str c) ∧ getS s.enc (.int 3) = some (.tuple xs) := by
  cases s with
  | act a =>
    cases a with
    | call i c as => exact .inr ⟨c, as.map Term.enc, by simp [Sta.call], by simp [Sta.kind], by simp [Sta.enc, Act.enc], by simp [Sta.enc, Act.enc]⟩
    | _ => simp [Sta.enc, Act.enc, Sta.kind, Sta.call]
  | _ => simp [Sta.enc, Sta.kind, Sta.call]
theorem preT_le (ts : List Term) (h : ∀ t ∈ ts, t.good) : (preT ts).length ≤ 15 * ts.length := by
  induction ts with
  | nil => simp [preT]
  | cons t ts ih =>
    have h1 := t.good_len (h t (by simp))
    have h2 := ih fun x hx => h x (by simp [hx])
    simp [preT] at h2 ⊢
    omega
theorem Sta.terms_len (s : Sta) (h : s.ok) : s.terms.length ≤ 3 := by
  cases s with
  | act a =>
    cases a with
    | call i c as => exact (h.call (c, as.length) rfl).2
    | _ => simp [Sta.terms]
  | _ => simp [Sta.terms]
theorem Sta.pre_len (s : Sta) (h : s.ok) : (preT s.terms).length ≤ 45 := by
  have := preT_le s.terms h.terms
  have := s.terms_len h
  omega
theorem Sta.locT_len (s : Sta) (h : s.ok) : s.locT.length ≤ 46 := by
  have h1 := s.pre_len h
  have h2 := List.length_filterMap_le Term.loc1 (preT s.terms)
  have h3 : s.locs.length ≤ 1 := by rcases s.locs_or with ⟨h, _⟩ | ⟨i, h, _⟩ <;> simp [h]
  simp only [Sta.locT, List.length_append]
  omega
theorem Sta.cellT_len (s : Sta) (h : s.ok) : s.cellT.length ≤ 46 := by
  have h1 := s.pre_len h
  have h2 := List.length_filterMap_le Term.cell1 (preT s.terms)
  have h3 : s.puts.length ≤ 1 := by rcases s.puts_or with ⟨h, _⟩ | ⟨c, o, h, _⟩ <;> simp [h]
  simp only [Sta.cellT, List.length_append]
  omega
theorem preT_good (ts : List Term) (h : ∀ t ∈ ts, t.ok) : ∀ t ∈ preT ts, t.ok := by
  intro x hx
  simp only [preT, List.mem_flatMap] at hx
  obtain ⟨t, ht, hx⟩ := hx
  have := h t ht
  clear h ht
  induction t with
  | word n => simp [Term.pre] at hx; subst hx; exact this
  | loc n => simp [Term.pre] at hx; subst hx; exact this
  | cell n => simp [Term.pre] at hx; subst hx; exact this
  | row s t ih =>
    simp [Term.pre] at hx
    rcases hx with rfl | hx
    · exact this
    · exact ih hx this.2
  | not t ih =>
    simp [Term.pre] at hx
    rcases hx with rfl | hx
    · exact this
    · exact ih hx this
  | deed s a b iha ihb =>
    simp [Term.pre] at hx
    rcases hx with rfl | hx | hx
    · exact this
    · exact iha hx this.2.1
    · exact ihb hx this.2.2
theorem Term.pre_ok (t : Term) (h : t.ok) : ∀ x ∈ t.pre, x.ok := fun x hx => preT_good [t] (by simpa using h) x (by simpa [preT] using hx)
/-! ### the same data -/
def IsOk : Nat → D → Prop
  | 0, _ => False
  | n + 1, d => match d with
    | .none => True
    | .bool _ => True
    | .int _ => True
    | .str _ => True
    | .tuple ds => ds.length ≤ sizeLine ∧ ∀ x ∈ ds, IsOk n x
    | .list ds => ds.length ≤ sizeLine ∧ ∀ x ∈ ds, IsOk n x
    | _ => False
/-! ### faults -/
def fLoc (nm : Str) (n : Nat) : D := .tuple [.str "local", .str nm, .int (n : Nat)]
def fNo (nm c : Str) : D := .tuple [.str "no cell", .str nm, .str c]
def fSize (nm c : Str) : D := .tuple [.str "size", .str nm, .str c]
def fArg (nm c : Str) : D := .tuple [.str "arguments", .str nm, .str c]
def fCell (c : Str) : D := .tuple [.str "cell twice", .str c]
def fProc (c : Str) : D := .tuple [.str "procedure twice", .str c]
def cF (S : DI) (nm : Str) (p : Str × Bool) : List D := match gt S p.1 with
  | none => [fNo nm p.1]
  | some n => if decide (n = 1) = p.2 then [] else [fSize nm p.1]
def aF (nm : Str) (m : Str → Nat → Nat) (s : Sta) : List D := match s.call with
  | none => []
  | some (c, k) => if m c k = k then [] else [fArg nm c]
def lF (nm : Str) (many : Nat) (l : List Nat) : List D := (l.filter fun n => decide (many ≤ n)).map (fLoc nm)
def stF (S : DI) (m : Str → Nat → Nat) (nm : Str) (many : Nat) (s : Sta) : List D := lF nm many s.locT ++ (s.cellT.flatMap (cF S nm) ++ aF nm m s)
def mP (P : DI) (c : Str) (k : Nat) : Nat := (gt P c).getD k
def stepP (P : DI) (s : Sta) : DI := match s.call with
  | none => P
  | some (c, k) => pt P c (mP P c k)
def goF (S : DI) (nm : Str) (many : Nat) : DI → List Sta → List D
  | _, [] => []
  | P, s :: r => stF S (mP P) nm many s ++ goF S nm many (stepP P s) r
def endP (P : DI) (ss : List Sta) : DI := ss.foldl stepP P
theorem cF_len (S : DI) (nm : Str) (p : Str × Bool) : (cF S nm p).length ≤ 1 := by
  unfold cF
  split
  · simp
  · split <;> simp
theorem cFs_len (S : DI) (nm : Str) (l : List (Str × Bool)) : (l.flatMap (cF S nm)).length ≤ l.length := by
  induction l with
  | nil => simp
  | cons p l ih =>
    have := cF_len S nm p
    simp only [List.flatMap_cons, List.length_append, List.length_cons]
    omega
theorem aF_len (nm : Str) (m : Str → Nat → Nat) (s : Sta) : (aF nm m s).length ≤ 1 := by
  unfold aF
  split
  · simp
  · split <;> simp
theorem stF_len (S : DI) (m : Str → Nat → Nat) (nm : Str) (many : Nat) (s : Sta) (h : s.ok) : (stF S m nm many s).length ≤ 100 := by
  have h1 := s.locT_len h
  have h2 := s.cellT_len h
  have h3 := cFs_len S nm s.cellT
  have h4 := aF_len nm m s
  have h5 := List.length_filter_le (fun n => decide (many ≤ n)) s.locT
  simp only [stF, lF, List.length_append, List.length_map]
  omega
theorem goF_len (S : DI) (nm : Str) (many : Nat) : ∀ (ss : List Sta) (P : DI), (∀ s ∈ ss, s.ok) → (goF S nm many P ss).length ≤ 100 * ss.length
  | [], P, _ => by simp [goF]
  | s :: ss, P, h => by
    have h1 := stF_len S (mP P) nm many s (h s (by simp))
    have h2 := goF_len S nm many ss (stepP P s) fun x hx => h x (by simp [hx])
    simp only [goF, List.length_append, List.length_cons]
    omega
/-! ### dicts by names -/
def DOk (P : DI) : Prop := (P.map (·.1)).Nodup ∧ ∀ x ∈ P.map (·.1), NameOk x
theorem nodup_len : ∀ {l m : List Str}, l.Nodup → l ⊆ m → l.length ≤ m.length
  | [], m, _, _ => by simp
  | a :: l, m, hn, hs => by
    have ha : a ∈ m := hs (by simp)
    rw [List.nodup_cons] at hn
    have h1 : l ⊆ m.erase a := fun x hx => (List.mem_erase_of_ne (by rintro rfl; exact hn.1 hx)).2 (hs (by simp [hx]))
    have h2 := nodup_len hn.2 h1
    have h3 := List.length_erase_of_mem ha
    have h4 := List.length_pos_of_mem ha
    simp only [List.length_cons]
    omega
theorem names_len (l : List Str) (hn : l.Nodup) (h : ∀ x ∈ l, NameOk x) : l.length ≤ 11 := by
  have h1 : l ⊆ names.map Str.ofString := fun x hx => by
    obtain ⟨s, hs, rfl⟩ := h x hx
    exact List.mem_map.2 ⟨s, hs, rfl⟩
  have h2 := nodup_len hn h1
  simpa [names] using h2
theorem DOk.len {P : DI} (h : DOk P) : P.length ≤ 11 := by
  have := names_len _ h.1 h.2
  simpa using this
theorem DOk.pt {P : DI} (h : DOk P) {c : Str} (hc : NameOk c) (n : Nat) : DOk (pt P c n) := by
  unfold DOk
  rw [keys_pt]
  split
  · exact h
  · rename_i hm
    refine ⟨?_, ?_⟩
    · rw [List.nodup_append]
      exact ⟨h.1, by simp, by
        intro a ha b hb
        simp at hb
        subst hb
        rintro rfl
        exact hm ha⟩
    · intro x hx
      rcases List.mem_append.mp hx with hx | hx
      · exact h.2 x hx
      · simp at hx
        exact hx ▸ hc
theorem DOk.nil : DOk [] := ⟨by simp, by simp⟩
theorem DOk.step {P : DI} (h : DOk P) {s : Sta} (hs : s.ok) : DOk (stepP P s) := by
  unfold stepP
  split
  · exact h
  · rename_i c k hc
    exact h.pt (hs.call _ hc).1 _
theorem DOk.endP {P : DI} (h : DOk P) {ss : List Sta} (hs : ∀ s ∈ ss, s.ok) : DOk (endP P ss) := by
  induction ss generalizing P with
  | nil => exact h
  | cons s ss ih => exact ih (h.step (hs s (by simp))) fun x hx => hs x (by simp [hx])
end K13

/-! ## K13f -/
set_option Elab.async false
set_option linter.all false
set_option maxRecDepth 100000
set_option maxHeartbeats 4000000
/-! K13f: what a statement tells; its faults. -/
namespace K13
open PySem PySem.Spec L2 Pm
variable [TabCtx]
def ntE (n : Nat) : D := .int (n : Nat)
def ctE (p : Str × Bool) : D := .tuple [.str p.1, .str (if p.2 = true then "one" else "row")]
theorem filt_loc (l : List Term) : (l.filter fun t => t.loc1.isSome).map (fun t => ntE (t.loc1.getD 0)) = (l.filterMap Term.loc1).map ntE := by
  induction l with
  | nil => rfl
  | cons t l ih => cases h : t.loc1 <;> simp [h, ih]
theorem locals_told_at {Q : O → List O → Prop} (s : Sta) (h : s.ok) : WpF m_locals_told [.f (.d s.enc)] Q ↔ Q (.f (.d (.list (s.locT.map ntE)))) [.f (.d s.enc)] := by
  refine WpF.of (WpF.eq (wpf_body ?_))
  have hl3 := s.terms_len h
  have key : WpS (forM (itsA (asD (callM [none] (argsC (varD 0) args0) m_expressions_of))) (nameB 2) (dropS (mutL 1 (argsC (lcM [3] (itsA (asD (callM [none] (argsC (varD 2) args0) m_inner_expressions))) (nameB 3) (tst (op2 eqS (op2 getS (varD 3) (cst (.int 0))) (cst (.str "local")))) (op2 getS (varD 3) (cst (.int 1)))) args0) extF)))
      [some (.f (.d s.enc)), some (.f (.l (s.locs.map ntE))), none, none]
      (fun r => nxQ (fun e' => WpS (retD (frzV 1)) e' fun r => outQ np_locals_told [O.f (F.d s.enc)] (fun x xs => x = O.f (F.d (PyData.list (s.locT.map ntE))) ∧ xs = [O.f (F.d s.enc)]) r) (fun r => outQ np_locals_told [O.f (F.d s.enc)] (fun x xs => x = O.f (F.d (PyData.list (s.locT.map ntE))) ∧ xs = [O.f (F.d s.enc)]) r) r) := by
    simp [terms_at s (by omega)]
    refine wps_forT Term.enc (fun r e => Hold (∃ (fs : List Nat) (L : List D) (x2 x3 : Option O), L = fs.map ntE ∧ e = [some (.f (.d s.enc)), some (.f (.l L)), x2, x3] ∧ fs ++ (preT r).filterMap Term.loc1 = s.locT ∧ ∀ t ∈ r, t.good)) ?_ ?_ (.of ⟨s.locs, _, none, none, rfl, rfl, rfl, h.terms⟩)
    · rintro t r e ⟨fs, L, x2, x3, rfl, rfl, hf, hg⟩
      have ht := hg t (by simp)
      have h15 := t.good_len ht
      simp [inner_at t ht]
      refine wp_lcT Term.enc (fun t => t.loc1.isSome) (fun t => ntE (t.loc1.getD 0)) (line_small (by omega)) (fun k hk => ?_) ?_
      · have hk := t.pre_ok ht.1 k hk
        have hi := k.loc_is hk
        cases hc : k.loc1 with
        | none =>
          rw [hc] at hi
          simp at hi
          simp [hi]
        | some n =>
          rw [hc] at hi
          simp at hi
          simp [hi, k.loc_get n hc, ntE]
      · have hl := congrArg List.length hf
        have hl2 := s.locT_len h
        simp only [List.length_append] at hl
        have hl4 := List.length_filterMap_le Term.loc1 t.pre
        rw [filt_loc]
        have z1 : fs.length ≤ sizeLine := line_small (by omega)
        have z2 : fs.length + (t.pre.filterMap Term.loc1).length ≤ sizeLine := line_small (by omega)
        simp [z1, z2]
        refine .of ⟨fs ++ t.pre.filterMap Term.loc1, _, _, _, ?_, rfl, ?_, fun x hx => hg x (by simp [hx])⟩
        · simp
        · rw [← hf]
          simp [preT]
    · rintro e ⟨fs, L, x2, x3, rfl, rfl, hf, hg⟩
      simp [preT] at hf
      simp [hf, outs, np_locals_told]
  rcases s.locs_or with ⟨h1, h2⟩ | ⟨i, h1, h2, h3⟩
  · rw [h1] at key
    simp only [List.map_nil] at key
    simp [s_locals_told, env0, h2]
    simpa [terms_at s (show s.terms.length ≤ 100 by omega)] using key
  · rw [h1] at key
    simp only [List.map_nil, List.map_cons, ntE] at key
    simp [s_locals_told, env0, h2, h3]
    simpa [terms_at s (show s.terms.length ≤ 100 by omega), ntE] using key
theorem cells_told_at {Q : O → List O → Prop} (s : Sta) (h : s.ok) : WpF m_cells_told [.f (.d s.enc)] Q ↔ Q (.f (.d (.list (s.cellT.map ctE)))) [.f (.d s.enc)] := by
  refine WpF.of (WpF.eq (wpf_body ?_))
  have hl3 := s.terms_len h
  have key : WpS (forL (nameB 2) (forM (itsA (asD (callM [none] (argsC (varD 2) args0) m_inner_expressions))) (nameB 3) (iteS (tst (op2 inS (op2 getS (varD 3) (cst (.int 0))) (tupM (argsC (cst (.str "cell")) (argsC (cst (.str "row")) args0))))) (dropS (mutL 1 (argsC (tupM (argsC (op2 getS (varD 3) (cst (.int 1))) (argsC (ifV (tst (op2 eqS (op2 getS (varD 3) (cst (.int 0))) (cst (.str "cell")))) (cst (.str "one")) (cst (.str "row"))) args0))) args0) appF)) nxt)) (s.terms.map Term.enc))
      [some (.f (.d s.enc)), some (.f (.l (s.puts.map ctE))), none, none]
      (fun r => nxQ (fun e' => WpS (retD (frzV 1)) e' fun r => outQ np_cells_told [O.f (F.d s.enc)] (fun x xs => x = O.f (F.d (PyData.list (s.cellT.map ctE))) ∧ xs = [O.f (F.d s.enc)]) r) (fun r => outQ np_cells_told [O.f (F.d s.enc)] (fun x xs => x = O.f (F.d (PyData.list (s.cellT.map ctE))) ∧ xs = [O.f (F.d s.enc)]) r) r) := by
    refine wps_forT Term.enc (fun r e => Hold (∃ (fs : List (Str × Bool)) (L : List D) (x2 x3 : Option O), L = fs.map ctE ∧ e = [some (.f (.d s.enc)), some (.f (.l L)), x2, x3] ∧ fs ++ (preT r).filterMap Term.cell1 = s.cellT ∧ ∀ t ∈ r, t.good)) ?_ ?_ (.of ⟨s.puts, _, none, none, rfl, rfl, rfl, h.terms⟩)
    · rintro t r e ⟨fs, L, x2, x3, rfl, rfl, hf, hg⟩
      have ht := hg t (by simp)
      simp [inner_at t ht]
      refine wps_forT Term.enc (fun r2 e => Hold (∃ (fs : List (Str × Bool)) (L : List D) (x2 x3 : Option O), L = fs.map ctE ∧ e = [some (.f (.d s.enc)), some (.f (.l L)), x2, x3] ∧ fs ++ (r2.filterMap Term.cell1 ++ (preT r).filterMap Term.cell1) = s.cellT ∧ ∀ t ∈ r2, t.ok)) ?_ ?_ (.of ⟨fs, _, some (.f (.d t.enc)), x3, rfl, rfl, by rw [← hf]; simp [preT], t.pre_ok ht.1⟩)
      · rintro k r2 e ⟨fs, L, x2, x3, rfl, rfl, hf, hk⟩
        have hi := k.cell_is (hk k (by simp))
        have hl := congrArg List.length hf
        have hl2 := s.cellT_len h
        simp only [List.length_append] at hl
        cases hc : k.cell1 with
        | none =>
          rw [hc] at hi
          simp at hi
          simp [hi.1, hi.2]
          exact .of ⟨fs, _, _, _, rfl, rfl, by simpa [hc] using hf, fun t ht => hk t (by simp [ht])⟩
        | some p =>
          obtain ⟨c, o⟩ := p
          obtain ⟨g1, g2⟩ := k.cell_get c o hc
          have hi' : (decide (k.kind = "cell") || decide (k.kind = "row")) = true := by rw [hi, hc]; rfl
          simp [hc] at hl
          have z1 : fs.length ≤ sizeLine := line_small (by omega)
          have z2 : fs.length < sizeLine := Nat.lt_of_succ_le (line_small (by omega))
          simp only [Bool.or_eq_true, decide_eq_true_eq] at hi'
          cases o with
          | true =>
            simp at g2
            simp [g1, g2, z1, z2]
            exact .of ⟨fs ++ [(c, true)], _, _, _, by simp [ctE], rfl, by rw [← hf]; simp [hc], fun t ht => hk t (by simp [ht])⟩
          | false =>
            simp at g2
            simp only [g2, false_or] at hi'
            simp [hi', g1, g2, z1, z2]
            exact .of ⟨fs ++ [(c, false)], _, _, _, by simp [ctE], rfl, by rw [← hf]; simp [hc], fun t ht => hk t (by simp [ht])⟩
      · rintro e ⟨fs, L, x2, x3, rfl, rfl, hf, hk⟩
        simp
        exact .of ⟨fs, _, _, _, rfl, rfl, by simpa using hf, fun t ht => hg t (by simp [ht])⟩
    · rintro e ⟨fs, L, x2, x3, rfl, rfl, hf, hg⟩
      simp [preT] at hf
      simp [hf, outs, np_cells_told]
  rcases s.puts_or with ⟨h1, h2⟩ | ⟨c, o, h1, h2, h3, h4⟩
  · rw [h1] at key
    simp only [List.map_nil] at key
    simp [s_cells_told, env0, h2, terms_at s (show s.terms.length ≤ 100 by omega)]
    exact key
  · rw [h1] at key
    simp only [List.map_nil, List.map_cons, ctE] at key
    cases o with
    | true =>
      simp at h4
      simp [h4] at h2
      simp [s_cells_told, env0, h2, h3, h4, terms_at s (show s.terms.length ≤ 100 by omega)]
      exact key
    | false =>
      simp at h4
      simp [h4] at h2
      simp [s_cells_told, env0, h2, h3, h4, terms_at s (show s.terms.length ≤ 100 by omega)]
      exact key
end K13

/-! ## K13g -/
set_option Elab.async false
set_option linter.all false
set_option maxRecDepth 100000
set_option maxHeartbeats 4000000
/-! K13g: the faults of a procedure, of a statement. -/
namespace K13
open PySem PySem.Spec L2 Pm
variable [TabCtx]
@[simp] theorem Pr.get0 (p : Pr) : getS p.enc (.int 0) = some (.str p.name) := by simp [Pr.enc]
@[simp] theorem Pr.get1 (p : Pr) : getS p.enc (.int 1) = some (.int p.params) := by simp [Pr.enc]
@[simp] theorem Pr.get2 (p : Pr) : getS p.enc (.int 2) = some (.int p.many) := by simp [Pr.enc]
@[simp] theorem Pr.get3 (p : Pr) : getS p.enc (.int 3) = some p.body.tup := by simp [Pr.enc]
theorem lF_cons (nm : Str) (many n : Nat) (l : List Nat) : lF nm many (n :: l) = (if many ≤ n then [fLoc nm n] else []) ++ lF nm many l := by
  by_cases h : many ≤ n <;> simp [lF, h]
theorem inner_faults_at {Q : O → List O → Prop} (p : Pr) (h : p.ok) (S P : DI) (hP : DOk P) : WpF m_inner_faults [.f (.d p.enc), .f (.mk (dk S)), .f (.mk (dk P))] Q ↔ Q (.f (.d (.list (goF S p.name p.many P p.body.pre)))) [.f (.d p.enc), .f (.mk (dk S)), .f (.mk (dk (endP P p.body.pre)))] := by
  refine WpF.of (WpF.eq (wpf_body ?_))
  have hT := goF_len S p.name p.many p.body.pre P h.body
  have hlen := h.len
  generalize hTe : goF S p.name p.many P p.body.pre = T at hT ⊢
  generalize hPE : endP P p.body.pre = PE
  simp [s_inner_faults, env0, statements_at 12 p.body (show p.body.dep < 12 by have := h.dep; omega) (show p.body.pre.length ≤ 10000 by omega)]
  refine wps_forT Sta.enc (fun r e => Hold (∃ (P' : DI) (fs : List D) (x5 x6 x7 x8 x9 : Option O), e = [some (.f (.d p.enc)), some (.f (.mk (dk S))), some (.f (.mk (dk P'))), some (.f (.d (.str p.name))), some (.f (.l fs)), x5, x6, x7, x8, x9] ∧ DOk P' ∧ fs ++ goF S p.name p.many P' r = T ∧ endP P' r = PE ∧ ∀ s ∈ r, s.ok)) ?_ ?_ (.of ⟨P, [], _, _, _, _, _, rfl, hP, hTe, hPE, h.body⟩)
  · rintro s r e ⟨P', fs, x5, x6, x7, x8, x9, rfl, hP', hf, hE, hok⟩
    have hs := hok s (by simp)
    simp [locals_told_at s hs]
    refine wps_forT ntE (fun r2 e => Hold (∃ (fs : List D) (x6 : Option O), e = [some (.f (.d p.enc)), some (.f (.mk (dk S))), some (.f (.mk (dk P'))), some (.f (.d (.str p.name))), some (.f (.l fs)), some (.f (.d s.enc)), x6, x7, x8, x9] ∧ fs ++ (lF p.name p.many r2 ++ (s.cellT.flatMap (cF S p.name) ++ (aF p.name (mP P') s ++ goF S p.name p.many (stepP P' s) r))) = T)) ?_ ?_ (.of ⟨fs, _, rfl, by rw [← hf]; simp [goF, stF]⟩)
    · rintro n r2 e ⟨fs, x6, rfl, hf⟩
      rw [lF_cons] at hf
      have hl := congrArg List.length hf
      by_cases hm : p.many ≤ n
      · simp [hm] at hf hl
        have z1 : fs.length ≤ sizeLine := line_small (by omega)
        have z2 : fs.length < sizeLine := Nat.lt_of_succ_le (line_small (by omega))
        simp [ntE, hm, z1, z2]
        exact .of ⟨_, _, rfl, by rw [← hf]; simp [fLoc]⟩
      · simp [hm] at hf
        simp [ntE, hm]
        exact .of ⟨_, _, rfl, by rw [← hf]⟩
    · rintro e ⟨fs, x6, rfl, hf⟩
      simp [lF] at hf
      simp [cells_told_at s hs]
      refine wps_forT ctE (fun r2 e => Hold (∃ (fs : List D) (x7 x8 : Option O), e = [some (.f (.d p.enc)), some (.f (.mk (dk S))), some (.f (.mk (dk P'))), some (.f (.d (.str p.name))), some (.f (.l fs)), some (.f (.d s.enc)), x6, x7, x8, x9] ∧ fs ++ (r2.flatMap (cF S p.name) ++ (aF p.name (mP P') s ++ goF S p.name p.many (stepP P' s) r)) = T)) ?_ ?_ (.of ⟨fs, _, _, rfl, by rw [← hf]⟩)
      · rintro ⟨c, o⟩ r2 e ⟨fs, x7, x8, rfl, hf⟩
        simp only [List.flatMap_cons, List.append_assoc] at hf
        have hl := congrArg List.length hf
        simp only [List.length_append] at hl
        cases hg : gt S c with
        | none =>
          simp [cF, hg] at hf hl
          have z1 : fs.length ≤ sizeLine := line_small (by omega)
          have z2 : fs.length < sizeLine := Nat.lt_of_succ_le (line_small (by omega))
          simp [ctE, hg, z1, z2]
          exact .of ⟨_, _, _, rfl, by rw [← hf]; simp [fNo]⟩
        | some n =>
          by_cases hn : n = 1
          · cases o with
            | true =>
              simp [cF, hg, hn] at hf hl
              simp [ctE, hg, hn]
              exact .of ⟨_, _, _, rfl, by rw [← hf]⟩
            | false =>
              simp [cF, hg, hn] at hf hl
              have z1 : fs.length ≤ sizeLine := line_small (by omega)
              have z2 : fs.length < sizeLine := Nat.lt_of_succ_le (line_small (by omega))
              simp [ctE, hg, hn, z1, z2]
              exact .of ⟨_, _, _, rfl, by rw [← hf]; simp [fSize]⟩
          · have hn' : ¬ (n : Int) = 1 := by omega
            cases o with
            | false =>
              simp [cF, hg, hn] at hf hl
              simp [ctE, hg, hn, hn']
              exact .of ⟨_, _, _, rfl, by rw [← hf]⟩
            | true =>
              simp [cF, hg, hn] at hf hl
              have z1 : fs.length ≤ sizeLine := line_small (by omega)
              have z2 : fs.length < sizeLine := Nat.lt_of_succ_le (line_small (by omega))
              simp [ctE, hg, hn, hn', z1, z2]
              exact .of ⟨_, _, _, rfl, by rw [← hf]; simp [fSize]⟩
      · rintro e ⟨fs, x7, x8, rfl, hf⟩
        simp at hf
        have hE' : endP (stepP P' s) r = PE := hE
        rcases s.call_or with ⟨c1, c2⟩ | ⟨c, xs, c1, c2, c3, c4⟩
        · simp at c2
          simp [c2]
          have e1 : stepP P' s = P' := by simp [stepP, c1]
          have e2 : aF p.name (mP P') s = [] := by simp [aF, c1]
          rw [e1] at hE' hf
          rw [e2] at hf
          exact .of ⟨P', fs, _, _, _, _, _, rfl, hP', by simpa using hf, hE', fun x hx => hok x (by simp [hx])⟩
        · simp at c2
          have e1 : stepP P' s = pt P' c (mP P' c xs.length) := by simp [stepP, c1]
          rw [e1] at hE' hf
          have z3 : P'.length < sizeLine := by
            have := hP'.len
            exact Nat.lt_of_succ_le (line_small (by omega))
          have hP2 : DOk (pt P' c (mP P' c xs.length)) := hP'.pt (hs.call _ c1).1 _
          by_cases hk : mP P' c xs.length = xs.length
          · have e2 : aF p.name (mP P') s = [] := by simp [aF, c1, hk]
            rw [e2] at hf
            have hk' : (gt P' c).getD xs.length = xs.length := hk
            simp [c2, c3, c4, z3, hk']
            rw [hk] at hP2 hE' hf
            exact .of ⟨_, fs, _, _, _, _, _, rfl, hP2, by simpa using hf, hE', fun x hx => hok x (by simp [hx])⟩
          · have e2 : aF p.name (mP P') s = [fArg p.name c] := by simp [aF, c1, hk]
            rw [e2] at hf
            have hl := congrArg List.length hf
            simp at hl
            have z1 : fs.length ≤ sizeLine := line_small (by omega)
            have z2 : fs.length < sizeLine := Nat.lt_of_succ_le (line_small (by omega))
            have hk' : ¬ (gt P' c).getD xs.length = xs.length := hk
            have hk2 : ¬ (((gt P' c).getD xs.length : Nat) : Int) = xs.length := by omega
            simp [c2, c3, c4, z1, z2, z3, hk', hk2]
            exact .of ⟨_, _, _, _, _, _, _, rfl, hP2, by rw [← hf]; simp [fArg, mP], hE', fun x hx => hok x (by simp [hx])⟩
  · rintro e ⟨P', fs, x5, x6, x7, x8, x9, rfl, hP', hf, hE, hok⟩
    simp [goF] at hf
    simp [endP] at hE
    simp [hf, hE, outs, np_inner_faults]
end K13

/-! ## K13h2 -/
set_option Elab.async false
set_option linter.all false
set_option maxRecDepth 100000
set_option maxHeartbeats 4000000
/-! K13h2: the law's faults of a statement. -/
namespace K13
open PySem PySem.Spec L2 Pm
variable [TabCtx]
def cbE (p : Str × Bool) : D := .tuple [.str p.1, .bool p.2]
theorem law_of_statement_at {Q : O → List O → Prop} (s : Sta) (h : s.ok) (p : Pr) (S P : DI) (hP : ∀ c k, s.call = some (c, k) → (gt P c).isSome) : WpF m__law_of_statement [.f (.d s.enc), .f (.d p.enc), .f (.mk (dk S)), .f (.mk (dk P))] Q ↔ Q (.f (.d (.list (stF S (mP P) p.name p.many s)))) [.f (.d s.enc), .f (.d p.enc), .f (.mk (dk S)), .f (.mk (dk P))] := by
  refine WpF.of (WpF.eq (wpf_body ?_))
  have hT := stF_len S (mP P) p.name p.many s h
  have hl3 := s.terms_len h
  have hlT := s.locT_len h
  have hcT := s.cellT_len h
  generalize hTe : stF S (mP P) p.name p.many s = T at hT ⊢
  rcases s.locs_or with ⟨l1, l2⟩ | ⟨i, l1, l2, l3⟩ <;> rcases s.puts_or with ⟨c1, c2⟩ | ⟨c, o, c1, c2, c3, rfl⟩
  case inr.inr => 
    exfalso
    simp only [Bool.or_eq_true, decide_eq_true_eq] at l2 c2
    rcases c2 with e | e <;> simp [e] at l2
  all_goals
    first
      | simp [s__law_of_statement, env0, l2, l3, c2, law_terms_at s (show s.terms.length ≤ 100 by omega)]
      | simp [s__law_of_statement, env0, l2, c2, c3, law_terms_at s (show s.terms.length ≤ 100 by omega)]
      | simp [s__law_of_statement, env0, l2, c2, law_terms_at s (show s.terms.length ≤ 100 by omega)]
    refine wps_forT Term.enc (fun r e => Hold (∃ (fs : List Nat) (cs : List (Str × Bool)) (L M : List D) (x10 x11 : Option O), L = fs.map ntE ∧ M = cs.map cbE ∧ e = [some (.f (.d s.enc)), some (.f (.d p.enc)), some (.f (.mk (dk S))), some (.f (.mk (dk P))), some (.f (.l [])), some (.f (.l M)), some (.f (.d (.str p.name))), some (.f (.d (.int p.many))), some (.f (.d (.str s.kind))), some (.f (.l L)), x10, x11, none, none, none] ∧ fs ++ (preT r).filterMap Term.loc1 = s.locT ∧ cs ++ (preT r).filterMap Term.cell1 = s.cellT ∧ ∀ t ∈ r, t.good)) ?_ ?_ (.of ⟨s.locs, s.puts, _, _, _, _, by simp [l1, ntE], by simp [c1, cbE], rfl, rfl, rfl, h.terms⟩)
    · rintro t r e ⟨fs, cs, L, M, x10, x11, rfl, rfl, rfl, hf, hc, hg⟩
      have ht := hg t (by simp)
      simp [law_parts_at t ht]
      refine wps_forT Term.enc (fun r2 e => Hold (∃ (fs : List Nat) (cs : List (Str × Bool)) (L M : List D) (x11 : Option O), L = fs.map ntE ∧ M = cs.map cbE ∧ e = [some (.f (.d s.enc)), some (.f (.d p.enc)), some (.f (.mk (dk S))), some (.f (.mk (dk P))), some (.f (.l [])), some (.f (.l M)), some (.f (.d (.str p.name))), some (.f (.d (.int p.many))), some (.f (.d (.str s.kind))), some (.f (.l L)), some (.f (.d t.enc)), x11, none, none, none] ∧ fs ++ (r2.filterMap Term.loc1 ++ (preT r).filterMap Term.loc1) = s.locT ∧ cs ++ (r2.filterMap Term.cell1 ++ (preT r).filterMap Term.cell1) = s.cellT ∧ ∀ t ∈ r2, t.ok)) ?_ ?_ (.of ⟨fs, cs, _, _, _, rfl, rfl, rfl, by rw [← hf]; simp [preT], by rw [← hc]; simp [preT], t.pre_ok ht.1⟩)
      · rintro k r2 e ⟨fs, cs, L, M, x11, rfl, rfl, rfl, hf, hc, hk⟩
        have hi := k.loc_is (hk k (by simp))
        have hj := k.cell_is (hk k (by simp))
        have hl := congrArg List.length hf
        have hl2 := congrArg List.length hc
        simp only [List.length_append] at hl hl2
        have hne : k.loc1 = none ∨ k.cell1 = none := by cases k <;> simp [Term.loc1, Term.cell1]
        cases ha : k.loc1 with
        | some n =>
          have hb : k.cell1 = none := by
            rcases hne with e | e
            · rw [e] at ha
              cases ha
            · exact e
          rw [ha] at hi
          rw [hb] at hj
          simp [ha, hb] at hl hl2 hf hc
          simp only [Option.isSome_some, Option.isSome_none] at hi hj
          have z1 : fs.length ≤ sizeLine := line_small (by omega)
          have z2 : fs.length < sizeLine := Nat.lt_of_succ_le (line_small (by omega))
          simp only [decide_eq_true_eq] at hi
          simp [hi, k.loc_get n ha, z1, z2]
          exact .of ⟨fs ++ [n], cs, _, _, _, by simp [ntE], rfl, rfl, by rw [← hf]; simp, by rw [← hc], fun t ht => hk t (by simp [ht])⟩
        | none =>
          rw [ha] at hi
          simp only [Option.isSome_none] at hi
          cases hb : k.cell1 with
          | none =>
            rw [hb] at hj
            simp [ha, hb] at hl hl2 hf hc
            simp only [Option.isSome_none] at hj
            simp at hi hj
            simp [hi, hj.1, hj.2]
            exact .of ⟨fs, cs, _, _, _, rfl, rfl, rfl, by rw [← hf], by rw [← hc], fun t ht => hk t (by simp [ht])⟩
          | some q =>
            obtain ⟨c', o'⟩ := q
            obtain ⟨g1, g2⟩ := k.cell_get c' o' hb
            rw [hb] at hj
            simp [ha, hb] at hl hl2 hf hc
            simp only [Option.isSome_some, Bool.or_eq_true, decide_eq_true_eq] at hj
            simp at hi
            have z1 : cs.length ≤ sizeLine := line_small (by omega)
            have z2 : cs.length < sizeLine := Nat.lt_of_succ_le (line_small (by omega))
            cases o' with
            | true =>
              simp at g2
              simp [g1, g2, z1, z2]
              exact .of ⟨fs, cs ++ [(c', true)], _, _, _, rfl, by simp [cbE], rfl, by rw [← hf], by rw [← hc]; simp, fun t ht => hk t (by simp [ht])⟩
            | false =>
              simp at g2
              simp only [g2, false_or] at hj
              simp [hj, g1, g2, z1, z2]
              exact .of ⟨fs, cs ++ [(c', false)], _, _, _, rfl, by simp [cbE], rfl, by rw [← hf], by rw [← hc]; simp, fun t ht => hk t (by simp [ht])⟩
      · rintro e ⟨fs, cs, L, M, x11, rfl, rfl, rfl, hf, hc, hk⟩
        simp
        exact .of ⟨fs, cs, _, _, _, _, rfl, rfl, rfl, by simpa using hf, by simpa using hc, fun t ht => hg t (by simp [ht])⟩
    · rintro e ⟨fs, cs, L, M, x10, x11, rfl, rfl, rfl, hf, hc, hg⟩
      simp [preT] at hf hc
      subst hf hc
      simp
      refine wp_lcT ntE (fun n => decide (p.many ≤ n)) (fLoc p.name) (line_small (by omega)) (fun n hn => ?_) ?_
      · by_cases hm : p.many ≤ n <;> simp [ntE, hm, fLoc]
      · simp
        refine wps_forT cbE (fun r2 e => Hold (∃ (fs : List D) (x13 x14 : Option O), e = [some (.f (.d s.enc)), some (.f (.d p.enc)), some (.f (.mk (dk S))), some (.f (.mk (dk P))), some (.f (.l fs)), some (.f (.d (.list (s.cellT.map cbE)))), some (.f (.d (.str p.name))), some (.f (.d (.int p.many))), some (.f (.d (.str s.kind))), some (.f (.d (.list (s.locT.map ntE)))), x10, x11, none, x13, x14] ∧ fs ++ (r2.flatMap (cF S p.name) ++ aF p.name (mP P) s) = T)) ?_ ?_ (.of ⟨_, _, _, rfl, by rw [← hTe]; simp [stF, lF]⟩)
        · rintro ⟨c, o⟩ r2 e ⟨fs, x13, x14, rfl, hf⟩
          simp only [List.flatMap_cons, List.append_assoc] at hf
          have hl := congrArg List.length hf
          simp only [List.length_append] at hl
          cases hg : gt S c with
          | none =>
            simp [cF, hg] at hf hl
            have z1 : fs.length ≤ sizeLine := line_small (by omega)
            have z2 : fs.length < sizeLine := Nat.lt_of_succ_le (line_small (by omega))
            simp [cbE, hg, z1, z2]
            exact .of ⟨_, _, _, rfl, by rw [← hf]; simp [fNo]⟩
          | some n =>
            by_cases hn : decide (n = 1) = o
            · simp [cF, hg, hn] at hf hl
              have hn' : decide ((n : Int) = 1) = o := by rw [← hn]; congr 1; simp; omega
              simp [cbE, hg, hn']
              exact .of ⟨_, _, _, rfl, by rw [← hf]⟩
            · simp [cF, hg, hn] at hf hl
              have hn' : (decide ((n : Int) = 1) != o) = true := by
                have e : decide ((n : Int) = 1) = decide (n = 1) := by congr 1; simp; omega
                rw [e]
                simpa using hn
              have z1 : fs.length ≤ sizeLine := line_small (by omega)
              have z2 : fs.length < sizeLine := Nat.lt_of_succ_le (line_small (by omega))
              simp [cbE, hg, hn', z1, z2]
              exact .of ⟨_, _, _, rfl, by rw [← hf]; simp [fSize]⟩
        · rintro e ⟨fs, x13, x14, rfl, hf⟩
          simp at hf
          rcases s.call_or with ⟨d1, d2⟩ | ⟨c, xs, d1, d2, d3, d4⟩
          · simp at d2
            simp [d2, outs, np__law_of_statement]
            simpa [aF, d1] using hf
          · simp at d2
            obtain ⟨m, hm⟩ := Option.isSome_iff_exists.mp (hP c xs.length d1)
            by_cases hk : m = xs.length
            · simp [d2, d3, d4, hm, hk, outs, np__law_of_statement]
              simpa [aF, d1, mP, hm, hk] using hf
            · have hk' : ¬ (m : Int) = xs.length := by omega
              have hf' : fs ++ [fArg p.name c] = T := by simpa [aF, d1, mP, hm, hk] using hf
              have hl := congrArg List.length hf'
              simp at hl
              have z1 : fs.length ≤ sizeLine := line_small (by omega)
              have z2 : fs.length < sizeLine := Nat.lt_of_succ_le (line_small (by omega))
              simp [d2, d3, d4, hm, hk', z1, z2, outs, np__law_of_statement]
              simpa [fArg] using hf'
end K13

/-! ## K13i -/
set_option Elab.async false
set_option linter.all false
set_option maxRecDepth 100000
set_option maxHeartbeats 4000000
/-! K13i: faults of a unit, by the package and by the law. -/
namespace K13
open PySem PySem.Spec L2 Pm
/-! ### plain -/
def cl (c : Str × List Nat) : Str × Nat := (c.1, c.2.length)
def Un.known (u : Un) : DI := u.cells.map cl ++ u.needs
def dupC : DI → DI → List D
  | _, [] => []
  | S, (c, n) :: r => (if (gt S c).isSome then [fCell c] else []) ++ dupC (pt S c n) r
def mgP (P : DI) (ps : List Pr) : DI := ps.foldl (fun P p => pt P p.name p.params) P
def dupP : DI → List Pr → List D
  | _, [] => []
  | P, p :: r => (if (gt P p.name).isSome then [fProc p.name] else []) ++ dupP (pt P p.name p.params) r
def goU (S : DI) : DI → List Pr → List D
  | _, [] => []
  | P, p :: r => goF S p.name p.many P p.body.pre ++ goU S (endP P p.body.pre) r
def Un.S (u : Un) : DI := mg [] u.known
def Un.P (u : Un) : DI := mgP [] u.procs
def Un.allF (u : Un) : List D := dupC [] u.known ++ (dupP [] u.procs ++ goU u.S u.P u.procs)
/-- each once -/
def dedP (xs : List D) (q : D × Nat) : Bool := !((xs.take q.2).any fun y => PyData.eqv y q.1)
def dedD (xs : List D) : List D := (xs.zipIdx.filter (dedP xs)).map (·.1)
def Flat (d : D) : Prop := d.plain = true ∧ d.depth ≤ 8 ∧ IsOk 2 d
theorem notInS_flat (x : D) (xs : List D) (hx : Flat x) (h : ∀ y ∈ xs, Flat y) : notInS x (.list xs) = some (.bool (!xs.any fun y => PyData.eqv y x)) := by
  have e : inS x (.list xs) = some (.bool (xs.any fun y => PyData.eqv y x)) := if_pos ⟨by have := hx.2.1; omega, hx.1, (plainAll_iff xs).2 fun y hy => (h y hy).1⟩
  simp [notInS, e, notD]
theorem dupC_len : ∀ (l S : DI), (dupC S l).length ≤ l.length
  | [], S => by simp [dupC]
  | (c, n) :: r, S => by
    have := dupC_len r (pt S c n)
    simp only [dupC, List.length_append, List.length_cons]
    split <;> simp <;> omega
theorem dupP_len : ∀ (l : List Pr) (P : DI), (dupP P l).length ≤ l.length
  | [], P => by simp [dupP]
  | p :: r, P => by
    have := dupP_len r (pt P p.name p.params)
    simp only [dupP, List.length_append, List.length_cons]
    split <;> simp <;> omega
theorem goU_len (S : DI) : ∀ (l : List Pr) (P : DI), (∀ p ∈ l, p.ok) → (goU S P l).length ≤ 40000 * l.length
  | [], P, _ => by simp [goU]
  | p :: r, P, h => by
    have h1 := goU_len S r (endP P p.body.pre) fun x hx => h x (by simp [hx])
    have hp := h p (by simp)
    have h2 := goF_len S p.name p.many p.body.pre P hp.body
    have h3 := hp.len
    simp only [goU, List.length_append, List.length_cons]
    omega
theorem Un.allF_len (u : Un) (h : u.ok) : u.allF.length ≤ 600000 := by
  have h1 := dupC_len u.known []
  have h2 := dupP_len u.procs []
  have h3 := goU_len u.S u.procs u.P h.procs
  have h4 := h.nprocs
  have h5 := h.ncells
  have h6 := h.nneeds
  have h7 : u.known.length = u.cells.length + u.needs.length := by simp [Un.known]
  simp only [Un.allF, List.length_append]
  omega
theorem flat_fCell (c : Str) : Flat (fCell c) := by simp [Flat, fCell, PyData.plain, PyData.plainAll, PyData.depth, PyData.depthAll, IsOk]
theorem flat_fProc (c : Str) : Flat (fProc c) := by simp [Flat, fProc, PyData.plain, PyData.plainAll, PyData.depth, PyData.depthAll, IsOk]
theorem flat_fLoc (c : Str) (n : Nat) : Flat (fLoc c n) := by simp [Flat, fLoc, PyData.plain, PyData.plainAll, PyData.depth, PyData.depthAll, IsOk]
theorem flat_fNo (c d : Str) : Flat (fNo c d) := by simp [Flat, fNo, PyData.plain, PyData.plainAll, PyData.depth, PyData.depthAll, IsOk]
theorem flat_fSize (c d : Str) : Flat (fSize c d) := by simp [Flat, fSize, PyData.plain, PyData.plainAll, PyData.depth, PyData.depthAll, IsOk]
theorem flat_fArg (c d : Str) : Flat (fArg c d) := by simp [Flat, fArg, PyData.plain, PyData.plainAll, PyData.depth, PyData.depthAll, IsOk]
theorem dupC_flat : ∀ (l S : DI), ∀ d ∈ dupC S l, Flat d
  | [], S => by simp [dupC]
  | (c, n) :: r, S => by
    intro d hd
    simp only [dupC, List.mem_append] at hd
    rcases hd with hd | hd
    · split at hd
      · simp at hd
        exact hd ▸ flat_fCell c
      · simp at hd
    · exact dupC_flat r _ d hd
theorem dupP_flat : ∀ (l : List Pr) (P : DI), ∀ d ∈ dupP P l, Flat d
  | [], P => by simp [dupP]
  | p :: r, P => by
    intro d hd
    simp only [dupP, List.mem_append] at hd
    rcases hd with hd | hd
    · split at hd
      · simp at hd
        exact hd ▸ flat_fProc _
      · simp at hd
    · exact dupP_flat r _ d hd
theorem stF_flat (S : DI) (m : Str → Nat → Nat) (nm : Str) (many : Nat) (s : Sta) : ∀ d ∈ stF S m nm many s, Flat d := by
  intro d hd
  simp only [stF, lF, List.mem_append, List.mem_map, List.mem_flatMap] at hd
  rcases hd with ⟨n, _, rfl⟩ | ⟨q, _, hd⟩ | hd
  · exact flat_fLoc _ _
  · unfold cF at hd
    split at hd
    · simp at hd
      exact hd ▸ flat_fNo _ _
    · split at hd
      · simp at hd
      · simp at hd
        exact hd ▸ flat_fSize _ _
  · unfold aF at hd
    split at hd
    · simp at hd
    · split at hd
      · simp at hd
      · simp at hd
        exact hd ▸ flat_fArg _ _
theorem goF_flat (S : DI) (nm : Str) (many : Nat) : ∀ (ss : List Sta) (P : DI), ∀ d ∈ goF S nm many P ss, Flat d
  | [], P => by simp [goF]
  | s :: r, P => by
    intro d hd
    simp only [goF, List.mem_append] at hd
    rcases hd with hd | hd
    · exact stF_flat _ _ _ _ _ d hd
    · exact goF_flat S nm many r _ d hd
theorem goU_flat (S : DI) : ∀ (l : List Pr) (P : DI), ∀ d ∈ goU S P l, Flat d
  | [], P => by simp [goU]
  | p :: r, P => by
    intro d hd
    simp only [goU, List.mem_append] at hd
    rcases hd with hd | hd
    · exact goF_flat _ _ _ _ _ d hd
    · exact goU_flat S r _ d hd
theorem Un.allF_flat (u : Un) : ∀ d ∈ u.allF, Flat d := by
  intro d hd
  simp only [Un.allF, List.mem_append] at hd
  rcases hd with hd | hd | hd
  · exact dupC_flat _ _ d hd
  · exact dupP_flat _ _ d hd
  · exact goU_flat _ _ _ d hd
theorem DOk.mgC : ∀ {l S : DI}, DOk S → (∀ c ∈ l, NameOk c.1) → DOk (mg S l)
  | [], S, h, _ => h
  | (c, n) :: r, S, h, hl => DOk.mgC (l := r) (h.pt (hl (c, n) (by simp)) n) fun x hx => hl x (by simp [hx])
theorem DOk.mgP : ∀ {l : List Pr} {S : DI}, DOk S → (∀ p ∈ l, NameOk p.name) → DOk (mgP S l)
  | [], S, h, _ => h
  | p :: r, S, h, hl => DOk.mgP (l := r) (h.pt (hl p (by simp)) p.params) fun x hx => hl x (by simp [hx])
theorem Un.known_ok (u : Un) (h : u.ok) : ∀ c ∈ u.known, NameOk c.1 := by
  intro c hc
  simp only [Un.known, List.mem_append, List.mem_map] at hc
  rcases hc with ⟨x, hx, rfl⟩ | hc
  · exact (h.cells x hx).1
  · exact (h.needs c hc).1
theorem Un.S_ok (u : Un) (h : u.ok) : DOk u.S := DOk.mgC DOk.nil (u.known_ok h)
theorem Un.P_ok (u : Un) (h : u.ok) : DOk u.P := DOk.mgP DOk.nil fun p hp => (h.procs p hp).name
/-! ### arguments told beforehand -/
def stepG (g : Str → Option Nat) (s : Sta) : Str → Option Nat := match s.call with
  | none => g
  | some (c, k) => fun t => if t = c then some ((g c).getD k) else g t
def endG (g : Str → Option Nat) (ss : List Sta) : Str → Option Nat := ss.foldl stepG g
def stepL (P : DI) (s : Sta) : DI := match s.call with
  | none => P
  | some (c, k) => if (gt P c).isSome then P else pt P c k
def endL (P : DI) (ss : List Sta) : DI := ss.foldl stepL P
theorem gt_stepP (P : DI) (s : Sta) : gt (stepP P s) = stepG (gt P) s := by
  cases hc : s.call with
  | none => simp [stepP, stepG, hc]
  | some q =>
    obtain ⟨c, k⟩ := q
    funext t
    simp [stepP, stepG, hc, mP]
theorem gt_stepL (P : DI) (s : Sta) : gt (stepL P s) = stepG (gt P) s := by
  cases hc : s.call with
  | none => simp [stepL, stepG, hc]
  | some q =>
    obtain ⟨c, k⟩ := q
    funext t
    cases h : gt P c with
    | some m =>
      simp [stepL, stepG, hc, h]
      rintro rfl
      exact h
    | none => simp [stepL, stepG, hc, h]
theorem gt_endP (ss : List Sta) : ∀ P : DI, gt (endP P ss) = endG (gt P) ss := by
  induction ss with
  | nil => intro P; rfl
  | cons s ss ih =>
    intro P
    have := ih (stepP P s)
    rw [gt_stepP] at this
    exact this
theorem gt_endL (ss : List Sta) : ∀ P : DI, gt (endL P ss) = endG (gt P) ss := by
  induction ss with
  | nil => intro P; rfl
  | cons s ss ih =>
    intro P
    have := ih (stepL P s)
    rw [gt_stepL] at this
    exact this
theorem stepG_keep (g : Str → Option Nat) (s : Sta) (t : Str) (m : Nat) (h : g t = some m) : stepG g s t = some m := by
  cases hc : s.call with
  | none => simpa [stepG, hc] using h
  | some q =>
    obtain ⟨c, k⟩ := q
    simp [stepG, hc]
    split
    · rename_i e
      subst e
      simp [h]
    · exact h
theorem endG_keep (ss : List Sta) : ∀ (g : Str → Option Nat) (t : Str) (m : Nat), g t = some m → endG g ss t = some m := by
  induction ss with
  | nil => intro g t m h; exact h
  | cons s ss ih => intro g t m h; exact ih _ t m (stepG_keep g s t m h)
theorem goF_all (S : DI) (nm : Str) (many : Nat) (PF : DI) (rest : List Sta) : ∀ (ss : List Sta) (P : DI), gt PF = endG (gt P) (ss ++ rest) → goF S nm many P ss = ss.flatMap (stF S (mP PF) nm many)
  | [], P, _ => rfl
  | s :: ss, P, h => by
    have h2 : gt PF = endG (gt (stepP P s)) (ss ++ rest) := by rw [gt_stepP]; exact h
    rw [goF, goF_all S nm many PF rest ss (stepP P s) h2, List.flatMap_cons]
    congr 1
    unfold stF
    congr 2
    unfold aF
    split
    · rfl
    · rename_i c k hc
      have e : mP PF c k = mP P c k := by
        unfold mP
        have : stepG (gt P) s c = some ((gt P c).getD k) := by
          unfold stepG
          rw [hc]
          simp
        rw [h]
        have h3 : endG (gt P) (s :: ss ++ rest) c = some ((gt P c).getD k) := endG_keep (ss ++ rest) _ c _ this
        rw [h3]
        rfl
      rw [e]
def allS' (ps : List Pr) : List Sta := ps.flatMap fun p => p.body.pre
theorem goU_all (S : DI) (PF : DI) : ∀ (ps : List Pr) (P : DI), gt PF = endG (gt P) (allS' ps) → goU S P ps = ps.flatMap fun p => p.body.pre.flatMap (stF S (mP PF) p.name p.many)
  | [], P, _ => rfl
  | p :: ps, P, h => by
    have e : allS' (p :: ps) = p.body.pre ++ allS' ps := by simp [allS']
    have h2 : gt PF = endG (gt (endP P p.body.pre)) (allS' ps) := by
      rw [gt_endP, h, e]
      simp [endG]
    rw [goU, goU_all S PF ps _ h2, goF_all S p.name p.many PF (allS' ps) p.body.pre P (by rw [h, e]), List.flatMap_cons]
theorem DOk.stepL {P : DI} (h : DOk P) {s : Sta} (hs : s.ok) : DOk (stepL P s) := by
  unfold K13.stepL
  split
  · exact h
  · rename_i c k hc
    split
    · exact h
    · exact h.pt (hs.call _ hc).1 _
end K13

/-! ## K13j -/
set_option Elab.async false
set_option linter.all false
set_option maxRecDepth 100000
set_option maxHeartbeats 4000000
/-! K13j: faults_of and the law's faults. -/
namespace K13
open PySem PySem.Spec L2 Pm
variable [TabCtx]
@[simp] theorem Un.get0 (u : Un) : getS u.enc (.int 0) = some (.str u.name) := by simp [Un.enc]
@[simp] theorem Un.get1 (u : Un) : getS u.enc (.int 1) = some (.tuple (u.cells.map cE)) := by simp [Un.enc]
@[simp] theorem Un.get2 (u : Un) : getS u.enc (.int 2) = some (.tuple (u.needs.map nE)) := by simp [Un.enc]
@[simp] theorem Un.get3 (u : Un) : getS u.enc (.int 3) = some (.tuple (u.procs.map Pr.enc)) := by simp [Un.enc]
theorem enumD_eq (xs : List D) : enumD xs = xs.zipIdx.map fun q => .tuple [.int (q.2 : Nat), q.1] := rfl
theorem DOk.line {S : DI} (h : DOk S) : S.length < sizeLine := by
  have := h.len
  exact Nat.lt_of_succ_le (line_small' (by omega))
theorem faults_of_at {Q : O → List O → Prop} (u : Un) (h : u.ok) : WpF m_faults_of [.f (.d u.enc)] Q ↔ Q (.f (.d (.list (dedD u.allF)))) [.f (.d u.enc)] := by
  refine WpF.of (WpF.eq (wpf_body ?_))
  have hT := u.allF_len h
  have hTe : u.allF = dupC [] u.known ++ (dupP [] u.procs ++ goU u.S u.P u.procs) := rfl
  have hfl := u.allF_flat
  generalize u.allF = T at hT hTe hfl ⊢
  have hl0 := congrArg List.length hTe
  simp only [List.length_append] at hl0
  simp [s_faults_of, env0]
  refine wps_forT cE (fun r e => Hold (∃ (S : DI) (fs : List D) (x4 x5 : Option O), e = [some (.f (.d u.enc)), some (.f (.l fs)), some (.f (.mk (dk S))), some (.f (.mk [])), x4, x5, none, none, none, none] ∧ DOk S ∧ fs ++ dupC S (r.map cl ++ u.needs) = dupC [] u.known ∧ mg S (r.map cl ++ u.needs) = u.S ∧ ∀ c ∈ r, NameOk c.1)) ?_ ?_ (.of ⟨[], [], _, _, rfl, DOk.nil, rfl, rfl, fun c hc => (h.cells c hc).1⟩)
  · rintro ⟨c, ws⟩ r e ⟨S, fs, x4, x5, rfl, hS, hf, hm, hn⟩
    have hS2 := hS.pt (hn (c, ws) (by simp)) ws.length
    have z3 := hS.line
    simp only [List.map_cons, cl, List.cons_append, dupC] at hf
    by_cases hg : (gt S c).isSome = true
    · have hl := congrArg List.length hf
      simp [hg] at hf hl
      have z1 : fs.length ≤ sizeLine := line_small' (by omega)
      have z2 : fs.length < sizeLine := Nat.lt_of_succ_le (line_small' (by omega))
      simp [cE, hg, z1, z2, z3]
      exact .of ⟨_, _, _, _, rfl, hS2, by rw [← hf]; simp [fCell], hm, fun x hx => hn x (by simp [hx])⟩
    · simp [hg] at hf
      simp [cE, hg, z3]
      exact .of ⟨_, _, _, _, rfl, hS2, by rw [← hf], hm, fun x hx => hn x (by simp [hx])⟩
  · rintro e ⟨S, fs, x4, x5, rfl, hS, hf, hm, hn⟩
    simp at hf hm
    simp
    refine wps_forT nE (fun r e => Hold (∃ (S : DI) (fs : List D) (x4 x6 : Option O), e = [some (.f (.d u.enc)), some (.f (.l fs)), some (.f (.mk (dk S))), some (.f (.mk [])), x4, x5, x6, none, none, none] ∧ DOk S ∧ fs ++ dupC S r = dupC [] u.known ∧ mg S r = u.S ∧ ∀ c ∈ r, NameOk c.1)) ?_ ?_ (.of ⟨S, fs, _, _, rfl, hS, hf, hm, fun c hc => (h.needs c hc).1⟩)
    · rintro ⟨c, n⟩ r e ⟨S, fs, x4, x6, rfl, hS, hf, hm, hn⟩
      have hS2 := hS.pt (hn (c, n) (by simp)) n
      have z3 := hS.line
      simp only [dupC] at hf
      by_cases hg : (gt S c).isSome = true
      · have hl := congrArg List.length hf
        simp [hg] at hf hl
        have z1 : fs.length ≤ sizeLine := line_small' (by omega)
        have z2 : fs.length < sizeLine := Nat.lt_of_succ_le (line_small' (by omega))
        simp [nE, hg, z1, z2, z3]
        exact .of ⟨_, _, _, _, rfl, hS2, by rw [← hf]; simp [fCell], hm, fun x hx => hn x (by simp [hx])⟩
      · simp [hg] at hf
        simp [nE, hg, z3]
        exact .of ⟨_, _, _, _, rfl, hS2, by rw [← hf], hm, fun x hx => hn x (by simp [hx])⟩
    · rintro e ⟨S, fs, x4, x6, rfl, hS, hf, hm, hn⟩
      simp [dupC] at hf
      simp [mg] at hm
      subst hf hm
      simp
      refine wps_forT Pr.enc (fun r e => Hold (∃ (P : DI) (fs : List D) (x7 : Option O), e = [some (.f (.d u.enc)), some (.f (.l fs)), some (.f (.mk (dk u.S))), some (.f (.mk (dk P))), x4, x5, x6, x7, none, none] ∧ DOk P ∧ fs ++ (dupP P r ++ goU u.S u.P u.procs) = T ∧ mgP P r = u.P ∧ ∀ p ∈ r, p.ok)) ?_ ?_ (.of ⟨[], _, _, rfl, DOk.nil, hTe.symm, rfl, h.procs⟩)
      · rintro p r e ⟨P, fs, x7, rfl, hP, hf, hm, hn⟩
        have hP2 := hP.pt (hn p (by simp)).name p.params
        have z3 := hP.line
        simp only [dupP] at hf
        by_cases hg : (gt P p.name).isSome = true
        · have hl := congrArg List.length hf
          simp [hg] at hf hl
          have z1 : fs.length ≤ sizeLine := line_small' (by omega)
          have z2 : fs.length < sizeLine := Nat.lt_of_succ_le (line_small' (by omega))
          simp [hg, z1, z2, z3]
          exact .of ⟨_, _, _, rfl, hP2, by rw [← hf]; simp [fProc], hm, fun x hx => hn x (by simp [hx])⟩
        · simp [hg] at hf
          simp [hg, z3]
          exact .of ⟨_, _, _, rfl, hP2, by rw [← hf], hm, fun x hx => hn x (by simp [hx])⟩
      · rintro e ⟨P, fs, x7, rfl, hP, hf, hm, hn⟩
        simp [dupP] at hf
        simp [mgP] at hm
        subst hm
        simp
        refine wps_forT Pr.enc (fun r e => Hold (∃ (P : DI) (fs : List D) (x7 : Option O), e = [some (.f (.d u.enc)), some (.f (.l fs)), some (.f (.mk (dk u.S))), some (.f (.mk (dk P))), x4, x5, x6, x7, none, none] ∧ DOk P ∧ fs ++ goU u.S P r = T ∧ ∀ p ∈ r, p.ok)) ?_ ?_ (.of ⟨u.P, fs, _, rfl, hP, hf, h.procs⟩)
        · rintro p r e ⟨P, fs, x7, rfl, hP, hf, hn⟩
          have hp := hn p (by simp)
          have hl := congrArg List.length hf
          simp only [goU, List.length_append] at hl
          have z1 : fs.length ≤ sizeLine := line_small' (by omega)
          have z2 : fs.length + (goF u.S p.name p.many P p.body.pre).length ≤ sizeLine := line_small' (by omega)
          simp [inner_faults_at p hp u.S P hP, z1, z2]
          exact .of ⟨_, _, _, rfl, hP.endP hp.body, by rw [← hf]; simp [goU], fun x hx => hn x (by simp [hx])⟩
        · rintro e ⟨P, fs, x7, rfl, hP, hf, hn⟩
          simp [goU] at hf
          subst hf
          have z1 : fs.length ≤ sizeLine := line_small' (by omega)
          simp [enumD_eq]
          refine wp_lcT (fun q : D × Nat => .tuple [.int (q.2 : Nat), q.1]) (dedP fs) (fun q => q.1) (line_small' (by simp; omega)) (fun q hq => ?_) ?_
          · obtain ⟨d, i⟩ := q
            have hd : d ∈ fs := by
              have := List.mem_zipIdx hq
              simp at this
              exact this.2 ▸ List.getElem_mem _
            have z4 : min i fs.length ≤ sizeLine := by omega
            simp [cutD_hi, notInS_flat d (fs.take i) (hfl d hd) (fun y hy => hfl y (List.mem_of_mem_take hy)), z4]
            simp [dedP]
          · simp [outs, np_faults_of, dedD]
end K13

/-! ## K13k -/
set_option Elab.async false
set_option linter.all false
set_option maxRecDepth 100000
set_option maxHeartbeats 4000000
/-! K13k: the law's faults. -/
namespace K13
open PySem PySem.Spec L2 Pm
variable [TabCtx]
theorem law_known_at {Q : O → List O → Prop} (u : Un) (h : u.ok) : WpF m__law_known [.f (.d u.enc)] Q ↔ Q (.f (.d (.list (u.known.map nE)))) [.f (.d u.enc)] := by
  refine WpF.of (WpF.eq (wpf_body ?_))
  have h1 := h.ncells
  have h2 := h.nneeds
  have z1 : u.cells.length + u.needs.length ≤ sizeLine := line_small (by omega)
  simp [s__law_known, env0]
  refine wp_lcA cE (fun c => nE (cl c)) (line_small (by omega)) (fun c hc => ?_) ?_
  · simp [cE, nE, cl]
  · simp
    refine wp_lcA nE nE (line_small (by omega)) (fun c hc => ?_) ?_
    · simp [nE]
    · simp [z1, outs, np__law_known, Un.known]
def calls1 (P : DI) (ps : List Pr) : DI := ps.foldl (fun P p => endL P p.body.pre) P
theorem endL_app (P : DI) (a b : List Sta) : endL P (a ++ b) = endL (endL P a) b := by simp [endL]
theorem calls1_eq (ps : List Pr) : ∀ P, calls1 P ps = endL P (allS' ps) := by
  induction ps with
  | nil => intro P; rfl
  | cons p ps ih =>
    intro P
    have e : allS' (p :: ps) = p.body.pre ++ allS' ps := by simp [allS']
    rw [e, endL_app, ← ih]
    rfl
theorem law_faults_at {Q : O → List O → Prop} (u : Un) (h : u.ok) : WpF m__law_faults [.f (.d u.enc)] Q ↔ Q (.f (.d (.tuple (dedD u.allF)))) [.f (.d u.enc)] := by
  refine WpF.of (WpF.eq (wpf_body ?_))
  have hT := u.allF_len h
  have hPF : gt (endL u.P (allS' u.procs)) = endG (gt u.P) (allS' u.procs) := gt_endL _ _
  have hTe : u.allF = dupC [] u.known ++ (dupP [] u.procs ++ u.procs.flatMap fun p => p.body.pre.flatMap (stF u.S (mP (endL u.P (allS' u.procs))) p.name p.many)) := by
    rw [Un.allF, goU_all u.S _ u.procs u.P hPF]
  have hfl := u.allF_flat
  have hsome : ∀ s ∈ allS' u.procs, ∀ c k, s.call = some (c, k) → (gt (endL u.P (allS' u.procs)) c).isSome := by
    intro s hs c k hc
    rw [hPF]
    obtain ⟨a, b, hab⟩ := List.append_of_mem hs
    rw [hab]
    have e : endG (gt u.P) (a ++ s :: b) = endG (stepG (endG (gt u.P) a) s) b := by simp [endG]
    rw [e]
    have e2 : stepG (endG (gt u.P) a) s c = some ((endG (gt u.P) a c).getD k) := by simp [stepG, hc]
    rw [endG_keep b _ c _ e2]
    rfl
  generalize u.allF = T at hT hTe hfl ⊢
  have hl0 := congrArg List.length hTe
  simp only [List.length_append] at hl0
  have hnc := h.ncells
  have hnn := h.nneeds
  have hkl : u.known.length = u.cells.length + u.needs.length := by simp [Un.known]
  have hpd : pairsD (u.known.map nE) = some (dk u.known) := pairsD_map u.known
  have hmd : mergeD [] (dk u.known) = dk u.S := mergeD_dk u.known []
  simp [s__law_faults, env0, law_known_at u h, hpd, hmd]
  refine wps_forT nE (fun r e => Hold (∃ (S : DI) (ns : List Str) (fs N : List D) (x5 x6 : Option O), N = ns.map .str ∧ e = [some (.f (.d u.enc)), some (.f (.l fs)), some (.f (.l N)), some (.f (.mk (dk u.S))), some (.f (.mk [])), x5, x6, none, none, none, none] ∧ (∀ c, c ∈ ns ↔ (gt S c).isSome = true) ∧ ns.length + r.length = u.known.length ∧ fs ++ dupC S r = dupC [] u.known)) ?_ ?_ (.of ⟨[], [], [], _, _, _, rfl, rfl, by simp [gt], by simp, rfl⟩)
  · rintro ⟨c, n⟩ r e ⟨S, ns, fs, N, x5, x6, rfl, rfl, hS, hns, hf⟩
    simp only [dupC] at hf
    simp at hns
    have hS2 : ∀ c', c' ∈ ns ++ [c] ↔ (gt (pt S c n) c').isSome = true := by
      intro c'
      rw [gt_pt]
      by_cases e : c' = c
      · simp [e]
      · simp [e, hS c']
    have z4 : ns.length ≤ sizeLine := line_small (by omega)
    have z5 : ns.length < sizeLine := Nat.lt_of_succ_le (line_small (by omega))
    have hin := inS_strs c ns
    by_cases hg : (gt S c).isSome = true
    · have hm : c ∈ ns := (hS c).2 hg
      have hl := congrArg List.length hf
      simp [hg] at hf hl
      have z1 : fs.length ≤ sizeLine := line_small' (by omega)
      have z2 : fs.length + 1 ≤ sizeLine := line_small' (by omega)
      simp [nE, hin, hm, z1, z2, z4, z5]
      exact .of ⟨_, ns ++ [c], _, _, _, _, by simp, rfl, hS2, by simp; omega, by rw [← hf]; simp [fCell]⟩
    · have hm : ¬ c ∈ ns := fun q => hg ((hS c).1 q)
      have hl := congrArg List.length hf
      simp [hg] at hf hl
      have z1 : fs.length ≤ sizeLine := line_small' (by omega)
      simp [nE, hin, hm, z1, z4, z5]
      exact .of ⟨_, ns ++ [c], _, _, _, _, by simp, rfl, hS2, by simp; omega, by rw [← hf]⟩
  · rintro e ⟨S, ns, fs, N, x5, x6, rfl, rfl, hS, hns, hf⟩
    simp [dupC] at hf
    subst hf
    have henum : enumD (u.procs.map Pr.enc) = u.procs.zipIdx.map (fun q : Pr × Nat => .tuple [.int (q.2 : Nat), q.1.enc]) := by
      simp [enumD_eq, List.zipIdx_map, Function.comp_def]
    simp
    rw [henum]
    refine wps_forT (fun q : Pr × Nat => .tuple [.int (q.2 : Nat), q.1.enc]) (fun r e => Hold (∃ (P : DI) (fs : List D) (x7 x8 : Option O), e = [some (.f (.d u.enc)), some (.f (.l fs)), some (.f (.l (ns.map .str))), some (.f (.mk (dk u.S))), some (.f (.mk (dk P))), x5, x6, x7, x8, none, none] ∧ DOk P ∧ fs ++ (dupP P (r.map (·.1)) ++ u.procs.flatMap fun p => p.body.pre.flatMap (stF u.S (mP (endL u.P (allS' u.procs))) p.name p.many)) = T ∧ mgP P (r.map (·.1)) = u.P ∧ ∀ q ∈ r, q.1.ok)) ?_ ?_ (.of ⟨[], dupC [] u.known, _, _, rfl, DOk.nil, ?_, ?_, ?_⟩)
    · rintro ⟨p, i⟩ r e ⟨P, fs, x7, x8, rfl, hP, hf, hm, hn⟩
      have hp := hn (p, i) (by simp)
      have hP2 := hP.pt hp.name p.params
      have z3 := hP.line
      simp only [List.map_cons, dupP] at hf
      have hl := congrArg List.length hf
      by_cases hg : (gt P p.name).isSome = true
      · simp [hg] at hf hl
        have z1 : fs.length ≤ sizeLine := line_small' (by omega)
        have z2 : fs.length + 1 ≤ sizeLine := line_small' (by omega)
        simp [hg, z1, z2, z3]
        exact .of ⟨_, _, _, _, rfl, hP2, by rw [← hf]; simp [fProc], hm, fun x hx => hn x (by simp [hx])⟩
      · simp [hg] at hf hl
        have z1 : fs.length ≤ sizeLine := line_small' (by omega)
        simp [hg, z1, z3]
        exact .of ⟨_, _, _, _, rfl, hP2, by rw [← hf], hm, fun x hx => hn x (by simp [hx])⟩
    · rintro e ⟨P, fs, x7, x8, rfl, hP, hf, hm, hn⟩
      simp [dupP] at hf
      simp [mgP] at hm
      subst hm
      simp
      refine wps_forT Pr.enc (fun r e => Hold (∃ (P : DI) (x8 x9 : Option O), e = [some (.f (.d u.enc)), some (.f (.l fs)), some (.f (.l (ns.map .str))), some (.f (.mk (dk u.S))), some (.f (.mk (dk P))), x5, x6, x7, x8, x9, none] ∧ DOk P ∧ calls1 P r = endL u.P (allS' u.procs) ∧ ∀ q ∈ r, q.ok)) ?_ ?_ (.of ⟨u.P, _, _, rfl, hP, calls1_eq _ _, h.procs⟩)
      · rintro p r e ⟨P, x8, x9, rfl, hP, hm, hn⟩
        have hp := hn p (by simp)
        simp [law_statements_at p.body (show p.body.pre.length ≤ 10000 by have := hp.len; omega)]
        refine wps_forT Sta.enc (fun r2 e => Hold (∃ (P : DI) (x9 : Option O), e = [some (.f (.d u.enc)), some (.f (.l fs)), some (.f (.l (ns.map .str))), some (.f (.mk (dk u.S))), some (.f (.mk (dk P))), x5, x6, x7, some (.f (.d p.enc)), x9, none] ∧ DOk P ∧ calls1 (endL P r2) r = endL u.P (allS' u.procs) ∧ ∀ q ∈ r2, q.ok)) ?_ ?_ (.of ⟨P, _, rfl, hP, hm, hp.body⟩)
        · rintro s r2 e ⟨P, x9, rfl, hP, hm, hs⟩
          have hso := hs s (by simp)
          have z3 := hP.line
          have hP2 := hP.stepL hso
          have hm' : calls1 (endL (stepL P s) r2) r = endL u.P (allS' u.procs) := hm
          rcases s.call_or with ⟨c1, c2⟩ | ⟨c, xs, c1, c2, c3, c4⟩
          · simp at c2
            simp [c2]
            have e1 : stepL P s = P := by simp [stepL, c1]
            rw [e1] at hm'
            exact .of ⟨_, _, rfl, hP, hm', fun x hx => hs x (by simp [hx])⟩
          · simp at c2
            by_cases hg : (gt P c).isSome = true
            · have e1 : stepL P s = P := by simp [stepL, c1, hg]
              rw [e1] at hm'
              simp [c2, c3, hg]
              exact .of ⟨_, _, rfl, hP, hm', fun x hx => hs x (by simp [hx])⟩
            · have e1 : stepL P s = pt P c xs.length := by simp [stepL, c1, hg]
              rw [e1] at hm' hP2
              simp [c2, c3, c4, hg, z3]
              exact .of ⟨_, _, rfl, hP2, hm', fun x hx => hs x (by simp [hx])⟩
        · rintro e ⟨P, x9, rfl, hP, hm, hs⟩
          simp
          exact .of ⟨_, _, _, rfl, hP, hm, fun x hx => hn x (by simp [hx])⟩
      · rintro e ⟨P, x8, x9, rfl, hP, hm, hn⟩
        simp [calls1] at hm
        subst hm
        simp
        generalize hPFe : endL u.P (allS' u.procs) = PF at *
        refine wps_forT Pr.enc (fun r e => Hold (∃ (fs : List D) (x8 x9 : Option O), e = [some (.f (.d u.enc)), some (.f (.l fs)), some (.f (.l (ns.map .str))), some (.f (.mk (dk u.S))), some (.f (.mk (dk PF))), x5, x6, x7, x8, x9, none] ∧ fs ++ r.flatMap (fun p => p.body.pre.flatMap (stF u.S (mP PF) p.name p.many)) = T ∧ ∀ q ∈ r, q ∈ u.procs)) ?_ ?_ (.of ⟨fs, _, _, rfl, hf, fun _ h => h⟩)
        · rintro p r e ⟨fs, x8, x9, rfl, hf, hn⟩
          have hpm := hn p (by simp)
          have hp := h.procs p hpm
          simp [law_statements_at p.body (show p.body.pre.length ≤ 10000 by have := hp.len; omega)]
          refine wps_forT Sta.enc (fun r2 e => Hold (∃ (fs : List D) (x9 : Option O), e = [some (.f (.d u.enc)), some (.f (.l fs)), some (.f (.l (ns.map .str))), some (.f (.mk (dk u.S))), some (.f (.mk (dk PF))), x5, x6, x7, some (.f (.d p.enc)), x9, none] ∧ fs ++ (r2.flatMap (stF u.S (mP PF) p.name p.many) ++ r.flatMap (fun p => p.body.pre.flatMap (stF u.S (mP PF) p.name p.many))) = T ∧ ∀ q ∈ r2, q ∈ p.body.pre)) ?_ ?_ (.of ⟨fs, _, rfl, by rw [← hf]; simp, fun _ h => h⟩)
          · rintro s r2 e ⟨fs, x9, rfl, hf, hs⟩
            have hsm := hs s (by simp)
            have hsa : s ∈ allS' u.procs := List.mem_flatMap.2 ⟨p, hpm, hsm⟩
            have hl := congrArg List.length hf
            simp only [List.flatMap_cons, List.length_append] at hl
            have z1 : fs.length ≤ sizeLine := line_small' (by omega)
            have z2 : fs.length + (stF u.S (mP PF) p.name p.many s).length ≤ sizeLine := line_small' (by omega)
            simp [law_of_statement_at s (hp.body s hsm) p u.S PF (hsome s hsa), z1, z2]
            exact .of ⟨_, _, rfl, by rw [← hf]; simp, fun x hx => hs x (by simp [hx])⟩
          · rintro e ⟨fs, x9, rfl, hf, hs⟩
            simp
            exact .of ⟨_, _, _, rfl, by simpa using hf, fun x hx => hn x (by simp [hx])⟩
        · rintro e ⟨fs, x8, x9, rfl, hf, hn⟩
          simp at hf
          subst hf
          have z1 : fs.length ≤ sizeLine := line_small' (by omega)
          simp [enumD_eq]
          refine wp_lcT (fun q : D × Nat => .tuple [.int (q.2 : Nat), q.1]) (dedP fs) (fun q => q.1) (line_small' (by simp; omega)) (fun q hq => ?_) ?_
          · obtain ⟨d, i⟩ := q
            have hd : d ∈ fs := by
              have := List.mem_zipIdx hq
              simp at this
              exact this.2 ▸ List.getElem_mem _
            have z4 : min i fs.length ≤ sizeLine := by omega
            simp [cutD_hi, notInS_flat d (fs.take i) (hfl d hd) (fun y hy => hfl y (List.mem_of_mem_take hy)), z4]
            simp [dedP]
          · have z5 : (List.filter (dedP fs) fs.zipIdx).length ≤ sizeLine := Nat.le_trans (List.length_filter_le _ _) (by simpa using z1)
            simp [outs, np__law_faults, dedD, z5]
    · simpa using hTe.symm
    · simp [Un.P]
    · intro q hq
      have := List.fst_mem_of_mem_zipIdx hq
      exact h.procs _ this
end K13

/-! ## K13l -/
set_option Elab.async false
set_option linter.all false
set_option maxRecDepth 100000
set_option maxHeartbeats 4000000
/-! K13l: whether a unit is one; its calls, sizes. -/
namespace K13
open PySem PySem.Spec L2 Pm
variable [TabCtx]
theorem dedD_mem (xs : List D) (d : D) (h : d ∈ dedD xs) : d ∈ xs := by
  simp only [dedD, List.mem_map, List.mem_filter] at h
  obtain ⟨⟨x, i⟩, ⟨h1, _⟩, rfl⟩ := h
  exact List.fst_mem_of_mem_zipIdx h1
theorem dedD_nil (xs : List D) : dedD xs = [] ↔ xs = [] := by
  constructor
  · intro h
    cases xs with
    | nil => rfl
    | cons x r => simp [dedD, dedP, List.zipIdx_cons] at h
  · rintro rfl
    rfl
theorem dedD_plain (u : Un) : PyData.plainAll (dedD u.allF) = true := (plainAll_iff _).2 fun d hd => (u.allF_flat d (dedD_mem _ d hd)).1
theorem dedD_len (xs : List D) : (dedD xs).length ≤ xs.length := by
  simp only [dedD, List.length_map]
  exact Nat.le_trans (List.length_filter_le _ _) (by simp)
theorem is_unit_at {Q : O → List O → Prop} (u : Un) (h : u.ok) : WpF m_is_unit [.f (.d u.enc)] Q ↔ Q (.f (.d (.bool (decide (u.allF = []))))) [.f (.d u.enc)] := by
  refine WpF.of (WpF.eq (wpf_body ?_))
  simp [s_is_unit, env0, is_shape_ok u h, faults_of_at u h, eqS_nil _ (dedD_plain u), dedD_nil, outs, np_is_unit]
theorem check_unit_ok {Q : O → List O → Prop} (u : Un) (h : u.ok) (hf : u.allF = []) : WpF m_check_unit [.f (.d u.enc)] Q ↔ Q (.f (.d .none)) [.f (.d u.enc)] := by
  refine WpF.of (WpF.eq (wpf_body ?_))
  simp [s_check_unit, env0, is_unit_at u h, hf, outs, np_check_unit]
theorem faults_at {Q : O → List O → Prop} (u : Un) (h : u.ok) : WpF m_faults [.f (.d u.enc)] Q ↔ Q (.f (.d (.tuple (dedD u.allF)))) [.f (.d u.enc)] := by
  refine WpF.of (WpF.eq (wpf_body ?_))
  have z : (dedD u.allF).length ≤ sizeLine := line_small' (by have := dedD_len u.allF; have := u.allF_len h; omega)
  simp [s_faults, env0, check_shape_ok u h, faults_of_at u h, z, outs, np_faults]
/-! ### calls -/
def stepQ (p : Str → Bool) (P : DI) (s : Sta) : DI := match s.call with
  | none => P
  | some (c, k) => if p c = true then pt P c k else P
def endQ (p : Str → Bool) (P : DI) (ss : List Sta) : DI := ss.foldl (stepQ p) P
def Un.C (u : Un) : DI := endL [] (allS' u.procs)
theorem DOk.stepQ {p : Str → Bool} {P : DI} (h : DOk P) {s : Sta} (hs : s.ok) : DOk (stepQ p P s) := by
  unfold K13.stepQ
  split
  · exact h
  · rename_i c k hc
    split
    · exact h.pt (hs.call _ hc).1 _
    · exact h
theorem allS_ok (u : Un) (h : u.ok) : ∀ s ∈ allS' u.procs, s.ok := by
  intro s hs
  simp only [allS', List.mem_flatMap] at hs
  obtain ⟨p, hp, hs⟩ := hs
  exact (h.procs p hp).body s hs
theorem DOk.endL {P : DI} (h : DOk P) {ss : List Sta} (hs : ∀ s ∈ ss, s.ok) : DOk (endL P ss) := by
  induction ss generalizing P with
  | nil => exact h
  | cons s ss ih => exact ih (h.stepL (hs s (by simp))) fun x hx => hs x (by simp [hx])
theorem DOk.endQ {p : Str → Bool} {P : DI} (h : DOk P) {ss : List Sta} (hs : ∀ s ∈ ss, s.ok) : DOk (endQ p P ss) := by
  induction ss generalizing P with
  | nil => exact h
  | cons s ss ih => exact ih (h.stepQ (hs s (by simp))) fun x hx => hs x (by simp [hx])
def keysI (P : DI) : List Str := P.map (·.1)
theorem keysF_dkI (P : DI) : keysF (dk P) = (keysI P).map .str := keysF_dk P
theorem strK_dkI (P : DI) : strK (dk P) = some (keysI P) := strK_dk P
theorem keysI_len (P : DI) (h : DOk P) : (keysI P).length ≤ 11 := by simpa [keysI] using h.len
theorem keys_step (p : Str → Bool) (P R : DI) (s : Sta) (h : keysI P = (keysI R).filter p) : keysI (stepQ p P s) = (keysI (stepL R s)).filter p := by
  unfold keysI at *
  cases hc : s.call with
  | none => simpa [stepQ, stepL, hc] using h
  | some q =>
    obtain ⟨c, k⟩ := q
    have hm : (gt R c).isSome = true ↔ c ∈ R.map (·.1) := gt_isSome R c
    by_cases hp : p c = true
    · have h1 : c ∈ P.map (·.1) ↔ c ∈ R.map (·.1) := by rw [h, List.mem_filter]; simp [hp]
      by_cases hg : (gt R c).isSome = true
      · simp only [stepQ, stepL, hc, hp, hg, if_true]
        rw [keys_pt, if_pos (h1.2 (hm.1 hg))]
        exact h
      · have hn : ¬ c ∈ R.map (·.1) := fun q => hg (hm.2 q)
        simp only [stepQ, stepL, hc, hp, if_true]
        rw [if_neg hg, keys_pt, keys_pt, if_neg fun q => hn (h1.1 q), if_neg hn, h, List.filter_append]
        simp [hp]
    · by_cases hg : (gt R c).isSome = true
      · simp only [stepQ, stepL, hc, hg, if_true]
        rw [if_neg hp]
        exact h
      · have hn : ¬ c ∈ R.map (·.1) := fun q => hg (hm.2 q)
        simp only [stepQ, stepL, hc]
        rw [if_neg hp, if_neg hg, keys_pt, if_neg hn, h, List.filter_append]
        simp [hp]
theorem keys_end (p : Str → Bool) (ss : List Sta) : ∀ (P R : DI), keysI P = (keysI R).filter p → keysI (endQ p P ss) = (keysI (endL R ss)).filter p := by
  induction ss with
  | nil => intro P R h; exact h
  | cons s ss ih => intro P R h; exact ih _ _ (keys_step p P R s h)
def qAll (p : Str → Bool) (P : DI) (ps : List Pr) : DI := ps.foldl (fun P p' => endQ p P p'.body.pre) P
theorem endQ_app (p : Str → Bool) (P : DI) (a b : List Sta) : endQ p P (a ++ b) = endQ p (endQ p P a) b := by simp [endQ]
theorem qAll_eq (p : Str → Bool) (ps : List Pr) : ∀ P, qAll p P ps = endQ p P (allS' ps) := by
  induction ps with
  | nil => intro P; rfl
  | cons q ps ih =>
    intro P
    have e : allS' (q :: ps) = q.body.pre ++ allS' ps := by simp [allS']
    rw [e, endQ_app, ← ih]
    rfl
theorem law_calls_at {Q : O → List O → Prop} (u : Un) (h : u.ok) : WpF m__law_calls [.f (.d u.enc)] Q ↔ Q (.f (.mk (dk u.C))) [.f (.d u.enc)] := by
  refine WpF.of (WpF.eq (wpf_body ?_))
  simp [s__law_calls, env0]
  refine wps_forT Pr.enc (fun r e => Hold (∃ (P : DI) (x2 x3 : Option O), e = [some (.f (.d u.enc)), some (.f (.mk (dk P))), x2, x3] ∧ DOk P ∧ calls1 P r = u.C ∧ ∀ q ∈ r, q.ok)) ?_ ?_ (.of ⟨[], _, _, rfl, DOk.nil, calls1_eq _ _, h.procs⟩)
  · rintro p r e ⟨P, x2, x3, rfl, hP, hm, hn⟩
    have hp := hn p (by simp)
    simp [law_statements_at p.body (show p.body.pre.length ≤ 10000 by have := hp.len; omega)]
    refine wps_forT Sta.enc (fun r2 e => Hold (∃ (P : DI) (x3 : Option O), e = [some (.f (.d u.enc)), some (.f (.mk (dk P))), some (.f (.d p.enc)), x3] ∧ DOk P ∧ calls1 (endL P r2) r = u.C ∧ ∀ q ∈ r2, q.ok)) ?_ ?_ (.of ⟨P, _, rfl, hP, hm, hp.body⟩)
    · rintro s r2 e ⟨P, x3, rfl, hP, hm, hs⟩
      have hso := hs s (by simp)
      have z3 := hP.line
      have hP2 := hP.stepL hso
      have hm' : calls1 (endL (stepL P s) r2) r = u.C := hm
      rcases s.call_or with ⟨c1, c2⟩ | ⟨c, xs, c1, c2, c3, c4⟩
      · simp at c2
        simp [c2]
        have e1 : stepL P s = P := by simp [stepL, c1]
        rw [e1] at hm'
        exact .of ⟨_, _, rfl, hP, hm', fun x hx => hs x (by simp [hx])⟩
      · simp at c2
        by_cases hg : (gt P c).isSome = true
        · have e1 : stepL P s = P := by simp [stepL, c1, hg]
          rw [e1] at hm'
          simp [c2, c3, hg]
          exact .of ⟨_, _, rfl, hP, hm', fun x hx => hs x (by simp [hx])⟩
        · have e1 : stepL P s = pt P c xs.length := by simp [stepL, c1, hg]
          rw [e1] at hm' hP2
          simp [c2, c3, c4, hg, z3]
          exact .of ⟨_, _, rfl, hP2, hm', fun x hx => hs x (by simp [hx])⟩
    · rintro e ⟨P, x3, rfl, hP, hm, hs⟩
      simp
      exact .of ⟨_, _, _, rfl, hP, hm, fun x hx => hn x (by simp [hx])⟩
  · rintro e ⟨P, x2, x3, rfl, hP, hm, hn⟩
    simp [calls1] at hm
    simp [hm, outs, np__law_calls]
theorem calls_of_at {Q : O → List O → Prop} (u : Un) (h : u.ok) (hf : u.allF = []) : WpF m_calls_of [.f (.d u.enc)] Q ↔ Q (.f (.d (.tuple ((sortS (keysI u.C)).map .str)))) [.f (.d u.enc)] := by
  refine WpF.of (WpF.eq (wpf_body ?_))
  simp [s_calls_of, env0, check_unit_ok u h hf]
  refine wps_forT Pr.enc (fun r e => Hold (∃ (P : DI) (x2 x3 : Option O), e = [some (.f (.d u.enc)), some (.f (.mk (dk P))), x2, x3] ∧ DOk P ∧ qAll (fun _ => true) P r = endQ (fun _ => true) [] (allS' u.procs) ∧ ∀ q ∈ r, q.ok)) ?_ ?_ (.of ⟨[], _, _, rfl, DOk.nil, qAll_eq _ _ _, h.procs⟩)
  · rintro p r e ⟨P, x2, x3, rfl, hP, hm, hn⟩
    have hp := hn p (by simp)
    simp [statements_at 12 p.body (show p.body.dep < 12 by have := hp.dep; omega) (show p.body.pre.length ≤ 10000 by have := hp.len; omega)]
    refine wps_forT Sta.enc (fun r2 e => Hold (∃ (P : DI) (x3 : Option O), e = [some (.f (.d u.enc)), some (.f (.mk (dk P))), some (.f (.d p.enc)), x3] ∧ DOk P ∧ qAll (fun _ => true) (endQ (fun _ => true) P r2) r = endQ (fun _ => true) [] (allS' u.procs) ∧ ∀ q ∈ r2, q.ok)) ?_ ?_ (.of ⟨P, _, rfl, hP, hm, hp.body⟩)
    · rintro s r2 e ⟨P, x3, rfl, hP, hm, hs⟩
      have hso := hs s (by simp)
      have z3 := hP.line
      have hP2 := hP.stepQ (p := fun _ => true) hso
      have hm' : qAll (fun _ => true) (endQ (fun _ => true) (stepQ (fun _ => true) P s) r2) r = _ := hm
      rcases s.call_or with ⟨c1, c2⟩ | ⟨c, xs, c1, c2, c3, c4⟩
      · simp at c2
        simp [c2]
        have e1 : stepQ (fun _ => true) P s = P := by simp [stepQ, c1]
        rw [e1] at hm'
        exact .of ⟨_, _, rfl, hP, hm', fun x hx => hs x (by simp [hx])⟩
      · simp at c2
        have e1 : stepQ (fun _ => true) P s = pt P c xs.length := by simp [stepQ, c1]
        rw [e1] at hm' hP2
        simp [c2, c3, c4, z3]
        exact .of ⟨_, _, rfl, hP2, hm', fun x hx => hs x (by simp [hx])⟩
    · rintro e ⟨P, x3, rfl, hP, hm, hs⟩
      simp
      exact .of ⟨_, _, _, rfl, hP, hm, fun x hx => hn x (by simp [hx])⟩
  · rintro e ⟨P, x2, x3, rfl, hP, hm, hn⟩
    simp [qAll] at hm
    have hk : keysI P = keysI u.C := by
      have := keys_end (fun _ => true) (allS' u.procs) [] [] rfl
      rw [hm, this]
      simp [Un.C]
    have hlen := keysI_len P hP
    rw [hk] at hlen
    have z1 : (keysI u.C).length < 64 := by omega
    have z2 : (keysI u.C).length ≤ sizeLine := line_small (by omega)
    have z3 : (sortS (keysI u.C)).length ≤ sizeLine := line_small (by simp [sortS]; omega)
    simp [-keysF_dk, keysF_dkI, hk, z1, z2, z3, outs, np_calls_of]
/-! ### outer calls -/
def Un.own (u : Un) : List Str := u.procs.map (·.name)
def Un.outp (u : Un) (c : Str) : Bool := !decide (c ∈ u.own)
/-- each call of a name has as many arguments -/
def Agr (u : Un) (P : DI) : Prop := ∀ c m, gt P c = some m → m = mP (endL u.P (allS' u.procs)) c 0
theorem right_calls (u : Un) (hf : u.allF = []) : ∀ s ∈ allS' u.procs, ∀ c k, s.call = some (c, k) → mP (endL u.P (allS' u.procs)) c 0 = k ∧ (gt (endL u.P (allS' u.procs)) c).isSome := by
  intro s hs c k hc
  have hPF : gt (endL u.P (allS' u.procs)) = endG (gt u.P) (allS' u.procs) := gt_endL _ _
  have hTe : goU u.S u.P u.procs = u.procs.flatMap fun p => p.body.pre.flatMap (stF u.S (mP (endL u.P (allS' u.procs))) p.name p.many) := goU_all u.S _ u.procs u.P hPF
  have h2 : goU u.S u.P u.procs = [] := by
    simp only [Un.allF, List.append_eq_nil_iff] at hf
    exact hf.2.2
  rw [h2] at hTe
  have hTe := hTe.symm
  simp only [allS', List.mem_flatMap] at hs
  obtain ⟨p, hp, hs⟩ := hs
  rw [List.flatMap_eq_nil_iff] at hTe
  have h3 := hTe p hp
  rw [List.flatMap_eq_nil_iff] at h3
  have h4 := h3 s hs
  simp only [stF, List.append_eq_nil_iff] at h4
  have h5 := h4.2.2
  have hso : (gt (endL u.P (allS' u.procs)) c).isSome := by
    rw [hPF]
    obtain ⟨a, b, hab⟩ := List.append_of_mem (List.mem_flatMap.2 ⟨p, hp, hs⟩ : s ∈ allS' u.procs)
    have hab : allS' u.procs = a ++ s :: b := hab
    rw [hab]
    have e : endG (gt u.P) (a ++ s :: b) = endG (stepG (endG (gt u.P) a) s) b := by simp [endG]
    rw [e]
    have e2 : stepG (endG (gt u.P) a) s c = some ((endG (gt u.P) a c).getD k) := by simp [stepG, hc]
    rw [endG_keep b _ c _ e2]
    rfl
  refine ⟨?_, hso⟩
  obtain ⟨m, hm⟩ := Option.isSome_iff_exists.mp hso
  simp only [aF, hc] at h5
  split at h5
  · rename_i h6
    simp only [mP, hm, Option.getD_some] at h6 ⊢
    exact h6
  · cases h5
theorem Agr.put {u : Un} {P : DI} (h : Agr u P) {c : Str} {k : Nat} (hk : mP (endL u.P (allS' u.procs)) c 0 = k) : Agr u (pt P c k) := by
  intro t m hm
  rw [gt_pt] at hm
  split at hm
  · rename_i e
    subst e
    cases hm
    exact hk.symm
  · exact h t m hm
theorem Agr.endL {u : Un} (hf : u.allF = []) : ∀ (ss : List Sta) (P : DI), (∀ s ∈ ss, s ∈ allS' u.procs) → Agr u P → Agr u (endL P ss)
  | [], P, _, h => h
  | s :: ss, P, hs, h => by
    refine Agr.endL hf ss (stepL P s) (fun x hx => hs x (by simp [hx])) ?_
    unfold stepL
    split
    · exact h
    · rename_i c k hc
      split
      · exact h
      · exact h.put (right_calls u hf s (hs s (by simp)) c k hc).1
theorem Agr.endQ {u : Un} (hf : u.allF = []) (p : Str → Bool) : ∀ (ss : List Sta) (P : DI), (∀ s ∈ ss, s ∈ allS' u.procs) → Agr u P → Agr u (endQ p P ss)
  | [], P, _, h => h
  | s :: ss, P, hs, h => by
    refine Agr.endQ hf p ss (stepQ p P s) (fun x hx => hs x (by simp [hx])) ?_
    unfold stepQ
    split
    · exact h
    · rename_i c k hc
      split
      · exact h.put (right_calls u hf s (hs s (by simp)) c k hc).1
      · exact h
theorem Agr.nil (u : Un) : Agr u [] := by
  intro c m h
  simp [gt] at h
/-- the outer calls -/
def Un.outs (u : Un) : DI := ((sortS (keysI u.C)).filter u.outp).map fun c => (c, mP (endL u.P (allS' u.procs)) c 0)
theorem sort_filter (p : Str → Bool) (l : List Str) : sortS (l.filter p) = (sortS l).filter p := by
  have h1 : ((sortS l).filter p).Perm (l.filter p) := (List.mergeSort_perm l leS1).filter p
  have h2 : ((sortS l).filter p).Pairwise (fun a b => leS1 a b = true) := (List.pairwise_mergeSort leS1_trans leS1_total l).filter p
  exact (List.Perm.eq_of_pairwise (fun a b _ _ => leS1_anti a b) h2 (List.pairwise_mergeSort leS1_trans leS1_total (l.filter p)) (h1.trans (List.mergeSort_perm (l.filter p) leS1).symm)).symm
theorem outer_calls_at {Q : O → List O → Prop} (u : Un) (h : u.ok) (hf : u.allF = []) : WpF m_outer_calls [.f (.d u.enc)] Q ↔ Q (.f (.d (.tuple (u.outs.map nE)))) [.f (.d u.enc)] := by
  refine WpF.of (WpF.eq (wpf_body ?_))
  have hnp := h.nprocs
  simp [s_outer_calls, env0, check_unit_ok u h hf]
  refine wp_lcA Pr.enc (fun p => .str p.name) (line_small (by omega)) (fun p hp => ?_) ?_
  · simp
  · have how : u.procs.map (fun p => (.str p.name : D)) = u.own.map .str := by simp [Un.own]
    simp
    rw [how]
    refine wps_forT Pr.enc (fun r e => Hold (∃ (P : DI) (x3 x4 : Option O), e = [some (.f (.d u.enc)), some (.f (.l (u.own.map .str))), some (.f (.mk (dk P))), x3, x4, none] ∧ DOk P ∧ qAll u.outp P r = endQ u.outp [] (allS' u.procs) ∧ ∀ q ∈ r, q.ok)) ?_ ?_ (.of ⟨[], _, _, rfl, DOk.nil, qAll_eq _ _ _, h.procs⟩)
    · rintro p r e ⟨P, x3, x4, rfl, hP, hm, hn⟩
      have hp := hn p (by simp)
      simp [statements_at 12 p.body (show p.body.dep < 12 by have := hp.dep; omega) (show p.body.pre.length ≤ 10000 by have := hp.len; omega)]
      refine wps_forT Sta.enc (fun r2 e => Hold (∃ (P : DI) (x4 : Option O), e = [some (.f (.d u.enc)), some (.f (.l (u.own.map .str))), some (.f (.mk (dk P))), some (.f (.d p.enc)), x4, none] ∧ DOk P ∧ qAll u.outp (endQ u.outp P r2) r = endQ u.outp [] (allS' u.procs) ∧ ∀ q ∈ r2, q.ok)) ?_ ?_ (.of ⟨P, _, rfl, hP, hm, hp.body⟩)
      · rintro s r2 e ⟨P, x4, rfl, hP, hm, hs⟩
        have hso := hs s (by simp)
        have z3 := hP.line
        have hP2 := hP.stepQ (p := u.outp) hso
        have hm' : qAll u.outp (endQ u.outp (stepQ u.outp P s) r2) r = _ := hm
        rcases s.call_or with ⟨c1, c2⟩ | ⟨c, xs, c1, c2, c3, c4⟩
        · simp at c2
          simp [c2]
          have e1 : stepQ u.outp P s = P := by simp [stepQ, c1]
          rw [e1] at hm'
          exact .of ⟨_, _, rfl, hP, hm', fun x hx => hs x (by simp [hx])⟩
        · simp at c2
          by_cases ho : c ∈ u.own
          · have e1 : stepQ u.outp P s = P := by simp [stepQ, c1, Un.outp, ho]
            rw [e1] at hm'
            simp [c2, c3, notInS_strs, ho]
            exact .of ⟨_, _, rfl, hP, hm', fun x hx => hs x (by simp [hx])⟩
          · have e1 : stepQ u.outp P s = pt P c xs.length := by simp [stepQ, c1, Un.outp, ho]
            rw [e1] at hm' hP2
            simp [c2, c3, c4, notInS_strs, ho, z3]
            exact .of ⟨_, _, rfl, hP2, hm', fun x hx => hs x (by simp [hx])⟩
      · rintro e ⟨P, x4, rfl, hP, hm, hs⟩
        simp
        exact .of ⟨_, _, _, rfl, hP, hm, fun x hx => hn x (by simp [hx])⟩
    · rintro e ⟨P, x3, x4, rfl, hP, hm, hn⟩
      simp [qAll] at hm
      have hk : keysI P = (keysI u.C).filter u.outp := by
        have := keys_end u.outp (allS' u.procs) [] [] rfl
        rw [hm, this]
        simp [Un.C]
      have hA : Agr u P := by
        rw [hm]
        exact Agr.endQ hf _ _ _ (fun _ h => h) (Agr.nil u)
      have hlen := keysI_len P hP
      have z1 : (keysI P).length < 64 := by omega
      have z2 : (keysI P).length ≤ sizeLine := line_small (by omega)
      have z3 : (sortS (keysI P)).length ≤ sizeLine := line_small (by simp [sortS]; omega)
      simp [-keysF_dk, keysF_dkI, z1, z2, z3]
      refine wp_lcA (fun c : Str => .str c) (fun c => nE (c, mP (endL u.P (allS' u.procs)) c 0)) z3 (fun c hc => ?_) ?_
      · have hc2 : c ∈ keysI P := by
          unfold sortS at hc
          simpa using hc
        have hg : (gt P c).isSome = true := (gt_isSome P c).2 hc2
        obtain ⟨m, hm2⟩ := Option.isSome_iff_exists.mp hg
        have := hA c m hm2
        simp [hm2, nE, this]
      · have e1 : (sortS (keysI P)).map (fun c => nE (c, mP (endL u.P (allS' u.procs)) c 0)) = u.outs.map nE := by
          rw [hk, sort_filter]
          simp [Un.outs, Function.comp_def]
        rw [e1]
        have z4 : u.outs.length ≤ sizeLine := by
          have := congrArg List.length e1
          simp only [List.length_map] at this
          rw [← this]
          exact z3
        simp [z4, outs, np_outer_calls]
end K13

/-! ## K13m -/
set_option Elab.async false
set_option linter.all false
set_option maxRecDepth 100000
set_option maxHeartbeats 4000000
/-! K13m: the law's look at a unit. -/
namespace K13
open PySem PySem.Spec L2 Pm
variable [TabCtx]
theorem known_cells_at {Q : O → List O → Prop} (u : Un) (h : u.ok) (hf : u.allF = []) : WpF m_known_cells [.f (.d u.enc)] Q ↔ Q (.f (.d (.tuple (u.known.map nE)))) [.f (.d u.enc)] := by
  refine WpF.of (WpF.eq (wpf_body ?_))
  have h1 := h.ncells
  have h2 := h.nneeds
  have z1 : u.cells.length + u.needs.length ≤ sizeLine := line_small (by omega)
  have z2 : u.needs.length ≤ sizeLine := line_small (by omega)
  simp [s_known_cells, env0, check_unit_ok u h hf]
  refine wp_lcA cE (fun c => nE (cl c)) (line_small (by omega)) (fun c hc => ?_) ?_
  · simp [cE, nE, cl]
  · simp [z1, z2, outs, np_known_cells, Un.known]
/-- all terms with all within them -/
def szE (s : Sta) : Nat := (preT s.terms).length
def szA (ss : List Sta) : Nat := (ss.map szE).sum
theorem sum_lens (ts : List Term) : (ts.map fun t => ((t.pre.length : Nat) : Int)).sum = ((preT ts).length : Int) := by
  induction ts with
  | nil => rfl
  | cons t ts ih => simp only [List.map_cons, List.sum_cons, ih]; simp [preT]
theorem sumS_lens (ts : List Term) : sumS [.list (ts.map fun t => (.int ((t.pre.length : Nat) : Int) : D))] = some (.int ((preT ts).length : Nat)) := by
  rw [sumS_map fun t : Term => ((t.pre.length : Nat) : Int), sum_lens]
theorem size_of_unit_at {Q : O → List O → Prop} (u : Un) (h : u.ok) (hf : u.allF = []) : WpF m_size_of_unit [.f (.d u.enc)] Q ↔ Q (.f (.d (.tuple [.int (u.procs.length : Nat), .int ((allS' u.procs).length : Nat), .int (szA (allS' u.procs) : Nat)]))) [.f (.d u.enc)] := by
  refine WpF.of (WpF.eq (wpf_body ?_))
  simp [s_size_of_unit, env0, check_unit_ok u h hf]
  refine wps_forT Pr.enc (fun r e => Hold (∃ (a b : Nat) (A B : Int) (x3 x4 : Option O), A = a ∧ B = b ∧ e = [some (.f (.d u.enc)), some (.f (.d (.int A))), some (.f (.d (.int B))), x3, x4, none] ∧ a + (allS' r).length = (allS' u.procs).length ∧ b + szA (allS' r) = szA (allS' u.procs) ∧ ∀ q ∈ r, q.ok)) ?_ ?_ (.of ⟨0, 0, _, _, _, _, rfl, rfl, rfl, by simp, by simp, h.procs⟩)
  · rintro p r e ⟨a, b, A, B, x3, x4, rfl, rfl, rfl, ha, hb, hn⟩
    have hp := hn p (by simp)
    have e1 : allS' (p :: r) = p.body.pre ++ allS' r := by simp [allS']
    rw [e1] at ha hb
    simp [statements_at 12 p.body (show p.body.dep < 12 by have := hp.dep; omega) (show p.body.pre.length ≤ 10000 by have := hp.len; omega)]
    refine wps_forT Sta.enc (fun r2 e => Hold (∃ (a b : Nat) (A B : Int) (x4 : Option O), A = a ∧ B = b ∧ e = [some (.f (.d u.enc)), some (.f (.d (.int A))), some (.f (.d (.int B))), some (.f (.d p.enc)), x4, none] ∧ a + (r2.length + (allS' r).length) = (allS' u.procs).length ∧ b + (szA r2 + szA (allS' r)) = szA (allS' u.procs) ∧ ∀ q ∈ r2, q.ok)) ?_ ?_ (.of ⟨a, b, _, _, _, rfl, rfl, rfl, by simpa using ha, by simpa [szA] using hb, hp.body⟩)
    · rintro s r2 e ⟨a, b, A, B, x4, rfl, rfl, rfl, ha, hb, hs⟩
      have hso := hs s (by simp)
      have ht3 := s.terms_len hso
      simp [terms_at s (show s.terms.length ≤ 100 by omega)]
      refine wp_lcA Term.enc (fun t => .int ((t.pre.length : Nat) : Int)) (line_small (by omega)) (fun t ht => ?_) ?_
      · simp [inner_at t (hso.terms t ht)]
      · simp [sumS_lens]
        refine .of ⟨a + 1, b + szE s, _, _, _, by simp, by simp [szE], rfl, ?_, ?_, fun x hx => hs x (by simp [hx])⟩
        · simp at ha
          omega
        · simp [szA] at hb ⊢
          omega
    · rintro e ⟨a, b, A, B, x4, rfl, rfl, rfl, ha, hb, hs⟩
      simp
      exact .of ⟨a, b, _, _, _, _, rfl, rfl, rfl, by simpa using ha, by simpa [szA] using hb, fun x hx => hn x (by simp [hx])⟩
  · rintro e ⟨a, b, A, B, x3, x4, rfl, rfl, rfl, ha, hb, hn⟩
    simp [allS'] at ha
    simp [szA, allS'] at hb
    simp [outs, np_size_of_unit, allS', szA, ha, hb]
/-! ### the same data -/
@[simp] theorem isNoneD_bool (i : Bool) : isNoneD (.bool i) = false := rfl
theorem zipD_self (ds : List D) : zipD ds ds = ds.map fun x => .tuple [x, x] := by
  unfold zipD
  induction ds with
  | nil => rfl
  | cons d ds ih => simpa using ih
theorem law_is_at : ∀ (n : Nat) (d : D) {Q : O → List O → Prop}, IsOk n d → (WpF (m__law_is n) [.f (.d d), .f (.d d)] Q ↔ Q (.f (.d (.bool true))) [.f (.d d), .f (.d d)])
  | 0, d, Q, h => h.elim
  | n + 1, d, Q, h => by
    refine WpF.of (WpF.eq ?_)
    rw [m__law_is]
    refine wpf_body ?_
    cases d with
    | none => simp [env0, outs, np__law_is]
    | bool b => simp [env0, outs, np__law_is]
    | int b => simp [env0, outs, np__law_is]
    | str b => simp [env0, outs, np__law_is]
    | tuple ds =>
      obtain ⟨h1, h2⟩ := h
      simp [env0]
      rw [zipD_self]
      refine wp_lcA (fun x => .tuple [x, x]) (fun _ => .bool true) h1 (fun x hx => ?_) ?_
      · simp [law_is_at n x (h2 x hx)]
      · simp [outs, np__law_is]
    | list ds =>
      obtain ⟨h1, h2⟩ := h
      simp [env0]
      rw [zipD_self]
      refine wp_lcA (fun x => .tuple [x, x]) (fun _ => .bool true) h1 (fun x hx => ?_) ?_
      · simp [law_is_at n x (h2 x hx)]
      · simp [outs, np__law_is]
    | dict ds => exact h.elim
theorem IsOk.up : ∀ {n : Nat} {d : D}, IsOk n d → IsOk (n + 1) d
  | 0, d, h => h.elim
  | n + 1, d, h => by
    cases d with
    | tuple ds => exact ⟨h.1, fun x hx => IsOk.up (h.2 x hx)⟩
    | list ds => exact ⟨h.1, fun x hx => IsOk.up (h.2 x hx)⟩
    | dict ds => exact h.elim
    | _ => trivial
theorem isok_due (u : Un) (h : u.ok) : IsOk 3 (.tuple (dedD u.allF)) := ⟨line_small' (by have := dedD_len u.allF; have := u.allF_len h; omega), fun x hx => (u.allF_flat x (dedD_mem _ x hx)).2.2⟩
theorem isok_nE (c : Str × Nat) : IsOk 2 (nE c) := by simp [nE, IsOk]
theorem law_is_right_at {Q : O → List O → Prop} (u : Un) (h : u.ok) : WpF m__law_is_right [.f (.d u.enc)] Q ↔ Q (.f (.d (.bool true))) [.f (.d u.enc)] := by
  refine WpF.of (WpF.eq (wpf_body ?_))
  have hnp := h.nprocs
  have hdue := isok_due u h
  have h1 : IsOk 12 (.list [.bool true, .tuple (dedD u.allF), .bool (decide (u.allF = []))]) := by
    refine ⟨line_small (by simp), fun x hx => ?_⟩
    simp at hx
    rcases hx with rfl | rfl | rfl
    · trivial
    · exact hdue.up.up.up.up.up.up.up.up
    · trivial
  simp [s__law_is_right, env0, law_faults_at u h, law_calls_at u h, is_shape_ok u h, faults_at u h, is_unit_at u h, dedD_nil]
  rw [law_is_at 12 _ h1]
  simp
  refine wp_lcA Pr.enc (fun p => .str p.name) (line_small (by omega)) (fun p hp => ?_) ?_
  · simp
  · by_cases hf : u.allF = []
    · have how : u.procs.map (fun p => (.str p.name : D)) = u.own.map .str := by simp [Un.own]
      have hP : DOk u.C := DOk.endL DOk.nil (allS_ok u h)
      have hA : Agr u u.C := Agr.endL hf _ _ (fun _ h => h) (Agr.nil u)
      have hlen := keysI_len u.C hP
      have z1 : (keysI u.C).length < 64 := by omega
      have z2 : (keysI u.C).length ≤ sizeLine := line_small (by omega)
      have z3 : (sortS (keysI u.C)).length ≤ sizeLine := line_small (by simp [sortS]; omega)
      have hd0 : dedD u.allF = [] := (dedD_nil _).2 hf
      rw [how]
      simp [hd0, -strK_dk, strK_dkI, z1, z3]
      refine wp_lcT (fun c : Str => .str c) u.outp (fun c => nE (c, mP (endL u.P (allS' u.procs)) c 0)) z3 (fun c hc => ?_) ?_
      · have hc2 : c ∈ keysI u.C := by
          unfold sortS at hc
          simpa using hc
        have hg : (gt u.C c).isSome = true := (gt_isSome u.C c).2 hc2
        obtain ⟨m, hm2⟩ := Option.isSome_iff_exists.mp hg
        have hm3 := hA c m hm2
        by_cases ho : c ∈ u.own
        · simp [notInS_strs, ho, Un.outp]
        · simp [notInS_strs, ho, Un.outp, hm2, nE, hm3]
      · have e1 : ((sortS (keysI u.C)).filter u.outp).map (fun c => nE (c, mP (endL u.P (allS' u.procs)) c 0)) = u.outs.map nE := by
          simp [Un.outs, Function.comp_def]
        have z4 : u.outs.length ≤ sizeLine := by
          simp only [Un.outs, List.length_map]
          exact Nat.le_trans (List.length_filter_le _ _) z3
        have z5 : u.known.length ≤ sizeLine := line_small (by have := h.ncells; have := h.nneeds; simp [Un.known]; omega)
        have h2 : IsOk 12 (.list [.tuple ((sortS (keysI u.C)).map .str), .tuple (u.outs.map nE), .tuple (u.known.map nE)]) := by
          refine ⟨line_small (by simp), fun x hx => ?_⟩
          simp at hx
          rcases hx with rfl | rfl | rfl
          · refine ⟨by simpa using z3, fun y hy => ?_⟩
            simp at hy
            obtain ⟨c, _, rfl⟩ := hy
            trivial
          · refine ⟨by simpa using z4, fun y hy => ?_⟩
            simp only [List.mem_map] at hy
            obtain ⟨c, _, rfl⟩ := hy
            exact (isok_nE c).up.up.up.up.up.up.up.up
          · refine ⟨by simpa using z5, fun y hy => ?_⟩
            simp only [List.mem_map] at hy
            obtain ⟨c, _, rfl⟩ := hy
            exact (isok_nE c).up.up.up.up.up.up.up.up
        rw [e1]
        simp [z4, calls_of_at u h hf, outer_calls_at u h hf, known_cells_at u h hf, -strK_dk, strK_dkI, z1, z3, law_known_at u h, z5]
        rw [law_is_at 12 _ h2]
        simp
        refine wps_forT Pr.enc (fun r e => Hold (∃ (a b : Nat) (A B : Int) (x4 x5 x6 x7 x10 : Option O), A = a ∧ B = b ∧ e = [some (.f (.d u.enc)), some (.f (.d (.tuple []))), some (.f (.mk (dk u.C))), some (.f (.l (u.own.map .str))), x4, x5, x6, x7, some (.f (.d (.int A))), some (.f (.d (.int B))), x10, none] ∧ a + (allS' r).length = (allS' u.procs).length ∧ b + szA (allS' r) = szA (allS' u.procs) ∧ ∀ q ∈ r, q.ok)) ?_ ?_ (.of ⟨0, 0, _, _, _, _, _, _, _, rfl, rfl, rfl, by simp, by simp, h.procs⟩)
        · rintro p r e ⟨a, b, A, B, x4, x5, x6, x7, x10, rfl, rfl, rfl, ha, hb, hn⟩
          have hp := hn p (by simp)
          have e1 : allS' (p :: r) = p.body.pre ++ allS' r := by simp [allS']
          rw [e1] at ha hb
          simp [law_statements_at p.body (show p.body.pre.length ≤ 10000 by have := hp.len; omega)]
          refine wps_forT Sta.enc (fun r2 e => Hold (∃ (a b : Nat) (A B : Int) (x10 : Option O), A = a ∧ B = b ∧ e = [some (.f (.d u.enc)), some (.f (.d (.tuple []))), some (.f (.mk (dk u.C))), some (.f (.l (u.own.map .str))), some (.f (.d p.enc)), x5, x6, x7, some (.f (.d (.int A))), some (.f (.d (.int B))), x10, none] ∧ a + (r2.length + (allS' r).length) = (allS' u.procs).length ∧ b + (szA r2 + szA (allS' r)) = szA (allS' u.procs) ∧ ∀ q ∈ r2, q.ok)) ?_ ?_ (.of ⟨a, b, _, _, _, rfl, rfl, rfl, by simpa using ha, by simpa [szA] using hb, hp.body⟩)
          · rintro s r2 e ⟨a, b, A, B, x10, rfl, rfl, rfl, ha, hb, hs⟩
            have hso := hs s (by simp)
            have ht3 := s.terms_len hso
            simp [law_terms_at s (show s.terms.length ≤ 100 by omega)]
            refine wp_lcA Term.enc (fun t => .int ((t.pre.length : Nat) : Int)) (line_small (by omega)) (fun t ht => ?_) ?_
            · simp [law_parts_at t (hso.terms t ht)]
            · simp [sumS_lens]
              refine .of ⟨a + 1, b + szE s, _, _, _, by simp, by simp [szE], rfl, ?_, ?_, fun x hx => hs x (by simp [hx])⟩
              · simp at ha
                omega
              · simp [szA] at hb ⊢
                omega
          · rintro e ⟨a, b, A, B, x10, rfl, rfl, rfl, ha, hb, hs⟩
            simp
            exact .of ⟨a, b, _, _, _, _, _, _, _, rfl, rfl, rfl, by simpa using ha, by simpa [szA] using hb, fun x hx => hn x (by simp [hx])⟩
        · rintro e ⟨a, b, A, B, x4, x5, x6, x7, x10, rfl, rfl, rfl, ha, hb, hn⟩
          have ha' : a = (allS' u.procs).length := by simpa [allS'] using ha
          have hb' : b = szA (allS' u.procs) := by simpa [szA, allS'] using hb
          subst ha' hb'
          have howl : u.own.length = u.procs.length := by simp [Un.own]
          have h3 : IsOk 12 (.tuple [.int (u.procs.length : Nat), .int ((allS' u.procs).length : Nat), .int (szA (allS' u.procs) : Nat)]) := by simp [IsOk]
          simp [size_of_unit_at u h hf, howl]
          rw [law_is_at 12 _ h3]
          simp [outs, np__law_is_right]
    · have hd0 : dedD u.allF ≠ [] := fun q => hf ((dedD_nil _).1 q)
      have hpos : 0 < (dedD u.allF).length := List.length_pos_iff.2 hd0
      have hpos' : (0 : Int) < (dedD u.allF).length := by omega
      simp [hpos', hpos, hd0, outs, np__law_is_right]
end K13

/-! ## K13n -/
set_option Elab.async false
set_option linter.all false
set_option maxRecDepth 100000
set_option maxHeartbeats 4000000
/-! K13n: what is drawn: numbers, items, terms. -/
namespace K13
open PySem PySem.Spec L2 Pm
variable [TabCtx]
structure Hand where
  cs : List Int
  a : Nat
  b : Int
  c : Int
  d : Int
def Hand.o (h : Hand) : O := .f (.l [.list (h.cs.map .int), .int (h.a : Nat), .int h.b, .int h.c, .int h.d])
@[simp] theorem intS_int (i : Int) : intS [.int i] = some (.int i) := rfl
theorem mulS_R (i j : Int) (h : smallI j = true) : mulS (.int i) (.int j) = some (.int (i * j)) := if_pos (by simp [h])
theorem mulS_L (i j : Int) (h : smallI i = true) : mulS (.int i) (.int j) = some (.int (i * j)) := if_pos (by simp [h])
@[simp] theorem modS_if (i j : Int) : modS (.int i) (.int j) = if 0 < j then some (.int (i % j)) else none := rfl
@[simp] theorem fdivS_if (i j : Int) : fdivS (.int i) (.int j) = if 0 < j ∧ j < 1073741824 then some (.int (i / j)) else none := rfl
theorem atI_nat {α : Type} (xs : List α) (n : Nat) (h : n < xs.length) : atI xs (n : Int) = some xs[n] := by
  have h1 : (n : Int) < xs.length := by omega
  simp [atI, ixN, h1, h]
@[simp] theorem setF_1 (a b c d e x : D) : setF [a, b, c, d, e] [x, .int 1] = some (.none, [a, x, c, d, e]) := rfl
@[simp] theorem setF_2 (a b c d e x : D) : setF [a, b, c, d, e] [x, .int 2] = some (.none, [a, b, x, d, e]) := rfl
@[simp] theorem setF_3 (a b c d e x : D) : setF [a, b, c, d, e] [x, .int 3] = some (.none, [a, b, c, x, e]) := rfl
@[simp] theorem setF_4 (a b c d e x : D) : setF [a, b, c, d, e] [x, .int 4] = some (.none, [a, b, c, d, x]) := rfl
theorem pow18 : powS (.int 10) (.int 18) = some (.int 1000000000000000000) := by
  have h : smallE 10 18 = true := by decide
  exact (if_pos h : (if smallE 10 18 = true then some (PyData.int ((10 : Int) ^ (18 : Int).toNat)) else none) = some (PyData.int ((10 : Int) ^ (18 : Int).toNat)))
noncomputable def s_draw1 : MS := (iteS (andT (tst (op2 eqS (hasS 0 (op2p getS 0 (cst (.int 2)))) (cst (.int 0)))) (tst (op2 ltS (hasS 0 (op2p getS 0 (cst (.int 1)))) (call1 lenS (hasS 0 (op2p getS 0 (cst (.int 0)))))))) (seqS (setS 2 (op2 getS (hasS 0 (op2p getS 0 (cst (.int 0)))) (hasS 0 (op2p getS 0 (cst (.int 1))))))
  (seqS (setIx 0 (addA (hasS 0 (op2p getS 0 (cst (.int 1)))) (cst (.int 1))) (cst (.int 1)))
  (seqS (setIx 0 (op2 modS (call1 intS (addA (addA (op2 mulS (hasS 0 (op2p getS 0 (cst (.int 3)))) (cst (.int 69621))) (op2 mulS (varD 2) (cst (.int 40692)))) (cst (.int 23)))) (cst (.int 2147483629))) (cst (.int 3)))
  (iteS (tst (op2 geS (varD 2) (op2 powS (cst (.int 10)) (cst (.int 18))))) (setIx 0 (varD 2) (cst (.int 2))) nxt)))) nxt)
noncomputable def s_draw2 : MS := (seqS (iteS (tst (op2 gtS (hasS 0 (op2p getS 0 (cst (.int 2)))) (cst (.int 0)))) (seqS (setS 3 (op2 modS (call1 intS (hasS 0 (op2p getS 0 (cst (.int 2))))) (varD 1)))
  (seqS (setIx 0 (op2 fdivS (hasS 0 (op2p getS 0 (cst (.int 2)))) (varD 1)) (cst (.int 2)))
  (retD (varD 3)))) nxt)
  (seqS (setIx 0 (addA (hasS 0 (op2p getS 0 (cst (.int 4)))) (cst (.int 1))) (cst (.int 4)))
  (seqS (setS 4 (op2 modS (call1 intS (op2 mulS (call1 intS (addA (hasS 0 (op2p getS 0 (cst (.int 3)))) (op2 mulS (cst (.int 7919)) (hasS 0 (op2p getS 0 (cst (.int 4))))))) (cst (.int 48271)))) (cst (.int 2147483647))))
  (seqS (setS 4 (op2 modS (call1 intS (op2 mulS (varD 4) (addA (op2 fdivS (varD 4) (cst (.int 1009))) (cst (.int 69621))))) (cst (.int 2147483647))))
  (seqS (setS 4 (op2 modS (call1 intS (op2 mulS (varD 4) (addA (op2 fdivS (varD 4) (cst (.int 2003))) (cst (.int 40014))))) (cst (.int 2147483563))))
  (retD (op2 modS (call1 intS (op2 fdivS (varD 4) (cst (.int 16)))) (varD 1))))))))
theorem s_draw_eq : s__law_draw = seqS s_draw1 s_draw2 := rfl
theorem draw_at {Q : O → List O → Prop} (h : Hand) (many : Nat) (h0 : 0 < many) (h1 : many < 1000) (q : ∀ (h' : Hand) (v : Nat), v < many → Q (.f (.d (.int (v : Nat)))) [h'.o, .f (.d (.int many))]) : WpF m__law_draw [h.o, .f (.d (.int many))] Q := by
  have hm0 : (0 : Int) < many := by omega
  have hm1 : (many : Int) < 1073741824 := by omega
  have fin : ∀ (x : Int) (h' : Hand), Q (.f (.d (.int (x % many)))) [h'.o, .f (.d (.int many))] := by
    intro x h'
    have g1 := Int.emod_nonneg x (show (many : Int) ≠ 0 by omega)
    have g2 := Int.emod_lt_of_pos x hm0
    have := q h' (x % many).toNat (by omega)
    rwa [Int.toNat_of_nonneg g1] at this
  have small : ∀ x m : Int, 0 < m → m < 2 ^ 40 → smallI (x % m) = true := by
    intro x m g0 g1
    have g2 := Int.emod_nonneg x (show m ≠ 0 by omega)
    have g3 := Int.emod_lt_of_pos x g0
    unfold smallI
    rw [Bool.and_eq_true, decide_eq_true_eq, decide_eq_true_eq]
    omega
  have s1 : smallI 69621 = true := by decide
  have s2 : smallI 40692 = true := by decide
  have s3 : smallI 7919 = true := by decide
  have s4 : smallI 48271 = true := by decide
  obtain ⟨cs, a, b, c, d⟩ := h
  have last : ∀ (a0 : Nat) (b0 c0 d0 : Int) (a : Nat) (b c d : Int) (x2 : Option O), WpS s_draw2 [some (Hand.o ⟨cs, a, b, c, d⟩), some (.f (.d (.int many))), x2, none, none] (fun r => outQ np__law_draw [.f (.l [.list (cs.map .int), .int (a0 : Nat), .int b0, .int c0, .int d0]), .f (.d (.int many))] Q r) := by
    intro a0 b0 c0 d0 a b c d x2
    by_cases hb : 0 < b
    · simp [s_draw2, Hand.o, hb, h0, hm1, outs, np__law_draw]
      exact fin _ ⟨cs, a, b / many, c, d⟩
    · simp [s_draw2, Hand.o, hb]
      rw [mulS_L _ _ s3]
      simp
      rw [mulS_R _ _ s4]
      simp
      rw [mulS_L _ _ (small _ _ (by decide) (by decide))]
      simp
      rw [mulS_L _ _ (small _ _ (by decide) (by decide))]
      simp [h0, outs, np__law_draw]
      exact fin _ ⟨cs, a, b, c, d + 1⟩
  refine wpf_body ?_
  rw [s_draw_eq]
  by_cases hc : b = 0 ∧ a < cs.length
  · obtain ⟨rfl, ha⟩ := hc
    have hat : atI (cs.map fun x => (.int x : D)) (a : Int) = some (.int cs[a]) := by
      rw [atI_nat _ _ (by simpa using ha)]
      simp
    have hat : getS (.list (cs.map .int)) (.int (a : Int)) = some (.int cs[a]) := hat
    have ha' : (a : Int) < cs.length := by omega
    simp [s_draw1, env0, Hand.o, ha', ha, hat, pow18]
    rw [mulS_R _ _ s1]
    simp
    rw [mulS_R _ _ s2]
    simp
    by_cases hg : (1000000000000000000 : Int) ≤ cs[a]
    · simp [hg, pow18]
      exact last _ _ _ _ (a + 1) cs[a] ((c * 69621 + cs[a] * 40692 + 23) % 2147483629) d (some (.f (.d (.int cs[a]))))
    · simp [hg, pow18]
      exact last _ _ _ _ (a + 1) 0 ((c * 69621 + cs[a] * 40692 + 23) % 2147483629) d (some (.f (.d (.int cs[a]))))
  · by_cases hb : b = 0
    · have ha : ¬ (a : Int) < cs.length := by
        intro q
        exact hc ⟨hb, by omega⟩
      simp [s_draw1, env0, Hand.o, hb, ha]
      subst hb
      exact last _ _ _ _ a 0 c d none
    · simp [s_draw1, env0, Hand.o, hb]
      exact last _ _ _ _ a b c d none
theorem any_at {Q : O → List O → Prop} (h : Hand) (l : List D) (h0 : l ≠ []) (h1 : l.length < 1000) (q : ∀ (h' : Hand) (d : D), d ∈ l → Q (.f (.d d)) [h'.o, .f (.d (.list l))]) : WpF m__law_any [h.o, .f (.d (.list l))] Q := by
  refine wpf_body ?_
  have hp : 0 < l.length := List.length_pos_iff.2 h0
  simp [s__law_any, env0]
  refine draw_at h l.length hp h1 fun h' v hv => ?_
  have hat := atI_nat l v hv
  simp [hat, outs, np__law_any]
  exact q h' _ (List.getElem_mem hv)
/-- terms over so many locals and cells -/
def Term.inn (many : Nat) (cells : List (Str × Nat)) : Term → Prop
  | .word n => n ≤ 4
  | .loc n => n < many
  | .cell s => (s, 1) ∈ cells
  | .row s t => (∃ n, n ≠ 1 ∧ (s, n) ∈ cells) ∧ t.inn many cells
  | .not t => t.inn many cells
  | .deed s a b => DeedOk s ∧ a.inn many cells ∧ b.inn many cells
theorem deeds_ok : ∀ d ∈ ([.str "sum", .str "less", .str "times", .str "and", .str "or", .str "xor", .str "same", .str "below", .str "same", .str "over", .str "rest"] : List D), ∃ s : Str, d = .str s ∧ DeedOk s := by
  intro d hd
  simp only [List.mem_cons, List.not_mem_nil, or_false] at hd
  rcases hd with rfl | rfl | rfl | rfl | rfl | rfl | rfl | rfl | rfl | rfl | rfl <;> exact ⟨_, rfl, _, by simp [deeds], rfl⟩
theorem term_at : ∀ (n deep : Nat) (h : Hand) (many : Nat) (cells : List (Str × Nat)) {Q : O → List O → Prop}, deep < n → 0 < many → many < 1000 → cells.length < 1000 → (∀ (h' : Hand) (t : Term), t.inn many cells → t.dep ≤ deep → Q (.f (.d t.enc)) [h'.o, .f (.d (.int many)), .f (.d (.list (cells.map nE))), .f (.d (.int deep))]) → WpF (m__law_term n) [h.o, .f (.d (.int many)), .f (.d (.list (cells.map nE))), .f (.d (.int deep))] Q
  | 0, deep, h, many, cells, Q, hn, _, _, _, _ => absurd hn (by omega)
  | n + 1, deep, h, many, cells, Q, hn, m0, hm, hc, q => by
    rw [m__law_term]
    refine wpf_body ?_
    simp [env0]
    refine draw_at h 8 (by decide) (by decide) fun h1 kind hk => ?_
    by_cases d0 : deep = 0
    · subst d0
      simp
      refine draw_at h1 5 (by decide) (by decide) fun h2 v hv => ?_
      simp [outs, np__law_term]
      exact q h2 (.word v) (show v ≤ 4 by omega) (by simp [Term.dep])
    · obtain ⟨k, rfl⟩ : ∃ k, deep = k + 1 := ⟨deep - 1, by omega⟩
      have d1 : ¬ (k : Int) + 1 = 0 := by omega
      by_cases k2 : kind < 2
      · have k2' : (kind : Int) < 2 := by omega
        simp [d1, k2, k2']
        refine draw_at h1 5 (by decide) (by decide) fun h2 v hv => ?_
        simp [outs, np__law_term]
        exact q h2 (.word v) (show v ≤ 4 by omega) (by simp [Term.dep])
      · have k2' : ¬ (kind : Int) < 2 := by omega
        by_cases k4 : kind < 4
        · have k4' : (kind : Int) < 4 := by omega
          simp [d1, k2, k2', k4, k4', m0]
          refine draw_at h1 many m0 hm fun h2 v hv => ?_
          simp [outs, np__law_term]
          exact q h2 (.loc v) hv (by simp [Term.dep])
        · have k4' : ¬ (kind : Int) < 4 := by omega
          by_cases kc : kind < 5 ∧ cells ≠ []
          · obtain ⟨k5, hcn⟩ := kc
            have k5' : (kind : Int) < 5 := by omega
            have hcl : 0 < cells.length := List.length_pos_iff.2 hcn
            have hcl' : (0 : Int) < cells.length := by omega
            simp [d1, k2, k2', k4, k4', k5, k5', hcl, hcl']
            refine any_at h1 (cells.map nE) (by simpa using hcn) (by simpa using hc) fun h2 d hd => ?_
            simp only [List.mem_map] at hd
            obtain ⟨⟨c, s⟩, hcs, rfl⟩ := hd
            by_cases s1 : s = 1
            · have s1' : (s : Int) = 1 := by omega
              simp [nE, s1, s1', outs, np__law_term]
              exact q h2 (.cell c) (by rw [s1] at hcs; exact hcs) (by simp [Term.dep])
            · have s1' : ¬ (s : Int) = 1 := by omega
              simp [nE, s1, s1']
              refine term_at n k h2 many cells (by omega) m0 hm hc fun h3 t ht hd => ?_
              simp [outs, np__law_term]
              exact q h3 (.row c t) ⟨⟨s, s1, hcs⟩, ht⟩ (by simp [Term.dep]; omega)
          · by_cases k5 : kind = 5
            · have k5' : (kind : Int) = 5 := by omega
              have k6' : ¬ (kind : Int) < 5 := by omega
              subst k5
              simp [d1]
              refine term_at n k h1 many cells (by omega) m0 hm hc fun h3 t ht hd => ?_
              simp [outs, np__law_term]
              exact q h3 (.not t) ht (by simp [Term.dep]; omega)
            · have k5' : ¬ (kind : Int) = 5 := by omega
              have deed : ∀ (Q' : Prop), Q' → Q' := fun _ h => h
              by_cases k6 : kind < 5
              · have k6' : (kind : Int) < 5 := by omega
                have hcn : cells = [] := by
                  by_cases e : cells = []
                  · exact e
                  · exact absurd ⟨k6, e⟩ kc
                subst hcn
                simp [d1, k2, k2', k4, k4', k5, k5', k6, k6']
                refine any_at h1 _ (by simp) (by simp) fun h2 d hd => ?_
                obtain ⟨s, rfl, hs⟩ := deeds_ok d hd
                simp
                refine term_at n k h2 many [] (by omega) m0 hm (by simp) fun h3 t1 ht1 hd1 => ?_
                simp
                refine term_at n k h3 many [] (by omega) m0 hm (by simp) fun h4 t2 ht2 hd2 => ?_
                simp [outs, np__law_term]
                exact q h4 (.deed s t1 t2) ⟨hs, ht1, ht2⟩ (by simp [Term.dep]; omega)
              · have k6' : ¬ (kind : Int) < 5 := by omega
                simp [d1, k2, k2', k4, k4', k5, k5', k6, k6']
                refine any_at h1 _ (by simp) (by simp) fun h2 d hd => ?_
                obtain ⟨s, rfl, hs⟩ := deeds_ok d hd
                simp
                refine term_at n k h2 many cells (by omega) m0 hm hc fun h3 t1 ht1 hd1 => ?_
                simp
                refine term_at n k h3 many cells (by omega) m0 hm hc fun h4 t2 ht2 hd2 => ?_
                simp [outs, np__law_term]
                exact q h4 (.deed s t1 t2) ⟨hs, ht1, ht2⟩ (by simp [Term.dep]; omega)
end K13

/-! ## K13o -/
set_option Elab.async false
set_option linter.all false
set_option maxRecDepth 100000
set_option maxHeartbeats 4000000
/-! K13o: statements and blocks drawn. -/
namespace K13
open PySem PySem.Spec L2 Pm
variable [TabCtx]
noncomputable def s_lineF : MS := (seqS (iteS (andT (tst (op2 ltS (varD 5) (cst (.int 10)))) (tst (op2 gtS (call1 lenS (varD 2)) (cst (.int 0))))) (seqS (asgS (tupT [(nameB 6), (nameB 11)]) (asD (callM [some 0, none] (hasS 0 (argsC (varD 2) args0)) m__law_any)))
      (seqS (iteS (tst (op2 eqS (varD 11) (cst (.int 1)))) (retD (tupM (argsC (cst (.str "put")) (argsC (varD 6) (argsC (asD (callM [some 0, none, none, none] (hasS 0 (argsC (varD 1) (argsC (varD 2) (argsC (cst (.int 2)) args0)))) (m__law_term 12))) args0))))) nxt)
      (retD (tupM (argsC (cst (.str "fill")) (argsC (varD 6) (argsC (asD (callM [some 0, none, none, none] (hasS 0 (argsC (varD 1) (argsC (varD 2) (argsC (cst (.int 1)) args0)))) (m__law_term 12))) (argsC (asD (callM [some 0, none, none, none] (hasS 0 (argsC (varD 1) (argsC (varD 2) (argsC (cst (.int 1)) args0)))) (m__law_term 12))) args0)))))))) nxt)
      (seqS (iteS (andT (tst (op2 eqS (varD 5) (cst (.int 10)))) (tst (op2 eqS (asD (callM [some 0, none] (hasS 0 (argsC (cst (.int 3)) args0)) m__law_draw)) (cst (.int 0))))) (retD (tupM (argsC (cst (.str "return")) (argsC (asD (callM [some 0, none, none, none] (hasS 0 (argsC (varD 1) (argsC (varD 2) (argsC (cst (.int 2)) args0)))) (m__law_term 12))) args0)))) nxt)
      (retD (tupM (argsC (cst (.str "set")) (argsC (asD (callM [some 0, none] (hasS 0 (argsC (varD 1) args0)) m__law_draw)) (argsC (asD (callM [some 0, none, none, none] (hasS 0 (argsC (varD 1) (argsC (varD 2) (argsC (cst (.int 2)) args0)))) (m__law_term 12))) args0)))))))
noncomputable def s_lineE (n : Nat) : MS := (seqS (iteS (andT (tst (op2 ltS (varD 5) (cst (.int 8)))) (tst (op2 gtS (varD 4) (cst (.int 0))))) (seqS (parS [9, 10] (argO (asO (asD (callM [some 0, none, none, none] (hasS 0 (argsC (varD 1) (argsC (varD 2) (argsC (cst (.int 2)) args0)))) (m__law_term 12)))) (argO (asO (asD (callM [some 0, none, none, none, none] (hasS 0 (argsC (varD 1) (argsC (varD 2) (argsC (varD 3) (argsC (op2 subS (varD 4) (cst (.int 1))) args0))))) (m__law_lines n)))) argO0)))
      (seqS (iteS (tst (op2 eqS (varD 5) (cst (.int 6)))) (retD (tupM (argsC (cst (.str "while")) (argsC (varD 9) (argsC (varD 10) args0))))) nxt)
      (retD (tupM (argsC (cst (.str "if")) (argsC (varD 9) (argsC (varD 10) (argsC (asD (callM [some 0, none] (hasS 0 (argsC (lstM (linM (argsC (tupM args0) (argsC (asD (callM [some 0, none, none, none, none] (hasS 0 (argsC (varD 1) (argsC (varD 2) (argsC (varD 3) (argsC (op2 subS (varD 4) (cst (.int 1))) args0))))) (m__law_lines n))) args0)))) args0)) m__law_any)) args0)))))))) nxt)
      s_lineF)
noncomputable def s_lineB (n : Nat) : MS := (seqS (iteS (tst (op2 ltS (varD 5) (cst (.int 4)))) (retD (tupM (argsC (cst (.str "pick")) (argsC (asD (callM [some 0, none] (hasS 0 (argsC (varD 1) args0)) m__law_draw)) args0)))) nxt)
      (seqS (iteS (tst (op2 eqS (varD 5) (cst (.int 4)))) (retD (tupM (argsC (cst (.str "tell")) (argsC (asD (callM [some 0, none, none, none] (hasS 0 (argsC (varD 1) (argsC (varD 2) (argsC (cst (.int 1)) args0)))) (m__law_term 12))) args0)))) nxt)
      (seqS (iteS (andT (tst (op2 eqS (varD 5) (cst (.int 5)))) (tst (op2 eqS (asD (callM [some 0, none] (hasS 0 (argsC (cst (.int 2)) args0)) m__law_draw)) (cst (.int 0))))) (retD (tupM (argsC (cst (.str "check")) (argsC (asD (callM [some 0, none, none, none] (hasS 0 (argsC (varD 1) (argsC (varD 2) (argsC (cst (.int 2)) args0)))) (m__law_term 12))) args0)))) nxt)
      (s_lineE n))))
noncomputable def s_lineA (n : Nat) : MS := (seqS (iteS (andT (tst (op2 ltS (varD 5) (cst (.int 2)))) (tst (op2 gtS (call1 lenS (varD 3)) (cst (.int 0))))) (seqS (asgS (tupT [(nameB 6), (nameB 7)]) (asD (callM [some 0, none] (hasS 0 (argsC (varD 3) args0)) m__law_any)))
      (retD (tupM (argsC (cst (.str "call")) (argsC (asD (callM [some 0, none] (hasS 0 (argsC (varD 1) args0)) m__law_draw)) (argsC (varD 6) (argsC (tupB1 (lcM [8] (rng1 (argsC (varD 7) args0)) (nameB 8) allT (asD (callM [some 0, none, none, none] (hasS 0 (argsC (varD 1) (argsC (varD 2) (argsC (cst (.int 1)) args0)))) (m__law_term 12))))) args0))))))) nxt)
      (s_lineB n))
theorem line_eq (n : Nat) : m__law_line (n + 1) = bodyF np__law_line 12 (seqS (setS 5 (asD (callM [some 0, none] (hasS 0 (argsC (cst (.int 12)) args0)) m__law_draw))) (s_lineA n)) := by
  rw [m__law_line]
  rfl
structure Sta.inn (many : Nat) (cells calls : List (Str × Nat)) (s : Sta) : Prop where
  terms : ∀ t ∈ s.terms, t.inn many cells ∧ t.dep ≤ 2
  locs : ∀ i ∈ s.locs, i < many
  puts : ∀ p ∈ s.puts, ∃ n, (p.1, n) ∈ cells ∧ decide (n = 1) = p.2
  call : ∀ p, s.call = some p → p ∈ calls
def Blk.inn (many : Nat) (cells calls : List (Str × Nat)) (b : Blk) : Prop := ∀ s ∈ b.pre, s.inn many cells calls
def Sta.sz (s : Sta) : Nat := 1 + (s.blks.map fun b => b.pre.length).sum
/-- how many statements at most: of a statement -/
def lx : Nat → Nat
  | 0 => 1
  | d + 1 => 1 + 2 * (3 * lx d)
theorem lx_pos (d : Nat) : 1 ≤ lx d := by cases d <;> simp [lx]
/-- a statement with its blocks -/
structure Sta.alls (many : Nat) (cells calls : List (Str × Nat)) (deep : Nat) (s : Sta) : Prop where
  self : s.inn many cells calls
  blks : ∀ b ∈ s.blks, b.inn many cells calls ∧ b.dep + 1 ≤ deep
  len : s.sz ≤ lx deep
theorem okR62_nat (n : Nat) (h : n < 1000) : okR62 (n : Int) = true := by
  unfold okR62
  rw [Bool.and_eq_true, decide_eq_true_eq, decide_eq_true_eq]
  omega
theorem exists_map {α : Type} (f : α → D) (R : α → Prop) : ∀ (acc : List D), (∀ y ∈ acc, ∃ a, y = f a ∧ R a) → ∃ l : List α, acc = l.map f ∧ ∀ a ∈ l, R a
  | [], _ => ⟨[], rfl, by simp⟩
  | y :: acc, h => by
    obtain ⟨a, rfl, ha⟩ := h y (by simp)
    obtain ⟨l, rfl, hl⟩ := exists_map f R acc fun x hx => h x (by simp [hx])
    exact ⟨a :: l, rfl, by
      intro x hx
      rcases List.mem_cons.mp hx with rfl | hx
      · exact ha
      · exact hl x hx⟩
def lnE (h : Hand) (many : Nat) (cells calls : List (Str × Nat)) (deep kind : Nat) (x6 x7 x8 x9 x10 x11 : Option O) : Pm.Env := [some h.o, some (.f (.d (.int (many : Nat)))), some (.f (.d (.list (cells.map nE)))), some (.f (.d (.list (calls.map nE)))), some (.f (.d (.int (deep : Nat)))), some (.f (.d (.int (kind : Nat)))), x6, x7, x8, x9, x10, x11]
def lnO (h : Hand) (many : Nat) (cells calls : List (Str × Nat)) (deep : Nat) : List O := [h.o, .f (.d (.int (many : Nat))), .f (.d (.list (cells.map nE))), .f (.d (.list (calls.map nE))), .f (.d (.int (deep : Nat)))]
section
variable {many : Nat} {cells calls : List (Str × Nat)} {Q : O → List O → Prop}
theorem lineF (h0 h : Hand) (deep kind : Nat) (m0 : 0 < many) (hm : many < 1000) (hc : cells.length < 1000) (x6 x7 x8 x9 x10 x11 : Option O) (q : ∀ (h' : Hand) (s : Sta), s.alls many cells calls deep → Q (.f (.d s.enc)) (lnO h' many cells calls deep)) :
    WpS s_lineF (lnE h many cells calls deep kind x6 x7 x8 x9 x10 x11) (fun r => outQ np__law_line (lnO h0 many cells calls deep) Q r) := by
  have hset : ∀ (h1 : Hand), WpS (retD (tupM (argsC (cst (.str "set")) (argsC (asD (callM [some 0, none] (hasS 0 (argsC (varD 1) args0)) m__law_draw)) (argsC (asD (callM [some 0, none, none, none] (hasS 0 (argsC (varD 1) (argsC (varD 2) (argsC (cst (.int 2)) args0)))) (m__law_term 12))) args0))))) (lnE h1 many cells calls deep kind x6 x7 x8 x9 x10 x11) (fun r => outQ np__law_line (lnO h0 many cells calls deep) Q r) := by
    intro h1
    simp [lnE]
    refine draw_at h1 many m0 hm fun h2 v hv => ?_
    simp
    refine term_at 12 2 h2 many cells (by omega) m0 hm hc fun h3 t ht hd => ?_
    simp [lnO, outs, np__law_line]
    exact q h3 (.act (.set v t)) ⟨⟨by simpa [Sta.terms] using ⟨ht, hd⟩, by simpa [Sta.locs] using hv, by simp [Sta.puts], by simp [Sta.call]⟩, by simp [Sta.blks], lx_pos _⟩
  have hF : ∀ X Y : MS, (kind < 10 ∧ cells ≠ [] → WpS X (lnE h many cells calls deep kind x6 x7 x8 x9 x10 x11) (fun r => nxQ (fun e' => WpS Y e' fun r => outQ np__law_line (lnO h0 many cells calls deep) Q r) (fun r => outQ np__law_line (lnO h0 many cells calls deep) Q r) r)) → (¬ (kind < 10 ∧ cells ≠ []) → WpS Y (lnE h many cells calls deep kind x6 x7 x8 x9 x10 x11) (fun r => outQ np__law_line (lnO h0 many cells calls deep) Q r)) → WpS (seqS (iteS (andT (tst (op2 ltS (varD 5) (cst (.int 10)))) (tst (op2 gtS (call1 lenS (varD 2)) (cst (.int 0))))) X nxt) Y) (lnE h many cells calls deep kind x6 x7 x8 x9 x10 x11) (fun r => outQ np__law_line (lnO h0 many cells calls deep) Q r) := by
    intro X Y hX hY
    by_cases k : kind < 10
    · have k' : (kind : Int) < 10 := by omega
      by_cases hcn : cells = []
      · subst hcn
        have := hY (by simp)
        simp [lnE, k, k'] at this ⊢
        exact this
      · have hcl : 0 < cells.length := List.length_pos_iff.2 hcn
        have hcl' : (0 : Int) < cells.length := by omega
        have := hX ⟨k, hcn⟩
        simp [lnE, k, k', hcl, hcl'] at this ⊢
        exact this
    · have k' : ¬ (kind : Int) < 10 := by omega
      have := hY (by simp [k])
      simp [lnE, k, k'] at this ⊢
      exact this
  unfold s_lineF
  refine hF _ _ (fun ⟨k, hcn⟩ => ?_) (fun hn => ?_)
  · simp [lnE]
    refine any_at h (cells.map nE) (by simpa using hcn) (by simpa using hc) fun h2 d hd => ?_
    simp only [List.mem_map] at hd
    obtain ⟨⟨c, s⟩, hcs, rfl⟩ := hd
    by_cases s1 : s = 1
    · have s1' : (s : Int) = 1 := by omega
      simp [nE, s1, s1']
      refine term_at 12 2 h2 many cells (by omega) m0 hm hc fun h3 t ht hd => ?_
      simp [lnO, outs, np__law_line]
      exact q h3 (.act (.put c t)) ⟨⟨by simpa [Sta.terms] using ⟨ht, hd⟩, by simp [Sta.locs], by simp [Sta.puts]; exact s1 ▸ hcs, by simp [Sta.call]⟩, by simp [Sta.blks], lx_pos _⟩
    · have s1' : ¬ (s : Int) = 1 := by omega
      simp [nE, s1, s1']
      refine term_at 12 1 h2 many cells (by omega) m0 hm hc fun h3 t ht hd => ?_
      simp
      refine term_at 12 1 h3 many cells (by omega) m0 hm hc fun h4 t2 ht2 hd2 => ?_
      simp [lnO, outs, np__law_line]
      exact q h4 (.act (.fill c t t2)) ⟨⟨by simp [Sta.terms]; exact ⟨⟨ht, by omega⟩, ht2, by omega⟩, by simp [Sta.locs], by simp [Sta.puts]; exact ⟨s, hcs, s1⟩, by simp [Sta.call]⟩, by simp [Sta.blks], lx_pos _⟩
  · by_cases k : kind = 10
    · have k' : (kind : Int) = 10 := by omega
      subst k
      simp [lnE]
      refine draw_at h 3 (by decide) (by decide) fun h2 v hv => ?_
      by_cases v0 : v = 0
      · simp [v0]
        refine term_at 12 2 h2 many cells (by omega) m0 hm hc fun h3 t ht hd => ?_
        simp [lnO, outs, np__law_line]
        exact q h3 (.act (.ret t)) ⟨⟨by simpa [Sta.terms] using ⟨ht, hd⟩, by simp [Sta.locs], by simp [Sta.puts], by simp [Sta.call]⟩, by simp [Sta.blks], lx_pos _⟩
      · have v0' : ¬ (v : Int) = 0 := by omega
        have := hset h2
        simp [v0, v0', lnE] at this ⊢
        exact this
    · have k' : ¬ (kind : Int) = 10 := by omega
      have := hset h
      simp [k, k', lnE] at this ⊢
      exact this
def LineP (n : Nat) (many : Nat) (cells calls : List (Str × Nat)) (deep : Nat) : Prop := ∀ (h : Hand) (Q : O → List O → Prop), (∀ (h' : Hand) (s : Sta), s.alls many cells calls deep → Q (.f (.d s.enc)) (lnO h' many cells calls deep)) → WpF (m__law_line n) (lnO h many cells calls deep) Q
def LinesP (n : Nat) (many : Nat) (cells calls : List (Str × Nat)) (deep : Nat) : Prop := ∀ (h : Hand) (Q : O → List O → Prop), (∀ (h' : Hand) (b : Blk), b.inn many cells calls → b.dep ≤ deep → b.encs.length ≤ 3 → b.pre.length ≤ 3 * lx deep → Q (.f (.d b.tup)) (lnO h' many cells calls deep)) → WpF (m__law_lines n) (lnO h many cells calls deep) Q
theorem lineE (n : Nat) (h0 h : Hand) (deep kind : Nat) (m0 : 0 < many) (hm : many < 1000) (hc : cells.length < 1000) (hl : ∀ k, deep = k + 1 → LinesP n many cells calls k) (x6 x7 x8 x9 x10 x11 : Option O) (q : ∀ (h' : Hand) (s : Sta), s.alls many cells calls deep → Q (.f (.d s.enc)) (lnO h' many cells calls deep)) :
    WpS (s_lineE n) (lnE h many cells calls deep kind x6 x7 x8 x9 x10 x11) (fun r => outQ np__law_line (lnO h0 many cells calls deep) Q r) := by
  have hF := fun (h : Hand) => lineF (Q := Q) (calls := calls) h0 h deep kind m0 hm hc x6 x7 x8 x9 x10 x11 q
  unfold s_lineE
  by_cases k8 : kind < 8
  · have k8' : (kind : Int) < 8 := by omega
    by_cases d0 : deep = 0
    · subst d0
      have := hF h
      simp [lnE, k8, k8'] at this ⊢
      exact this
    · obtain ⟨k, rfl⟩ : ∃ k, deep = k + 1 := ⟨deep - 1, by omega⟩
      have d1 : (0 : Int) < (k : Int) + 1 := by omega
      have hl' := hl k rfl
      simp [lnE, k8, k8', d1]
      refine term_at 12 2 h many cells (by omega) m0 hm hc fun h2 t ht hd => ?_
      simp
      refine hl' h2 _ fun h3 b hb hbd hbl hbn => ?_
      simp [lnO]
      by_cases k6 : kind = 6
      · have k6' : (kind : Int) = 6 := by omega
        simp [k6, outs, np__law_line]
        exact q h3 (.whl t b) ⟨⟨by simpa [Sta.terms] using ⟨ht, hd⟩, by simp [Sta.locs], by simp [Sta.puts], by simp [Sta.call]⟩, by simp [Sta.blks]; exact ⟨hb, by omega⟩, by simp [Sta.sz, Sta.blks, lx]; omega⟩
      · have k6' : ¬ (kind : Int) = 6 := by omega
        simp [k6, k6']
        refine hl' h3 _ fun h4 b2 hb2 hbd2 hbl2 hbn2 => ?_
        simp [lnO]
        refine any_at h4 [.tuple [], b2.tup] (by simp) (by simp) fun h5 d hd5 => ?_
        simp at hd5
        rcases hd5 with rfl | rfl
        · simp [outs, np__law_line]
          exact q h5 (.ife t b .nil) ⟨⟨by simpa [Sta.terms] using ⟨ht, hd⟩, by simp [Sta.locs], by simp [Sta.puts], by simp [Sta.call]⟩, by simp [Sta.blks]; exact ⟨⟨hb, by omega⟩, by simp [Blk.inn, Blk.pre], by simp [Blk.dep]⟩, by simp [Sta.sz, Sta.blks, lx, Blk.pre]; omega⟩
        · simp [outs, np__law_line]
          exact q h5 (.ife t b b2) ⟨⟨by simpa [Sta.terms] using ⟨ht, hd⟩, by simp [Sta.locs], by simp [Sta.puts], by simp [Sta.call]⟩, by simp [Sta.blks]; exact ⟨⟨hb, by omega⟩, hb2, by omega⟩, by simp [Sta.sz, Sta.blks, lx]; omega⟩
  · have k8' : ¬ (kind : Int) < 8 := by omega
    have := hF h
    simp [lnE, k8, k8'] at this ⊢
    exact this
theorem lineB (n : Nat) (h0 h : Hand) (deep kind : Nat) (m0 : 0 < many) (hm : many < 1000) (hc : cells.length < 1000) (hl : ∀ k, deep = k + 1 → LinesP n many cells calls k) (x6 x7 x8 x9 x10 x11 : Option O) (q : ∀ (h' : Hand) (s : Sta), s.alls many cells calls deep → Q (.f (.d s.enc)) (lnO h' many cells calls deep)) :
    WpS (s_lineB n) (lnE h many cells calls deep kind x6 x7 x8 x9 x10 x11) (fun r => outQ np__law_line (lnO h0 many cells calls deep) Q r) := by
  have hE := fun (h : Hand) => lineE (Q := Q) (calls := calls) n h0 h deep kind m0 hm hc hl x6 x7 x8 x9 x10 x11 q
  unfold s_lineB
  by_cases k4 : kind < 4
  · have k4' : (kind : Int) < 4 := by omega
    simp [lnE, k4, k4']
    refine draw_at h many m0 hm fun h2 v hv => ?_
    simp [lnO, outs, np__law_line]
    exact q h2 (.act (.pick v)) ⟨⟨by simp [Sta.terms], by simpa [Sta.locs] using hv, by simp [Sta.puts], by simp [Sta.call]⟩, by simp [Sta.blks], lx_pos _⟩
  · have k4' : ¬ (kind : Int) < 4 := by omega
    by_cases k5 : kind = 4
    · subst k5
      simp [lnE]
      refine term_at 12 1 h many cells (by omega) m0 hm hc fun h3 t ht hd => ?_
      simp [lnO, outs, np__law_line]
      exact q h3 (.act (.tell t)) ⟨⟨by simp [Sta.terms]; exact ⟨ht, by omega⟩, by simp [Sta.locs], by simp [Sta.puts], by simp [Sta.call]⟩, by simp [Sta.blks], lx_pos _⟩
    · have k5' : ¬ (kind : Int) = 4 := by omega
      by_cases k6 : kind = 5
      · subst k6
        simp [lnE]
        refine draw_at h 2 (by decide) (by decide) fun h2 v hv => ?_
        by_cases v0 : v = 0
        · simp [v0]
          refine term_at 12 2 h2 many cells (by omega) m0 hm hc fun h3 t ht hd => ?_
          simp [lnO, outs, np__law_line]
          exact q h3 (.act (.check t)) ⟨⟨by simpa [Sta.terms] using ⟨ht, hd⟩, by simp [Sta.locs], by simp [Sta.puts], by simp [Sta.call]⟩, by simp [Sta.blks], lx_pos _⟩
        · have v0' : ¬ (v : Int) = 0 := by omega
          have := hE h2
          simp [v0, v0', lnE] at this ⊢
          exact this
      · have k6' : ¬ (kind : Int) = 5 := by omega
        have := hE h
        simp [lnE, k4, k4', k5, k5', k6, k6'] at this ⊢
        exact this
theorem lineA (n : Nat) (h0 h : Hand) (deep kind : Nat) (m0 : 0 < many) (hm : many < 1000) (hc : cells.length < 1000) (hcl : calls.length < 1000) (hcp : ∀ c ∈ calls, c.2 < 1000) (hl : ∀ k, deep = k + 1 → LinesP n many cells calls k) (x6 x7 x8 x9 x10 x11 : Option O) (q : ∀ (h' : Hand) (s : Sta), s.alls many cells calls deep → Q (.f (.d s.enc)) (lnO h' many cells calls deep)) :
    WpS (s_lineA n) (lnE h many cells calls deep kind x6 x7 x8 x9 x10 x11) (fun r => outQ np__law_line (lnO h0 many cells calls deep) Q r) := by
  have hB := lineB (Q := Q) (calls := calls) n h0 h deep kind m0 hm hc hl x6 x7 x8 x9 x10 x11 q
  unfold s_lineA
  by_cases k2 : kind < 2
  · have k2' : (kind : Int) < 2 := by omega
    by_cases hcn : calls = []
    · subst hcn
      simp [lnE, k2, k2'] at hB ⊢
      exact hB
    · have hcl0 : 0 < calls.length := List.length_pos_iff.2 hcn
      have hcl' : (0 : Int) < calls.length := by omega
      simp [lnE, k2, k2', hcl0, hcl']
      refine any_at h (calls.map nE) (by simpa using hcn) (by simpa using hcl) fun h2 d hd => ?_
      simp only [List.mem_map] at hd
      obtain ⟨⟨c, p⟩, hcp', rfl⟩ := hd
      have hp := hcp _ hcp'
      simp [nE]
      refine draw_at h2 many m0 hm fun h3 v hv => ?_
      simp [okR62_nat p hp]
      refine wp_lcD p (fun e => Hold (∃ h4 : Hand, e = [some h4.o, some (.f (.d (.int (many : Nat)))), some (.f (.d (.list (cells.map nE)))), some (.f (.d (.list (calls.map nE)))), some (.f (.d (.int (deep : Nat)))), some (.f (.d (.int (kind : Nat)))), some (.f (.d (.str c))), some (.f (.d (.int (p : Nat)))), none, x9, x10, x11])) (fun y => ∃ t : Term, y = t.enc ∧ (t.inn many cells ∧ t.dep ≤ 2)) (Nat.lt_of_succ_le (line_small (by simp only [] at hp; omega))) _ (by simp [upD]) ?_ ?_ (.of ⟨h3, rfl⟩)
      · rintro d e hd ⟨h4, rfl⟩
        simp
        refine term_at 12 1 h4 many cells (by omega) m0 hm hc fun h5 t ht hd => ?_
        simp
        exact ⟨⟨t, rfl, ht, by omega⟩, .of ⟨h5, rfl⟩⟩
      · rintro acc e hacc hP ⟨h4, rfl⟩
        obtain ⟨ts, rfl, hts⟩ := exists_map Term.enc _ acc hP
        have hlen : ts.length = p := by simpa using hacc
        have z : ts.length ≤ sizeLine := line_small (by simp only [] at hp; omega)
        simp [z, lnO, outs, np__law_line]
        exact q h4 (.act (.call v c ts)) ⟨⟨hts, by simpa [Sta.locs] using hv, by simp [Sta.puts], by
          intro p' hp'
          simp [Sta.call] at hp'
          rw [← hp', hlen]
          exact hcp'⟩, by simp [Sta.blks], lx_pos _⟩
  · have k2' : ¬ (kind : Int) < 2 := by omega
    simp [lnE, k2, k2'] at hB ⊢
    exact hB
theorem mk_blk (deep : Nat) : ∀ ss : List Sta, (∀ s ∈ ss, s.alls many cells calls deep) → ∃ b : Blk, b.encs = ss.map Sta.enc ∧ b.inn many cells calls ∧ b.dep ≤ deep ∧ b.pre.length ≤ ss.length * lx deep
  | [], _ => ⟨.nil, rfl, by simp [Blk.inn, Blk.pre], by simp [Blk.dep], by simp [Blk.pre]⟩
  | s :: ss, h => by
    obtain ⟨b, h1, h2, h3, h4⟩ := mk_blk deep ss fun x hx => h x (by simp [hx])
    obtain ⟨hs, hb, hz⟩ := h s (by simp)
    have e : (ss.length + 1) * lx deep = ss.length * lx deep + lx deep := Nat.succ_mul _ _
    cases s with
    | act a =>
      refine ⟨.act a b, by simp [Blk.encs, h1, Sta.enc], ?_, by simpa [Blk.dep] using h3, by simp [Sta.sz, Sta.blks] at hz; simp [Blk.pre]; omega⟩
      intro x hx
      simp [Blk.pre] at hx
      rcases hx with rfl | hx
      · exact hs
      · exact h2 x hx
    | ife t x y =>
      simp [Sta.blks] at hb
      obtain ⟨⟨g1, g2⟩, g3, g4⟩ := hb
      refine ⟨.ife t x y b, by simp [Blk.encs, h1, Sta.enc], ?_, by simp [Blk.dep]; omega, by simp [Sta.sz, Sta.blks] at hz; simp [Blk.pre]; omega⟩
      intro z hz'
      simp [Blk.pre] at hz'
      rcases hz' with rfl | hz' | hz' | hz'
      · exact hs
      · exact g1 z hz'
      · exact g3 z hz'
      · exact h2 z hz'
    | whl t x =>
      simp [Sta.blks] at hb
      obtain ⟨g1, g2⟩ := hb
      refine ⟨.whl t x b, by simp [Blk.encs, h1, Sta.enc], ?_, by simp [Blk.dep]; omega, by simp [Sta.sz, Sta.blks] at hz; simp [Blk.pre]; omega⟩
      intro z hz'
      simp [Blk.pre] at hz'
      rcases hz' with rfl | hz' | hz'
      · exact hs
      · exact g1 z hz'
      · exact h2 z hz'
theorem both (m0 : 0 < many) (hm : many < 1000) (hc : cells.length < 1000) (hcl : calls.length < 1000) (hcp : ∀ c ∈ calls, c.2 < 1000) : ∀ n : Nat, (∀ deep, 2 * deep + 1 ≤ n → LineP n many cells calls deep) ∧ (∀ deep, 2 * deep + 2 ≤ n → LinesP n many cells calls deep)
  | 0 => ⟨fun _ h => absurd h (by omega), fun _ h => absurd h (by omega)⟩
  | n + 1 => by
    obtain ⟨ih1, ih2⟩ := both m0 hm hc hcl hcp n
    constructor
    · intro deep hd h Q q
      rw [line_eq]
      refine wpf_body ?_
      simp [lnO, env0]
      refine draw_at h 12 (by decide) (by decide) fun h1 kind hk => ?_
      simp
      have := lineA (Q := Q) (cells := cells) n h h1 deep kind m0 hm hc hcl hcp (fun k e => ih2 k (by omega)) none none none none none none q
      simpa [lnE, lnO] using this
    · intro deep hd h Q q
      rw [m__law_lines]
      refine wpf_body ?_
      simp [lnO, env0]
      refine draw_at h 3 (by decide) (by decide) fun h1 v hv => ?_
      have e1 : (1 : Int) + (v : Int) = ((1 + v : Nat) : Int) := by omega
      have e2 : okR62 ((1 : Int) + (v : Int)) = true := by
        rw [e1]
        exact okR62_nat _ (by omega)
      simp [e2]
      refine wp_lcD (1 + v) (fun e => Hold (∃ h4 : Hand, e = [some h4.o, some (.f (.d (.int (many : Nat)))), some (.f (.d (.list (cells.map nE)))), some (.f (.d (.list (calls.map nE)))), some (.f (.d (.int (deep : Nat)))), none])) (fun y => ∃ s : Sta, y = s.enc ∧ s.alls many cells calls deep) (Nat.lt_of_succ_le (line_small (by omega))) _ (by simp [upD]; omega) ?_ ?_ (.of ⟨h1, rfl⟩)
      · rintro d e hd' ⟨h4, rfl⟩
        simp
        refine ih1 deep (by omega) h4 _ fun h5 s hs => ?_
        simp [lnO]
        exact ⟨⟨s, rfl, hs⟩, .of ⟨h5, rfl⟩⟩
      · rintro acc e hacc hP ⟨h4, rfl⟩
        obtain ⟨ss, rfl, hss⟩ := exists_map Sta.enc _ acc hP
        have hlen : ss.length = 1 + v := by simpa using hacc
        obtain ⟨b, hb1, hb2, hb3, hb4⟩ := mk_blk deep ss hss
        have z : ss.length ≤ sizeLine := line_small (by omega)
        simp [z, outs, np__law_lines]
        rw [← hb1]
        exact q h4 b hb2 hb3 (by rw [hb1]; simp; omega) (Nat.le_trans hb4 (Nat.mul_le_mul_right _ (by omega)))
theorem lines_at (h : Hand) (deep : Nat) (hd : deep ≤ 4) (m0 : 0 < many) (hm : many < 1000) (hc : cells.length < 1000) (hcl : calls.length < 1000) (hcp : ∀ c ∈ calls, c.2 < 1000) (q : ∀ (h' : Hand) (b : Blk), b.inn many cells calls → b.dep ≤ deep → b.encs.length ≤ 3 → b.pre.length ≤ 3 * lx deep → Q (.f (.d b.tup)) (lnO h' many cells calls deep)) : WpF (m__law_lines 12) (lnO h many cells calls deep) Q :=
  (both m0 hm hc hcl hcp 12).2 deep (by omega) h Q q
end
/-! ### the block, or what of it has no blocks -/
def Blk.flat : Blk → Blk
  | .nil => .nil
  | .act a r => .act a r.flat
  | .ife _ _ _ r => r.flat
  | .whl _ _ r => r.flat
theorem Blk.flat_pre : ∀ b : Blk, ∀ s ∈ b.flat.pre, s ∈ b.pre
  | .nil => by simp [Blk.flat]
  | .act a r => by
    intro s hs
    simp [Blk.flat, Blk.pre] at hs ⊢
    rcases hs with rfl | hs
    · exact .inl rfl
    · exact .inr (r.flat_pre s hs)
  | .ife _ _ _ r => by
    intro s hs
    simp [Blk.flat, Blk.pre] at hs ⊢
    exact .inr (.inr (.inr (r.flat_pre s hs)))
  | .whl _ _ r => by
    intro s hs
    simp [Blk.flat, Blk.pre] at hs ⊢
    exact .inr (.inr (r.flat_pre s hs))
theorem Blk.flat_len : ∀ b : Blk, b.flat.pre.length ≤ b.encs.length ∧ b.flat.dep = 0
  | .nil => by simp [Blk.flat, Blk.pre, Blk.dep]
  | .act a r => by have := r.flat_len; simp [Blk.flat, Blk.pre, Blk.dep, Blk.encs]; exact this
  | .ife _ _ _ r => by have := r.flat_len; simp [Blk.flat, Blk.encs]; exact ⟨by omega, this.2⟩
  | .whl _ _ r => by have := r.flat_len; simp [Blk.flat, Blk.encs]; exact ⟨by omega, this.2⟩
def isBlk : D → Bool
  | .tuple (.str k :: _) => decide (k = "if") || decide (k = "while")
  | _ => false
@[simp] theorem isBlk_t (k : Str) (r : List D) : isBlk (.tuple (.str k :: r)) = (decide (k = "if") || decide (k = "while")) := rfl
theorem Blk.flat_encs : ∀ b : Blk, b.encs.filter (fun d => !isBlk d) = b.flat.encs
  | .nil => rfl
  | .act a r => by
    have h := r.flat_encs
    cases a <;> simp [Blk.encs, Blk.flat, Act.enc, h]
  | .ife _ _ _ r => by simp [Blk.encs, Blk.flat, r.flat_encs]
  | .whl _ _ r => by simp [Blk.encs, Blk.flat, r.flat_encs]
theorem Blk.kinds : ∀ b : Blk, ∀ d ∈ b.encs, ∃ k, getS d (.int 0) = some (.str k) ∧ isBlk d = (decide (k = "if") || decide (k = "while"))
  | .nil => by simp [Blk.encs]
  | .act a r => by
    intro d hd
    simp [Blk.encs] at hd
    rcases hd with rfl | hd
    · cases a <;> exact ⟨_, by simp [Act.enc]; rfl, by simp [Act.enc]⟩
    · exact r.kinds d hd
  | .ife _ _ _ r => by
    intro d hd
    simp [Blk.encs] at hd
    rcases hd with rfl | hd
    · exact ⟨_, by simp; rfl, by simp⟩
    · exact r.kinds d hd
  | .whl _ _ r => by
    intro d hd
    simp [Blk.encs] at hd
    rcases hd with rfl | hd
    · exact ⟨_, by simp; rfl, by simp⟩
    · exact r.kinds d hd
def Blk.stas : Blk → List Sta
  | .nil => []
  | .act a r => .act a :: r.stas
  | .ife t b c r => .ife t b c :: r.stas
  | .whl t b r => .whl t b :: r.stas
theorem Blk.stas_encs : ∀ b : Blk, b.encs = b.stas.map Sta.enc
  | .nil => rfl
  | .act a r => by simp [Blk.encs, Blk.stas, Sta.enc, r.stas_encs]
  | .ife t b c r => by simp [Blk.encs, Blk.stas, Sta.enc, r.stas_encs]
  | .whl t b r => by simp [Blk.encs, Blk.stas, Sta.enc, r.stas_encs]
theorem Blk.stas_sz : ∀ b : Blk, (b.stas.map Sta.sz).sum = b.pre.length
  | .nil => rfl
  | .act a r => by simp [Blk.stas, Blk.pre, Sta.sz, Sta.blks, r.stas_sz]; omega
  | .ife t b c r => by simp [Blk.stas, Blk.pre, Sta.sz, Sta.blks, r.stas_sz]; omega
  | .whl t b r => by simp [Blk.stas, Blk.pre, Sta.sz, Sta.blks, r.stas_sz]; omega
theorem sz_len (l : List Sta) : l.length ≤ (l.map Sta.sz).sum := by
  induction l with
  | nil => simp
  | cons s l ih => simp [Sta.sz]; omega
theorem short_at {Q : O → List O → Prop} (b : Blk) (hn : b.pre.length ≤ 10000) (h3 : b.encs.length ≤ 12) (q : ∀ b' : Blk, (∀ s ∈ b'.pre, s ∈ b.pre) → b'.dep ≤ b.dep → b'.pre.length ≤ 12 → Q (.f (.d b'.tup)) [.f (.d b.tup)]) : WpF m__law_short [.f (.d b.tup)] Q := by
  refine wpf_body ?_
  have e4 : itemsD b.tup = some b.encs := rfl
  have e5 : itsD b.tup = some b.encs := rfl
  simp [s__law_short, env0, e4]
  refine wps_whM (fun n e => Hold (∃ (c : Nat) (C : Int) (W : List Sta) (M : List D) (x3 : Option O), C = c ∧ M = W.map Sta.enc ∧ e = [some (.f (.d b.tup)), some (.f (.d (.int C))), some (.f (.l M)), x3, none] ∧ n = (W.map Sta.sz).sum ∧ c + (W.map Sta.sz).sum = b.pre.length)) ?_ _ _ (.of ⟨0, _, b.stas, _, _, rfl, b.stas_encs, rfl, rfl, by rw [b.stas_sz]; omega⟩)
  rintro n e ⟨c, C, W, M, x3, rfl, rfl, rfl, rfl, hc⟩
  rcases List.eq_nil_or_concat W with rfl | ⟨W, s, rfl⟩
  · simp at hc
    subst hc
    by_cases h12 : b.pre.length ≤ 12
    · have h12' : (b.pre.length : Int) ≤ 12 := by omega
      simp [h12, h12', outs, np__law_short]
      exact q b (fun _ h => h) (Nat.le_refl _) h12
    · have h12' : ¬ (b.pre.length : Int) ≤ 12 := by omega
      simp [h12, h12', e5]
      rw [show b.encs = b.encs.map (fun d => d) by simp]
      refine wp_lcT (fun d : D => d) (fun d => !isBlk d) (fun d => d) (line_small (by omega)) (fun d hd => ?_) ?_
      · obtain ⟨k, g1, g2⟩ := b.kinds d hd
        simp [g1, g2]
      · have hfl := b.flat_len
        have he := b.flat_encs
        have hz : b.flat.encs.length ≤ sizeLine := line_small (by have := b.flat.encs_len; omega)
        simp [he, hz, outs, np__law_short]
        exact q b.flat b.flat_pre (by rw [hfl.2]; omega) (by omega)
  · have hl := sz_len W
    rw [List.concat_eq_append] at hc ⊢
    simp at hc
    have c0 : (0 : Int) < (W.length : Int) + 1 := by omega
    have hs1 : 1 ≤ s.sz := by simp [Sta.sz]
    have z1 : W.length + 1 ≤ sizeLine := line_small (by omega)
    have z2 : W.length ≤ sizeLine := line_small (by omega)
    cases s with
    | act a =>
      simp [Sta.sz, Sta.blks] at hc
      have hk : ¬ (Sta.act a).kind = "if" ∧ ¬ (Sta.act a).kind = "while" := by cases a <;> simp [Sta.kind]
      simp [c0, z1, hk]
      refine ⟨_, ?_, .of ⟨c + 1, _, W, _, _, ?_, rfl, rfl, rfl, by omega⟩⟩
      · simp [Sta.sz, Sta.blks]
      · simp
    | ife t x y =>
      simp [Sta.sz, Sta.blks] at hc
      have l1 := x.encs_len
      have l2 := y.encs_len
      have w1 : x.encs.length ≤ sizeLine := line_small (by omega)
      have w2 : y.encs.length ≤ sizeLine := line_small (by omega)
      have w3 : W.length + x.encs.length ≤ sizeLine := line_small (by omega)
      have w4 : W.length + x.encs.length + y.encs.length ≤ sizeLine := line_small (by omega)
      have w5 : W.length + (x.encs.length + y.encs.length) ≤ sizeLine := line_small (by omega)
      simp [c0, z1, z2, Sta.enc, w1, w2, w3, w4, w5]
      refine ⟨_, ?_, .of ⟨c + 1, _, W ++ (x.stas ++ y.stas), _, _, ?_, ?_, rfl, rfl, ?_⟩⟩
      · simp [Sta.sz, Sta.blks, x.stas_sz, y.stas_sz]
      · simp
      · simp [x.stas_encs, y.stas_encs]
      · simp [x.stas_sz, y.stas_sz]
        omega
    | whl t x =>
      simp [Sta.sz, Sta.blks] at hc
      have l1 := x.encs_len
      have w1 : x.encs.length ≤ sizeLine := line_small (by omega)
      have w3 : W.length + x.encs.length ≤ sizeLine := line_small (by omega)
      simp [c0, z1, z2, Sta.enc, w1, w3]
      refine ⟨_, ?_, .of ⟨c + 1, _, W ++ x.stas, _, _, ?_, ?_, rfl, rfl, ?_⟩⟩
      · simp [Sta.sz, Sta.blks, x.stas_sz]
      · simp
      · simp [x.stas_encs]
      · simp [x.stas_sz]
        omega
end K13

/-! ## K13x -/
set_option Elab.async false
set_option linter.all false
set_option maxRecDepth 100000
set_option maxHeartbeats 4000000
/-! K13x: the hand; the names told in blocks. -/
namespace K13
open PySem PySem.Spec L2 Pm
variable [TabCtx]
@[simp] theorem absS_int (i : Int) : absS [.int i] = some (.int (if i < 0 then -i else i)) := rfl
theorem hand_at {Q : O → List O → Prop} (ns : List Int) (q : ∀ h : Hand, Q h.o [.f (.d (.list (ns.map .int)))]) : WpF m__law_hand [.f (.d (.list (ns.map .int)))] Q := by
  refine wpf_body ?_
  have e63 := cutD_hi (ns.map .int) 63
  have e63' : cutD (ns.map (.int : Int → D)) none (some 63) = (ns.take 63).map .int := by simpa using e63
  have hl : (ns.take 63).length ≤ sizeLine := line_small (by simp; omega)
  have hl' : min 63 ns.length ≤ sizeLine := by simpa using hl
  have s7 : smallI 7 = true := by decide
  simp [s__law_hand, env0, e63', hl']
  rw [show List.take 63 (ns.map (.int : Int → D)) = (ns.take 63).map (fun i => .int i) by simp]
  refine wp_lcA (fun i : Int => .int i) (fun i => .int (if i < 0 then -i else i)) hl (fun i hi => ?_) ?_
  · simp
  · simp
    rw [mulS_L _ _ s7]
    simp [outs, np__law_hand]
    have := q ⟨(ns.take 63).map fun i => if i < 0 then -i else i, 0, 0, 61 + 7 * ((min 63 ns.length : Nat) : Int), 0⟩
    simpa [Hand.o, Function.comp_def] using this
/-! ### all that stands in blocks -/
inductive Itm where
  | str (s : Str)
  | int (i : Int)
  | trm (t : Term)
  | args (ts : List Term)
  | sta (s : Sta)
  | blk (b : Blk)
  | tops (bs : List Blk)
def Itm.enc : Itm → D
  | .str s => .str s
  | .int i => .int i
  | .trm t => t.enc
  | .args ts => .tuple (ts.map Term.enc)
  | .sta s => s.enc
  | .blk b => b.tup
  | .tops bs => .tuple (bs.map Blk.tup)
def Itm.kids : Itm → List Itm
  | .trm (.word n) => [.str "word", .int n]
  | .trm (.loc n) => [.str "local", .int n]
  | .trm (.cell s) => [.str "cell", .str s]
  | .trm (.row s t) => [.str "row", .str s, .trm t]
  | .trm (.not t) => [.str "not", .trm t]
  | .trm (.deed s a b) => [.str s, .trm a, .trm b]
  | .args ts => ts.map .trm
  | .sta (.act (.set i t)) => [.str "set", .int i, .trm t]
  | .sta (.act (.put s t)) => [.str "put", .str s, .trm t]
  | .sta (.act (.fill s a b)) => [.str "fill", .str s, .trm a, .trm b]
  | .sta (.act (.call i s as)) => [.str "call", .int i, .str s, .args as]
  | .sta (.act (.pick i)) => [.str "pick", .int i]
  | .sta (.act (.check t)) => [.str "check", .trm t]
  | .sta (.act (.tell t)) => [.str "tell", .trm t]
  | .sta (.act (.ret t)) => [.str "return", .trm t]
  | .sta (.ife t b c) => [.str "if", .trm t, .blk b, .blk c]
  | .sta (.whl t b) => [.str "while", .trm t, .blk b]
  | .blk b => b.stas.map .sta
  | .tops bs => bs.map .blk
  | _ => []
def Term.nod : Term → Nat
  | .row _ t => 3 + t.nod
  | .not t => 2 + t.nod
  | .deed _ a b => 2 + (a.nod + b.nod)
  | _ => 3
def Act.nod : Act → Nat
  | .set _ t => 3 + t.nod
  | .put _ t => 3 + t.nod
  | .fill _ a b => 3 + (a.nod + b.nod)
  | .call _ _ as => 5 + (as.map Term.nod).sum
  | .pick _ => 3
  | .check t => 2 + t.nod
  | .tell t => 2 + t.nod
  | .ret t => 2 + t.nod
def Blk.nod : Blk → Nat
  | .nil => 0
  | .act a r => a.nod + r.nod
  | .ife t b c r => 4 + (t.nod + (b.nod + c.nod)) + r.nod
  | .whl t b r => 3 + (t.nod + b.nod) + r.nod
def Sta.nod : Sta → Nat
  | .act a => a.nod
  | .ife t b c => 4 + (t.nod + (b.nod + c.nod))
  | .whl t b => 3 + (t.nod + b.nod)
def Itm.sz : Itm → Nat
  | .str _ => 1
  | .int _ => 1
  | .trm t => t.nod
  | .args ts => 1 + (ts.map Term.nod).sum
  | .sta s => s.nod
  | .blk b => 1 + b.nod
  | .tops bs => 1 + (bs.map fun b => 1 + b.nod).sum
theorem Blk.stas_nod : ∀ b : Blk, (b.stas.map Sta.nod).sum = b.nod
  | .nil => rfl
  | .act a r => by simp [Blk.stas, Blk.nod, Sta.nod, r.stas_nod]
  | .ife t b c r => by simp [Blk.stas, Blk.nod, Sta.nod, r.stas_nod]
  | .whl t b r => by simp [Blk.stas, Blk.nod, Sta.nod, r.stas_nod]
theorem Itm.kids_sz (x : Itm) : (x.kids.map Itm.sz).sum + 1 = x.sz := by
  cases x with
  | str s => rfl
  | int s => rfl
  | trm t => cases t <;> simp [Itm.kids, Itm.sz, Term.nod] <;> omega
  | args ts =>
    have e : (ts.map fun x => x.nod).sum = (ts.map Term.nod).sum := rfl
    simp [Itm.kids, Itm.sz, Function.comp_def]
    omega
  | sta s =>
    cases s with
    | act a => cases a <;> simp [Itm.kids, Itm.sz, Sta.nod, Act.nod] <;> omega
    | ife t b c => simp [Itm.kids, Itm.sz, Sta.nod]; omega
    | whl t b => simp [Itm.kids, Itm.sz, Sta.nod]; omega
  | blk b => 
    have h := b.stas_nod
    have e : (b.stas.map fun x => x.nod).sum = (b.stas.map Sta.nod).sum := rfl
    simp [Itm.kids, Itm.sz, Function.comp_def]
    omega
  | tops bs => simp [Itm.kids, Itm.sz, Function.comp_def]; omega
theorem itm_len (l : List Itm) : l.length ≤ (l.map Itm.sz).sum := by
  induction l with
  | nil => simp
  | cons x l ih =>
    have := x.kids_sz
    simp
    omega
def Itm.name : Itm → Option Str
  | .trm t => t.cell1.map (·.1)
  | .sta s => s.puts.head?.map (·.1)
  | _ => none
def Sta.tells (s : Sta) (c : Str) : Prop := ∃ o, (c, o) ∈ s.cellT
def Itm.tells (c : Str) : Itm → Prop
  | .trm t => ∃ y ∈ t.pre, ∃ o, y.cell1 = some (c, o)
  | .args ts => ∃ y ∈ preT ts, ∃ o, y.cell1 = some (c, o)
  | .sta s => s.tells c ∨ ∃ b ∈ s.blks, ∃ y ∈ b.pre, y.tells c
  | .blk b => ∃ y ∈ b.pre, y.tells c
  | .tops bs => ∃ b ∈ bs, ∃ y ∈ b.pre, y.tells c
  | _ => False
@[simp] theorem blks_act (a : Act) : (Sta.act a).blks = [] := rfl
@[simp] theorem blks_ife (t : Term) (b c : Blk) : (Sta.ife t b c).blks = [b, c] := rfl
@[simp] theorem blks_whl (t : Term) (b : Blk) : (Sta.whl t b).blks = [b] := rfl
theorem Blk.stas_pre : ∀ b : Blk, b.pre = b.stas.flatMap fun s => s :: s.blks.flatMap Blk.pre
  | .nil => rfl
  | .act a r => by simp [Blk.stas, Blk.pre, r.stas_pre]
  | .ife t b c r => by simp [Blk.stas, Blk.pre]; rw [← r.stas_pre]
  | .whl t b r => by simp [Blk.stas, Blk.pre]; rw [← r.stas_pre]
theorem Itm.tells_kids (c : Str) (x : Itm) (h : x.tells c) : x.name = some c ∨ ∃ k ∈ x.kids, k.tells c := by
  cases x with
  | str s => exact h.elim
  | int s => exact h.elim
  | trm t =>
    obtain ⟨y, hy, o, ho⟩ := h
    rw [t.pre_kids] at hy
    rcases List.mem_cons.mp hy with rfl | hy
    · exact .inl (by simp [Itm.name, ho])
    · right
      simp only [preT, List.mem_flatMap] at hy
      obtain ⟨k, hk, hy⟩ := hy
      refine ⟨.trm k, ?_, y, hy, o, ho⟩
      cases t <;> simp [Term.kids] at hk <;> simp [Itm.kids, hk]
  | args ts =>
    obtain ⟨y, hy, o, ho⟩ := h
    right
    simp only [preT, List.mem_flatMap] at hy
    obtain ⟨k, hk, hy⟩ := hy
    exact ⟨.trm k, by simp [Itm.kids, hk], y, hy, o, ho⟩
  | sta s =>
    rcases h with ⟨o, ho⟩ | ⟨b, hb, y, hy, ho⟩
    · simp only [Sta.cellT, List.mem_append, List.mem_filterMap] at ho
      rcases ho with ho | ⟨y, hy, ho⟩
      · left
        rcases s.puts_or with ⟨h1, _⟩ | ⟨c', o', h1, _⟩
        · rw [h1] at ho
          simp at ho
        · rw [h1] at ho
          simp at ho
          simp [Itm.name, h1, ho.1]
      · right
        cases s with
        | act a =>
          cases a with
          | call i nm as => exact ⟨.args as, by simp [Itm.kids], y, hy, o, ho⟩
          | pick i => simp [Sta.terms, preT] at hy
          | fill nm a b =>
            simp [Sta.terms, preT] at hy
            rcases hy with hy | hy
            · exact ⟨.trm a, by simp [Itm.kids], y, hy, o, ho⟩
            · exact ⟨.trm b, by simp [Itm.kids], y, hy, o, ho⟩
          | set i t =>
            simp [Sta.terms, preT] at hy
            exact ⟨.trm t, by simp [Itm.kids], y, hy, o, ho⟩
          | put i t =>
            simp [Sta.terms, preT] at hy
            exact ⟨.trm t, by simp [Itm.kids], y, hy, o, ho⟩
          | check t =>
            simp [Sta.terms, preT] at hy
            exact ⟨.trm t, by simp [Itm.kids], y, hy, o, ho⟩
          | tell t =>
            simp [Sta.terms, preT] at hy
            exact ⟨.trm t, by simp [Itm.kids], y, hy, o, ho⟩
          | ret t =>
            simp [Sta.terms, preT] at hy
            exact ⟨.trm t, by simp [Itm.kids], y, hy, o, ho⟩
        | ife t b c =>
          simp [Sta.terms, preT] at hy
          exact ⟨.trm t, by simp [Itm.kids], y, hy, o, ho⟩
        | whl t b =>
          simp [Sta.terms, preT] at hy
          exact ⟨.trm t, by simp [Itm.kids], y, hy, o, ho⟩
    · right
      refine ⟨.blk b, ?_, y, hy, ho⟩
      cases s with
      | act a => simp [Sta.blks] at hb
      | ife t b c =>
        simp [Sta.blks] at hb
        rcases hb with rfl | rfl <;> simp [Itm.kids]
      | whl t b =>
        simp [Sta.blks] at hb
        simp [Itm.kids, hb]
  | blk b =>
    obtain ⟨y, hy, ho⟩ := h
    right
    rw [b.stas_pre, List.mem_flatMap] at hy
    obtain ⟨s, hs, hy⟩ := hy
    refine ⟨.sta s, by simp [Itm.kids, hs], ?_⟩
    rcases List.mem_cons.mp hy with rfl | hy
    · exact .inl ho
    · right
      rw [List.mem_flatMap] at hy
      obtain ⟨b', hb', hy⟩ := hy
      exact ⟨b', hb', y, hy, ho⟩
  | tops bs =>
    obtain ⟨b, hb, hy⟩ := h
    exact .inr ⟨.blk b, by simp [Itm.kids, hb], hy⟩
def in4 (s : Str) : Bool := decide (s = "cell") || (decide (s = "row") || (decide (s = "put") || decide (s = "fill")))
/-- what the loop does with a thing -/
theorem Itm.look (x : Itm) (ok : ∀ t, x = .trm t → t.ok) : (isaN "tuple" x.enc = false ∧ x.kids = [] ∧ x.name = none) ∨ (∃ ds, x.enc = .tuple ds ∧ ds = x.kids.map Itm.enc ∧ ((x.name = none ∧ (ds.length ≤ 1 ∨ ∃ a r, ds = a :: r ∧ (isaN "str" a = false ∨ ∃ s : Str, a = .str s ∧ in4 s = false))) ∨ ∃ (s c : Str) (r : List D), x.name = some c ∧ ds = .str s :: .str c :: r ∧ in4 s = true)) := by
  cases x with
  | str s => exact .inl ⟨rfl, rfl, rfl⟩
  | int s => exact .inl ⟨rfl, rfl, rfl⟩
  | trm t =>
    right
    cases t with
    | word n => exact ⟨_, rfl, rfl, .inl ⟨rfl, .inr ⟨_, _, rfl, .inr ⟨_, rfl, by simp [in4]⟩⟩⟩⟩
    | loc n => exact ⟨_, rfl, rfl, .inl ⟨rfl, .inr ⟨_, _, rfl, .inr ⟨_, rfl, by simp [in4]⟩⟩⟩⟩
    | cell s => exact ⟨_, rfl, rfl, .inr ⟨_, _, _, rfl, rfl, by simp [in4]⟩⟩
    | row s t => exact ⟨_, rfl, rfl, .inr ⟨_, _, _, rfl, rfl, by simp [in4]⟩⟩
    | not t => exact ⟨_, rfl, rfl, .inl ⟨rfl, .inr ⟨_, _, rfl, .inr ⟨_, rfl, by simp [in4]⟩⟩⟩⟩
    | deed s a b =>
      have hd : DeedOk s := (ok _ rfl).1
      refine ⟨_, rfl, rfl, .inl ⟨rfl, .inr ⟨_, _, rfl, .inr ⟨_, rfl, ?_⟩⟩⟩⟩
      obtain ⟨s', hs, rfl⟩ := hd
      simp only [deeds, List.mem_cons, List.not_mem_nil, or_false] at hs
      rcases hs with rfl | rfl | rfl | rfl | rfl | rfl | rfl | rfl | rfl | rfl <;> simp [in4]
  | args ts =>
    right
    refine ⟨_, rfl, by simp [Itm.kids]; intro t _; rfl, .inl ⟨rfl, ?_⟩⟩
    cases ts with
    | nil => simp
    | cons t ts =>
      right
      refine ⟨_, _, rfl, .inl ?_⟩
      obtain ⟨a, r, e⟩ := enc_tuple t
      rw [e]
      rfl
  | sta s =>
    right
    cases s with
    | act a => cases a <;> first | exact ⟨_, rfl, rfl, .inl ⟨rfl, .inr ⟨_, _, rfl, .inr ⟨_, rfl, by simp [in4]⟩⟩⟩⟩ | exact ⟨_, rfl, rfl, .inr ⟨_, _, _, rfl, rfl, by simp [in4]⟩⟩
    | ife t b c => exact ⟨_, rfl, rfl, .inl ⟨rfl, .inr ⟨_, _, rfl, .inr ⟨_, rfl, by simp [in4]⟩⟩⟩⟩
    | whl t b => exact ⟨_, rfl, rfl, .inl ⟨rfl, .inr ⟨_, _, rfl, .inr ⟨_, rfl, by simp [in4]⟩⟩⟩⟩
  | blk b =>
    right
    refine ⟨_, rfl, by simp [Itm.kids, b.stas_encs]; intro s _; rfl, .inl ⟨rfl, ?_⟩⟩
    cases h : b.encs with
    | nil => simp
    | cons d ds =>
      right
      refine ⟨_, _, rfl, .inl ?_⟩
      have hd : d ∈ b.encs := by rw [h]; simp
      rw [b.stas_encs, List.mem_map] at hd
      obtain ⟨s, _, rfl⟩ := hd
      cases s with
      | act a => cases a <;> rfl
      | ife t b c => rfl
      | whl t b => rfl
  | tops bs =>
    right
    refine ⟨_, rfl, by simp [Itm.kids]; intro b _; rfl, .inl ⟨rfl, ?_⟩⟩
    cases bs with
    | nil => simp
    | cons b bs => exact .inr ⟨_, _, rfl, .inl rfl⟩
/-! ### dicts of names -/
def dkB (l : List Str) : List (Key × D) := l.map fun s => (.inr s, .bool true)
def ptB (l : List Str) (c : Str) : List Str := if c ∈ l then l else l ++ [c]
theorem valD_dkB (l : List Str) (c : Str) : valD (dkB l) (.inr c) = if c ∈ l then some (.bool true) else none := by
  induction l with
  | nil => rfl
  | cons p l ih =>
    by_cases h : p = c
    · simp [dkB, valD, List.find?_cons, h]
    · have h' : ¬ c = p := fun e => h e.symm
      unfold dkB valD at ih ⊢
      simp only [List.map_cons, List.find?_cons, Sum.inr.injEq, h, decide_false, List.mem_cons, h', false_or]
      exact ih
@[simp] theorem putD_dkB (l : List Str) (c : Str) : putD (dkB l) (.inr c) (.bool true) = dkB (ptB l c) := by
  unfold putD ptB
  rw [valD_dkB]
  by_cases h : c ∈ l
  · simp only [h, if_true, Option.isSome_some]
    unfold dkB
    rw [List.map_map]
    refine List.map_congr_left fun p _ => ?_
    by_cases h2 : p = c <;> simp [h2]
  · simp [h, dkB]
@[simp] theorem hasK_dkB (l : List Str) (c : Str) : hasK (.str c) (dkB l) = some (.bool (decide (c ∈ l))) := by
  simp only [hasK, keyD_str, Option.map_some, valD_dkB]
  by_cases h : c ∈ l <;> simp [h]
theorem mem_ptB (l : List Str) (c t : Str) : t ∈ ptB l c ↔ t = c ∨ t ∈ l := by
  unfold ptB
  split
  · rename_i h
    constructor
    · exact .inr
    · rintro (rfl | h')
      · exact h
      · exact h'
  · simp [or_comm]
theorem ptB_len (l : List Str) (c : Str) : (ptB l c).length ≤ l.length + 1 := by
  unfold ptB
  split <;> simp
def Itm.okI (x : Itm) : Prop := match x with
  | .trm t => t.ok
  | .args ts => ∀ t ∈ ts, t.ok
  | .sta s => (∀ t ∈ s.terms, t.ok) ∧ ∀ b ∈ s.blks, ∀ y ∈ b.pre, ∀ t ∈ y.terms, t.ok
  | .blk b => ∀ y ∈ b.pre, ∀ t ∈ y.terms, t.ok
  | .tops bs => ∀ b ∈ bs, ∀ y ∈ b.pre, ∀ t ∈ y.terms, t.ok
  | _ => True
theorem Itm.okI_kids (x : Itm) (h : x.okI) : ∀ k ∈ x.kids, k.okI := by
  cases x with
  | str s => simp [Itm.kids]
  | int s => simp [Itm.kids]
  | trm t => cases t <;> simp_all [Itm.kids, Itm.okI, Term.ok]
  | args ts => simpa [Itm.kids, Itm.okI] using h
  | sta s =>
    cases s with
    | act a => cases a <;> simp_all [Itm.kids, Itm.okI, Sta.terms]
    | ife t b c =>
      intro k hk
      simp [Itm.kids] at hk
      rcases hk with rfl | rfl | rfl | rfl
      · trivial
      · exact h.1 t (by simp [Sta.terms])
      · exact h.2 b (by simp)
      · exact h.2 c (by simp)
    | whl t b =>
      intro k hk
      simp [Itm.kids] at hk
      rcases hk with rfl | rfl | rfl
      · trivial
      · exact h.1 t (by simp [Sta.terms])
      · exact h.2 b (by simp)
  | blk b =>
    intro k hk
    simp [Itm.kids] at hk
    obtain ⟨s, hs, rfl⟩ := hk
    have hh : ∀ y ∈ b.pre, ∀ t ∈ y.terms, t.ok := h
    rw [b.stas_pre] at hh
    exact ⟨fun t ht => hh s (List.mem_flatMap.2 ⟨s, hs, by simp⟩) t ht, fun b' hb' y hy t ht => hh y (List.mem_flatMap.2 ⟨s, hs, by simp; exact .inr ⟨b', hb', hy⟩⟩) t ht⟩
  | tops bs =>
    intro k hk
    simp [Itm.kids] at hk
    obtain ⟨b, hb, rfl⟩ := hk
    exact h b hb
theorem names_in_at {Q : O → List O → Prop} (bs : List Blk) (N : Nat) (hN : (Itm.tops bs).sz ≤ N) (hN2 : N ≤ 1000000) (ok : (Itm.tops bs).okI) (q : ∀ l : List Str, (∀ c, (Itm.tops bs).tells c → c ∈ l) → Q (.f (.mk (dkB l))) [.f (.d (.tuple (bs.map Blk.tup)))]) : WpF m__law_names_in [.f (.d (.tuple (bs.map Blk.tup)))] Q := by
  refine wpf_body ?_
  simp [s__law_names_in, env0]
  refine wps_whM (fun n e => Hold (∃ (l : List Str) (W : List Itm) (M : List D) (x3 : Option O), M = W.map Itm.enc ∧ e = [some (.f (.d (.tuple (bs.map Blk.tup)))), some (.f (.mk (dkB l))), some (.f (.l M)), x3] ∧ n = (W.map Itm.sz).sum ∧ l.length + (W.map Itm.sz).sum ≤ N ∧ (∀ c, (Itm.tops bs).tells c → c ∈ l ∨ ∃ x ∈ W, x.tells c) ∧ ∀ x ∈ W, x.okI)) ?_ _ _ (.of ⟨[], [.tops bs], _, _, rfl, rfl, rfl, by simpa using hN, fun c h => .inr ⟨_, by simp, h⟩, by simpa using ok⟩)
  rintro n e ⟨l, W, M, x3, rfl, rfl, rfl, hl, ht, hok⟩
  rcases List.eq_nil_or_concat W with rfl | ⟨W, x, rfl⟩
  · simp [outs, np__law_names_in]
    exact q l fun c hc => by simpa using ht c hc
  · have hlen := itm_len W
    rw [List.concat_eq_append] at hl ht hok ⊢
    simp at hl
    have hk := x.kids_sz
    have hkl := itm_len x.kids
    have c0 : (0 : Int) < (W.length : Int) + 1 := by omega
    have z1 : W.length + 1 ≤ sizeLine := line_small' (by omega)
    have z2 : W.length ≤ sizeLine := line_small' (by omega)
    have z3 : x.kids.length ≤ sizeLine := line_small' (by omega)
    have z4 : W.length + x.kids.length ≤ sizeLine := line_small' (by omega)
    have z5 : l.length < sizeLine := Nat.lt_of_succ_le (line_small' (by omega))
    have hx := hok x (by simp)
    have hok' : ∀ y ∈ W ++ x.kids, y.okI := by
      intro y hy
      rcases List.mem_append.mp hy with hy | hy
      · exact hok y (by simp [hy])
      · exact x.okI_kids hx y hy
    have step : ∀ c, (Itm.tops bs).tells c → c ∈ l ∨ x.name = some c ∨ ∃ y ∈ W ++ x.kids, y.tells c := by
      intro c hc
      rcases ht c hc with h | ⟨y, hy, h⟩
      · exact .inl h
      · rcases List.mem_append.mp hy with hy | hy
        · exact .inr (.inr ⟨y, by simp [hy], h⟩)
        · simp at hy
          subst hy
          rcases y.tells_kids c h with h | ⟨k, hk, h⟩
          · exact .inr (.inl h)
          · exact .inr (.inr ⟨k, by simp [hk], h⟩)
    rcases x.look (fun t e => by subst e; exact hx) with ⟨g1, g2, g3⟩ | ⟨ds, g1, g2, g3⟩
    · simp [c0, z1, g1]
      refine ⟨_, ?_, .of ⟨l, W, _, _, rfl, rfl, rfl, by omega, ?_, fun y hy => hok y (by simp [hy])⟩⟩
      · simp
        omega
      · intro c hc
        have := step c hc
        rw [g2, g3] at this
        simpa using this
    · have hdl : ds.length = x.kids.length := by rw [g2]; simp
      rcases g3 with ⟨g3, g4⟩ | ⟨s, c, r, g3, g4, g5⟩
      · have fin : ∃ k, k < (W.map Itm.sz).sum + x.sz ∧ Hold (∃ (l' : List Str) (W' : List Itm) (M : List D) (x3 : Option O), M = W'.map Itm.enc ∧ ([some (.f (.d (.tuple (bs.map Blk.tup)))), some (.f (.mk (dkB l))), some (.f (.l (W.map Itm.enc ++ ds))), some (.f (.d (.tuple ds)))] : Pm.Env) = [some (.f (.d (.tuple (bs.map Blk.tup)))), some (.f (.mk (dkB l'))), some (.f (.l M)), x3] ∧ k = (W'.map Itm.sz).sum ∧ l'.length + (W'.map Itm.sz).sum ≤ N ∧ (∀ c, (Itm.tops bs).tells c → c ∈ l' ∨ ∃ x ∈ W', x.tells c) ∧ ∀ x ∈ W', x.okI) := by
          refine ⟨_, ?_, .of ⟨l, W ++ x.kids, _, _, ?_, rfl, rfl, ?_, ?_, hok'⟩⟩
          · simp
            omega
          · rw [g2]
            simp
          · simp
            omega
          · intro c hc
            have := step c hc
            rw [g3] at this
            simpa using this
        rcases g4 with g4 | ⟨a, r, g4, g5⟩
        · have g4' : ¬ (1 : Int) < ds.length := by omega
          have g4'' : ¬ 1 < ds.length := by omega
          have w1 : ds.length ≤ sizeLine := by omega
          have w2 : W.length + ds.length ≤ sizeLine := by omega
          simp [c0, z1, z2, g1, g4', g4'', w1, w2]
          exact fin
        · have w1 : r.length + 1 ≤ sizeLine := by rw [g4] at hdl; simp at hdl; omega
          have w2 : W.length + (r.length + 1) ≤ sizeLine := by rw [g4] at hdl; simp at hdl; omega
          subst g4
          by_cases g6 : r = []
          · subst g6
            have w3 : W.length + 1 ≤ sizeLine := z1
            simp [c0, z1, z2, g1]
            exact fin
          · have g7 : 0 < r.length := List.length_pos_iff.2 g6
            have g7' : (1 : Int) < (r.length : Int) + 1 := by omega
            rcases g5 with g5 | ⟨s, rfl, g5⟩
            · simp [c0, z1, z2, g1, g5, g7, g7', w1, w2]
              exact fin
            · have g5' : (decide (s = "cell") || (decide (s = "row") || (decide (s = "put") || decide (s = "fill")))) = false := g5
              simp [c0, z1, z2, g1, g5', g7, g7', w1, w2]
              exact fin
      · subst g4
        have w1 : r.length + 1 + 1 ≤ sizeLine := by simp at hdl; omega
        have w2 : W.length + (r.length + 1 + 1) ≤ sizeLine := by simp at hdl; omega
        have g7' : (1 : Int) < (r.length : Int) + 1 + 1 := by omega
        have g5' : (decide (s = "cell") || (decide (s = "row") || (decide (s = "put") || decide (s = "fill")))) = true := g5
        have hpl := ptB_len l c
        have zz : List.length (dkB l) < sizeLine := by simpa [dkB] using z5
        simp [c0, z1, z2, g1, g5', g7', w1, w2, zz]
        refine ⟨_, ?_, .of ⟨ptB l c, W ++ x.kids, _, _, ?_, rfl, rfl, ?_, ?_, hok'⟩⟩
        · simp
          omega
        · rw [List.map_append, ← g2]
        · simp
          omega
        · intro c' hc
          rw [mem_ptB]
          rcases step c' hc with h | h | h
          · exact .inl (.inr h)
          · rw [g3] at h
            cases h
            exact .inl (.inl rfl)
          · exact .inr h
end K13

/-! ## K13y -/
set_option Elab.async false
set_option linter.all false
set_option maxRecDepth 100000
set_option maxHeartbeats 4000000
/-! K13y: units with something otherwise. -/
namespace K13
open PySem PySem.Spec L2 Pm
variable [TabCtx]
structure Pr.okN (k : Nat) (p : Pr) : Prop where
  name : NameOk p.name
  params : p.params ≤ 3
  many : p.params ≤ p.many ∧ p.many ≤ 4
  body : p.body.ok
  dep : p.body.dep ≤ 2
  len : p.body.pre.length ≤ 12 + 12 * k
structure Un.okN (k : Nat) (u : Un) : Prop where
  name : NameOk u.name
  cells : ∀ c ∈ u.cells, NameOk c.1 ∧ 1 ≤ c.2.length ∧ c.2.length ≤ 4 ∧ ∀ w ∈ c.2, w ≤ 15
  ncells : u.cells.length ≤ 2 + k
  needs : ∀ c ∈ u.needs, NameOk c.1 ∧ 1 ≤ c.2 ∧ c.2 ≤ 4
  nneeds : u.needs.length ≤ 2 + k
  procs : ∀ p ∈ u.procs, p.okN k
  nprocs : u.procs.length ≤ 12
theorem Pr.okN.ok {k : Nat} {p : Pr} (h : p.okN k) (hk : k ≤ 3) : p.ok := ⟨h.name, h.params, h.many, h.body, by have := h.dep; omega, by have := h.len; omega⟩
theorem Un.okN.ok {k : Nat} {u : Un} (h : u.okN k) (hk : k ≤ 3) : u.ok := ⟨h.name, h.cells, by have := h.ncells; omega, h.needs, by have := h.nneeds; omega, fun p hp => (h.procs p hp).ok hk, h.nprocs⟩
theorem Pr.okN.up {k : Nat} {p : Pr} (h : p.okN k) : p.okN (k + 1) := ⟨h.name, h.params, h.many, h.body, h.dep, by have := h.len; omega⟩
theorem Term.inn_ok {many : Nat} {cells : List (Str × Nat)} (hm : many ≤ 4) (hc : ∀ c ∈ cells, NameOk c.1) : ∀ t : Term, t.inn many cells → t.ok
  | .word n, h => Nat.le_trans h (by omega)
  | .loc n, h => by
    have h : n < many := h
    show n ≤ 3
    omega
  | .cell s, h => hc _ h
  | .row s t, h => ⟨by
    obtain ⟨⟨n, _, hn⟩, _⟩ := h
    exact hc _ hn, t.inn_ok hm hc h.2⟩
  | .not t, h => t.inn_ok hm hc h
  | .deed s a b, h => ⟨h.1, a.inn_ok hm hc h.2.1, b.inn_ok hm hc h.2.2⟩
theorem Sta.inn_ok {many : Nat} {cells calls : List (Str × Nat)} (hm : many ≤ 4) (hc : ∀ c ∈ cells, NameOk c.1) (hl : ∀ c ∈ calls, NameOk c.1 ∧ c.2 ≤ 3) (s : Sta) (h : s.inn many cells calls) : s.ok where
  terms := fun t ht => ⟨Term.inn_ok hm hc t (h.terms t ht).1, by have := (h.terms t ht).2; omega⟩
  locs := fun i hi => by have := h.locs i hi; omega
  puts := fun p hp => by
    obtain ⟨n, hn, _⟩ := h.puts p hp
    exact hc _ hn
  call := fun p hp => hl p (h.call p hp)
theorem nm (s : String) (h : s ∈ names := by decide) : NameOk (Str.ofString s) := ⟨s, h, rfl⟩
theorem rep1 (k : Nat) (h0 : 0 < k) (hk : k ≤ 1000) : mulS (.tuple [.int 1]) (.int (k : Nat)) = some (.tuple ((List.replicate k 1).map fun w : Nat => .int (w : Nat))) := by
  unfold mulS
  by_cases h1 : k = 1
  · subst h1
    rfl
  · have g1 : ¬ (k : Int) = 1 := by omega
    have g2 : ¬ ((k : Int) ≤ 0 ∨ ([.int 1] : List D) = []) := by simp; omega
    have g3 : (k : Int) ≤ 1000 ∧ ([.int 1] : List D).length ≤ 1000 := by simp; omega
    simp only [g1, g2, if_false]
    rw [if_pos g3]
    congr 2
    simp
def bentE (h : Hand) (u : Un) : List O := [h.o, .f (.d u.enc)]
theorem Un.unp (u : Un) : u.enc = .tuple [.str u.name, .tuple (u.cells.map cE), .tuple (u.needs.map nE), .tuple (u.procs.map Pr.enc)] := rfl
theorem cells_pick : ∀ d ∈ ([.str "u", .str "v", .str "w", .str "zz"] : List D), ∃ c : Str, d = .str c ∧ NameOk c := by
  intro d hd
  simp only [List.mem_cons, List.not_mem_nil, or_false] at hd
  rcases hd with rfl | rfl | rfl | rfl
  · exact ⟨_, rfl, nm "u"⟩
  · exact ⟨_, rfl, nm "v"⟩
  · exact ⟨_, rfl, nm "w"⟩
  · exact ⟨_, rfl, nm "zz"⟩
theorem bent_at {Q : O → List O → Prop} (k : Nat) (hk : k ≤ 2) (h : Hand) (u : Un) (ok : u.okN k) (q : ∀ (h' : Hand) (u' : Un), u'.okN (k + 1) → Q (.f (.d u'.enc)) [h'.o, .f (.d u.enc)]) : WpF m__law_bent [h.o, .f (.d u.enc)] Q := by
  refine wpf_body ?_
  have hnc := ok.ncells
  have hnn := ok.nneeds
  have hnp := ok.nprocs
  have z1 : u.cells.length + 1 ≤ sizeLine := line_small (by omega)
  have z2 : u.needs.length + 1 ≤ sizeLine := line_small (by omega)
  have z3 : u.procs.length ≤ sizeLine := line_small (by omega)
  have z4 : u.cells.length ≤ sizeLine := line_small (by omega)
  have z5 : u.needs.length ≤ sizeLine := line_small (by omega)
  have hup : ∀ p ∈ u.procs, p.okN (k + 1) := fun p hp => (ok.procs p hp).up
  have t12 : cutD (u.procs.map Pr.enc) none (some 12) = u.procs.map Pr.enc := by
    have := cutD_hi (u.procs.map Pr.enc) 12
    rw [show ((12 : Nat) : Int) = 12 from rfl] at this
    rw [this]
    exact List.take_of_length_le (by simpa using hnp)
  simp [s__law_bent, env0, u.unp]
  refine draw_at h 8 (by decide) (by decide) fun h1 kind hkd => ?_
  simp
  refine any_at h1 _ (by simp) (by simp) fun h2 d hd => ?_
  obtain ⟨c, rfl, hc⟩ := cells_pick d hd
  have hkk : kind = 0 ∨ kind = 1 ∨ kind = 2 ∨ 2 < kind := by omega
  rcases hkk with rfl | rfl | rfl | hk2
  · simp
    refine draw_at h2 3 (by decide) (by decide) fun h3 v hv => ?_
    have hr := rep1 (1 + v) (by omega) (by omega)
    rw [show (((1 + v : Nat)) : Int) = 1 + (v : Int) by omega] at hr
    simp [hr, z1, z3, t12, outs, np__law_bent]
    have := q h3 ⟨u.name, u.cells ++ [(c, List.replicate (1 + v) 1)], u.needs, u.procs⟩ ⟨ok.name, ?_, by simp; omega, ok.needs, by simp; omega, hup, hnp⟩
    · simpa [Un.enc, cE] using this
    · intro x hx
      simp at hx
      rcases hx with hx | rfl
      · exact ok.cells x hx
      · refine ⟨hc, by simp, by simp; omega, fun w hw => ?_⟩
        simp at hw
        omega
  · simp
    refine draw_at h2 3 (by decide) (by decide) fun h3 v hv => ?_
    simp [z2, z3, t12, outs, np__law_bent]
    have := q h3 ⟨u.name, u.cells, u.needs ++ [(c, 1 + v)], u.procs⟩ ⟨ok.name, ok.cells, by simp; omega, ?_, by simp; omega, hup, hnp⟩
    · simpa [Un.enc, nE] using this
    · intro x hx
      simp at hx
      rcases hx with hx | rfl
      · exact ok.needs x hx
      · exact ⟨hc, by simp, by simp; omega⟩
  · simp [z4]
    refine draw_at h2 2 (by decide) (by decide) fun h3 v hv => ?_
    have g1 := cutD_lo (u.cells.map cE) 1
    rw [show ((1 : Nat) : Int) = 1 from rfl] at g1
    have g2 := cutD_hi (u.needs.map nE) v
    simp [z5, z3, t12, g1, g2, outs, np__law_bent]
    have := q h3 ⟨u.name, u.cells.drop 1, u.needs.take v, u.procs⟩ ⟨ok.name, fun x hx => ok.cells x (List.mem_of_mem_drop hx), by simp; omega, fun x hx => ok.needs x (List.mem_of_mem_take hx), by simp; omega, hup, hnp⟩
    simpa [Un.enc] using this
  · have k0 : ¬ kind = 0 := by omega
    have k1 : ¬ kind = 1 := by omega
    have k2 : ¬ kind = 2 := by omega
    have k0' : ¬ (kind : Int) = 0 := by omega
    have k1' : ¬ (kind : Int) = 1 := by omega
    have k2' : ¬ (kind : Int) = 2 := by omega
    have k3' : (2 : Int) < kind := by omega
    by_cases hp0 : u.procs = []
    · simp [k0, k1, k2, k0', k1', k2', hp0, hk2, k3', outs, np__law_bent]
      have := q h2 u ⟨ok.name, ok.cells, by omega, ok.needs, by omega, hup, hnp⟩
      simpa [Un.enc, hp0, cutD] using this
    · have hpl : 0 < u.procs.length := List.length_pos_iff.2 hp0
      have hpl' : (0 : Int) < u.procs.length := by omega
      have fin : ∀ (h' : Hand) (v : Nat) (there : Pr) (j : Nat), there.okN (k + 1) → Q (.f (.d (.tuple [.str u.name, .tuple (u.cells.map cE), .tuple (u.needs.map nE), .tuple (List.take 12 (List.take v (u.procs.map Pr.enc) ++ (there.enc :: List.drop j (u.procs.map Pr.enc))))]))) [h'.o, .f (.d u.enc)] := by
        intro h' v there j ht
        have := q h' ⟨u.name, u.cells, u.needs, (u.procs.take v ++ (there :: u.procs.drop j)).take 12⟩ ⟨ok.name, ok.cells, by have := ok.ncells; simp only []; omega, ok.needs, by have := ok.nneeds; simp only []; omega, ?_, by simp; omega⟩
        · simpa [Un.enc] using this
        · intro p hp
          have hp := List.mem_of_mem_take hp
          rcases List.mem_append.mp hp with hp | hp
          · exact hup p (List.mem_of_mem_take hp)
          · rcases List.mem_cons.mp hp with rfl | hp
            · exact ht
            · exact hup p (List.mem_of_mem_drop hp)
      have c12 : ∀ xs : List D, cutD xs none (some 12) = xs.take 12 := by
        intro xs
        have := cutD_hi xs 12
        rwa [show ((12 : Nat) : Int) = 12 from rfl] at this
      have clo1 : ∀ (xs : List D) (v : Nat), cutD xs (some ((v : Int) + 1)) none = xs.drop (v + 1) := by
        intro xs v
        exact cutD_lo xs (v + 1)
      simp [k0, k1, k2, k0', k1', k2', hk2, k3', hpl, hpl']
      refine draw_at h2 u.procs.length hpl (by omega) fun h3 v hv => ?_
      have hat := atI_nat (u.procs.map Pr.enc) v (by simpa using hv)
      have hp := ok.procs _ (List.getElem_mem hv)
      have w1 : min v u.procs.length + 1 ≤ sizeLine := line_small (by omega)
      have w2 : min v u.procs.length + 1 + (u.procs.length - (v + 1)) ≤ sizeLine := line_small (by omega)
      have w3 : min v u.procs.length + 1 + (u.procs.length - v) ≤ sizeLine := line_small (by omega)
      have w4 : min v u.procs.length + (u.procs.length - (v + 1) + 1) ≤ sizeLine := line_small (by omega)
      have w5 : min v u.procs.length + (u.procs.length - v + 1) ≤ sizeLine := line_small (by omega)
      simp [hat]
      generalize u.procs[v] = p at hp
      have hpe : p.enc = .tuple [.str p.name, .int p.params, .int p.many, p.body.tup] := rfl
      obtain ⟨m1, m2⟩ := hp.many
      have hpar := hp.params
      simp [hpe]
      have hkk : kind = 3 ∨ kind = 4 ∨ 4 < kind := by omega
      rcases hkk with rfl | rfl | hk4
      · have e1 : (if (p.params : Int) < (p.many : Int) - 1 then (p.many : Int) - 1 else p.params) = ((max p.params (p.many - 1) : Nat) : Int) := by
          split <;> omega
        have e2 : maxS [.int (p.params : Nat), .int ((p.many : Int) - 1)] = some (.int ((max p.params (p.many - 1) : Nat) : Int)) := by
          rw [← e1]
          rfl
        simp [e2, z3, w1, w2, w4, clo1, c12, cutD_hi, outs, np__law_bent]
        exact fin h3 v ⟨p.name, p.params, max p.params (p.many - 1), p.body⟩ (v + 1) ⟨hp.name, hp.params, by simp only []; omega, hp.body, hp.dep, hp.up.len⟩
      · obtain ⟨m', hm'⟩ : ∃ m' : Nat, m' = min p.many 3 := ⟨_, rfl⟩
        have e2 : minS [.int (p.many : Nat), .int 3] = some (.int (m' : Nat)) := by
          show some (PyData.int (if (3 : Int) < p.many then 3 else p.many)) = _
          congr 2
          split <;> omega
        have e5 : (0 : Int) < (m' : Int) + 1 := by omega
        have e4 : (p.params + 1) % (m' + 1) < m' + 1 := Nat.mod_lt _ (by omega)
        simp [e2, e5, z3, w1, w2, w4, clo1, c12, cutD_hi, outs, np__law_bent]
        have := fin h3 v ⟨p.name, (p.params + 1) % (m' + 1), p.many, p.body⟩ (v + 1) ⟨hp.name, by simp only []; omega, by simp only []; omega, hp.body, hp.dep, hp.up.len⟩
        simpa [Pr.enc, u.unp] using this
      · have k4' : (4 : Int) < kind := by omega
        have l3 : ¬ kind = 3 := by omega
        have l4 : ¬ kind = 4 := by omega
        have l3' : ¬ (kind : Int) = 3 := by omega
        have l4' : ¬ (kind : Int) = 4 := by omega
        simp [l3, l4, l3', l4', hk4, k4']
        refine any_at h3 (([[("u", 1), ("v", 2)], [("u", 2), ("w", 1)], [("v", 1)]] : List (List (Str × Nat))).map fun l => .list (l.map nE)) (by simp) (by simp) fun h4 d hd => ?_
        simp only [List.mem_map] at hd
        obtain ⟨cells, hcs, rfl⟩ := hd
        have hcn : ∀ c ∈ cells, NameOk c.1 := by
          simp only [List.mem_cons, List.not_mem_nil, or_false] at hcs
          rcases hcs with rfl | rfl | rfl <;> intro c hc <;> simp at hc
          · rcases hc with rfl | rfl
            · exact nm "u"
            · exact nm "v"
          · rcases hc with rfl | rfl
            · exact nm "u"
            · exact nm "w"
          · subst hc
            exact nm "v"
        have hcl : cells.length < 1000 := by
          simp only [List.mem_cons, List.not_mem_nil, or_false] at hcs
          rcases hcs with rfl | rfl | rfl <;> simp
        simp
        refine draw_at h4 3 (by decide) (by decide) fun h5 v1 hv1 => ?_
        simp
        refine draw_at h5 3 (by decide) (by decide) fun h6 v2 hv2 => ?_
        simp
        refine draw_at h6 3 (by decide) (by decide) fun h7 v3 hv3 => ?_
        simp
        have hcalls : ([.tuple [.str "aa", .int v1], .tuple [.str "bb", .int v2], .tuple [.str "cc", .int v3]] : List D) = ([("aa", v1), ("bb", v2), ("cc", v3)] : List (Str × Nat)).map nE := rfl
        rw [hcalls]
        have hcc : ∀ c ∈ ([("aa", v1), ("bb", v2), ("cc", v3)] : List (Str × Nat)), NameOk c.1 ∧ c.2 ≤ 3 := by
          intro c hc
          simp at hc
          rcases hc with rfl | rfl | rfl
          · exact ⟨nm "aa", by simp only []; omega⟩
          · exact ⟨nm "bb", by simp only []; omega⟩
          · exact ⟨nm "cc", by simp only []; omega⟩
        refine lines_at (many := 4) h7 1 (by omega) (by omega) (by omega) hcl (by simp) (fun c hc => by have := (hcc c hc).2; omega) fun h8 b hb hbd hbl hbn => ?_
        simp [lnO]
        refine short_at b (by simp [lx] at hbn; omega) (by omega) fun b' hb1 hb2 hb3 => ?_
        have hbo : (p.body.app b').ok := by
          intro s hs
          rw [Blk.app_pre] at hs
          rcases List.mem_append.mp hs with hs | hs
          · exact hp.body s hs
          · exact Sta.inn_ok (by omega) hcn hcc s (hb s (hb1 s hs))
        have hpl1 := hp.len
        have w6 : p.body.encs.length + b'.encs.length ≤ sizeLine := line_small (by have := p.body.encs_len; have := b'.encs_len; omega)
        have e6 : addD p.body.tup b'.tup = some (p.body.app b').tup := by
          have : p.body.encs.length + b'.encs.length ≤ sizeLine := w6
          simp [Blk.tup, this]
        have hno : (⟨p.name, p.params, p.many, p.body.app b'⟩ : Pr).okN (k + 1) := ⟨hp.name, hp.params, hp.many, hbo, by have := hp.dep; simp; omega, by simp; omega⟩
        by_cases k7 : kind = 7
        · have k7' : (kind : Int) = 7 := by omega
          simp [e6, k7, k7', z3, w1, w3, w5, cutD_lo, c12, cutD_hi, outs, np__law_bent]
          exact fin h8 v _ v hno
        · have k7' : ¬ (kind : Int) = 7 := by omega
          simp [e6, k7, k7', z3, w1, w2, w4, clo1, c12, cutD_hi, outs, np__law_bent]
          exact fin h8 v _ (v + 1) hno
end K13

/-! ## K13z -/
set_option Elab.async false
set_option linter.all false
set_option maxRecDepth 100000
set_option maxHeartbeats 4000000
/-! K13z: drawn programs. -/
namespace K13
open PySem PySem.Spec L2 Pm
variable [TabCtx]
def cellsO : List DI := [[], [("u", 1)], [("u", 1), ("v", 2)], [("v", 2)], [("u", 1), ("w", 1)]]
def namesO : List (List Str) := [["aa"], ["aa", "bb"], ["aa", "bb"]]
structure Plan where
  cells : DI
  names : List Str
  P : DI
  N : Nat
  S : DI
structure Plan.ok (p : Plan) : Prop where
  cells : p.cells ∈ cellsO
  names : ∃ l ∈ namesO, p.names = Str.ofString "main" :: l
  P : ∃ p1 p2 : Nat, p1 ≤ 1 ∧ p2 ≤ 1 ∧ p.P = mg [] [("main", 0), ("aa", p1), ("bb", p2)]
  N : 1 ≤ p.N ∧ p.N ≤ 3
  S : ∀ x, x ∈ p.names ∨ x ∈ p.cells.map (·.1) → ∃ v, v < p.N ∧ gt p.S x = some v
structure RowOk (p : Plan) (r : Pr) : Prop where
  params : gt p.P r.name = some r.params
  many : r.params ≤ r.many ∧ 1 ≤ r.many ∧ r.many ≤ 2
  body : ∃ calls : DI, (∀ c ∈ calls, c.1 ∈ p.names ∧ gt p.P c.1 = some c.2) ∧ r.body.inn r.many p.cells calls
  dep : r.body.dep ≤ 2
  len : r.body.pre.length ≤ 12
def unames : List Str := ["one", "two", "three"]
structure UnOk (p : Plan) (rows : List Pr) (i : Nat) (u : Un) : Prop where
  name : unames[i]? = some u.name
  cells : u.cells.map cl = p.cells.filter fun c => decide (gt p.S c.1 = some i)
  words : ∀ c ∈ u.cells, ∀ w ∈ c.2, w ≤ 3
  procs : u.procs = rows.filter fun r => decide (gt p.S r.name = some i)
  needs : ∃ tl : List Str, (∀ q ∈ u.procs, ∀ y ∈ q.body.pre, ∀ c, y.tells c → c ∈ tl) ∧ u.needs = p.cells.filter fun c => decide (c.1 ∈ tl) && !decide (gt p.S c.1 = some i)
structure ProgOk (p : Plan) (rows : List Pr) (us : List Un) : Prop where
  plan : p.ok
  prow : ∀ r ∈ rows, RowOk p r
  rnames : rows.map (·.name) = p.names
  len : us.length = p.N
  units : ∀ i u, us[i]? = some u → UnOk p rows i u
def Prog (w : Nat) (us : List Un) : D := .tuple [.int (w : Nat), .tuple (us.map Un.enc)]
theorem cellsO_small : ∀ l ∈ cellsO, l.length ≤ 2 ∧ (∀ c ∈ l, NameOk c.1 ∧ 1 ≤ c.2 ∧ c.2 ≤ 2) ∧ (l.map (·.1)).Nodup := by
  intro l hl
  simp only [cellsO, List.mem_cons, List.not_mem_nil, or_false] at hl
  rcases hl with rfl | rfl | rfl | rfl | rfl
  · simp
  · refine ⟨by simp, ?_, by simp⟩
    intro c hc
    simp at hc
    subst hc
    exact ⟨nm "u", by simp⟩
  · refine ⟨by simp, ?_, by simp⟩
    intro c hc
    simp at hc
    rcases hc with rfl | rfl
    · exact ⟨nm "u", by simp⟩
    · exact ⟨nm "v", by simp⟩
  · refine ⟨by simp, ?_, by simp⟩
    intro c hc
    simp at hc
    subst hc
    exact ⟨nm "v", by simp⟩
  · refine ⟨by simp, ?_, by simp⟩
    intro c hc
    simp at hc
    rcases hc with rfl | rfl
    · exact ⟨nm "u", by simp⟩
    · exact ⟨nm "w", by simp⟩
theorem namesO_small : ∀ l ∈ namesO, l.length ≤ 2 ∧ (∀ c ∈ l, c = "aa" ∨ c = "bb") ∧ l.Nodup := by
  intro l hl
  simp only [namesO, List.mem_cons, List.not_mem_nil, or_false] at hl
  rcases hl with rfl | rfl | rfl <;> refine ⟨by simp, ?_, by simp⟩ <;> intro c hc <;> simp at hc <;> simp [hc]
theorem Plan.ok.pgt {p : Plan} (h : p.ok) : ∀ x ∈ p.names, ∃ n, n ≤ 1 ∧ gt p.P x = some n := by
  obtain ⟨l, hl, hn⟩ := h.names
  obtain ⟨p1, p2, h1, h2, hP⟩ := h.P
  intro x hx
  rw [hn] at hx
  rw [hP]
  rcases List.mem_cons.mp hx with rfl | hx
  · exact ⟨0, by omega, by simp [mg]⟩
  · rcases (namesO_small l hl).2.1 x hx with rfl | rfl
    · exact ⟨p1, h1, by simp [mg]⟩
    · exact ⟨p2, h2, by simp [mg]⟩
theorem Plan.ok.nameok {p : Plan} (h : p.ok) : ∀ x ∈ p.names, NameOk x := by
  obtain ⟨l, hl, hn⟩ := h.names
  intro x hx
  rw [hn] at hx
  rcases List.mem_cons.mp hx with rfl | hx
  · exact nm "main"
  · rcases (namesO_small l hl).2.1 x hx with rfl | rfl
    · exact nm "aa"
    · exact nm "bb"
theorem Plan.ok.namelen {p : Plan} (h : p.ok) : p.names.length ≤ 3 := by
  obtain ⟨l, hl, hn⟩ := h.names
  have := (namesO_small l hl).1
  rw [hn]
  simp
  omega
theorem henumS (xs : List Str) : enumD (xs.map .str) = xs.zipIdx.map (fun q : Str × Nat => .tuple [.int (q.2 : Nat), .str q.1]) := by
  simp [enumD_eq, List.zipIdx_map, Function.comp_def]
theorem max1 (a : Nat) : maxS [.int 1, .int (a : Nat)] = some (.int ((max 1 a : Nat) : Int)) := by
  show some (PyData.int (if (a : Int) > 1 then (a : Int) else 1)) = _
  congr 2
  split <;> omega
theorem nodS (l : List Sta) (n : Nat) (h : ∀ s ∈ l, s.nod ≤ n) : (l.map Sta.nod).sum ≤ n * l.length := by
  induction l with
  | nil => simp
  | cons s l ih =>
    have h1 := h s (by simp)
    have h2 := ih fun x hx => h x (by simp [hx])
    simp only [List.map_cons, List.sum_cons, List.length_cons, Nat.mul_succ]
    omega
theorem Term.nod_le : ∀ t : Term, t.nod ≤ 3 * t.pre.length
  | .word _ => by simp [Term.nod, Term.pre]
  | .loc _ => by simp [Term.nod, Term.pre]
  | .cell _ => by simp [Term.nod, Term.pre]
  | .row _ t => by have := t.nod_le; simp [Term.nod, Term.pre]; omega
  | .not t => by have := t.nod_le; simp [Term.nod, Term.pre]; omega
  | .deed _ a b => by have := a.nod_le; have := b.nod_le; simp [Term.nod, Term.pre]; omega
theorem nodT (ts : List Term) : (ts.map Term.nod).sum ≤ 3 * (preT ts).length := by
  induction ts with
  | nil => simp
  | cons t ts ih => have := t.nod_le; simp [preT] at ih ⊢; omega
/-- a statement without its blocks -/
def Act.le (a : Act) : a.nod ≤ 5 + 3 * (preT (Sta.act a).terms).length := by
  cases a with
  | call i s as => have := nodT as; simp [Act.nod, Sta.terms]; omega
  | fill s x y => have := x.nod_le; have := y.nod_le; simp [Act.nod, Sta.terms, preT]; omega
  | pick i => simp [Act.nod, Sta.terms, preT]
  | set i t => have := t.nod_le; simp [Act.nod, Sta.terms, preT]; omega
  | put i t => have := t.nod_le; simp [Act.nod, Sta.terms, preT]; omega
  | check t => have := t.nod_le; simp [Act.nod, Sta.terms, preT]; omega
  | tell t => have := t.nod_le; simp [Act.nod, Sta.terms, preT]; omega
  | ret t => have := t.nod_le; simp [Act.nod, Sta.terms, preT]; omega
theorem Blk.nod_le : ∀ b : Blk, b.ok → b.nod ≤ 140 * b.pre.length
  | .nil, _ => by simp [Blk.nod]
  | .act a r, h => by
    have h1 := r.nod_le fun s hs => h s (by simp [Blk.pre, hs])
    have h2 := a.le
    have h3 := Sta.pre_len (.act a) (h _ (by simp [Blk.pre]))
    simp [Blk.nod, Blk.pre]
    omega
  | .ife t b c r, h => by
    have h1 := r.nod_le fun s hs => h s (by simp [Blk.pre, hs])
    have h2 := b.nod_le fun s hs => h s (by simp [Blk.pre, hs])
    have h3 := c.nod_le fun s hs => h s (by simp [Blk.pre, hs])
    have h4 := t.nod_le
    have h5 := Sta.pre_len (.ife t b c) (h _ (by simp [Blk.pre]))
    simp [Sta.terms, preT] at h5
    simp [Blk.nod, Blk.pre]
    omega
  | .whl t b r, h => by
    have h1 := r.nod_le fun s hs => h s (by simp [Blk.pre, hs])
    have h2 := b.nod_le fun s hs => h s (by simp [Blk.pre, hs])
    have h4 := t.nod_le
    have h5 := Sta.pre_len (.whl t b) (h _ (by simp [Blk.pre]))
    simp [Sta.terms, preT] at h5
    simp [Blk.nod, Blk.pre]
    omega
theorem RowOk.ok {p : Plan} (hp : p.ok) {r : Pr} (h : RowOk p r) (hn : r.name ∈ p.names) : r.okN 0 := by
  obtain ⟨calls, hc, hb⟩ := h.body
  obtain ⟨n, hn1, hn2⟩ := hp.pgt r.name hn
  have hr : r.params = n := by
    have := h.params
    rw [hn2] at this
    exact (Option.some.inj this).symm
  refine ⟨hp.nameok _ hn, by omega, ⟨h.many.1, by have := h.many.2; omega⟩, ?_, h.dep, by have := h.len; omega⟩
  intro s hs
  refine Sta.inn_ok (by have := h.many.2; omega) (fun c hc' => ((cellsO_small p.cells hp.cells).2.1 c hc').1) (fun c hc' => ?_) s (hb s hs)
  obtain ⟨g1, g2⟩ := hc c hc'
  obtain ⟨m, m1, m2⟩ := hp.pgt c.1 g1
  rw [g2] at m2
  cases m2
  exact ⟨hp.nameok _ g1, by omega⟩
noncomputable def s_row : MS := (seqS (setS 15 (call2 maxS (cst (.int 1)) (addA (dget 5 (varD 8)) (asD (callM [some 0, none] (hasS 0 (argsC (cst (.int 2)) args0)) m__law_draw)))))
  (dropS (mutL 11 (argsC (tupM (argsC (varD 8) (argsC (dget 5 (varD 8)) (argsC (varD 15) (argsC (asD (callM [none] (argsC (asD (callM [some 0, none, none, none, none] (hasS 0 (argsC (varD 15) (argsC (varD 3) (argsC (frzV 13) (argsC (cst (.int 2)) args0))))) (m__law_lines 12))) args0) m__law_short)) args0))))) args0) appF)))
noncomputable def s_prog2 : MS := (seqS (setS 3 (asD (callM [some 0, none] (hasS 0 (argsC (lstM (linM (argsC (lstM (linM args0)) (argsC (lstM (linM (argsC (tupM (argsC (cst (.str "u")) (argsC (cst (.int 1)) args0))) args0))) (argsC (lstM (linM (argsC (tupM (argsC (cst (.str "u")) (argsC (cst (.int 1)) args0))) (argsC (tupM (argsC (cst (.str "v")) (argsC (cst (.int 2)) args0))) args0)))) (argsC (lstM (linM (argsC (tupM (argsC (cst (.str "v")) (argsC (cst (.int 2)) args0))) args0))) (argsC (lstM (linM (argsC (tupM (argsC (cst (.str "u")) (argsC (cst (.int 1)) args0))) (argsC (tupM (argsC (cst (.str "w")) (argsC (cst (.int 1)) args0))) args0)))) args0))))))) args0)) m__law_any)))
  (seqS (setS 4 (addA (lstM (linM (argsC (cst (.str "main")) args0))) (asD (callM [some 0, none] (hasS 0 (argsC (lstM (linM (argsC (lstM (linM (argsC (cst (.str "aa")) args0))) (argsC (lstM (linM (argsC (cst (.str "aa")) (argsC (cst (.str "bb")) args0)))) (argsC (lstM (linM (argsC (cst (.str "aa")) (argsC (cst (.str "bb")) args0)))) args0))))) args0)) m__law_any))))
  (seqS (setO 5 (dispO [(.inr "main", (cst (.int 0))), (.inr "aa", (asD (callM [some 0, none] (hasS 0 (argsC (cst (.int 2)) args0)) m__law_draw))), (.inr "bb", (asD (callM [some 0, none] (hasS 0 (argsC (cst (.int 2)) args0)) m__law_draw)))]))
  (seqS (parS [6, 7] (argO (asO (addA (cst (.int 1)) (asD (callM [some 0, none] (hasS 0 (argsC (cst (.int 3)) args0)) m__law_draw)))) (argO (M.ret (.mk [])) argO0)))
  (seqS (forM (itsA (addA (varD 4) (lcM [9, 10] (itsA (varD 3)) (tupT [(nameB 9), (nameB 10)]) allT (varD 9)))) (nameB 8) (dput 7 (asD (callM [some 0, none] (hasS 0 (argsC (varD 6) args0)) m__law_draw)) (varD 8)))
  (seqS (setO 11 (mkL (linM args0)))
  (seqS (forM (enumM (argsC (varD 4) args0)) (tupT [(nameB 12), (nameB 8)]) (seqS (setO 13 (lcO [14] (itsA (ifV (tst (varD 2)) (cutA (varD 4) (partM (cst (.int 1))) noPart) (cutA (varD 4) (partM (addA (varD 12) (cst (.int 1)))) noPart))) (nameB 14) allT (tupM (argsC (varD 14) (argsC (dget 5 (varD 14)) args0)))))
  s_row))
  (seqS (setO 16 (mkL (linM args0)))
  (seqS (forM (rng1 (argsC (varD 6) args0)) (nameB 17) (seqS (setO 18 (mkL (linM args0)))
  (seqS (forM (itsA (varD 3)) (tupT [(nameB 9), (nameB 10)]) (iteS (tst (op2 eqS (dget 7 (varD 9)) (varD 17))) (dropS (mutL 18 (argsC (tupM (argsC (varD 9) (argsC (tupB1 (lcM [12] (rng1 (argsC (varD 10) args0)) (nameB 12) allT (asD (callM [some 0, none] (hasS 0 (argsC (cst (.int 4)) args0)) m__law_draw)))) args0))) args0) appF)) nxt))
  (seqS (setS 19 (tupB1 (lcM [20] (itsA (frzV 11)) (nameB 20) (tst (op2 eqS (dget 7 (op2 getS (varD 20) (cst (.int 0)))) (varD 17))) (varD 20))))
  (seqS (setO 21 (callM [none] (argsC (tupB1 (lcM [20] (itsA (varD 19)) (nameB 20) allT (op2 getS (varD 20) (cst (.int 3))))) args0) m__law_names_in))
  (seqS (setO 22 (lcO [9, 10] (itsA (varD 3)) (tupT [(nameB 9), (nameB 10)]) (andT (tst (din 21 (varD 9))) (tst (op2 neS (dget 7 (varD 9)) (varD 17)))) (tupM (argsC (varD 9) (argsC (varD 10) args0)))))
  (dropS (mutL 16 (argsC (tupM (argsC (op2 getS (lstM (linM (argsC (cst (.str "one")) (argsC (cst (.str "two")) (argsC (cst (.str "three")) args0))))) (varD 17)) (argsC (tupB1 (plc 18)) (argsC (tupB1 (plc 22)) (argsC (varD 19) args0))))) args0) appF))))))))
  (retD (tupM (argsC (varD 1) (argsC (tupB1 (plc 16)) args0)))))))))))))
theorem s_prog_eq : s__law_program = s_prog2 := rfl
theorem program_at {Q : O → List O → Prop} (h : Hand) (w : Nat) (b : Bool) (q : ∀ (h' : Hand) (p : Plan) (rows : List Pr) (us : List Un), ProgOk p rows us → Q (.f (.d (Prog w us))) [h'.o, .f (.d (.int (w : Nat))), .f (.d (.bool b))]) : WpF m__law_program [h.o, .f (.d (.int (w : Nat))), .f (.d (.bool b))] Q := by
  refine wpf_body ?_
  rw [s_prog_eq]
  simp [s_prog2, env0]
  refine any_at h (cellsO.map fun l => .list (l.map nE)) (by simp [cellsO]) (by simp [cellsO]) fun h1 d hd => ?_
  simp only [List.mem_map] at hd
  obtain ⟨cells, hcells, rfl⟩ := hd
  obtain ⟨hcl, hcn, hcd⟩ := cellsO_small cells hcells
  simp
  refine any_at h1 (namesO.map fun l => .list (l.map .str)) (by simp [namesO]) (by simp [namesO]) fun h2 d hd => ?_
  simp only [List.mem_map] at hd
  obtain ⟨l, hl, rfl⟩ := hd
  obtain ⟨hll, hln, hld⟩ := namesO_small l hl
  have z0 : 1 + l.length ≤ sizeLine := line_small (by omega)
  obtain ⟨names, hnames⟩ : ∃ names : List Str, names = Str.ofString "main" :: l := ⟨_, rfl⟩
  have hnm : addD (.list [.str "main"]) (.list (l.map .str)) = some (.list (names.map .str)) := by
    simp [z0, hnames]
  have hnl : names.length ≤ 3 := by rw [hnames]; simp; omega
  simp [-addD_lst, hnm]
  refine draw_at h2 2 (by decide) (by decide) fun h3 p1 hp1 => ?_
  simp
  refine draw_at h3 2 (by decide) (by decide) fun h4 p2 hp2 => ?_
  have hP : mergeD [] [((.inr "main" : Key), (.int 0 : D)), (.inr "aa", .int (p1 : Nat)), (.inr "bb", .int (p2 : Nat))] = dk (mg [] [("main", 0), ("aa", p1), ("bb", p2)]) := mergeD_dk [("main", 0), ("aa", p1), ("bb", p2)] []
  obtain ⟨P, hPe⟩ : ∃ P, P = mg [] [((Str.ofString "main"), 0), ((Str.ofString "aa"), p1), ((Str.ofString "bb"), p2)] := ⟨_, rfl⟩
  rw [← hPe] at hP
  simp [hP]
  refine draw_at h4 3 (by decide) (by decide) fun h5 v hv => ?_
  obtain ⟨N, hN⟩ : ∃ N : Nat, N = 1 + v := ⟨_, rfl⟩
  have hN' : addD (.int 1) (.int (v : Nat)) = some (.int (N : Nat)) := by
    rw [hN]
    simp
  simp [-addD_int, hN']
  refine wp_lcA nE (fun c => .str c.1) (line_small (by omega)) (fun c hc => ?_) ?_
  · simp [nE]
  · have hall : (names.map .str : List D) ++ cells.map (fun c => .str c.1) = (names ++ cells.map (·.1)).map .str := by simp
    have z1 : names.length + cells.length ≤ sizeLine := line_small (by omega)
    simp [z1]
    rw [hall]
    refine wps_forT (fun s : Str => .str s) (fun r e => Hold (∃ (h6 : Hand) (S : DI) (x8 : Option O), e = [some h6.o, some (.f (.d (.int (w : Nat)))), some (.f (.d (.bool b))), some (.f (.d (.list (cells.map nE)))), some (.f (.d (.list (names.map .str)))), some (.f (.mk (dk P))), some (.f (.d (.int (N : Nat)))), some (.f (.mk (dk S))), x8, none, none, none, none, none, none, none, none, none, none, none, none, none, none] ∧ S.length + r.length ≤ 10 ∧ ∀ x ∈ names ++ cells.map (·.1), x ∈ r ∨ ∃ v, v < N ∧ gt S x = some v)) ?_ ?_ (.of ⟨h5, [], none, rfl, by simp; omega, fun x hx => .inl hx⟩)
    · rintro s r e ⟨h6, S, x8, rfl, hlen, hS⟩
      simp at hlen
      have z3 : S.length < sizeLine := Nat.lt_of_succ_le (line_small (by omega))
      simp
      refine draw_at h6 N (by omega) (by omega) fun h7 v hv => ?_
      have hpl := pt_length S s v
      simp [z3]
      refine .of ⟨h7, _, _, rfl, by omega, fun x hx => ?_⟩
      rw [gt_pt]
      by_cases hxs : x = s
      · exact .inr ⟨v, hv, by simp [hxs]⟩
      · rcases hS x hx with h | h
        · rcases List.mem_cons.mp h with h | h
          · exact absurd h hxs
          · exact .inl h
        · simp only [hxs, if_false]
          exact .inr h
    · rintro e ⟨h6, S, x8, rfl, -, hS⟩
      have hS : ∀ x, x ∈ names ∨ x ∈ cells.map (·.1) → ∃ v, v < N ∧ gt S x = some v := by
        intro x hx
        rcases hS x (List.mem_append.2 hx) with h | h
        · cases h
        · exact h
      have hplan : (⟨cells, names, P, N, S⟩ : Plan).ok := ⟨hcells, ⟨l, hl, hnames⟩, ⟨p1, p2, by omega, by omega, hPe⟩, ⟨by simp only []; omega, by simp only []; omega⟩, hS⟩
      have hpg := hplan.pgt
      simp only at hpg
      simp
      rw [henumS]
      refine wps_forT (fun q : Str × Nat => .tuple [.int (q.2 : Nat), .str q.1]) (fun r e => Hold (∃ (h7 : Hand) (rs : List Pr) (R : List D) (x8 x12 x13 x15 : Option O), R = rs.map Pr.enc ∧ e = [some h7.o, some (.f (.d (.int (w : Nat)))), some (.f (.d (.bool b))), some (.f (.d (.list (cells.map nE)))), some (.f (.d (.list (names.map .str)))), some (.f (.mk (dk P))), some (.f (.d (.int (N : Nat)))), some (.f (.mk (dk S))), x8, none, none, some (.f (.l R)), x12, x13, none, x15, none, none, none, none, none, none, none] ∧ rs.map (·.name) ++ r.map (·.1) = names ∧ ∀ x ∈ rs, RowOk ⟨cells, names, P, N, S⟩ x)) ?_ ?_ (.of ⟨h6, [], [], x8, none, none, none, rfl, rfl, by simp, by simp⟩)
      · rintro ⟨nm', i⟩ r e ⟨h7, rs, R, x8, x12, x13, x15, rfl, rfl, hrn, hrs⟩
        have hnm' : nm' ∈ names := by rw [← hrn]; simp
        obtain ⟨pn, hpn1, hpn2⟩ := hpg nm' hnm'
        have hlen := congrArg List.length hrn
        simp at hlen
        have zr1 : rs.length ≤ sizeLine := line_small (by omega)
        have zr2 : rs.length < sizeLine := Nat.lt_of_succ_le (line_small (by omega))
        have znl : names.length ≤ sizeLine := line_small (by omega)
        have body : ∀ (calls : DI), (∀ c ∈ calls, c.1 ∈ names ∧ gt P c.1 = some c.2) → calls.length ≤ 3 → ∀ (x12 : Option O) (K : RS → Prop), (∀ (h8 : Hand) (pr : Pr) (x13 x15 : Option O), pr.name = nm' → RowOk ⟨cells, names, P, N, S⟩ pr → K (.next [some h8.o, some (.f (.d (.int (w : Nat)))), some (.f (.d (.bool b))), some (.f (.d (.list (cells.map nE)))), some (.f (.d (.list (names.map .str)))), some (.f (.mk (dk P))), some (.f (.d (.int (N : Nat)))), some (.f (.mk (dk S))), some (.f (.d (.str nm'))), none, none, some (.f (.l (rs.map Pr.enc ++ [pr.enc]))), x12, x13, none, x15, none, none, none, none, none, none, none])) →
            WpS s_row
              [some h7.o, some (.f (.d (.int (w : Nat)))), some (.f (.d (.bool b))), some (.f (.d (.list (cells.map nE)))), some (.f (.d (.list (names.map .str)))), some (.f (.mk (dk P))), some (.f (.d (.int (N : Nat)))), some (.f (.mk (dk S))), some (.f (.d (.str nm'))), none, none, some (.f (.l (rs.map Pr.enc))), x12, some (.f (.l (calls.map nE))), none, x15, none, none, none, none, none, none, none] K := by
          intro calls hcalls hcln x12 K hK
          simp [s_row, hpn2]
          refine draw_at h7 2 (by decide) (by decide) fun h8 v2 hv2 => ?_
          have hmx := max1 (pn + v2)
          rw [show ((pn + v2 : Nat) : Int) = (pn : Int) + v2 by omega] at hmx
          obtain ⟨mm, hmm⟩ : ∃ mm : Nat, mm = max 1 (pn + v2) := ⟨_, rfl⟩
          rw [← hmm] at hmx
          simp [hmx, hpn2]
          refine lines_at (many := mm) (cells := cells) (calls := calls) h8 2 (by omega) (by omega) (by omega) (by omega) (by omega) (fun c hc => ?_) fun h9 bb hb hbd hbl hbn => ?_
          · obtain ⟨g1, g2⟩ := hcalls c hc
            obtain ⟨n, n1, n2⟩ := hpg c.1 g1
            rw [g2] at n2
            cases n2
            omega
          · simp [lnO]
            refine short_at bb (by simp [lx] at hbn; omega) (by omega) fun b' hb1 hb2 hb3 => ?_
            simp [zr1, zr2]
            exact hK h9 ⟨nm', pn, mm, b'⟩ _ _ rfl ⟨hpn2, ⟨by simp only []; omega, by simp only []; omega, by simp only []; omega⟩, ⟨_, hcalls, fun s hs => hb s (hb1 s hs)⟩, by simp only []; omega, hb3⟩
        have comp : ∀ (L : List Str), (∀ s ∈ L, s ∈ names) → L.length ≤ 3 → ∀ (e : Pm.Env) (K : List D → Pm.Env → Prop), (∃ x0 x1 x2 x3 x4 x6 x7 x8 x9 x10 x11 x12 x13 x15 x16 x17 x18 x19 x20 x21 x22 : Option O, e = [x0, x1, x2, x3, x4, some (.f (.mk (dk P))), x6, x7, x8, x9, x10, x11, x12, x13, none, x15, x16, x17, x18, x19, x20, x21, x22]) → (∀ calls : DI, (∀ c ∈ calls, c.1 ∈ names ∧ gt P c.1 = some c.2) → calls.length ≤ 3 → K (calls.map nE) e) → Wp (lcL [14] (nameB 14) allT (tupM (argsC (varD 14) (argsC (dget 5 (varD 14)) args0))) (L.map .str) []) e K := by
          rintro L hL hLl e K ⟨x0, x1, x2, x3, x4, x6, x7, x8, x9, x10, x11, x12, x13, x15, x16, x17, x18, x19, x20, x21, x22, rfl⟩ hK
          refine wp_lcA (fun s : Str => .str s) (fun s => nE (s, (gt P s).getD 0)) (line_small (by omega)) (fun s hs => ?_) ?_
          · obtain ⟨n, _, hn⟩ := hpg s (hL s hs)
            simp [hn, nE]
          · have := hK (L.map fun s => (s, (gt P s).getD 0)) (fun c hc => ?_) (by simpa using hLl)
            · simpa [Function.comp_def] using this
            · simp only [List.mem_map] at hc
              obtain ⟨s, hs, rfl⟩ := hc
              obtain ⟨n, _, hn⟩ := hpg s (hL s hs)
              exact ⟨hL s hs, by simp [hn]⟩
        have cut1 : cutD (names.map (.str : Str → D)) (some 1) none = (names.drop 1).map .str := by
          have := cutD_lo (names.map (.str : Str → D)) 1
          simpa using this
        have cut2 : cutD (names.map (.str : Str → D)) (some ((i : Int) + 1)) none = (names.drop (i + 1)).map .str := by
          have := cutD_lo (names.map (.str : Str → D)) (i + 1)
          simpa using this
        have zc1 : names.length - 1 ≤ sizeLine := line_small (by omega)
        have zc2 : names.length - (i + 1) ≤ sizeLine := line_small (by omega)
        cases b with
        | true =>
          simp [cut1, zc1]
          rw [show (names.map (.str : Str → D)).tail = names.tail.map .str by simp]
          refine comp names.tail (fun s hs => List.mem_of_mem_tail hs) (by simp; omega) _ _ ⟨_, _, _, _, _, _, _, _, _, _, _, _, _, _, _, _, _, _, _, _, _, rfl⟩ fun calls hcalls hcln => ?_
          simp
          refine body calls hcalls hcln _ _ fun h8 pr y13 y15 hpr hrow => ?_
          simp
          refine .of ⟨h8, rs ++ [pr], _, _, _, _, _, by simp, rfl, ?_, ?_⟩
          · rw [← hrn, ← hpr]
            simp
          · intro x hx
            simp at hx
            rcases hx with hx | rfl
            · exact hrs x hx
            · exact hrow
        | false =>
          simp [cut2, zc2]
          rw [show List.drop (i + 1) (names.map (.str : Str → D)) = (names.drop (i + 1)).map .str by simp]
          refine comp (names.drop (i + 1)) (fun s hs => List.mem_of_mem_drop hs) (by simp; omega) _ _ ⟨_, _, _, _, _, _, _, _, _, _, _, _, _, _, _, _, _, _, _, _, _, rfl⟩ fun calls hcalls hcln => ?_
          simp
          refine body calls hcalls hcln _ _ fun h8 pr y13 y15 hpr hrow => ?_
          simp
          refine .of ⟨h8, rs ++ [pr], _, _, _, _, _, by simp, rfl, ?_, ?_⟩
          · rw [← hrn, ← hpr]
            simp
          · intro x hx
            simp at hx
            rcases hx with hx | rfl
            · exact hrs x hx
            · exact hrow
      · rintro e ⟨h7, rs, R, x8, x12, x13, x15, rfl, rfl, hrn, hrs⟩
        simp at hrn
        have hrsl : rs.length ≤ 3 := by rw [← List.length_map (f := fun x : Pr => x.name), hrn]; exact hnl
        have hrn2 : ∀ x ∈ rs, x.name ∈ names := fun x hx => by rw [← hrn]; exact List.mem_map.2 ⟨x, hx, rfl⟩
        have hrok : ∀ x ∈ rs, x.okN 0 := fun x hx => (hrs x hx).ok hplan (hrn2 x hx)
        simp [okR62_nat N (by omega)]
        rw [upD_eq, List.range_eq_range']
        refine wps_forT (fun i : Nat => .int (i : Nat)) (fun r e => Hold (∃ (h8 : Hand) (us : List Un) (U : List D) (x8 x9 x10 x11 x12 x13 x15 x17 x18 x19 x21 x22 : Option O), U = us.map Un.enc ∧ (x11 = some (.f (.l (rs.map Pr.enc))) ∨ x11 = some (.f (.d (.list (rs.map Pr.enc))))) ∧ e = [some h8.o, some (.f (.d (.int (w : Nat)))), some (.f (.d (.bool b))), some (.f (.d (.list (cells.map nE)))), some (.f (.d (.list (names.map .str)))), some (.f (.mk (dk P))), some (.f (.d (.int (N : Nat)))), some (.f (.mk (dk S))), x8, x9, x10, x11, x12, x13, none, x15, some (.f (.l U)), x17, x18, x19, none, x21, x22] ∧ r = List.range' us.length (N - us.length) ∧ us.length ≤ N ∧ ∀ i u, us[i]? = some u → UnOk ⟨cells, names, P, N, S⟩ rs i u)) ?_ ?_ (.of ⟨h7, [], [], x8, none, none, _, x12, x13, x15, none, none, none, none, none, rfl, .inl rfl, rfl, by simp, by simp, by simp⟩)
        · rintro i r e ⟨h8, us, U, x8, x9, x10, x11, x12, x13, x15, x17, x18, x19, x21, x22, rfl, hx11, rfl, hr, hul, hus⟩
          obtain ⟨n, hn⟩ : ∃ n, N - us.length = n + 1 := by
            cases hz : N - us.length with
            | zero => rw [hz] at hr; simp at hr
            | succ n => exact ⟨n, rfl⟩
          rw [hn, List.range'_succ] at hr
          obtain ⟨rfl, hr2⟩ := List.cons.inj hr
          have hi : us.length < N := by omega
          have zu1 : us.length ≤ sizeLine := line_small (by omega)
          have zu2 : us.length < sizeLine := Nat.lt_of_succ_le (line_small (by omega))
          simp
          refine wps_forT nE (fun r2 e => Hold (∃ (h9 : Hand) (own : List (Str × List Nat)) (W : List D) (x9 x10 x12 : Option O), W = own.map cE ∧ e = [some h9.o, some (.f (.d (.int (w : Nat)))), some (.f (.d (.bool b))), some (.f (.d (.list (cells.map nE)))), some (.f (.d (.list (names.map .str)))), some (.f (.mk (dk P))), some (.f (.d (.int (N : Nat)))), some (.f (.mk (dk S))), x8, x9, x10, x11, x12, x13, none, x15, some (.f (.l (us.map Un.enc))), some (.f (.d (.int (us.length : Nat)))), some (.f (.l W)), x19, none, x21, x22] ∧ own.map cl ++ r2.filter (fun c => decide (gt S c.1 = some us.length)) = cells.filter (fun c => decide (gt S c.1 = some us.length)) ∧ (∀ c ∈ own, ∀ y ∈ c.2, y ≤ 3) ∧ own.length + r2.length ≤ 2 ∧ ∀ c ∈ r2, c ∈ cells)) ?_ ?_ (.of ⟨h8, [], [], x9, x10, x12, rfl, rfl, by simp, by simp, by simpa using hcl, fun _ h => h⟩)
          · rintro ⟨c, s⟩ r2 e ⟨h9, own, W, x9, x10, x12, rfl, rfl, hf, hw, hol, hcs⟩
            have hcm := hcs (c, s) (by simp)
            obtain ⟨v, hv, hg⟩ := hS c (.inr (List.mem_map.2 ⟨(c, s), hcm, rfl⟩))
            have hs2 := (hcn _ hcm).2.2
            simp only at hs2
            simp at hol
            by_cases hvi : v = us.length
            · subst hvi
              have zo1 : own.length ≤ sizeLine := line_small (by omega)
              have zo2 : own.length < sizeLine := Nat.lt_of_succ_le (line_small (by omega))
              simp [nE, hg, okR62_nat s (by omega)]
              refine wp_lcD s (fun e => Hold (∃ h10 : Hand, e = [some h10.o, some (.f (.d (.int (w : Nat)))), some (.f (.d (.bool b))), some (.f (.d (.list (cells.map nE)))), some (.f (.d (.list (names.map .str)))), some (.f (.mk (dk P))), some (.f (.d (.int (N : Nat)))), some (.f (.mk (dk S))), x8, some (.f (.d (.str c))), some (.f (.d (.int (s : Nat)))), x11, none, x13, none, x15, some (.f (.l (us.map Un.enc))), some (.f (.d (.int (us.length : Nat)))), some (.f (.l (own.map cE))), x19, none, x21, x22])) (fun y => ∃ a : Nat, y = .int (a : Nat) ∧ a ≤ 3) (Nat.lt_of_succ_le (line_small (by omega))) _ (by simp [upD]) ?_ ?_ (.of ⟨h9, rfl⟩)
              · rintro d e hd ⟨h10, rfl⟩
                simp
                refine draw_at h10 4 (by decide) (by decide) fun h11 a ha => ?_
                simp
                exact ⟨⟨a, rfl, by omega⟩, .of ⟨h11, rfl⟩⟩
              · rintro acc e hacc hPa ⟨h10, rfl⟩
                obtain ⟨ws, rfl, hws⟩ := exists_map (fun a : Nat => (.int (a : Nat) : D)) (fun a => a ≤ 3) acc hPa
                have hwl : ws.length = s := by simpa using hacc
                have zw : ws.length ≤ sizeLine := line_small (by omega)
                simp [zw, zo1, zo2]
                refine .of ⟨h10, own ++ [(c, ws)], _, _, _, _, by simp [cE], rfl, ?_, ?_, by simp; omega, fun x hx => hcs x (by simp [hx])⟩
                · rw [← hf]
                  simp [cl, hwl, hg]
                · intro x hx
                  simp at hx
                  rcases hx with hx | rfl
                  · exact hw x hx
                  · exact hws
            · have hvi' : ¬ (v : Int) = us.length := by omega
              simp [nE, hg, hvi, hvi']
              refine .of ⟨h9, own, _, _, _, _, rfl, rfl, ?_, hw, by omega, fun x hx => hcs x (by simp [hx])⟩
              rw [← hf]
              simp [hg, hvi]
          · rintro e ⟨h9, own, W, x9, x10, x12, rfl, rfl, hf, hw, hol, -⟩
            simp at hf hol
            have zr : rs.length ≤ sizeLine := line_small (by omega)
            have comp : ∀ (e : Pm.Env) (K : List D → Pm.Env → Prop), (∃ x0 x1 x2 x3 x4 x5 x6 x8 x9 x10 x11 x12 x13 x14 x15 x16 x18 x19 x21 x22 : Option O, e = [x0, x1, x2, x3, x4, x5, x6, some (.f (.mk (dk S))), x8, x9, x10, x11, x12, x13, x14, x15, x16, some (.f (.d (.int (us.length : Nat)))), x18, x19, none, x21, x22]) → K ((rs.filter fun r => decide (gt S r.name = some us.length)).map Pr.enc) e → Wp (lcL [20] (nameB 20) (tst (op2 eqS (dget 7 (op2 getS (varD 20) (cst (.int 0)))) (varD 17))) (varD 20) (rs.map Pr.enc) []) e K := by
              rintro e K ⟨x0, x1, x2, x3, x4, x5, x6, x8, x9, x10, x11, x12, x13, x14, x15, x16, x18, x19, x21, x22, rfl⟩ hK
              refine wp_lcT Pr.enc (fun r => decide (gt S r.name = some us.length)) Pr.enc zr (fun pr hpr => ?_) hK
              obtain ⟨v, hv, hg⟩ := hS pr.name (.inl (hrn2 pr hpr))
              by_cases hvi : v = us.length
              · simp [hg, hvi]
              · have hvi' : ¬ (v : Int) = us.length := by omega
                simp [hg, hvi, hvi']
            obtain ⟨prs, hprs⟩ : ∃ prs, prs = rs.filter fun r => decide (gt S r.name = some us.length) := ⟨_, rfl⟩
            rw [← hprs] at comp
            have hprl : prs.length ≤ 3 := by rw [hprs]; exact Nat.le_trans (List.length_filter_le _ _) hrsl
            have hprok : ∀ x ∈ prs, x.okN 0 := fun x hx => hrok x (by rw [hprs] at hx; exact (List.mem_filter.1 hx).1)
            have zp : prs.length ≤ sizeLine := line_small (by omega)
            rcases hx11 with rfl | rfl <;> simp <;> refine comp _ _ ⟨_, _, _, _, _, _, _, _, _, _, _, _, _, _, _, _, _, _, _, _, rfl⟩ ?_
            all_goals
              simp [zp]
              refine wp_lcA Pr.enc (fun p => p.body.tup) zp (fun pr hpr => ?_) ?_
              · simp
              · simp [zp]
                rw [show (prs.map fun p => p.body.tup) = (prs.map (·.body)).map Blk.tup by simp]
                refine names_in_at (prs.map (·.body)) 10000 ?_ (by omega) ?_ fun tl htl => ?_
                · have : ∀ l : List Pr, (∀ x ∈ l, x.okN 0) → ((l.map (·.body)).map fun b => 1 + b.nod).sum ≤ 2000 * l.length := by
                    intro l
                    induction l with
                    | nil => simp
                    | cons x l ih =>
                      intro hl
                      have h1 := ih fun y hy => hl y (by simp [hy])
                      have h2 := hl x (by simp)
                      have h3 := x.body.nod_le h2.body
                      have h4 := h2.len
                      simp only [List.map_cons, List.sum_cons, List.length_cons]
                      omega
                  have := this prs hprok
                  simp only [Itm.sz]
                  omega
                · intro b hb y hy t ht
                  simp only [List.mem_map] at hb
                  obtain ⟨x, hx, rfl⟩ := hb
                  exact (((hprok x hx).body y hy).terms t ht).1
                · simp
                  refine wp_lcT nE (fun c => decide (c.1 ∈ tl) && !decide (gt S c.1 = some us.length)) nE (line_small (by omega)) (fun c hc => ?_) ?_
                  · obtain ⟨v, hv, hg⟩ := hS c.1 (.inr (List.mem_map.2 ⟨c, hc, rfl⟩))
                    by_cases hct : c.1 ∈ tl
                    · by_cases hvi : v = us.length
                      · simp [nE, hct, hg, hvi]
                      · have hvi' : ¬ (v : Int) = us.length := by omega
                        simp [nE, hct, hg, hvi, hvi']
                    · simp [nE, hct]
                  · obtain ⟨nds, hnds⟩ : ∃ nds, nds = cells.filter (fun c => decide (c.1 ∈ tl) && !decide (gt S c.1 = some us.length)) := ⟨_, rfl⟩
                    rw [← hnds]
                    have zn : nds.length ≤ sizeLine := line_small (by
                      rw [hnds]
                      have := List.length_filter_le (fun c : Str × Nat => decide (c.1 ∈ tl) && !decide (gt S c.1 = some us.length)) cells
                      omega)
                    have zow : own.length ≤ sizeLine := line_small (by omega)
                    have h3 : us.length < 3 := by omega
                    have hnm1 : atI ([.str "one", .str "two", .str "three"] : List D) (us.length : Int) = some (.str (unames[us.length]'(by simpa [unames] using h3))) := by
                      rw [atI_nat _ _ (by simpa using h3)]
                      have : us.length = 0 ∨ us.length = 1 ∨ us.length = 2 := by omega
                      rcases this with h | h | h <;> simp [h, unames]
                    simp [hnm1, zn, zow, zu1, zu2]
                    refine .of ⟨_, us ++ [⟨unames[us.length]'(by simpa [unames] using h3), own, nds, prs⟩], _, _, _, _, _, _, _, _, _, _, _, _, _, by simp [Un.enc], .inr rfl, rfl, ?_, by simp; omega, ?_⟩
                    · rw [hr2]
                      simp
                      congr 1
                      omega
                    · intro j u hj
                      rcases Nat.lt_or_ge j us.length with hlt | hge
                      · rw [List.getElem?_append_left hlt] at hj
                        exact hus j u hj
                      · rw [List.getElem?_append_right hge] at hj
                        have hj0 : j - us.length = 0 := by
                          cases hz : j - us.length with
                          | zero => rfl
                          | succ m => rw [hz] at hj; simp at hj
                        rw [hj0] at hj
                        simp at hj
                        have hje : j = us.length := by omega
                        subst hj
                        rw [hje]
                        refine ⟨?_, hf, hw, hprs, tl, ?_, hnds⟩
                        · exact List.getElem?_eq_getElem _
                        · intro q hq y hy c hc
                          exact htl c ⟨q.body, List.mem_map.2 ⟨q, hq, rfl⟩, y, hy, hc⟩
        · rintro e ⟨h8, us, U, x8, x9, x10, x11, x12, x13, x15, x17, x18, x19, x21, x22, rfl, hx11, rfl, hr, hul, hus⟩
          have hlN : us.length = N := by
            cases hz : N - us.length with
            | zero => omega
            | succ n => rw [hz] at hr; simp [List.range'_succ] at hr
          have zu1 : us.length ≤ sizeLine := line_small (by omega)
          simp [zu1, outs, np__law_program]
          exact q h8 ⟨cells, names, P, N, S⟩ rs us ⟨hplan, hrs, hrn, hlN, hus⟩
end K13

/-! ## K13aa -/
set_option Elab.async false
set_option linter.all false
set_option maxRecDepth 100000
set_option maxHeartbeats 4000000
/-! K13aa: drawn programs have nothing wrong. -/
namespace K13
open PySem PySem.Spec L2 Pm
variable [TabCtx]
theorem gt_mem {l : DI} (hn : (l.map (·.1)).Nodup) {c : Str} {n : Nat} (h : (c, n) ∈ l) : gt l c = some n := by
  induction l with
  | nil => cases h
  | cons p l ih =>
    simp only [List.map_cons, List.nodup_cons] at hn
    rcases List.mem_cons.mp h with rfl | h
    · simp [gt]
    · have hne : ¬ p.1 = c := by
        rintro rfl
        exact hn.1 (List.mem_map.2 ⟨_, h, rfl⟩)
      have := ih hn.2 h
      unfold gt at this ⊢
      simp only [List.find?_cons, hne, decide_false]
      exact this
theorem mem_gt {l : DI} {c : Str} {n : Nat} (h : gt l c = some n) : (c, n) ∈ l := by
  unfold gt at h
  rw [Option.map_eq_some_iff] at h
  obtain ⟨p, h1, h2⟩ := h
  have h3 := List.find?_some h1
  have h4 := List.mem_of_find?_eq_some h1
  simp only [decide_eq_true_eq] at h3
  rw [← h2, ← h3]
  exact h4
theorem gt_none {l : DI} {c : Str} (h : ¬ c ∈ l.map (·.1)) : gt l c = none := by
  cases hg : gt l c with
  | none => rfl
  | some n => exact absurd (List.mem_map.2 ⟨_, mem_gt hg, rfl⟩) h
theorem pt_new {l : DI} {c : Str} {n : Nat} (h : ¬ c ∈ l.map (·.1)) : pt l c n = l ++ [(c, n)] := by
  simp [pt, gt_none h]
theorem dup_new : ∀ (l S : DI), ((S ++ l).map (·.1)).Nodup → dupC S l = [] ∧ mg S l = S ++ l
  | [], S, _ => by simp [dupC, mg]
  | (c, n) :: l, S, h => by
    have hc : ¬ c ∈ S.map (·.1) := by
      rw [List.map_append, List.nodup_append] at h
      intro hm
      exact h.2.2 c hm c (by simp) rfl
    have e : S ++ (c, n) :: l = (S ++ [(c, n)]) ++ l := by simp
    rw [e] at h ⊢
    have := dup_new l (S ++ [(c, n)]) h
    refine ⟨?_, ?_⟩
    · rw [dupC, gt_none hc, pt_new hc, this.1]
      rfl
    · show mg (pt S c n) l = _
      rw [pt_new hc]
      exact this.2
def prD (r : Pr) : Str × Nat := (r.name, r.params)
theorem dupP_new : ∀ (l : List Pr) (S : DI), ((S ++ l.map prD).map (·.1)).Nodup → dupP S l = [] ∧ mgP S l = S ++ l.map prD
  | [], S, _ => by simp [dupP, mgP]
  | r :: l, S, h => by
    have hc : ¬ r.name ∈ S.map (·.1) := by
      rw [List.map_append, List.nodup_append] at h
      intro hm
      exact h.2.2 r.name hm r.name (by simp [prD]) rfl
    have e : S ++ (r :: l).map prD = (S ++ [(r.name, r.params)]) ++ l.map prD := by simp [prD]
    rw [e] at h ⊢
    have := dupP_new l (S ++ [(r.name, r.params)]) h
    refine ⟨?_, ?_⟩
    · rw [dupP, gt_none hc, pt_new hc, this.1]
      rfl
    · show mgP (pt S r.name r.params) l = _
      rw [pt_new hc]
      exact this.2
theorem Term.inn_pre {many : Nat} {cells : DI} : ∀ t : Term, t.inn many cells → ∀ y ∈ t.pre, y.inn many cells
  | .word n, h => by intro y hy; simp [Term.pre] at hy; subst hy; exact h
  | .loc n, h => by intro y hy; simp [Term.pre] at hy; subst hy; exact h
  | .cell n, h => by intro y hy; simp [Term.pre] at hy; subst hy; exact h
  | .row s t, h => by
    intro y hy
    simp [Term.pre] at hy
    rcases hy with rfl | hy
    · exact h
    · exact t.inn_pre h.2 y hy
  | .not t, h => by
    intro y hy
    simp [Term.pre] at hy
    rcases hy with rfl | hy
    · exact h
    · exact t.inn_pre h y hy
  | .deed s a b, h => by
    intro y hy
    simp [Term.pre] at hy
    rcases hy with rfl | hy | hy
    · exact h
    · exact a.inn_pre h.2.1 y hy
    · exact b.inn_pre h.2.2 y hy
theorem Sta.inn_locT {many : Nat} {cells calls : DI} {s : Sta} (h : s.inn many cells calls) : ∀ n ∈ s.locT, n < many := by
  intro n hn
  simp only [Sta.locT, List.mem_append, List.mem_filterMap] at hn
  rcases hn with hn | ⟨y, hy, hn⟩
  · exact h.locs n hn
  · simp only [preT, List.mem_flatMap] at hy
    obtain ⟨t, ht, hy⟩ := hy
    have := t.inn_pre (h.terms t ht).1 y hy
    cases y <;> simp [Term.loc1] at hn
    subst hn
    exact this
theorem Sta.inn_cellT {many : Nat} {cells calls : DI} {s : Sta} (h : s.inn many cells calls) : ∀ q ∈ s.cellT, ∃ n, (q.1, n) ∈ cells ∧ decide (n = 1) = q.2 := by
  intro q hq
  simp only [Sta.cellT, List.mem_append, List.mem_filterMap] at hq
  rcases hq with hq | ⟨y, hy, hq⟩
  · exact h.puts q hq
  · simp only [preT, List.mem_flatMap] at hy
    obtain ⟨t, ht, hy⟩ := hy
    have := t.inn_pre (h.terms t ht).1 y hy
    cases y with
    | cell c =>
      simp [Term.cell1] at hq
      subst hq
      exact ⟨1, this, by simp⟩
    | row c t =>
      simp [Term.cell1] at hq
      subst hq
      obtain ⟨⟨n, h1, h2⟩, _⟩ := this
      exact ⟨n, h2, by simpa using h1⟩
    | _ => simp [Term.cell1] at hq
section
variable {p : Plan} {rows : List Pr} {us : List Un} (h : ProgOk p rows us)
include h
theorem ProgOk.at {u : Un} (hu : u ∈ us) : ∃ i, i < p.N ∧ us[i]? = some u ∧ UnOk p rows i u := by
  obtain ⟨i, hi, e⟩ := List.mem_iff_getElem.1 hu
  have e' : us[i]? = some u := by rw [List.getElem?_eq_getElem hi, e]
  exact ⟨i, by rw [← h.len]; exact hi, e', h.units i u e'⟩
theorem ProgOk.rname {r : Pr} (hr : r ∈ rows) : r.name ∈ p.names := by
  rw [← h.rnames]
  exact List.mem_map.2 ⟨r, hr, rfl⟩
theorem ProgOk.cell {i : Nat} {u : Un} (hu : UnOk p rows i u) {c : Str × List Nat} (hc : c ∈ u.cells) : cl c ∈ p.cells ∧ gt p.S c.1 = some i := by
  have : cl c ∈ u.cells.map cl := List.mem_map.2 ⟨c, hc, rfl⟩
  rw [hu.cells, List.mem_filter, decide_eq_true_eq] at this
  exact this
theorem ProgOk.proc {i : Nat} {u : Un} (hu : UnOk p rows i u) {r : Pr} (hr : r ∈ u.procs) : r ∈ rows ∧ gt p.S r.name = some i := by
  rw [hu.procs, List.mem_filter, decide_eq_true_eq] at hr
  exact hr
theorem ProgOk.ndC : (p.cells.map (·.1)).Nodup := (cellsO_small p.cells h.plan.cells).2.2
theorem ProgOk.ndN : p.names.Nodup := by
  obtain ⟨l, hl, hn⟩ := h.plan.names
  obtain ⟨_, h2, h3⟩ := namesO_small l hl
  rw [hn, List.nodup_cons]
  refine ⟨fun hm => ?_, h3⟩
  rcases h2 _ hm with e | e <;> simp at e
theorem ProgOk.okN {u : Un} (hu : u ∈ us) : u.okN 0 := by
  obtain ⟨i, hi, _, hk⟩ := h.at hu
  obtain ⟨c1, c2, _⟩ := cellsO_small p.cells h.plan.cells
  have hN := h.plan.N
  refine ⟨?_, ?_, ?_, ?_, ?_, ?_, ?_⟩
  · have := hk.name
    have hi' : i = 0 ∨ i = 1 ∨ i = 2 := by omega
    rcases hi' with rfl | rfl | rfl <;> simp [unames] at this <;> rw [← this]
    · exact nm "one"
    · exact nm "two"
    · exact nm "three"
  · intro c hc
    obtain ⟨g1, g2⟩ := h.cell hk hc
    have := c2 _ g1
    simp only [cl] at this
    exact ⟨this.1, this.2.1, by omega, fun w hw => by have := hk.words c hc w hw; omega⟩
  · have := congrArg List.length hk.cells
    have h2 := List.length_filter_le (fun c : Str × Nat => decide (gt p.S c.1 = some i)) p.cells
    simp only [List.length_map] at this
    omega
  · intro c hc
    obtain ⟨tl, _, hn⟩ := hk.needs
    rw [hn, List.mem_filter] at hc
    have := c2 c hc.1
    exact ⟨this.1, this.2.1, by omega⟩
  · obtain ⟨tl, _, hn⟩ := hk.needs
    rw [hn]
    have h2 := List.length_filter_le (fun c : Str × Nat => decide (c.1 ∈ tl) && !decide (gt p.S c.1 = some i)) p.cells
    omega
  · intro r hr
    obtain ⟨g1, _⟩ := h.proc hk hr
    exact (h.prow r g1).ok h.plan (h.rname g1)
  · rw [hk.procs]
    have h2 := List.length_filter_le (fun r : Pr => decide (gt p.S r.name = some i)) rows
    have h3 : rows.length = p.names.length := by rw [← h.rnames]; simp
    have h4 := h.plan.namelen
    omega
theorem ProgOk.ndK {i : Nat} {u : Un} (hk : UnOk p rows i u) : (u.known.map (·.1)).Nodup := by
  obtain ⟨tl, _, hn⟩ := hk.needs
  have hnd := h.ndC
  rw [Un.known, List.map_append, List.nodup_append, hk.cells, hn]
  refine ⟨(List.filter_sublist.map _).nodup hnd, (List.filter_sublist.map _).nodup hnd, ?_⟩
  intro a ha b hb
  simp only [List.mem_map, List.mem_filter, decide_eq_true_eq, Bool.and_eq_true, Bool.not_eq_true', decide_eq_false_iff_not] at ha hb
  obtain ⟨x, ⟨_, hx⟩, rfl⟩ := ha
  obtain ⟨y, ⟨_, _, hy⟩, rfl⟩ := hb
  rintro e
  rw [e] at hx
  exact hy hx
theorem ProgOk.ndP {i : Nat} {u : Un} (hk : UnOk p rows i u) : ((u.procs.map prD).map (·.1)).Nodup := by
  rw [List.map_map]
  have e : ((·.1) ∘ prD) = fun r : Pr => r.name := rfl
  rw [e, hk.procs]
  refine (List.filter_sublist.map _).nodup ?_
  rw [h.rnames]
  exact h.ndN
/-- what a dict of calls tells is so -/
def SubN (p : Plan) (P : DI) : Prop := ∀ c m, gt P c = some m → c ∈ p.names ∧ gt p.P c = some m
omit h in
theorem SubN.put {P : DI} (hs : SubN p P) {c : Str} {k : Nat} (hc : c ∈ p.names ∧ gt p.P c = some k) : SubN p (pt P c k) := by
  intro t m hm
  rw [gt_pt] at hm
  split at hm
  · rename_i e
    subst e
    cases hm
    exact hc
  · exact hs t m hm
omit h in
theorem SubN.endL : ∀ (ss : List Sta) (P : DI), (∀ s ∈ ss, ∀ c k, s.call = some (c, k) → c ∈ p.names ∧ gt p.P c = some k) → SubN p P → SubN p (endL P ss)
  | [], P, _, h => h
  | s :: ss, P, hs, h => by
    refine SubN.endL ss (stepL P s) (fun x hx => hs x (by simp [hx])) ?_
    unfold stepL
    split
    · exact h
    · rename_i c k hc
      split
      · exact h
      · exact h.put (hs s (by simp) c k hc)
theorem ProgOk.call {i : Nat} {u : Un} (hk : UnOk p rows i u) : ∀ s ∈ allS' u.procs, ∀ c k, s.call = some (c, k) → c ∈ p.names ∧ gt p.P c = some k := by
  intro s hs c k hc
  simp only [allS', List.mem_flatMap] at hs
  obtain ⟨r, hr, hs⟩ := hs
  obtain ⟨calls, g1, g2⟩ := (h.prow r (h.proc hk hr).1).body
  exact g1 _ ((g2 s hs).call _ hc)
theorem ProgOk.noF {u : Un} (hu : u ∈ us) : u.allF = [] := by
  obtain ⟨i, hi, _, hk⟩ := h.at hu
  obtain ⟨d1, d2⟩ := dup_new u.known [] (by simpa using h.ndK hk)
  obtain ⟨e1, e2⟩ := dupP_new u.procs [] (by simpa using h.ndP hk)
  have hS : u.S = u.known := by simpa [Un.S] using d2
  have hP : u.P = u.procs.map prD := by simpa [Un.P] using e2
  have hPF : gt (endL u.P (allS' u.procs)) = endG (gt u.P) (allS' u.procs) := gt_endL _ _
  have hsub : SubN p (endL u.P (allS' u.procs)) := by
    refine SubN.endL _ _ (h.call hk) ?_
    intro c m hm
    rw [hP] at hm
    have := mem_gt hm
    simp only [List.mem_map, prD, Prod.mk.injEq] at this
    obtain ⟨r, hr, rfl, rfl⟩ := this
    have hr' := (h.proc hk hr).1
    exact ⟨h.rname hr', (h.prow r hr').params⟩
  rw [Un.allF, d1, show dupP [] u.procs = [] from e1, goU_all u.S _ u.procs u.P hPF, List.nil_append, List.nil_append, List.flatMap_eq_nil_iff]
  intro r hr
  rw [List.flatMap_eq_nil_iff]
  intro s hs
  have hr' := (h.proc hk hr).1
  obtain ⟨calls, g1, g2⟩ := (h.prow r hr').body
  have hinn := g2 s hs
  simp only [stF, List.append_eq_nil_iff]
  refine ⟨?_, ?_, ?_⟩
  · unfold lF
    rw [List.map_eq_nil_iff, List.filter_eq_nil_iff]
    intro n hn
    have := Sta.inn_locT hinn n hn
    simp
    omega
  · rw [List.flatMap_eq_nil_iff]
    intro q hq
    obtain ⟨n, hn, ho⟩ := Sta.inn_cellT hinn q hq
    have hkn : (q.1, n) ∈ u.known := by
      rw [Un.known, List.mem_append]
      by_cases hg : gt p.S q.1 = some i
      · left
        rw [hk.cells, List.mem_filter, decide_eq_true_eq]
        exact ⟨hn, hg⟩
      · right
        obtain ⟨tl, ht, hn2⟩ := hk.needs
        rw [hn2, List.mem_filter]
        refine ⟨hn, ?_⟩
        have := ht r hr s hs q.1 ⟨q.2, hq⟩
        simp [this, hg]
    unfold cF
    rw [hS, gt_mem (h.ndK hk) hkn]
    simp [ho]
  · unfold aF
    split
    · rfl
    · rename_i c k hc
      have hck := h.call hk s (List.mem_flatMap.2 ⟨r, hr, hs⟩) c k hc
      have : mP (endL u.P (allS' u.procs)) c k = k := by
        unfold mP
        cases hg : gt (endL u.P (allS' u.procs)) c with
        | none => rfl
        | some m =>
          have := (hsub c m hg).2
          rw [hck.2] at this
          simpa using this.symm
      simp [this]
theorem ProgOk.outs {u : Un} (hu : u ∈ us) : ∀ x ∈ u.outs, x.1 ∈ p.names ∧ gt p.P x.1 = some x.2 := by
  obtain ⟨i, hi, _, hk⟩ := h.at hu
  intro x hx
  simp only [Un.outs, List.mem_map, List.mem_filter] at hx
  obtain ⟨c, ⟨hc, _⟩, rfl⟩ := hx
  have hc2 : c ∈ keysI u.C := by
    unfold sortS at hc
    simpa using hc
  obtain ⟨m, hm⟩ := Option.isSome_iff_exists.mp ((gt_isSome u.C c).2 hc2)
  have hA : Agr u u.C := Agr.endL (h.noF hu) _ _ (fun _ h => h) (Agr.nil u)
  have hs : SubN p u.C := SubN.endL _ _ (h.call hk) (by intro c m h; simp [gt] at h)
  rw [← hA c m hm]
  exact hs c m hm
def allC (us : List Un) : DI := us.flatMap fun u => u.cells.map cl
def allP (us : List Un) : DI := us.flatMap fun u => u.procs.map prD
theorem ProgOk.nd_allC : ((allC us).map (·.1)).Nodup := by
  have e : (allC us).map (·.1) = us.flatMap fun u => (u.cells.map cl).map (·.1) := by simp [allC, List.map_flatMap]
  rw [e, List.Nodup, List.pairwise_flatMap]
  refine ⟨fun u hu => ?_, ?_⟩
  · obtain ⟨i, hi, _, hk⟩ := h.at hu
    rw [hk.cells]
    exact (List.filter_sublist.map _).nodup h.ndC
  · rw [List.pairwise_iff_getElem]
    intro i j hi hj hij x hx y hy
    have k1 := h.units i us[i] (List.getElem?_eq_getElem hi)
    have k2 := h.units j us[j] (List.getElem?_eq_getElem hj)
    simp only [List.mem_map] at hx hy
    obtain ⟨_, ⟨c, hc, rfl⟩, rfl⟩ := hx
    obtain ⟨_, ⟨d, hd, rfl⟩, rfl⟩ := hy
    have g1 := (h.cell k1 hc).2
    have g2 := (h.cell k2 hd).2
    intro e
    simp only [cl] at e
    rw [e, g2] at g1
    simp at g1
    omega
theorem ProgOk.nd_allP : ((allP us).map (·.1)).Nodup := by
  have e : (allP us).map (·.1) = us.flatMap fun u => (u.procs.map prD).map (·.1) := by simp [allP, List.map_flatMap]
  rw [e, List.Nodup, List.pairwise_flatMap]
  refine ⟨fun u hu => ?_, ?_⟩
  · obtain ⟨i, hi, _, hk⟩ := h.at hu
    exact h.ndP hk
  · rw [List.pairwise_iff_getElem]
    intro i j hi hj hij x hx y hy
    have k1 := h.units i us[i] (List.getElem?_eq_getElem hi)
    have k2 := h.units j us[j] (List.getElem?_eq_getElem hj)
    simp only [List.mem_map] at hx hy
    obtain ⟨_, ⟨c, hc, rfl⟩, rfl⟩ := hx
    obtain ⟨_, ⟨d, hd, rfl⟩, rfl⟩ := hy
    have g1 := (h.proc k1 hc).2
    have g2 := (h.proc k2 hd).2
    intro e
    simp only [prD] at e
    rw [e, g2] at g1
    simp at g1
    omega
theorem ProgOk.nd_names : (us.map (·.name)).Nodup := by
  rw [List.Nodup, List.pairwise_map, List.pairwise_iff_getElem]
  intro i j hi hj hij e
  have k1 := (h.units i us[i] (List.getElem?_eq_getElem hi)).name
  have k2 := (h.units j us[j] (List.getElem?_eq_getElem hj)).name
  have hN := h.plan.N
  have hl := h.len
  rw [e, ← k2] at k1
  have hi' : i = 0 ∨ i = 1 := by omega
  have hj' : j = 1 ∨ j = 2 := by omega
  rcases hi' with rfl | rfl <;> rcases hj' with rfl | rfl <;> simp [unames] at k1 <;> omega
theorem ProgOk.gtC {c : Str} {n : Nat} (hc : (c, n) ∈ p.cells) : gt (allC us) c = some n := by
  obtain ⟨v, hv, hg⟩ := h.plan.S c (.inr (List.mem_map.2 ⟨_, hc, rfl⟩))
  have hv' : v < us.length := by rw [h.len]; exact hv
  have k := h.units v us[v] (List.getElem?_eq_getElem hv')
  refine gt_mem h.nd_allC ?_
  rw [allC, List.mem_flatMap]
  refine ⟨us[v], List.getElem_mem hv', ?_⟩
  rw [k.cells, List.mem_filter, decide_eq_true_eq]
  exact ⟨hc, hg⟩
theorem ProgOk.has {c : Str} (hc : c ∈ p.names) : ∃ u ∈ us, ∃ r ∈ u.procs, r.name = c := by
  obtain ⟨v, hv, hg⟩ := h.plan.S c (.inl hc)
  have hv' : v < us.length := by rw [h.len]; exact hv
  have k := h.units v us[v] (List.getElem?_eq_getElem hv')
  rw [← h.rnames, List.mem_map] at hc
  obtain ⟨r, hr, rfl⟩ := hc
  refine ⟨us[v], List.getElem_mem hv', r, ?_, rfl⟩
  rw [k.procs, List.mem_filter, decide_eq_true_eq]
  exact ⟨hr, hg⟩
theorem ProgOk.gtP {c : Str} {n : Nat} (hc : c ∈ p.names ∧ gt p.P c = some n) : gt (allP us) c = some n := by
  obtain ⟨u, hu, r, hr, hrc⟩ := h.has hc.1
  obtain ⟨i, hi, _, hk⟩ := h.at hu
  have hr' := (h.proc hk hr).1
  have hp := (h.prow r hr').params
  rw [hrc, hc.2] at hp
  cases hp
  refine gt_mem h.nd_allP ?_
  rw [allP, List.mem_flatMap]
  exact ⟨u, hu, List.mem_map.2 ⟨r, hr, by rw [← hrc]; rfl⟩⟩
theorem ProgOk.needs {u : Un} (hu : u ∈ us) : ∀ x ∈ u.needs, gt (allC us) x.1 = some x.2 := by
  obtain ⟨i, hi, _, hk⟩ := h.at hu
  intro x hx
  obtain ⟨tl, _, hn⟩ := hk.needs
  rw [hn, List.mem_filter] at hx
  exact h.gtC hx.1
theorem ProgOk.main : gt (allP us) (Str.ofString "main") = some 0 := by
  obtain ⟨l, hl, hn⟩ := h.plan.names
  obtain ⟨p1, p2, _, _, hP⟩ := h.plan.P
  exact h.gtP ⟨by rw [hn]; simp, by rw [hP]; simp [mg]⟩
theorem ProgOk.words : (allC us).length ≤ 2 ∧ ∀ c ∈ allC us, c.2 ≤ 2 := by
  obtain ⟨c1, c2, _⟩ := cellsO_small p.cells h.plan.cells
  have hsub : ∀ c ∈ allC us, c ∈ p.cells := by
    intro c hc
    rw [allC, List.mem_flatMap] at hc
    obtain ⟨u, hu, hc⟩ := hc
    obtain ⟨i, hi, _, hk⟩ := h.at hu
    rw [hk.cells, List.mem_filter] at hc
    exact hc.1
  refine ⟨?_, fun c hc => (c2 c (hsub c hc)).2.2⟩
  have := nodup_len h.nd_allC (m := p.cells.map (·.1)) (fun x hx => by
    rw [List.mem_map] at hx ⊢
    obtain ⟨c, hc, rfl⟩ := hx
    exact ⟨c, hsub c hc, rfl⟩)
  simp only [List.length_map] at this
  omega
end
end K13

/-! ## K13bb -/
set_option Elab.async false
set_option linter.all false
set_option maxRecDepth 100000
set_option maxHeartbeats 4000000
/-! K13bb: companies and programs. -/
namespace K13
open PySem PySem.Spec L2 Pm
variable [TabCtx]
section
variable {p : Plan} {rows : List Pr} {us : List Un} (h : ProgOk p rows us)
include h
theorem ProgOk.uok {u : Un} (hu : u ∈ us) : u.ok := (h.okN hu).ok (by omega)
theorem ProgOk.len3 : 1 ≤ us.length ∧ us.length ≤ 3 := by
  have := h.plan.N
  rw [h.len]
  exact this
theorem is_company_ok {Q : O → List O → Prop} : WpF m_is_company [.f (.d (.tuple (us.map Un.enc)))] Q ↔ Q (.f (.d (.bool true))) [.f (.d (.tuple (us.map Un.enc)))] := by
  refine WpF.of (WpF.eq (wpf_body ?_))
  obtain ⟨l1, l2⟩ := h.len3
  have l1' : (1 : Int) ≤ us.length := by omega
  have l2' : (us.length : Int) ≤ 6 := by omega
  simp [s_is_company, env0, l1', l2']
  refine wp_lcA Un.enc (fun _ => .bool true) (line_small (by omega)) (fun u hu => ?_) ?_
  · have hok := h.uok hu
    have hd : dedD u.allF = [] := (dedD_nil _).2 (h.noF hu)
    simp [is_shape_ok u hok, faults_of_at u hok, hd]
  · simp [outs, np_is_company]
theorem lacking_ok {Q : O → List O → Prop} {u : Un} (hu : u ∈ us) : WpF m_lacking [.f (.d u.enc), .f (.mk (dk (allP us))), .f (.mk (dk (allC us)))] Q ↔ Q (.f (.d (.list []))) [.f (.d u.enc), .f (.mk (dk (allP us))), .f (.mk (dk (allC us)))] := by
  refine WpF.of (WpF.eq (wpf_body ?_))
  simp [s_lacking, env0, outer_calls_at u (h.uok hu) (h.noF hu)]
  refine wps_forT nE (fun r e => Hold (∃ (x4 x5 : Option O), e = [some (.f (.d u.enc)), some (.f (.mk (dk (allP us)))), some (.f (.mk (dk (allC us)))), some (.f (.l [])), x4, x5, none] ∧ ∀ x ∈ r, x ∈ u.outs)) ?_ ?_ (.of ⟨_, _, rfl, fun _ h => h⟩)
  · rintro ⟨c, k⟩ r e ⟨x4, x5, rfl, hr⟩
    have := h.gtP (h.outs hu _ (hr (c, k) (by simp)))
    simp only at this
    simp [nE, this]
    exact .of ⟨_, _, rfl, fun x hx => hr x (by simp [hx])⟩
  · rintro e ⟨x4, x5, rfl, hr⟩
    simp
    refine wps_forT nE (fun r e => Hold (∃ (x4 x6 : Option O), e = [some (.f (.d u.enc)), some (.f (.mk (dk (allP us)))), some (.f (.mk (dk (allC us)))), some (.f (.l [])), x4, x5, x6] ∧ ∀ x ∈ r, x ∈ u.needs)) ?_ ?_ (.of ⟨_, _, rfl, fun _ h => h⟩)
    · rintro ⟨c, k⟩ r e ⟨x4, x6, rfl, hr⟩
      have := h.needs hu _ (hr (c, k) (by simp))
      simp only at this
      simp [nE, this]
      exact .of ⟨_, _, rfl, fun x hx => hr x (by simp [hx])⟩
    · rintro e ⟨x4, x6, rfl, hr⟩
      simp [outs, np_lacking]
theorem allP_len : (allP us).length ≤ 9 := by
  have e : ∀ l : List Un, (∀ u ∈ l, u ∈ us) → (allP l).length ≤ 12 * l.length := by
    intro l
    induction l with
    | nil => simp [allP]
    | cons u l ih =>
      intro hl
      have h1 := ih fun x hx => hl x (by simp [hx])
      have h2 := (h.okN (hl u (by simp))).nprocs
      simp only [allP, List.flatMap_cons, List.length_append, List.length_map, List.length_cons] at h1 ⊢
      omega
  have hd := nodup_len h.nd_allP (m := p.names) (fun x hx => by
    rw [List.mem_map] at hx
    obtain ⟨c, hc, rfl⟩ := hx
    rw [allP, List.mem_flatMap] at hc
    obtain ⟨u, hu, hc⟩ := hc
    obtain ⟨i, hi, _, hk⟩ := h.at hu
    obtain ⟨r, hr, rfl⟩ := List.mem_map.1 hc
    exact h.rname (h.proc hk hr).1)
  have := h.plan.namelen
  simp only [List.length_map] at hd
  omega
theorem between_ok {Q : O → List O → Prop} : WpF m_between [.f (.d (.tuple (us.map Un.enc)))] Q ↔ Q (.f (.d (.list []))) [.f (.d (.tuple (us.map Un.enc)))] := by
  refine WpF.of (WpF.eq (wpf_body ?_))
  have hw := h.words.1
  have hpl := allP_len h
  have hul := h.len3.2
  have ndN := h.nd_names
  have ndC := h.nd_allC
  have ndP := h.nd_allP
  simp [s_between, env0]
  refine wps_forT Un.enc (fun r e => Hold (∃ (NS : List Str) (P S : DI) (x5 x6 x7 x8 : Option O), e = [some (.f (.d (.tuple (us.map Un.enc)))), some (.f (.l [])), some (.f (.mk (dkB NS))), some (.f (.mk (dk P))), some (.f (.mk (dk S))), x5, x6, x7, x8, none, none] ∧ NS ++ r.map (·.name) = us.map (·.name) ∧ P ++ allP r = allP us ∧ S ++ allC r = allC us)) ?_ ?_ (.of ⟨[], [], [], _, _, _, _, rfl, rfl, rfl, rfl⟩)
  · rintro u r e ⟨NS, P, S, x5, x6, x7, x8, rfl, hNS, hP, hS⟩
    have hnn : ¬ u.name ∈ NS := by
      rw [← hNS, List.nodup_append] at ndN
      intro hm
      exact ndN.2.2 u.name hm u.name (by simp) rfl
    have hnl : NS.length < us.length := by
      have := congrArg List.length hNS
      simp at this
      omega
    have zn : (dkB NS).length < sizeLine := Nat.lt_of_succ_le (line_small (by simp [dkB]; omega))
    have hptB : ptB NS u.name = NS ++ [u.name] := by simp [ptB, hnn]
    simp [hnn, zn, hptB]
    refine wps_forT cE (fun r2 e => Hold (∃ (S : DI) (x6 x7 : Option O), e = [some (.f (.d (.tuple (us.map Un.enc)))), some (.f (.l [])), some (.f (.mk (dkB (NS ++ [u.name])))), some (.f (.mk (dk P))), some (.f (.mk (dk S))), some (.f (.d u.enc)), x6, x7, x8, none, none] ∧ S ++ (r2.map cl ++ allC r) = allC us)) ?_ ?_ (.of ⟨S, _, _, rfl, by rw [← hS]; simp [allC]⟩)
    · rintro ⟨c, ws⟩ r2 e ⟨S, x6, x7, rfl, hS⟩
      have hcn : ¬ c ∈ S.map (·.1) := by
        rw [← hS, List.map_append, List.nodup_append] at ndC
        intro hm
        exact ndC.2.2 c hm c (by simp [cl]) rfl
      have zs : S.length < sizeLine := by
        have := congrArg List.length hS
        simp at this
        exact Nat.lt_of_succ_le (line_small (by omega))
      simp [cE, gt_none hcn, zs, pt_new hcn]
      exact .of ⟨_, _, _, rfl, by rw [← hS]; simp [cl]⟩
    · rintro e ⟨S, x6, x7, rfl, hS⟩
      simp
      refine wps_forT Pr.enc (fun r2 e => Hold (∃ (P : DI) (x8 : Option O), e = [some (.f (.d (.tuple (us.map Un.enc)))), some (.f (.l [])), some (.f (.mk (dkB (NS ++ [u.name])))), some (.f (.mk (dk P))), some (.f (.mk (dk S))), some (.f (.d u.enc)), x6, x7, x8, none, none] ∧ P ++ (r2.map prD ++ allP r) = allP us)) ?_ ?_ (.of ⟨P, _, rfl, by rw [← hP]; simp [allP]⟩)
      · rintro q r2 e ⟨P, x8, rfl, hP⟩
        have hcn : ¬ q.name ∈ P.map (·.1) := by
          rw [← hP, List.map_append, List.nodup_append] at ndP
          intro hm
          exact ndP.2.2 q.name hm q.name (by simp [prD]) rfl
        have zs : P.length < sizeLine := by
          have := congrArg List.length hP
          simp at this
          exact Nat.lt_of_succ_le (line_small (by omega))
        simp [gt_none hcn, zs, pt_new hcn]
        exact .of ⟨_, _, rfl, by rw [← hP]; simp [prD]⟩
      · rintro e ⟨P, x8, rfl, hP⟩
        simp
        exact .of ⟨_, P, S, _, _, _, _, rfl, by rw [← hNS]; simp, by simpa using hP, by simpa using hS⟩
  · rintro e ⟨NS, P, S, x5, x6, x7, x8, rfl, hNS, hP, hS⟩
    have hP' : P = allP us := by simpa [allP] using hP
    have hS' : S = allC us := by simpa [allC] using hS
    subst hP' hS'
    simp
    refine wps_forT Un.enc (fun r e => Hold (∃ (x5 : Option O), e = [some (.f (.d (.tuple (us.map Un.enc)))), some (.f (.l [])), some (.f (.mk (dkB NS))), some (.f (.mk (dk (allP us)))), some (.f (.mk (dk (allC us)))), x5, x6, x7, x8, none, none] ∧ ∀ u ∈ r, u ∈ us)) ?_ ?_ (.of ⟨_, rfl, fun _ h => h⟩)
    · rintro u r e ⟨x5, rfl, hr⟩
      simp [lacking_ok h (hr u (by simp))]
      exact .of ⟨_, rfl, fun x hx => hr x (by simp [hx])⟩
    · rintro e ⟨x5, rfl, hr⟩
      have hg2 : getK2 (.str "main") (.int 1) (dk (allP us)) = some (.int 0) := by
        have := getK2_dk (allP us) "main" 1
        rw [h.main] at this
        simpa using this
      simp [hg2, outs, np_between]
theorem words_number_ok {Q : O → List O → Prop} : WpF m_words_number [.f (.d (.tuple (us.map Un.enc)))] Q ↔ Q (.f (.d (.int (((allC us).map (·.2)).sum : Nat)))) [.f (.d (.tuple (us.map Un.enc)))] := by
  refine WpF.of (WpF.eq (wpf_body ?_))
  have hw := h.words.1
  simp [s_words_number, env0]
  have hlen : (us.flatMap fun u => u.cells).length ≤ sizeLine := line_small (by
    have : (us.flatMap fun u => u.cells).length = (allC us).length := by simp [allC, List.length_flatMap]
    omega)
  refine wp_lc2T Un.enc (fun u => u.cells) cE (fun u c => .int (c.2.length : Nat)) us [] (by simpa using hlen) (fun u hu => ?_) ?_
  · simp
    intro a b hab
    simp [cE]
  · have e1 : (us.flatMap fun u => u.cells.map fun c => (.int (c.2.length : Nat) : D)) = (allC us).map fun c => .int ((c.2 : Nat) : Int) := by
      simp [allC, List.map_flatMap, cl, Function.comp_def]
    have e2 : ∀ l : DI, (l.map fun c => ((c.2 : Nat) : Int)).sum = (((l.map (·.2)).sum : Nat) : Int) := by
      intro l
      induction l with
      | nil => rfl
      | cons a l ih => simp [ih]
    simp only [List.nil_append]
    rw [e1]
    simp only [sumS_map fun c : Str × Nat => ((c.2 : Nat) : Int), e2]
    simp [outs, np_words_number]
theorem sum_le (l : DI) (hl : ∀ c ∈ l, c.2 ≤ 2) : (l.map (·.2)).sum ≤ 2 * l.length := by
  clear h
  induction l with
  | nil => simp
  | cons a l ih =>
    have h1 := hl a (by simp)
    have h2 := ih fun x hx => hl x (by simp [hx])
    simp only [List.map_cons, List.sum_cons, List.length_cons]
    omega
theorem is_program_ok {Q : O → List O → Prop} (w : Nat) (hw1 : 1 ≤ w) (hw2 : w ≤ 2) : WpF m_is_program [.f (.d (Prog w us))] Q ↔ Q (.f (.d (.bool true))) [.f (.d (Prog w us))] := by
  refine WpF.of (WpF.eq (wpf_body ?_))
  obtain ⟨g1, g2⟩ := h.words
  have g3 := sum_le h (allC us) g2
  obtain ⟨n, hn⟩ : ∃ n, n = ((allC us).map (·.2)).sum := ⟨_, rfl⟩
  rw [← hn] at g3
  have hn4 : n ≤ 4 := by omega
  have w1 : (1 : Int) ≤ w := by omega
  have w2 : (w : Int) ≤ 4 := by omega
  have hwn : w * n ≤ 8 := Nat.le_trans (Nat.mul_le_mul hw2 hn4) (by omega)
  have hm : mulS (.int (w : Nat)) (.int (n : Nat)) = some (.int ((w * n : Nat) : Int)) := by
    rw [mulS_R _ _ (by unfold smallI; rw [Bool.and_eq_true, decide_eq_true_eq, decide_eq_true_eq]; omega)]
    simp
  have hsz : ∀ {Q : O → List O → Prop} (k : Nat), k ≤ 8 → (WpF m_sized [.f (.d (.int (k : Nat)))] Q ↔ Q (.f (.d (.int ((2 ^ k : Nat) : Int)))) [.f (.d (.int (k : Nat)))]) := by
    intro Q k hk
    refine WpF.of (WpF.eq (wpf_body ?_))
    have hsh : shlS (.int 1) (.int (k : Nat)) = some (.int ((2 ^ k : Nat) : Int)) := by
      have : smallE 1 (k : Int) = true := by
        unfold smallE
        rw [Bool.and_eq_true, Bool.and_eq_true, decide_eq_true_eq, decide_eq_true_eq, decide_eq_true_eq]
        exact ⟨⟨by omega, by omega⟩, by decide⟩
      refine (if_pos this : (if smallE 1 (k : Int) = true then some (PyData.int ((1 : Int) * 2 ^ (k : Int).toNat)) else none) = _).trans ?_
      simp
    simp [s_sized, env0, hsh, outs, np_sized]
  have hp : (2 ^ (w * n) : Nat) ≤ 4096 := Nat.le_trans (Nat.pow_le_pow_right (by omega) hwn) (by decide)
  have hp' : (((2 ^ (w * n) : Nat)) : Int) ≤ 4096 := by omega
  obtain ⟨k, hk⟩ : ∃ k, k = w * n := ⟨_, rfl⟩
  rw [← hk] at hm hp' hwn
  obtain ⟨m, hmm⟩ : ∃ m : Nat, m = 2 ^ k := ⟨_, rfl⟩
  have hsz' := fun {Q : O → List O → Prop} => hsz (Q := Q) k hwn
  rw [← hmm] at hsz' hp'
  have hp'' : m ≤ 4096 := by omega
  have hwo := fun {Q : O → List O → Prop} => words_number_ok h (Q := Q)
  rw [← hn] at hwo
  simp [s_is_program, env0, Prog, w1, w2, is_company_ok h, between_ok h, hwo, hm, hsz', hp', hp'', outs, np_is_program]
theorem check_program_ok {Q : O → List O → Prop} (w : Nat) (hw1 : 1 ≤ w) (hw2 : w ≤ 2) : WpF m_check_program [.f (.d (Prog w us))] Q ↔ Q (.f (.d .none)) [.f (.d (Prog w us))] := by
  refine WpF.of (WpF.eq (wpf_body ?_))
  simp [s_check_program, env0, is_program_ok h w hw1 hw2, outs, np_check_program]
theorem all_cells_ok {Q : O → List O → Prop} (w : Nat) (hw1 : 1 ≤ w) (hw2 : w ≤ 2) : WpF m_all_cells [.f (.d (Prog w us))] Q ↔ Q (.f (.t ((allC us).map nE))) [.f (.d (Prog w us))] := by
  have hcells : ∀ {Q : O → List O → Prop}, WpF m_cells_of [.f (.d (.tuple (us.map Un.enc)))] Q ↔ Q (.f (.d (.list ((allC us).map nE)))) [.f (.d (.tuple (us.map Un.enc)))] := by
    intro Q
    refine WpF.of (WpF.eq (wpf_body ?_))
    have hw := h.words.1
    simp [s_cells_of, env0]
    have hlen : (us.flatMap fun u => u.cells).length ≤ sizeLine := line_small (by
      have : (us.flatMap fun u => u.cells).length = (allC us).length := by simp [allC, List.length_flatMap]
      omega)
    refine wp_lc2T Un.enc (fun u => u.cells) cE (fun u c => nE (cl c)) us [] (by simpa using hlen) (fun u hu => ?_) ?_
    · simp
      intro a b hab
      simp [cE, nE, cl]
    · have e1 : (us.flatMap fun u => u.cells.map fun c => nE (cl c)) = (allC us).map nE := by
        simp [allC, List.map_flatMap, Function.comp_def]
      simp only [List.nil_append]
      rw [e1]
      simp [outs, np_cells_of]
  refine WpF.of (WpF.eq (wpf_body ?_))
  simp [s_all_cells, env0, check_program_ok h w hw1 hw2]
  simp [Prog, hcells, outs, np_all_cells]
end
end K13

/-! ## K13cc -/
set_option Elab.async false
set_option linter.all false
set_option maxRecDepth 100000
set_option maxHeartbeats 4000000
/-! K13cc: homes; what is refused; the law. -/
namespace K13
open PySem PySem.Spec L2 Pm
variable [TabCtx]
@[simp] theorem Pr.plain_enc (r : Pr) : r.enc.plain = true := by simp [Pr.enc, PyData.plain, PyData.plainAll]
def pick (u : Un) (c : Str) : D := match u.procs.filter fun r => decide (r.name = c) with
  | [] => .none
  | r :: _ => r.enc
theorem procedure_of_at {Q : O → List O → Prop} (u : Un) (hl : u.procs.length ≤ 12) (c : Str) : WpF m_procedure_of [.f (.d u.enc), .f (.d (.str c))] Q ↔ Q (.f (.d (pick u c))) [.f (.d u.enc), .f (.d (.str c))] := by
  refine WpF.of (WpF.eq (wpf_body ?_))
  simp [s_procedure_of, env0]
  refine wp_lcT Pr.enc (fun r => decide (r.name = c)) Pr.enc (line_small (by omega)) (fun r hr => ?_) ?_
  · by_cases h : r.name = c <;> simp [h]
  · have hp : PyData.plainAll ((u.procs.filter fun r => decide (r.name = c)).map Pr.enc) = true := plainAll_map _ Pr.plain_enc _
    have hne := neS_nil _ hp
    unfold pick
    cases hf : u.procs.filter fun r => decide (r.name = c) with
    | nil => simp [outs, np_procedure_of]
    | cons r l =>
      rw [hf] at hne
      simp at hne
      simp [hne, outs, np_procedure_of]
theorem pick_none (u : Un) (c : Str) : isNoneD (pick u c) = !(u.procs.any fun r => decide (r.name = c)) := by
  unfold pick
  cases hf : u.procs.filter fun r => decide (r.name = c) with
  | nil =>
    have : u.procs.any (fun r => decide (r.name = c)) = false := by
      rw [List.any_eq_false]
      exact List.filter_eq_nil_iff.1 hf
    rw [this]
    rfl
  | cons r l =>
    have hr : r ∈ u.procs.filter fun r => decide (r.name = c) := by rw [hf]; simp
    rw [List.mem_filter] at hr
    have : u.procs.any (fun r => decide (r.name = c)) = true := List.any_eq_true.2 ⟨r, hr.1, hr.2⟩
    rw [this]
    rfl
theorem plain_ints (l : List Nat) : PyData.plainAll (l.map fun i => (.int (i : Nat) : D)) = true := plainAll_map _ (fun _ => by simp [PyData.plain]) l
section
variable {p : Plan} {rows : List Pr} {us : List Un} (h : ProgOk p rows us)
include h
theorem home_ok {Q : O → List O → Prop} (w : Nat) (hw1 : 1 ≤ w) (hw2 : w ≤ 2) {c : Str} (hc : c ∈ p.names) (q : ∀ n : Int, Q (.f (.d (.int n))) [.f (.d (Prog w us)), .f (.d (.str c))]) : WpF m_home [.f (.d (Prog w us)), .f (.d (.str c))] Q := by
  have hul := h.len3.2
  have hof : ∀ {Q : O → List O → Prop}, (∀ n : Int, Q (.f (.d (.int n))) [.f (.d (.tuple (us.map Un.enc))), .f (.d (.str c))]) → WpF m_home_of [.f (.d (.tuple (us.map Un.enc))), .f (.d (.str c))] Q := by
    intro Q q
    refine wpf_body ?_
    simp [s_home_of, env0]
    have henum : enumD (us.map Un.enc) = us.zipIdx.map (fun q : Un × Nat => .tuple [.int (q.2 : Nat), q.1.enc]) := by
      simp [enumD_eq, List.zipIdx_map, Function.comp_def]
    rw [henum]
    refine wp_lcT (fun q : Un × Nat => .tuple [.int (q.2 : Nat), q.1.enc]) (fun q => q.1.procs.any fun r => decide (r.name = c)) (fun q => .int (q.2 : Nat)) (line_small (by simp; omega)) (fun x hx => ?_) ?_
    · obtain ⟨u, i⟩ := x
      have hu : u ∈ us := List.fst_mem_of_mem_zipIdx hx
      simp [procedure_of_at u (h.okN hu).nprocs c, isNotS', notD, pick_none]
    · obtain ⟨u, hu, r, hr, hrc⟩ := h.has hc
      obtain ⟨i, hi, e⟩ := List.mem_iff_getElem.1 hu
      have hm : (u, i) ∈ us.zipIdx.filter (fun q => q.1.procs.any fun r => decide (r.name = c)) := by
        rw [List.mem_filter]
        refine ⟨?_, List.any_eq_true.2 ⟨r, hr, by simpa using hrc⟩⟩
        rw [List.mk_mem_zipIdx_iff_getElem?, List.getElem?_eq_getElem hi, e]
      have hp : PyData.plainAll ((us.zipIdx.filter (fun q => q.1.procs.any fun r => decide (r.name = c))).map fun q : Un × Nat => (.int (q.2 : Nat) : D)) = true := plainAll_map _ (fun _ => by simp [PyData.plain]) _
      have hne := neS_nil _ hp
      cases hf : us.zipIdx.filter (fun q => q.1.procs.any fun r => decide (r.name = c)) with
      | nil => rw [hf] at hm; cases hm
      | cons x l =>
        rw [hf] at hne
        simp at hne
        simp [hne, outs, np_home_of]
        exact q _
  refine wpf_body ?_
  simp [s_home, env0, check_program_ok h w hw1 hw2]
  simp [Prog]
  refine hof fun n => ?_
  simp [outs, np_home]
  exact q n
end
/-! ### what is refused -/
def bads : List D := [.none, .tuple [], .tuple [.str "one", .tuple [], .tuple []], .list [.str "one", .tuple [], .tuple [], .tuple []], .tuple [.str "One", .tuple [], .tuple [], .tuple []], .int 0, .dict [], .str "unit"]
theorem shape_bad : ∀ d ∈ bads, m_is_shape [.f (.d d)] = some (.ok (.f (.d (.bool false))) [.f (.d d)]) := by
  intro d hd
  simp only [bads, List.mem_cons, List.not_mem_nil, or_false] at hd
  rcases hd with rfl | rfl | rfl | rfl | rfl | rfl | rfl | rfl <;> kernel_rfl
end K13

/-! ## K13dd -/
set_option Elab.async false
set_option linter.all false
set_option maxRecDepth 100000
set_option maxHeartbeats 4000000
/-! K13dd: the law says True. -/
namespace K13
open PySem PySem.Spec L2 Pm
variable [TabCtx]
theorem wp_refM {m : M D} {rf : Str → Option Bool} {e e' : Pm.Env} {c : Str} {b : Bool} {Q : D → Pm.Env → Prop} (h : m e = some (.exc c e')) (hr : rf c = some b) (q : Q (.bool b) e') : Wp (refM rf m) e Q := by
  refine ⟨.bool b, e', ?_, q⟩
  unfold refM
  rw [h]
  simp only [hr, Option.map_some]
theorem refused (i : Nat) (mf : MF) (e : Pm.Env) (d : D) (c : Str) (he : e[i]? = some (some (.f (.d d)))) (h : mf [.f (.d d)] = some (.exc c [.f (.d d)])) : asD (callM [none] (argsC (varD i) args0) mf) e = some (.exc c e) := by
  have h1 : varD i e = some (.ok d e) := by unfold varD; rw [he]
  have h2 : argsC (varD i) args0 e = some (.ok [d] e) := by
    unfold argsC
    rw [bnd_ok h1]
    rfl
  have h3 : callM [none] (argsC (varD i) args0) mf e = some (.exc c e) := by
    unfold callM
    rw [bnd_ok h2]
    simp [h]
  unfold asD
  simp only [bnd, h3]
theorem refusedC (mf : MF) (e : Pm.Env) (d : D) (c : Str) (h : mf [.f (.d d)] = some (.exc c [.f (.d d)])) : asD (callM [none] (argsC (cst d) args0) mf) e = some (.exc c e) := by
  have h2 : argsC (cst d) args0 e = some (.ok [d] e) := rfl
  have h3 : callM [none] (argsC (cst d) args0) mf e = some (.exc c e) := by
    unfold callM
    rw [bnd_ok h2]
    simp [h]
  unfold asD
  simp only [bnd, h3]
/-- the unit that the law tells -/
def lawU : Un := ⟨"one", [("u", [1, 2])], [], [⟨"main", 0, 1, .act (.set 1 (.cell "u")) (.act (.call 0 "main" [.word 1]) .nil)⟩]⟩
def lawDue : List D := [fLoc "main" 1, fSize "main" "u", fArg "main" "main"]
theorem lawU_ok : lawU.ok := by
  refine ⟨nm "one", ?_, by decide, by simp [lawU], by decide, ?_, by decide⟩
  · intro c hc
    simp [lawU] at hc
    subst hc
    exact ⟨nm "u", by simp⟩
  · intro r hr
    simp [lawU] at hr
    subst hr
    refine ⟨nm "main", by decide, by decide, ?_, by decide, by decide⟩
    intro s hs
    simp [Blk.pre] at hs
    rcases hs with rfl | rfl
    · exact ⟨by simp [Sta.terms, Term.good, Term.ok, Term.dep]; exact nm "u", by simp [Sta.locs], by simp [Sta.puts], by simp [Sta.call]⟩
    · exact ⟨by simp [Sta.terms, Term.good, Term.ok, Term.dep], by simp [Sta.locs], by simp [Sta.puts], by simp [Sta.call]; exact nm "main"⟩
theorem lawU_due : dedD lawU.allF = lawDue := by
  have e : lawU.allF = lawDue := by kernel_rfl
  rw [e]
  simp [dedD, dedP, lawDue, List.zipIdx_cons, fLoc, fSize, fArg, PyData.eqv, PyData.eqvAll]
theorem isok_lawDue : IsOk 12 (.tuple lawDue) := by
  simp [IsOk, lawDue, fLoc, fSize, fArg]
theorem faults_bad : ∀ d ∈ bads, m_faults [.f (.d d)] = some (.exc "BadUnit" [.f (.d d)]) := by
  intro d hd
  simp only [bads, List.mem_cons, List.not_mem_nil, or_false] at hd
  rcases hd with rfl | rfl | rfl | rfl | rfl | rfl | rfl | rfl <;> kernel_rfl
theorem size_bad : m_size_of_unit [.f (.d .none)] = some (.exc "BadUnit" [.f (.d .none)]) := by kernel_rfl
theorem is_shape_bad {Q : O → List O → Prop} (d : D) (hd : d ∈ bads) : WpF m_is_shape [.f (.d d)] Q ↔ Q (.f (.d (.bool false))) [.f (.d d)] := WpF.of (shape_bad d hd)
theorem is_unit_bad {Q : O → List O → Prop} (d : D) (hd : d ∈ bads) : WpF m_is_unit [.f (.d d)] Q ↔ Q (.f (.d (.bool false))) [.f (.d d)] := by
  refine WpF.of (WpF.eq (wpf_body ?_))
  simp [s_is_unit, env0, is_shape_bad d hd, outs, np_is_unit]
theorem anyS_false {α : Type} (l : List α) : anyS [.list (l.map fun _ => .bool false)] = some (.bool false) := by
  rw [anyS_map]
  simp
theorem law_all_ok {Q : O → List O → Prop} (ns : List Int) : WpF m__law_all [.f (.d (.list (ns.map .int)))] Q ↔ Q (.f (.d (.bool true))) [.f (.d (.list (ns.map .int)))] := by
  refine WpF.of (WpF.eq (wpf_body ?_))
  have o4 : okR62 4 = true := by decide
  have o3 : okR62 3 = true := by decide
  have u4 : upD 0 4 = [0, 1, 2, 3].map fun i : Nat => (.int (i : Nat) : D) := rfl
  have u3 : upD 0 3 = [0, 1, 2].map fun i : Nat => (.int (i : Nat) : D) := rfl
  simp [s__law_all, env0]
  refine hand_at ns fun h0 => ?_
  simp [o4]
  rw [u4]
  obtain ⟨scr, hscr⟩ : ∃ scr : O, scr = .f (.d (.list (ns.map .int))) := ⟨_, rfl⟩
  refine wps_forT (fun i : Nat => .int (i : Nat)) (fun r e => Hold (∃ (h : Hand) (x2 x3 x4 x5 x6 x7 x8 x9 x10 x11 : Option O), e = [some (.f (.d (.list (ns.map .int)))), some h.o, x2, x3, x4, x5, x6, x7, x8, x9, x10, x11, none, none])) ?_ ?_ (.of ⟨h0, _, _, _, _, _, _, _, _, _, _, rfl⟩)
  · rintro i r e ⟨h, x2, x3, x4, x5, x6, x7, x8, x9, x10, x11, rfl⟩
    simp
    refine draw_at h 2 (by decide) (by decide) fun h1 v hv => ?_
    obtain ⟨w, hw⟩ : ∃ w : Nat, w = 1 + v := ⟨_, rfl⟩
    have hw1 : 1 ≤ w := by omega
    have hw2 : w ≤ 2 := by omega
    have hwa : addD (.int 1) (.int (v : Nat)) = some (.int (w : Nat)) := by
      rw [hw]
      simp
    simp [-addD_int, hwa]
    refine draw_at h1 2 (by decide) (by decide) fun h2 v2 hv2 => ?_
    simp
    refine program_at h2 w _ fun h3 p rows us hp => ?_
    have hpd : pairsD ((allC us).map nE) = some (dk (allC us)) := pairsD_map _
    have hmd : mergeD [] (dk (allC us)) = dk (allC us) := by
      have e := mergeD_dk (allC us) []
      have e2 := (dup_new (allC us) [] (by simpa using hp.nd_allC)).2
      simp only [List.nil_append] at e2
      rw [e2] at e
      exact e
    have hg1 : getS (Prog w us) (.int 1) = some (.tuple (us.map Un.enc)) := by simp [Prog]
    simp [is_program_ok hp w hw1 hw2, all_cells_ok hp w hw1 hw2, isNotS', notD, hpd, hmd, hg1]
    refine wps_forT Un.enc (fun r e => Hold (∃ (h : Hand) (x5 x6 x7 x8 x9 x10 : Option O), e = [some (.f (.d (.list (ns.map .int)))), some h.o, some (.f (.d (.int (i : Nat)))), some (.f (.d (Prog w us))), some (.f (.mk (dk (allC us)))), x5, x6, x7, x8, x9, x10, x11, none, none] ∧ ∀ u ∈ r, u ∈ us)) ?_ ?_ (.of ⟨h3, _, _, _, _, _, _, rfl, fun _ h => h⟩)
    · rintro u r2 e ⟨h4, x5, x6, x7, x8, x9, x10, rfl, hr⟩
      have hu := hr u (by simp)
      have hok := hp.uok hu
      have hF := hp.noF hu
      have hd0 : dedD u.allF = [] := (dedD_nil _).2 hF
      have hoN := hp.okN hu
      have hne : neS (.tuple []) (.tuple []) = some (.bool false) := by
        rw [neS_tnil _ (by simp [PyData.plainAll])]
        simp
      have houl : u.outs.length ≤ 100 := by
        have hl := keysI_len u.C (DOk.endL DOk.nil (allS_ok u hok))
        simp only [Un.outs, List.length_map]
        refine Nat.le_trans (List.length_filter_le _ _) ?_
        simp [sortS]
        omega
      simp [law_is_right_at u hok, faults_at u hok, hd0, hne, outer_calls_at u hok hF]
      refine wp_lcA nE (fun _ => .bool false) (line_small (by omega)) (fun c hc => ?_) ?_
      · simp [nE]
        refine home_ok hp w hw1 hw2 (hp.outs hu c hc).1 fun n => ?_
        simp
      · simp [anyS_false]
        refine wp_lcA nE (fun _ => .bool false) (line_small (by have := hoN.nneeds; omega)) (fun c hc => ?_) ?_
        · have := hp.needs hu c hc
          simp [nE, this]
        · simp [anyS_false, o3]
          rw [u3]
          refine wps_forT (fun i : Nat => .int (i : Nat)) (fun r e => Hold (∃ (h : Hand) (k : Nat) (u' : Un) (x6 x7 x8 x10 : Option O), k + r.length = 3 ∧ u'.okN k ∧ e = [some (.f (.d (.list (ns.map .int)))), some h.o, some (.f (.d (.int (i : Nat)))), some (.f (.d (Prog w us))), some (.f (.mk (dk (allC us)))), some (.f (.d u.enc)), x6, x7, x8, some (.f (.d u'.enc)), x10, x11, none, none])) ?_ ?_ (.of ⟨h4, 0, u, _, _, _, _, rfl, hoN, rfl⟩)
          · rintro j r3 e ⟨h5, k, u', x6, x7, x8, x10, hk, hu', rfl⟩
            simp only [List.length_cons] at hk
            simp
            refine bent_at k (by omega) h5 u' hu' fun h6 u2 hu2 => ?_
            simp [law_is_right_at u2 (hu2.ok (by omega))]
            exact .of ⟨h6, k + 1, u2, _, _, _, _, by omega, hu2, rfl⟩
          · rintro e ⟨h5, k, u', x6, x7, x8, x10, hk, hu', rfl⟩
            simp
            exact .of ⟨h5, _, _, _, _, _, _, rfl, fun x hx => hr x (by simp [hx])⟩
    · rintro e ⟨h4, x5, x6, x7, x8, x9, x10, rfl, hr⟩
      simp
      refine any_at h4 bads (by simp [bads]) (by simp [bads]) fun h5 d hd => ?_
      simp [is_shape_bad d hd, is_unit_bad d hd, isNotS', notD]
      refine wp_refM (refused 11 m_faults _ d "BadUnit" rfl (faults_bad d hd)) rfl ?_
      simp
      exact .of ⟨h5, _, _, _, _, _, _, _, _, _, _, rfl⟩
  · rintro e ⟨h, x2, x3, x4, x5, x6, x7, x8, x9, x10, x11, rfl⟩
    have hue : (.tuple [.str "one", .tuple [.tuple [.str "u", .tuple [.int 1, .int 2]]], .tuple [], .tuple [.tuple [.str "main", .int 0, .int 1, .tuple [.tuple [.str "set", .int 1, .tuple [.str "cell", .str "u"]], .tuple [.str "call", .int 0, .str "main", .tuple [.tuple [.str "word", .int 1]]]]]]] : D) = lawU.enc := rfl
    have hde : (.tuple [.tuple [.str "local", .str "main", .int 1], .tuple [.str "size", .str "main", .str "u"], .tuple [.str "arguments", .str "main", .str "main"]] : D) = .tuple lawDue := rfl
    simp
    rw [hue, hde]
    rw [faults_at lawU lawU_ok, lawU_due]
    simp
    rw [law_is_at 12 _ isok_lawDue]
    simp
    refine wp_refM (refusedC m_size_of_unit _ .none "BadUnit" size_bad) rfl ?_
    simp [outs, np__law_all]
theorem law_ok (ns : List Int) (o : O) (ho : o = .l (ns.map .int) ∨ o = .d (.list (ns.map .int))) : ∃ os', m_law [o] = some (.ok (.d (.bool true)) os') := by
  have key : WpF m_law [o] fun x xs => x = .d (.bool true) := by
    refine wpf_body ?_
    unfold s_law
    refine wps_tryS ?_
    rcases ho with rfl | rfl
    · simp [env0, law_all_ok ns, outs, np_law]
    · simp [env0, law_all_ok ns, outs, np_law]
  obtain ⟨x, xs, h1, rfl⟩ := key
  exact ⟨xs, h1⟩
end K13

/-! ## K13h -/
set_option Elab.async false
set_option linter.all false
set_option maxRecDepth 100000
set_option maxHeartbeats 0
/-! K13h: the head: the facts of the module by the run of its top; the walk's end. Built over K13w (printed by gen.py). -/
namespace K13
open PySem PySem.Spec L2 Pm
/-! ### what is asked of the heap behind the top -/
def hfn : List He.DefD := fns.map fun d => ⟨(d.1, none), d.1, d.1, defArgs (top d.2), defBody (top d.2), defScope (top d.2), [], []⟩
def excs : List Str := ["BadProgram", "BadUnit"]
def hfa : List He.Fa := fns.map (fun d => .glo d.1) ++ frees.map .free ++ intsG.map (fun q => .int q.1 q.2) ++ strsG.map (fun q => .str q.1 q.2) ++ excs.map .exc ++ excs.map .glo ++ [.glo "DEEDS", .glo "EMPTY", .glo "LinkError", .exm "BadUnit" "LinkError" true]
def dv : D → He.Dv
  | .str s => .str s
  | .int i => .int i
  | .bool b => .bl b
  | _ => .non
def exB (K : PySem.W.Frag) (C : Addr) : Bool :=
  decide (PySem.W.findIn K (.ref C) "__getattribute__" = some (some (.builtin "BaseException.__getattribute__"))) && decide (PySem.W.findIn K (.ref C) "__getattr__" = some none) && decide (PySem.W.subIn K (.ref C) (.type "BaseException") = some true) && PySem.W.hasDictIn K C &&
  decide (PySem.W.findIn K (.ref C) "__class__" = some (some (.builtin "object.__class__"))) && decide (PySem.W.specialIn K (.builtin "object.__class__") "__get__" = some (some (.builtin "getset_descriptor.__get__"))) && decide (PySem.W.takesIn K (.builtin "object.__class__") = some true) &&
  decide (PySem.W.mroIn K C (.type "object") = some true)
theorem exB_ok {K : PySem.W.Frag} {C : Addr} (h : exB K C = true) : ExcC K C := by
  unfold exB at h
  simp only [Bool.and_eq_true, decide_eq_true_eq] at h
  obtain ⟨⟨⟨⟨⟨⟨⟨h1, h2⟩, h3⟩, h4⟩, h5⟩, h6⟩, h7⟩, h8⟩ := h
  exact ⟨h1, h2, h3, h4, h5, h6, h7, h8⟩
def hex (K : PySem.W.Frag) : Bool := He.tupB K "DEEDS" (t_DEEDS.map dv) && He.tupB K "EMPTY" (t_EMPTY.map dv) && exB K (He.ga K "BadUnit") && decide (PySem.W.kitOne K (.ref (He.ga K "BadUnit")) (.ref (He.ga K "BadUnit")) = some true) && decide (PySem.W.kitOne K (.ref (He.ga K "BadUnit")) (.type "ValueError") = some true)
def htf : List He.Defn := [("_law_all", none)]
abbrev R : PySem.W.OpenRow := PySem.W.OpenLaw.row PySem.Challenge.rw_linkedpapers_k13_whole_faults_of_units
abbrev hk : PySem.W.Hook := He.hookX 4 hfa hfn [] htf hex
def ob (s : PySem.W.SharedT) : He.AlX := He.obsX 4 hfa hfn [] htf hex (HandSHeadRun.getT s)
theorem ob_eq (s : PySem.W.SharedT) : ob s = hk.obs s.abs := He.obsX_eq (HandSHeadRun.getT_eq s)
def loose : List Str := ((fns.map fun d => d.1).filter fun (x : Str) => x != ("law" : Str)) ++ (intsG.map fun d => d.1) ++ (strsG.map fun d => d.1) ++ (["DEEDS", "EMPTY", "LinkError", "BadProgram", "BadUnit", "TooMany"] : List Str)
abbrev V : Program := PySem.W.view R.prog [89]
theorem run (w : World) : HandSHeadRun.RunEq R V hk ob 4000 loose w := by
  intro os
  kernel_rfl
end K13

/-! ## K13e -/
set_option Elab.async false
set_option linter.all false
set_option maxRecDepth 100000
set_option maxHeartbeats 0
/-! K13e: the end: the law holds, if its plain function says True. -/
namespace K13
open PySem PySem.Spec L2 Pm
def PK (K : PySem.W.Frag) : Addr := He.tabOf K (He.codeOf K ("_law_all", none))
def ctx (K : PySem.W.Frag) : TabCtx := ⟨[(PK K, lamQ "_law_all")]⟩
section
variable {P : Program} {w : World} {K : PySem.W.Frag} {mg : Str → Option Value} {h base : Heap}
theorem dv_rel {ds : List D} (hp : ∀ d ∈ ds, (∃ s, d = .str s) ∨ ∃ i, d = .int i) (H : Hp) : RelDs K H ds ((ds.map dv).map (He.Dv.v K)) := by
  induction ds with
  | nil => exact rfl
  | cons d ds ih =>
    refine ⟨_, _, rfl, ?_, ih fun x hx => hp x (List.mem_cons_of_mem _ hx)⟩
    rcases hp d List.mem_cons_self with ⟨s, rfl⟩ | ⟨i, rfl⟩ <;> exact rfl
theorem tupG {x : Str} {ds : List D} (X : K.In h) (G : h.Ns mainGlobals mg) (hg : (He.Fa.glo x).ok K = true) (ht : He.tupB K x (ds.map dv) = true) (hp : ∀ d ∈ ds, (∃ s, d = .str s) ∨ ∃ i, d = .int i) (hl : ds.length ≤ sizeLine) : TupG K mg x ds :=
  ⟨He.ga K x, _, He.glo_ok X G hg, fun H => He.tupB_ok ht H, dv_rel hp, hl⟩
theorem excG {x : Str} (X : K.In h) (G : h.Ns mainGlobals mg) (hg : (He.Fa.glo x).ok K = true) (he : (He.Fa.exc x).ok K = true) : ExcG K mg x := by
  obtain ⟨h1, h2, h3, h4⟩ := He.exc_ok he
  exact ⟨h1, He.glo_ok X G hg, h2, h3, h4⟩
theorem gs (X : K.In h) (G : h.Ns mainGlobals mg) (c : He.SaysX hfa hfn [] htf hex w h K) (tb : LamX.TabB base mg (He.codeOf K ("_law_all", none)) (PK K)) : @Gs (ctx K) P w K mg base := by
  letI := ctx K
  have cd := c.t.d
  have m1 : ∀ {f : He.Fa}, f ∈ hfa → f.ok K = true := fun hf => cd.facts hf
  have hx := c.more
  unfold hex at hx
  simp only [Bool.and_eq_true, decide_eq_true_eq] at hx
  obtain ⟨⟨⟨⟨x1, x2⟩, x3⟩, x4⟩, x5⟩ := hx
  have hin : ∀ {f : He.Fa} (l : List He.Fa), f ∈ l → (∀ g ∈ l, g ∈ hfa) → f.ok K = true := fun l h1 h2 => m1 (h2 _ h1)
  have a1 : ∀ d ∈ fns, (He.Fa.glo d.1) ∈ hfa := fun d hd => by
    simp only [hfa, List.mem_append]
    exact .inl (.inl (.inl (.inl (.inl (.inl (List.mem_map.mpr ⟨d, hd, rfl⟩))))))
  have a2 : ∀ x ∈ frees, (He.Fa.free x) ∈ hfa := fun d hd => by
    simp only [hfa, List.mem_append]
    exact .inl (.inl (.inl (.inl (.inl (.inr (List.mem_map.mpr ⟨d, hd, rfl⟩))))))
  have a3 : ∀ q ∈ intsG, (He.Fa.int q.1 q.2) ∈ hfa := fun d hd => by
    simp only [hfa, List.mem_append]
    exact .inl (.inl (.inl (.inl (.inr (List.mem_map.mpr ⟨d, hd, rfl⟩)))))
  have a4 : ∀ q ∈ strsG, (He.Fa.str q.1 q.2) ∈ hfa := fun d hd => by
    simp only [hfa, List.mem_append]
    exact .inl (.inl (.inl (.inr (List.mem_map.mpr ⟨d, hd, rfl⟩))))
  have a5 : ∀ x ∈ excs, (He.Fa.exc x) ∈ hfa := fun d hd => by
    simp only [hfa, List.mem_append]
    exact .inl (.inl (.inr (List.mem_map.mpr ⟨d, hd, rfl⟩)))
  have a6 : ∀ x ∈ excs, (He.Fa.glo x) ∈ hfa := fun d hd => by
    simp only [hfa, List.mem_append]
    exact .inl (.inr (List.mem_map.mpr ⟨d, hd, rfl⟩))
  have a7 : ∀ f ∈ ([.glo "DEEDS", .glo "EMPTY", .glo "LinkError", .exm "BadUnit" "LinkError" true] : List He.Fa), f ∈ hfa := fun f hf => by
    simp only [hfa, List.mem_append]
    exact .inr hf
  have e1 : ("BadProgram" : Str) ∈ excs := mem_ix 0 rfl
  have e2 : ("BadUnit" : Str) ∈ excs := mem_ix 1 rfl
  refine @Gs.mk _ P w K mg base (fun d hd => ?_) (fun x hx => He.free_ok X G (m1 (a2 x hx))) (fun q hq => He.int_ok X G (m1 (a3 q hq))) (fun q hq => He.str_ok X G (m1 (a4 q hq))) ?_ ?_ (excG X G (m1 (a6 _ e1)) (m1 (a5 _ e1))) (excG X G (m1 (a6 _ e2)) (m1 (a5 _ e2)))
    (He.glo_ok X G (m1 (a6 _ e2))) (He.glo_ok X G (m1 (a7 _ (mem_ix 2 rfl)))) (fun c b hb => ?_) tb rfl
  · obtain ⟨i, hi, e⟩ := List.mem_iff_getElem.mp hd
    have hm : hfn[i]? = some ⟨(d.1, none), d.1, d.1, defArgs (top d.2), defBody (top d.2), defScope (top d.2), [], []⟩ := by
      unfold hfn
      rw [List.getElem?_map, List.getElem?_eq_getElem hi, e]
      rfl
    obtain ⟨fd, F⟩ := cd.def_ i hm
    exact ⟨fd, F, He.glo_ok X G (m1 (a1 d hd))⟩
  · refine tupG X G (m1 (a7 _ (mem_ix 0 rfl))) x1 (fun d hd => ?_) (by decide)
    simp only [t_DEEDS, List.mem_cons, List.not_mem_nil, or_false] at hd
    rcases hd with h | h | h | h | h | h | h | h | h | h <;> exact .inl ⟨_, h⟩
  · exact tupG X G (m1 (a7 _ (mem_ix 1 rfl))) x2 (fun d hd => by cases hd) (by decide)
  · unfold rf__law_is_refused at hb
    split at hb
    · rename_i hc
      subst hc
      cases hb
      exact ⟨exB_ok x3, He.exm_ok (m1 (a7 _ (mem_ix 3 rfl))), true, x4, fun _ => x5, fun z => nomatch z⟩
    · cases hb
end
theorem law_mem : He.Fa.glo "law" ∈ hfa := by
  simp only [hfa, List.mem_append]
  exact .inl (.inl (.inl (.inl (.inl (.inl (List.mem_map.mpr ⟨("law", 89), List.mem_of_getElem? (i := 65) rfl, rfl⟩))))))
/-- the law's plain function says True at this script -/
def Pure (ns : List Int) : Prop := ∀ (o : O), o = .l (ns.map .int) ∨ o = .d (.list (ns.map .int)) → ∃ os', m_law [o] = some (.ok (.d (.bool true)) os')
end K13
open PySem PySem.W PySem.Calls PyProof.Rows
theorem K13.holds (PURE : ∀ ns : List Int, ns.length ≤ 63 → (∀ z ∈ ns, Builtin.Int.intBits z ≤ 1048576) → K13.Pure ns) : PySem.Challenge.rw_linkedpapers_k13_whole_faults_of_units.Holds := by
  w_on; o_law
  refine HandSHeadRun.head_any (r := K13.R) (q := K13.V) (H := K13.hk) (ob := K13.ob) (M := 4000) (loose := K13.loose) (d := HandSHeadRun.topDef K13.R.prog 89) (kwd := []) K13.ob_eq
    (by kernel_rfl) (fun s => by kernel_rfl) K13.run (by kernel_rfl) (by kernel_rfl) (by kernel_rfl) (by rfl) (by first | assumption | decide +kernel) (by decide +kernel) ⟨rfl, rfl, rfl, rfl, rfl, by decide +kernel⟩ ?hw ?hc
  case hw => w_witness2
  case hc =>
    refine LamX.walk_ofTsE (l := PySem.Challenge.rw_linkedpapers_k13_whole_faults_of_units) (n := 63) (k := 34) (x := "script") (CX := fun w => L2.CX PySem.Challenge.rw_linkedpapers_k13_whole_faults_of_units.prog w) rfl (by decide) (by kernel_rfl) ⟨rfl, by decide, by decide⟩ ?F ?C
    case C =>
      intro w H s e s' z
      obtain ⟨_, _, _, _, _, _, _, _, _, _, _, _, z⟩ := z
      exact z
    case F =>
      intro w mg fa h Y G hmg0
      obtain ⟨K, KX, c⟩ := Y
      have hmg : mg ("law" : PySem.Str) = some (.ref fa) := by
        have e : (HandSHeadRun.topDef K13.R.prog 89).name = ("law" : PySem.Str) := by kernel_rfl
        rw [← e]
        exact hmg0
      letI := K13.ctx K
      obtain ⟨fd, F⟩ : ∃ fd, L2.FunD K ("law" : PySem.Str) "law" (L2.defArgs (K13.top 89)) (L2.defBody (K13.top 89)) (L2.defScope (K13.top 89)) [] [] (He.ga K "law") fd :=
        c.t.d.def_ 65 (d := ⟨("law", none), "law", "law", L2.defArgs (K13.top 89), L2.defBody (K13.top 89), L2.defScope (K13.top 89), [], []⟩) rfl
      have efa : He.ga K "law" = fa := by
        have z := He.glo_ok KX G (x := "law") (c.t.d.facts K13.law_mem)
        rw [hmg] at z
        cases z
        rfl
      subst efa
      refine ⟨K, KX, fd, [He.cT K ("_law_all", none)], Pm.spM K 1 K13.m_law, ?_, ?_, ?_, ?_, ?_, ?_⟩
      · intro p hp
        rw [List.mem_singleton.mp hp]
        exact c.empty _ List.mem_cons_self
      · intro p hp
        rw [List.mem_singleton.mp hp]
        exact c.out _ List.mem_cons_self
      · intro p hp
        rw [List.mem_singleton.mp hp]
        exact codeHd_of_K KX (c.hd _ List.mem_cons_self)
      · intro s u
        exact (L2.FunD.bindsA (ps := ["script"]) F fun _ _ _ _ _ _ us hl => match us, hl with | [_], _ => rfl) s [u] rfl
      · intro H a ns hl hb hT hS
        have tb : Pm.TbOk H := fun p hp => by
          rw [List.mem_singleton.mp hp]
          exact LamX.TabS.nil (hT _ List.mem_cons_self)
        have fin : ∀ (ow : Pm.OW) (o : Pm.O), (o = .l (ns.map .int) ∨ o = .d (.list (ns.map .int))) → Pm.RelO K H ow (.sl 0) o (.ref a) → Pm.spM K 1 K13.m_law [.ref a] H (fun v _ => v = .bl true) fun _ _ _ => False := fun ow o ho ro => by
          obtain ⟨os', e⟩ := PURE ns hl hb o ho
          exact ⟨rfl, tb, ow, [o], _, ⟨_, [], rfl, ro, rfl⟩, e, fun v H' ow' _ rv _ => rv⟩
        have rel : Pm.RelDs K H (ns.map .int) (ns.map L2.V.int) := by
          clear hl hb hS fin
          induction ns with
          | nil => exact rfl
          | cons n ns ih => exact ⟨_, _, rfl, rfl, ih⟩
        rcases hS with (hS | ⟨o, hS⟩) | hS
        · exact fin (fun x => if x = a then some (.sl 0, 0) else none) _ (.inl rfl) ⟨a, _, rfl, if_pos rfl, hS, rel⟩
        · exact fin (fun _ => none) _ (.inr rfl) ⟨a, _, rfl, .inl ⟨o, hS⟩, by rw [List.length_map]; exact Nat.le_trans hl (by decide), rel⟩
        · exact fin (fun _ => none) _ (.inr rfl) ⟨a, _, rfl, .inr (.inr hS), by rw [List.length_map]; exact Nat.le_trans hl (by decide), rel⟩
      · intro base hb hns hTB
        obtain ⟨f, fd', g1, g2, g3, ⟨oc, od, osl, lk⟩, g4⟩ := (K13.ok_law (K13.gs (base := base) KX G c (hTB _ List.mem_cons_self))).ex
        rw [hmg] at g1
        cases g1
        obtain ⟨oc2, od2, osl2, lk2⟩ := Pm.funD_lk F
        rw [lk] at lk2
        cases lk2
        exact g4
/-! ## the law -/
theorem PySem.Challenge.cw_linkedpapers_k13_whole_faults_of_units_holds : PySem.Challenge.rw_linkedpapers_k13_whole_faults_of_units.Holds := by
  letI : Pm.TabCtx := ⟨[]⟩
  exact K13.holds fun ns h1 h2 o ho => K13.law_ok ns o ho

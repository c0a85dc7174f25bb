import PyProof.Rows.All
import Wide.All
import OpenK.AllK
import Wide.FinOn
import HandS.ForMost
import HandS.ForExc
import HandS.TryMany
import HandS.Wide
import HandS.EndBits
import HandS.NoneIn
import HandS.IsInst
import HandS.Flow
import HandS.TupAny
import HandS.TupMul
import HandS.Style
import HandS.Rev
import HandS.Zip
import HandS.Deep
import HandS.Steps
import PyProof.ListRange
import PySem.Challenge.RW_turtlehouse_k42_rounds
set_option Elab.async false
set_option linter.all false
set_option maxRecDepth 100000
/-! T1: plain data, an abstract state, readings by functions. -/
namespace Wk
open PySem PySem.Spec PyProof.Rows L2

abbrev D := PyData

/-- a value of a frame: data that never changes, a thing of the frame's own store, a tuple with such things -/
inductive U where
  | d (x : D)
  | ref (n : Nat)
  | tup (us : List U)

/-- a thing of the store -/
inductive Ob where
  | lst (xs : List D)
  | frz (xs : List D)
  | ins (c : Str) (fs : List (Str × U))
  | dct (kvs : List (Key × U))

abbrev Sto := List Ob
inductive Res (α : Type) where
  | ok (x : α) (h : Sto)
  | exc (c : Str) (h : Sto)
  | stuck
def Res.bind {α β : Type} (r : Res α) (k : α → Sto → Res β) : Res β := match r with
  | .ok x h => k x h
  | .exc c h => .exc c h
  | .stuck => .stuck
@[simp] theorem Res.bind_ok {α β : Type} (x : α) (h : Sto) (k : α → Sto → Res β) : (Res.ok x h).bind k = k x h := (rfl)
@[simp] theorem Res.bind_exc {α β : Type} (c : Str) (h : Sto) (k : α → Sto → Res β) : (Res.exc c h).bind k = .exc c h := (rfl)
@[simp] theorem Res.bind_stuck {α β : Type} (k : α → Sto → Res β) : (Res.stuck : Res α).bind k = .stuck := (rfl)
abbrev Env' := List (Option U)
abbrev Ev := Env' → Sto → Res U
abbrev Eb := Env' → Sto → Res Bool
abbrev Ea := Env' → Sto → Res (List U)
/-- a statement's end -/
inductive SRes where
  | next (env : Env') (h : Sto)
  | ret (u : U) (h : Sto)
  | exc (c : Str) (env : Env') (h : Sto)
  | stuck
abbrev Es := Env' → Sto → SRes

/-! ### how they lie in the heap -/
/-- a list that can't be written any more -/
def FzL (K : PySem.W.Frag) (H : Hp) (a : Addr) (xs : List V) : Prop :=
  (∃ o, H a = some (.frz o (.lst xs))) ∨
    ∃ (o : Obj) (its : Array Value) (n : Nat), K.lookup a = some o ∧ o.cls = .type "list" ∧ o.dict = none ∧ o.data = .seq its n ∧ its.size ≤ sizeLine ∧ Vals xs its.toList
theorem FzL.sq {K : PySem.W.Frag} {H : Hp} {a : Addr} {xs : List V} (h : FzL K H a xs) : SqL K H a xs := by
  rcases h with ⟨o, h⟩ | h
  · exact .inl (.inr ⟨o, h⟩)
  · exact .inr h
mutual
inductive RD (K : PySem.W.Frag) (H : Hp) : V → D → Prop
  | non : RD K H .non .none
  | bl (b : Bool) : RD K H (.bl b) (.bool b)
  | int (i : Int) : RD K H (.int i) (.int i)
  | str (x : Str) : RD K H (.str x) (.str x)
  | lst {a : Addr} {xs : List V} {ds : List D} : FzL K H a xs → RDs K H xs ds → RD K H (.ref a) (.list ds)
  | tup {a : Addr} {xs : List V} {ds : List D} : SqT K H a xs → RDs K H xs ds → RD K H (.ref a) (.tuple ds)
inductive RDs (K : PySem.W.Frag) (H : Hp) : List V → List D → Prop
  | nil : RDs K H [] []
  | cons {v : V} {vs : List V} {d : D} {ds : List D} : RD K H v d → RDs K H vs ds → RDs K H (v :: vs) (d :: ds)
end
mutual
inductive RU (K : PySem.W.Frag) (H : Hp) (m : List Addr) : V → U → Prop
  | d {v : V} {x : D} : RD K H v x → RU K H m v (.d x)
  | ref {n : Nat} {a : Addr} : m[n]? = some a → RU K H m (.ref a) (.ref n)
  | tup {a : Addr} {vs : List V} {us : List U} : SqT K H a vs → RUs K H m vs us → RU K H m (.ref a) (.tup us)
inductive RUs (K : PySem.W.Frag) (H : Hp) (m : List Addr) : List V → List U → Prop
  | nil : RUs K H m [] []
  | cons {v : V} {vs : List V} {u : U} {us : List U} : RU K H m v u → RUs K H m vs us → RUs K H m (v :: vs) (u :: us)
end

/-- what never changes stays -/
structure Kp (H H' : Hp) : Prop where
  tup : ∀ a xs, H a = some (.tup xs) → H' a = some (.tup xs)
  frz : ∀ a o u, H a = some (.frz o u) → H' a = some (.frz o u)
theorem Kp.refl (H : Hp) : Kp H H := ⟨fun _ _ h => h, fun _ _ _ h => h⟩
theorem Kp.trans {H H1 H2 : Hp} (a : Kp H H1) (b : Kp H1 H2) : Kp H H2 := ⟨fun c xs h => b.tup c xs (a.tup c xs h), fun c o u h => b.frz c o u (a.frz c o u h)⟩
theorem Kp.same {H H' : Hp} (s : Same H H') : Kp H H' := ⟨fun a _ h => s a _ h, fun a _ _ h => s a _ h⟩
theorem Kp.sqT {K : PySem.W.Frag} {H H' : Hp} {a : Addr} {xs : List V} (k : Kp H H') (h : SqT K H a xs) : SqT K H' a xs := by
  rcases h with (h | ⟨o, h⟩) | h
  · exact .inl (.inl (k.tup _ _ h))
  · exact .inl (.inr ⟨o, k.frz _ _ _ h⟩)
  · exact .inr h
theorem Kp.fzL {K : PySem.W.Frag} {H H' : Hp} {a : Addr} {xs : List V} (k : Kp H H') (h : FzL K H a xs) : FzL K H' a xs := by
  rcases h with ⟨o, h⟩ | h
  · exact .inl ⟨o, k.frz _ _ _ h⟩
  · exact .inr h
mutual
theorem RD.kp {K : PySem.W.Frag} {H H' : Hp} (k : Kp H H') : ∀ (d : D) (v : V), RD K H v d → RD K H' v d
  | .none, _, h => by cases h; exact .non
  | .bool b, _, h => by cases h; exact .bl b
  | .int i, _, h => by cases h; exact .int i
  | .str x, _, h => by cases h; exact .str x
  | .list ds, _, h => by
    cases h with
    | lst a b => exact .lst (k.fzL a) (RDs.kp k ds _ b)
  | .tuple ds, _, h => by
    cases h with
    | tup a b => exact .tup (k.sqT a) (RDs.kp k ds _ b)
  | .dict _, _, h => by cases h
theorem RDs.kp {K : PySem.W.Frag} {H H' : Hp} (k : Kp H H') : ∀ (ds : List D) (vs : List V), RDs K H vs ds → RDs K H' vs ds
  | [], _, h => by cases h; exact .nil
  | d :: ds, _, h => by
    cases h with
    | cons a b => exact .cons (RD.kp k d _ a) (RDs.kp k ds _ b)
end
mutual
theorem RU.kp {K : PySem.W.Frag} {H H' : Hp} {m m' : List Addr} (k : Kp H H') (pre : ∃ e, m' = m ++ e) : ∀ (u : U) (v : V), RU K H m v u → RU K H' m' v u
  | .d x, _, h => by
    cases h with
    | d a => exact .d (RD.kp k x _ a)
  | .ref n, _, h => by
    cases h with
    | ref a =>
      obtain ⟨e, rfl⟩ := pre
      exact .ref (by rw [List.getElem?_append_left (List.getElem?_eq_some_iff.mp a).1]; exact a)
  | .tup us, _, h => by
    cases h with
    | tup a b => exact .tup (k.sqT a) (RUs.kp k pre us _ b)
theorem RUs.kp {K : PySem.W.Frag} {H H' : Hp} {m m' : List Addr} (k : Kp H H') (pre : ∃ e, m' = m ++ e) : ∀ (us : List U) (vs : List V), RUs K H m vs us → RUs K H' m' vs us
  | [], _, h => by cases h; exact .nil
  | u :: us, _, h => by
    cases h with
    | cons a b => exact .cons (RU.kp k pre u _ a) (RUs.kp k pre us _ b)
end

/-- the state grows: things of the store may change, new ones come; all else stays -/
structure Gr (H : Hp) (m : List Addr) (H' : Hp) (m' : List Addr) : Prop where
  pre : ∃ e, m' = m ++ e
  keep : ∀ a o, H a = some o → a ∉ m → H' a = some o
  fresh : ∀ a, a ∈ m' → a ∉ m → H a = none
  kp : Kp H H'
theorem Gr.refl (H : Hp) (m : List Addr) : Gr H m H m := ⟨⟨[], by simp⟩, fun _ _ h _ => h, fun _ h n => absurd h n, Kp.refl H⟩
theorem Gr.trans {H H1 H2 : Hp} {m m1 m2 : List Addr} (a : Gr H m H1 m1) (b : Gr H1 m1 H2 m2) : Gr H m H2 m2 where
  pre := by
    obtain ⟨e, rfl⟩ := a.pre
    obtain ⟨f, rfl⟩ := b.pre
    exact ⟨e ++ f, by rw [List.append_assoc]⟩
  keep := fun c o h n => b.keep c o (a.keep c o h n) fun hm => by
    have z := a.fresh c hm n
    rw [h] at z
    cases z
  fresh := fun c hm n => by
    by_cases h1 : c ∈ m1
    · exact a.fresh c h1 n
    · have z := b.fresh c hm h1
      cases q : H c with
      | none => rfl
      | some o =>
        rw [a.keep c o q n] at z
        cases z
  kp := a.kp.trans b.kp
theorem Gr.same {H H' : Hp} {m : List Addr} (g : Gr H [] H' m) : Same H H' := fun a o h => g.keep a o h (by simp)

/-! ### the store -/
def RF (K : PySem.W.Frag) (H : Hp) (m : List Addr) : List (Str × V) → List (Str × U) → Prop := Paired fun p q => p.1 = q.1 ∧ RU K H m p.2 q.2
def RK (K : PySem.W.Frag) (H : Hp) (m : List Addr) : List (Key × V) → List (Key × U) → Prop := Paired fun p q => p.1 = q.1 ∧ RU K H m p.2 q.2
def RO (K : PySem.W.Frag) (mg : Str → Option Value) (H : Hp) (m : List Addr) (a : Addr) : Ob → Prop
  | .lst xs => ∃ vs, H a = some (.lst vs) ∧ RDs K H vs xs
  | .frz xs => ∃ o vs, H a = some (.frz o (.lst vs)) ∧ RDs K H vs xs
  | .ins c fs => ∃ C dx gs, mg c = some (.ref C) ∧ H a = some (.ins C dx gs) ∧ RF K H m gs fs
  | .dct kvs => ∃ gs, H a = some (.dK gs) ∧ RK K H m gs kvs
structure Sta (K : PySem.W.Frag) (mg : Str → Option Value) (H : Hp) (m : List Addr) (h : Sto) : Prop where
  nd : m.Nodup
  len : m.length = h.length
  obj : ∀ (i : Nat) a o, m[i]? = some a → h[i]? = some o → RO K mg H m a o
section
variable {K : PySem.W.Frag} {mg : Str → Option Value} {H H' : Hp} {m m' : List Addr} {h h' : Sto} {a : Addr} {o : Ob}
theorem paired_imp {α β : Type} {F G : α → β → Prop} (f : ∀ a b, F a b → G a b) : ∀ {l : List α} {r : List β}, Paired F l r → Paired G l r
  | _, _, .nil => .nil
  | _, _, .cons p q => .cons (f _ _ p) (paired_imp f q)
theorem RO.mono (r : RO K mg H m a o) (e : H' a = H a) (k : Kp H H') (pre : ∃ e, m' = m ++ e) : RO K mg H' m' a o := by
  cases o with
  | lst xs => obtain ⟨vs, h1, h2⟩ := r; exact ⟨vs, e.trans h1, RDs.kp k _ _ h2⟩
  | frz xs => obtain ⟨o, vs, h1, h2⟩ := r; exact ⟨o, vs, e.trans h1, RDs.kp k _ _ h2⟩
  | ins c fs => obtain ⟨C, dx, gs, h0, h1, h2⟩ := r; exact ⟨C, dx, gs, h0, e.trans h1, paired_imp (fun p q z => ⟨z.1, RU.kp k pre _ _ z.2⟩) h2⟩
  | dct kvs => obtain ⟨gs, h1, h2⟩ := r; exact ⟨gs, e.trans h1, paired_imp (fun p q z => ⟨z.1, RU.kp k pre _ _ z.2⟩) h2⟩
theorem RO.has (r : RO K mg H m a o) : ∃ x, H a = some x := by
  cases o with
  | lst xs => obtain ⟨vs, h1, _⟩ := r; exact ⟨_, h1⟩
  | frz xs => obtain ⟨o, vs, h1, _⟩ := r; exact ⟨_, h1⟩
  | ins c fs => obtain ⟨C, dx, gs, _, h1, _⟩ := r; exact ⟨_, h1⟩
  | dct kvs => obtain ⟨gs, h1, _⟩ := r; exact ⟨_, h1⟩
theorem Sta.at_ (s : Sta K mg H m h) {i : Nat} (e : m[i]? = some a) : ∃ o, h[i]? = some o ∧ RO K mg H m a o := by
  have hi := (List.getElem?_eq_some_iff.mp e).1
  have hi' : i < h.length := by rw [← s.len]; exact hi
  exact ⟨h[i], List.getElem?_eq_getElem hi', s.obj i a _ e (List.getElem?_eq_getElem hi')⟩
theorem Sta.addr (s : Sta K mg H m h) {i : Nat} (e : h[i]? = some o) : ∃ a, m[i]? = some a ∧ RO K mg H m a o := by
  have hi := (List.getElem?_eq_some_iff.mp e).1
  have hi' : i < m.length := by rw [s.len]; exact hi
  exact ⟨m[i], List.getElem?_eq_getElem hi', s.obj i _ o (List.getElem?_eq_getElem hi') e⟩
theorem Sta.has (s : Sta K mg H m h) (hm : a ∈ m) : ∃ x, H a = some x := by
  obtain ⟨i, hi⟩ := List.mem_iff_getElem?.mp hm
  obtain ⟨o, _, r⟩ := s.at_ hi
  exact r.has
theorem Sta.new (s : Sta K mg H m h) (n : H a = none) : a ∉ m := fun hm => by
  obtain ⟨x, q⟩ := s.has hm
  rw [n] at q
  cases q
theorem Sta.nil : Sta K mg H [] [] := ⟨List.nodup_nil, rfl, fun i a o h => by simp at h⟩
/-- nothing of the store is touched -/
theorem Sta.same (s : Sta K mg H m h) (e : ∀ b x, H b = some x → H' b = some x) : Sta K mg H' m h :=
  ⟨s.nd, s.len, fun i b o h1 h2 => by
    have r := s.obj i b o h1 h2
    obtain ⟨x, q⟩ := r.has
    exact r.mono ((e b x q).trans q.symm) ⟨fun c _ z => e c _ z, fun c _ _ z => e c _ z⟩ ⟨[], by simp⟩⟩
theorem Gr.of_same (s : Same H H') (m : List Addr) : Gr H m H' m := ⟨⟨[], by simp⟩, fun b x q _ => s b x q, fun _ z n => absurd z n, Kp.same s⟩
/-- a new thing that the store does not know -/
theorem Same.lay {x : HO} (n : H a = none) : Same H (upd H a x) := fun b o e => by
  rw [upd_ne (ne_of_none e n)]
  exact e
theorem mut_kp {x y : HO} (hx : H a = .some x) (mu : Mut (.some x)) : Kp H (upd H a y) :=
  ⟨fun b xs q => by rw [upd_ne (fun z => by subst z; rw [hx] at q; cases q; exact mu)]; exact q,
   fun b o u q => by rw [upd_ne (fun z => by subst z; rw [hx] at q; cases q; exact mu)]; exact q⟩
/-- a thing of the store is written -/
theorem Gr.write {x y : HO} (hm : a ∈ m) (hx : H a = .some x) (mu : Mut (.some x)) : Gr H m (upd H a y) m :=
  ⟨⟨[], by simp⟩, fun b o q n => by rw [upd_ne (fun z => n (by rw [z]; exact hm))]; exact q, fun _ z n => absurd z n, mut_kp hx mu⟩
theorem Sta.write {i : Nat} {x y : HO} {o' : Ob} (s : Sta K mg H m h) (e : m[i]? = .some a) (hx : H a = .some x) (mu : Mut (.some x)) (r : RO K mg (upd H a y) m a o') : Sta K mg (upd H a y) m (h.set i o') := by
  have hi := (List.getElem?_eq_some_iff.mp e).1
  refine ⟨s.nd, by rw [List.length_set]; exact s.len, fun j b ob h1 h2 => ?_⟩
  by_cases hj : i = j
  · subst hj
    rw [e] at h1
    cases h1
    rw [List.getElem?_set_self (by rw [← s.len]; exact hi)] at h2
    cases h2
    exact r
  · rw [List.getElem?_set_ne hj] at h2
    have nb : b ≠ a := fun z => by
      subst z
      exact hj (nd_ix s.nd e h1)
    exact (s.obj j b ob h1 h2).mono (upd_ne nb) (mut_kp hx mu) ⟨[], by simp⟩
/-- a new thing comes into the store -/
theorem Gr.push {x : HO} (n : H a = none) : Gr H m (upd H a x) (m ++ [a]) :=
  ⟨⟨[a], rfl⟩, fun b o q _ => Same.lay n b o q, fun b hb nb => by
    rcases List.mem_append.mp hb with z | z
    · exact absurd z nb
    · rw [List.mem_singleton.mp z]; exact n, Kp.same (Same.lay n)⟩
theorem Sta.push {x : HO} {o' : Ob} (s : Sta K mg H m h) (n : H a = none) (r : RO K mg (upd H a x) (m ++ [a]) a o') : Sta K mg (upd H a x) (m ++ [a]) (h ++ [o']) := by
  have na := s.new n
  refine ⟨List.nodup_append.mpr ⟨s.nd, by simp, fun b hb c hc z => by rw [List.mem_singleton.mp hc] at z; rw [z] at hb; exact na hb⟩, by simp [s.len], fun j b ob h1 h2 => ?_⟩
  by_cases hj : j < m.length
  · rw [List.getElem?_append_left hj] at h1
    rw [List.getElem?_append_left (by rw [← s.len]; exact hj)] at h2
    have hb : b ∈ m := List.mem_of_getElem? h1
    exact (s.obj j b ob h1 h2).mono (upd_ne fun z => na (z ▸ hb)) (Kp.same (Same.lay n)) ⟨[a], rfl⟩
  · rw [List.getElem?_append_right (by omega)] at h1
    rw [List.getElem?_append_right (by rw [← s.len]; omega)] at h2
    have e1 : j - m.length = 0 := by
      have := (List.getElem?_eq_some_iff.mp h1).1
      simpa using this
    have e2 : j - h.length = 0 := by rw [← s.len]; exact e1
    rw [e1] at h1
    rw [e2] at h2
    simp at h1 h2
    rw [← h1, ← h2]
    exact r
end

/-! ### the slots -/
def Sl (K : PySem.W.Frag) (H : Hp) (m : List Addr) (σ : L2.St) (env : Env') : Prop := σ.length = env.length ∧ ∀ (i : Nat) u, env[i]? = some (some u) → ∃ v, σ[i]? = some (some v) ∧ RU K H m v u
section
variable {K : PySem.W.Frag} {mg : Str → Option Value} {H H' : Hp} {m m' : List Addr} {σ : L2.St} {env : Env'}
theorem Sl.gr (s : Sl K H m σ env) (g : Gr H m H' m') : Sl K H' m' σ env := ⟨s.1, fun i u e => by
  obtain ⟨v, h1, h2⟩ := s.2 i u e
  exact ⟨v, h1, RU.kp g.kp g.pre _ _ h2⟩⟩
theorem Sl.set (s : Sl K H m σ env) {v : V} {u : U} (r : RU K H m v u) (i : Nat) : Sl K H m (σ.set i (some v)) (env.set i (some u)) := by
  refine ⟨by simp [s.1], fun j w e => ?_⟩
  by_cases hj : i = j
  · subst hj
    by_cases hi : i < env.length
    · rw [List.getElem?_set_self hi] at e
      cases e
      exact ⟨v, by rw [List.getElem?_set_self (by rw [s.1]; exact hi)], r⟩
    · rw [List.getElem?_eq_none (by simpa using hi)] at e
      cases e
  · rw [List.getElem?_set_ne hj] at e
    obtain ⟨v', h1, h2⟩ := s.2 j w e
    exact ⟨v', by rw [List.getElem?_set_ne hj]; exact h1, h2⟩
end

/-! ### readings by functions -/
/-- an exception of the class c is what is wished -/
def ExW (X : Cx) (W : WX) (c : Str) (σ : L2.St) (H : Hp) : Prop := ∀ C, X.mg c = some (.ref C) → W (.ref C) none σ H
def Out {α β : Type} (X : Cx) (W : WX) (rl : Hp → List Addr → β → α → Prop) (σ : L2.St) (H : Hp) (m : List Addr) (r : Res α) (Q : β → Hp → Prop) : Prop := match r with
  | .ok a h' => ∀ b H' m', Gr H m H' m' → Sta X.K X.mg H' m' h' → rl H' m' b a → Q b H'
  | .exc c h' => ∀ H' m', Gr H m H' m' → Sta X.K X.mg H' m' h' → ExW X W c σ H'
  | .stuck => False
def rd {α β : Type} (X : Cx) (W : WX) (rl : Hp → List Addr → β → α → Prop) (f : Env' → Sto → Res α) (σ : L2.St) (H : Hp) (Q : β → Hp → Prop) : Prop :=
  ∃ env m h, Sta X.K X.mg H m h ∧ Sl X.K H m σ env ∧ Out X W rl σ H m (f env h) Q
def rlU (K : PySem.W.Frag) : Hp → List Addr → V → U → Prop := fun H m v u => RU K H m v u
def rlB : Hp → List Addr → Bool → Bool → Prop := fun _ _ b c => b = c
def rlA (K : PySem.W.Frag) : Hp → List Addr → List V → List U → Prop := fun H m vs us => RUs K H m vs us
structure SE (X : Cx) (W : WX) (e : Expr) (f : Ev) : Prop where
  pe : PE X e (rd X W (rlU X.K) f)
structure ST (X : Cx) (W : WX) (e : Expr) (f : Eb) : Prop where
  pt : PT X e (rd X W rlB f)
structure SW (X : Cx) (W : WX) (e : Expr) (f : Eb) : Prop where
  pw : PW X e (rd X W rlB f)
structure SA (X : Cx) (W : WX) (es : List Expr) (f : Ea) : Prop where
  pa : PA X es (rd X W (rlA X.K) f)
section
variable {α β γ δ : Type} {X : Cx} {W : WX} {rl : Hp → List Addr → β → α → Prop} {rl2 : Hp → List Addr → δ → γ → Prop} {σ : L2.St} {H H1 : Hp} {m m1 : List Addr} {h : Sto} {env : Env'} {r : Res α} {Q : β → Hp → Prop}
theorem Out.gr (o : Out X W rl σ H m r Q) (g : Gr H m H1 m1) : Out X W rl σ H1 m1 r Q := by
  cases r with
  | ok a h' => exact fun b H' m' g' => o b H' m' (g.trans g')
  | exc c h' => exact fun H' m' g' => o H' m' (g.trans g')
  | stuck => exact o
/-- the next part of a computation -/
theorem rd_of {f : Env' → Sto → Res γ} {k : γ → Sto → Res α} {Q' : δ → Hp → Prop} (sta : Sta X.K X.mg H m h) (sl : Sl X.K H m σ env) (out : Out X W rl σ H m ((f env h).bind k) Q)
    (nx : ∀ a h1 b H1 m1, Gr H m H1 m1 → Sta X.K X.mg H1 m1 h1 → rl2 H1 m1 b a → Out X W rl σ H1 m1 (k a h1) Q → Q' b H1) : rd X W rl2 f σ H Q' := by
  refine ⟨env, m, h, sta, sl, ?_⟩
  generalize f env h = q at out
  cases q with
  | ok a h1 => exact fun b H1 m1 g s r => nx a h1 b H1 m1 g s r (Out.gr out g)
  | exc c h1 => exact out
  | stuck => exact out
theorem Out.ok {a : α} {b : β} {h' : Sto} (o : Out X W rl σ H m (.ok a h') Q) {H' : Hp} {m' : List Addr} (g : Gr H m H' m') (s : Sta X.K X.mg H' m' h') (r : rl H' m' b a) : Q b H' := o b H' m' g s r
theorem Out.here {a : α} {b : β} {h' : Sto} (o : Out X W rl σ H m (.ok a h') Q) (s : Sta X.K X.mg H m h') (r : rl H m b a) : Q b H := o b H m (Gr.refl H m) s r
end
theorem pe_imp {X : Cx} {e : Expr} {t t' : TE} (h : PE X e t) (i : ∀ σ H Q, t' σ H Q → t σ H Q) : PE X e t' := ⟨fun pins s σ H Q I q => h.run pins s σ H Q I (i σ H Q q)⟩
theorem pt_imp {X : Cx} {e : Expr} {t t' : TT} (h : PT X e t) (i : ∀ σ H Q, t' σ H Q → t σ H Q) : PT X e t' := ⟨fun pins s σ H Q I q => h.run pins s σ H Q I (i σ H Q q)⟩
theorem pw_imp {X : Cx} {e : Expr} {t t' : TT} (h : PW X e t) (i : ∀ σ H Q, t' σ H Q → t σ H Q) : PW X e t' := ⟨fun wh pins s σ H Q I q => h.run wh pins s σ H Q I (i σ H Q q)⟩
theorem pa_imp {X : Cx} {es : List Expr} {t t' : TA} (h : PA X es t) (i : ∀ σ H Q, t' σ H Q → t σ H Q) : PA X es t' := ⟨fun p pins s σ H Q I q => h.run p pins s σ H Q I (i σ H Q q)⟩
theorem ps_imp {X : Cx} {st : Stmt} {t t' : TS} (h : PS X st t) (i : ∀ D σ H, t' D σ H → t D σ H) : PS X st t' := ⟨fun pins s σ H D I q => h.run pins s σ H D I (i D σ H q)⟩
theorem pss_imp {X : Cx} {st : List Stmt} {t t' : TS} (h : PSs X st t) (i : ∀ D σ H, t' D σ H → t D σ H) : PSs X st t' := ⟨fun pins s σ H D I q => h.run pins s σ H D I (i D σ H q)⟩

/-! ### freezing, unseen by the program -/
structure Fz (S : List Addr) (H H' : Hp) : Prop where
  alt : ∀ a, H' a = H a ∨ (a ∈ S ∧ ∃ o vs, H a = some (.lst vs) ∧ H' a = some (.frz o (.lst vs)))
  did : ∀ a ∈ S, ∀ vs, H a = some (.lst vs) → ∃ o, H' a = some (.frz o (.lst vs))
theorem inv_fz {X : Cx} {pins : List (Addr × Obj)} {σ : L2.St} {s : Shared} : ∀ (S : List Addr) {H : Hp}, L2.Inv X pins σ H s → ∃ H', Fz S H H' ∧ L2.Inv X pins σ H' s
  | [], H, I => ⟨H, ⟨fun _ => .inl rfl, fun _ z => nomatch z⟩, I⟩
  | a :: S, H, I => by
    obtain ⟨H1, f1, I1⟩ := inv_fz S I
    by_cases hl : ∃ vs, H1 a = some (.lst vs)
    · obtain ⟨vs, hl⟩ := hl
      obtain ⟨od, I2⟩ := I1.lock hl trivial
      refine ⟨_, ⟨fun b => ?_, fun b hb ws hb2 => ?_⟩, I2⟩
      · by_cases hb : b = a
        · subst hb
          rcases f1.alt b with z | ⟨_, o, ws, _, z⟩
          · exact .inr ⟨List.mem_cons_self, od, vs, z.symm.trans hl, upd_same⟩
          · rw [hl] at z; cases z
        · rw [upd_ne hb]
          rcases f1.alt b with z | ⟨h1, h2⟩
          · exact .inl z
          · exact .inr ⟨List.mem_cons_of_mem _ h1, h2⟩
      · by_cases hb : b = a
        · subst hb
          rcases f1.alt b with z | ⟨_, o, ws', _, z⟩
          · rw [hl, hb2] at z
            cases z
            exact ⟨od, upd_same⟩
          · rw [hl] at z; cases z
        · rw [upd_ne hb]
          rename_i hb'
          rcases List.mem_cons.mp hb' with z | z
          · exact absurd z hb
          · exact f1.did b z ws hb2
    · refine ⟨H1, ⟨fun b => ?_, fun b hb ws hb2 => ?_⟩, I1⟩
      · rcases f1.alt b with z | ⟨h1, h2⟩
        · exact .inl z
        · exact .inr ⟨List.mem_cons_of_mem _ h1, h2⟩
      · rcases List.mem_cons.mp hb with z | z
        · subst z
          rcases f1.alt b with z | ⟨_, o, ws', q, z⟩
          · exact absurd ⟨ws, z.trans hb2⟩ hl
          · rw [hb2] at q
            cases q
            exact ⟨o, z⟩
        · exact f1.did b z ws hb2
def gh (Q : VK) : VK := fun v H => ∃ S, ∀ H', Fz S H H' → Q v H'
theorem pe_gh {X : Cx} {e : Expr} {t : TE} (h : PE X e t) : PE X e (fun σ H Q => t σ H (gh Q)) := by
  refine ⟨fun pins s σ H Q I q => thn (h.run pins s σ H _ I q) fun u s1 ⟨v, H1, I1, r, S, q1⟩ => ?_⟩
  obtain ⟨H2, f, I2⟩ := inv_fz S I1
  exact ⟨v, H2, I2, r, q1 H2 f⟩
theorem gh.no {Q : VK} {v : V} {H : Hp} (q : Q v H) : gh Q v H := ⟨[], fun H' f => by
  have e : H' = H := funext fun a => by
    rcases f.alt a with z | ⟨z, _⟩
    · exact z
    · cases z
  rw [e]; exact q⟩
theorem Fz.kp {S : List Addr} {H H' : Hp} (f : Fz S H H') : Kp H H' := by
  refine ⟨fun a xs h => ?_, fun a o u h => ?_⟩
  · rcases f.alt a with z | ⟨_, o, vs, q, _⟩
    · exact z.trans h
    · rw [h] at q; cases q
  · rcases f.alt a with z | ⟨_, o', vs, q, _⟩
    · exact z.trans h
    · rw [h] at q; cases q
end Wk

/-! T2: expressions. -/
namespace Wk
open PySem PySem.Spec PyProof.Rows L2

/-! ### lists of data -/
section
variable {K : PySem.W.Frag} {H : Hp} {m : List Addr}
theorem RDs.len : ∀ {ds : List D} {vs : List V}, RDs K H vs ds → vs.length = ds.length
  | [], _, h => by cases h; rfl
  | _ :: _, _, h => by cases h with | cons a b => rw [List.length_cons, List.length_cons, RDs.len b]
theorem RDs.get : ∀ {ds : List D} {vs : List V} {i : Nat} {d : D}, RDs K H vs ds → ds[i]? = some d → ∃ v, vs[i]? = some v ∧ RD K H v d
  | [], _, _, _, h, e => by simp at e
  | _ :: _, _, 0, _, h, e => by
    cases h with
    | cons a b => simp at e; subst e; exact ⟨_, rfl, a⟩
  | _ :: _, _, i + 1, _, h, e => by
    cases h with
    | cons a b =>
      obtain ⟨v, h1, h2⟩ := RDs.get (i := i) b (by simpa using e)
      exact ⟨v, by simpa using h1, h2⟩
theorem RDs.app : ∀ {ds es : List D} {vs ws : List V}, RDs K H vs ds → RDs K H ws es → RDs K H (vs ++ ws) (ds ++ es)
  | [], _, _, _, h, q => by cases h; exact q
  | _ :: _, _, _, _, h, q => by cases h with | cons a b => exact .cons a (RDs.app b q)
theorem RDs.one {v : V} {d : D} (h : RD K H v d) : RDs K H [v] [d] := .cons h .nil
theorem RDs.take : ∀ (n : Nat) {ds : List D} {vs : List V}, RDs K H vs ds → RDs K H (vs.take n) (ds.take n)
  | 0, _, _, _ => by simp; exact .nil
  | _ + 1, [], _, h => by cases h; exact .nil
  | n + 1, _ :: _, _, h => by cases h with | cons a b => exact .cons a (RDs.take n b)
theorem RDs.drop : ∀ (n : Nat) {ds : List D} {vs : List V}, RDs K H vs ds → RDs K H (vs.drop n) (ds.drop n)
  | 0, _, _, h => by simpa using h
  | _ + 1, [], _, h => by cases h; exact .nil
  | n + 1, _ :: _, _, h => by cases h with | cons a b => exact RDs.drop n b
theorem RDs.set {v : V} {d : D} (r : RD K H v d) : ∀ (n : Nat) {ds : List D} {vs : List V}, RDs K H vs ds → RDs K H (vs.set n v) (ds.set n d)
  | _, [], _, h => by cases h; exact .nil
  | 0, _ :: _, _, h => by cases h with | cons a b => exact .cons r b
  | n + 1, _ :: _, _, h => by cases h with | cons a b => exact .cons a (RDs.set r n b)
theorem RDs.rep {ds : List D} {vs : List V} (h : RDs K H vs ds) : ∀ n : Nat, RDs K H (List.replicate n vs).flatten (List.replicate n ds).flatten
  | 0 => by simp; exact .nil
  | n + 1 => by
    rw [List.replicate_succ, List.replicate_succ, List.flatten_cons, List.flatten_cons]
    exact h.app (RDs.rep h n)
theorem RDs.dropLast {ds : List D} {vs : List V} (h : RDs K H vs ds) : RDs K H vs.dropLast ds.dropLast := by
  rw [List.dropLast_eq_take, List.dropLast_eq_take, h.len]
  exact h.take _
theorem RDs.rev : ∀ {ds : List D} {vs : List V}, RDs K H vs ds → RDs K H vs.reverse ds.reverse
  | [], _, h => by cases h; exact .nil
  | _ :: _, _, h => by
    cases h with
    | cons a b =>
      rw [List.reverse_cons, List.reverse_cons]
      exact (RDs.rev b).app (.one a)
theorem RDs.ints : ∀ {ns : List Int}, RDs K H (ns.map V.int) (ns.map PyData.int)
  | [] => .nil
  | n :: r => .cons (.int n) RDs.ints
theorem RDs.ints' : ∀ {ns : List Int} {vs : List V}, RDs K H vs (ns.map PyData.int) → vs = ns.map V.int
  | [], _, h => by cases h; rfl
  | n :: r, _, h => by
    cases h with
    | cons a b => cases a; rw [RDs.ints' b]; rfl
theorem RUs.len : ∀ {us : List U} {vs : List V}, RUs K H m vs us → vs.length = us.length
  | [], _, h => by cases h; rfl
  | _ :: _, _, h => by cases h with | cons a b => rw [List.length_cons, List.length_cons, RUs.len b]
theorem RUs.get : ∀ {us : List U} {vs : List V} {i : Nat} {u : U}, RUs K H m vs us → us[i]? = some u → ∃ v, vs[i]? = some v ∧ RU K H m v u
  | [], _, _, _, h, e => by simp at e
  | _ :: _, _, 0, _, h, e => by
    cases h with
    | cons a b => simp at e; subst e; exact ⟨_, rfl, a⟩
  | _ :: _, _, i + 1, _, h, e => by
    cases h with
    | cons a b =>
      obtain ⟨v, h1, h2⟩ := RUs.get (i := i) b (by simpa using e)
      exact ⟨v, by simpa using h1, h2⟩
theorem RU.rd {v : V} {x : D} (h : RU K H m v (.d x)) : RD K H v x := by cases h; assumption
end
mutual
theorem RD.dp {K : PySem.W.Frag} {H : Hp} : ∀ (d : D) (v : V), RD K H v d → Dp K H v d
  | .none, _, h => by cases h; exact .non
  | .bool b, _, h => by cases h; exact .bl b
  | .int i, _, h => by cases h; exact .int i
  | .str x, _, h => by cases h; exact .str x
  | .list ds, _, h => by
    cases h with
    | lst a b => exact .lst a.sq (RDs.dp ds _ b)
  | .tuple ds, _, h => by
    cases h with
    | tup a b => exact .tup a (RDs.dp ds _ b)
  | .dict _, _, h => by cases h
theorem RDs.dp {K : PySem.W.Frag} {H : Hp} : ∀ (ds : List D) (vs : List V), RDs K H vs ds → DpAll K H vs ds
  | [], _, h => by cases h; exact .nil
  | d :: ds, _, h => by
    cases h with
    | cons a b => exact .cons (RD.dp d _ a) (RDs.dp ds _ b)
end

/-! ### what a value is -/
def intOf : U → Option Int
  | .d (.int i) => some i
  | _ => none
def boolOf : U → Option Bool
  | .d (.bool b) => some b
  | _ => none
def strOf : U → Option Str
  | .d (.str x) => some x
  | _ => none
def tupOf : U → Option (List D)
  | .d (.tuple xs) => some xs
  | _ => none
def listOf (h : Sto) : U → Option (List D)
  | .d (.list xs) => some xs
  | .ref n => match h[n]? with
    | some (.lst xs) => some xs
    | some (.frz xs) => some xs
    | _ => none
  | _ => none
section
variable {K : PySem.W.Frag} {mg : Str → Option Value} {H : Hp} {m : List Addr} {h : Sto} {v : V} {u : U}
theorem intOf_v {i : Int} (e : intOf u = some i) (r : RU K H m v u) : v = .int i := by
  unfold intOf at e
  split at e
  · cases e; cases r.rd; rfl
  · cases e
theorem boolOf_v {b : Bool} (e : boolOf u = some b) (r : RU K H m v u) : v = .bl b := by
  unfold boolOf at e
  split at e
  · cases e; cases r.rd; rfl
  · cases e
theorem strOf_v {x : Str} (e : strOf u = some x) (r : RU K H m v u) : v = .str x := by
  unfold strOf at e
  split at e
  · cases e; cases r.rd; rfl
  · cases e
theorem tupOf_v {xs : List D} (e : tupOf u = some xs) (r : RU K H m v u) : ∃ a vs, v = .ref a ∧ SqT K H a vs ∧ RDs K H vs xs := by
  unfold tupOf at e
  split at e
  · cases e
    cases r.rd with
    | tup p q => exact ⟨_, _, rfl, p, q⟩
  · cases e
theorem listOf_v {xs : List D} (s : Sta K mg H m h) (e : listOf h u = some xs) (r : RU K H m v u) : ∃ a vs, v = .ref a ∧ SqL K H a vs ∧ RDs K H vs xs := by
  unfold listOf at e
  split at e
  · cases e
    cases r.rd with
    | lst p q => exact ⟨_, _, rfl, p.sq, q⟩
  · cases r with
    | ref hm =>
      split at e
      · rename_i o ho
        cases e
        obtain ⟨vs, h1, h2⟩ := s.obj _ _ _ hm ho
        exact ⟨_, vs, rfl, .inl (.inl h1), h2⟩
      · rename_i o ho
        cases e
        obtain ⟨o, vs, h1, h2⟩ := s.obj _ _ _ hm ho
        exact ⟨_, vs, rfl, .inl (.inr ⟨o, h1⟩), h2⟩
      · cases e
  · cases e
end

/-! ### a new list: of the store, or frozen at once -/
def mkL (b : Bool) (xs : List D) (h : Sto) : Res U := match b with
  | true => .ok (.ref h.length) (h ++ [.lst xs])
  | false => .ok (.d (.list xs)) h
theorem mkL_ok {X : Cx} {W : WX} {σ : L2.St} {H : Hp} {m : List Addr} {h : Sto} {b : Bool} {xs : List D} {vs : List V} {p : Addr} {Q : VK} (s : Sta X.K X.mg H m h) (n : H p = none) (r : RDs X.K H vs xs) (out : Out X W (rlU X.K) σ H m (mkL b xs h) Q) :
    gh Q (.ref p) (upd H p (.lst vs)) := by
  have r' : RDs X.K (upd H p (.lst vs)) vs xs := RDs.kp (Kp.same (Same.lay n)) _ _ r
  cases b with
  | true =>
    refine gh.no (Out.ok (b := V.ref p) out (Gr.push n) (s.push n ⟨vs, upd_same, r'⟩) ?_)
    exact .ref (by rw [← s.len]; simp)
  | false =>
    refine ⟨[p], fun H2 f => ?_⟩
    have sm : Same H H2 := fun a x q => by
      have na := ne_of_none q n
      rcases f.alt a with z | ⟨z, _⟩
      · rw [z, upd_ne na]; exact q
      · exact absurd (List.mem_singleton.mp z) na
    obtain ⟨o, ho⟩ := f.did p List.mem_cons_self vs upd_same
    exact Out.ok (b := V.ref p) out (Gr.of_same sm m) (s.same sm) (.d (.lst (.inl ⟨o, ho⟩) (RDs.kp f.kp _ _ r')))
theorem fzs_of {H : Hp} {p : Addr} {o : HO} {Q : VK} {v : V} (q : Q v (upd H p o)) : gh Q v (upd H p o) := gh.no q

/-! ### two-place operations -/
def eBin (F : U → U → Sto → Res U) (f g : Ev) : Ev := fun env h => (f env h).bind fun u h1 => (g env h1).bind fun w h2 => F u w h2
def eUn (F : U → Sto → Res U) (f : Ev) : Ev := fun env h => (f env h).bind F
def Ab2 (X : Cx) (W : WX) (F : U → U → Sto → Res U) (r : R2) : Prop := ∀ (σ : L2.St) (H : Hp) (m : List Addr) (h : Sto) (x y : V) (u w : U) (Q : VK), Sta X.K X.mg H m h → RU X.K H m x u → RU X.K H m y w → Out X W (rlU X.K) σ H m (F u w h) Q → r x y H Q
def tB (r : Res U) : Res Bool := r.bind fun u h => match boolOf u with
  | some b => .ok b h
  | none => .stuck
def tBin (F : U → U → Sto → Res U) (f g : Ev) : Eb := fun env h => tB (eBin F f g env h)
theorem gh_op {X : Cx} {f : Value → Value → Sem Value} {r : R2} (h : OpR X f r) : OpR X f (fun x y H Q => r x y H (gh Q)) := by
  intro pins s σ H x y v u Q I rx ry q
  refine thn (h pins s σ H x y v u _ I rx ry q) fun z s1 ⟨zv, H1, I1, rz, S, q1⟩ => ?_
  obtain ⟨H2, f2, I2⟩ := inv_fz S I1
  exact ⟨zv, H2, I2, rz, q1 H2 f2⟩
section
variable {X : Cx} {W : WX} {a b c : Expr} {f g : Ev} {pos : Pos} {F : U → U → Sto → Res U} {r : R2}
theorem out_bool {σ : L2.St} {H : Hp} {m : List Addr} {q : Res U} {Q : Bool → Hp → Prop} (o : Out X W rlB σ H m (tB q) Q) : Out X W (rlU X.K) σ H m q (fun z H' => ∃ k, z = .bl k ∧ Q k H') := by
  cases q with
  | ok u h =>
    intro v H' m' g s r
    have o' : Out X W rlB σ H m (match boolOf u with | some b => Res.ok b h | none => Res.stuck) Q := o
    cases e : boolOf u with
    | none => rw [e] at o'; exact o'.elim
    | some k =>
      rw [e] at o'
      exact ⟨k, boolOf_v e r, o' k H' m' g s rfl⟩
  | exc c h => exact o
  | stuck => exact o
theorem se_bin {op : Operator} (ho : OpR X (binaryOp op) r) (ab : Ab2 X W F r) (ha : SE X W a f) (hb : SE X W b g) : SE X W (.BinOp a op b pos) (eBin F f g) :=
  ⟨pe_imp (pe_op ho ha.pe hb.pe) fun σ H Q ⟨env, m, h, sta, sl, out⟩ => rd_of sta sl out fun u h1 x H1 m1 g1 s1 r1 out1 => rd_of s1 (sl.gr g1) out1 fun w h2 y H2 m2 g2 s2 r2 out2 =>
    ab σ H2 m2 h2 x y u w Q s2 (RU.kp g2.kp g2.pre _ _ r1) r2 out2⟩
theorem se_cmp {op : CmpOp} (ho : OpR X (compareOp op) r) (ab : Ab2 X W F r) (hm : behindInMarks op b = false) (ha : SE X W a f) (hb : SE X W b g) : SE X W (.Compare a [op] [b] pos) (eBin F f g) :=
  ⟨pe_imp (pe_cmpR ho ha.pe hb.pe hm) fun σ H Q ⟨env, m, h, sta, sl, out⟩ => rd_of sta sl out fun u h1 x H1 m1 g1 s1 r1 out1 => rd_of s1 (sl.gr g1) out1 fun w h2 y H2 m2 g2 s2 r2 out2 =>
    ab σ H2 m2 h2 x y u w Q s2 (RU.kp g2.kp g2.pre _ _ r1) r2 out2⟩
theorem bind_assoc {α β γ : Type} (q : Res α) (k : α → Sto → Res β) (l : β → Sto → Res γ) : (q.bind k).bind l = q.bind fun x h => (k x h).bind l := by cases q <;> rfl
theorem st_cmp {op : CmpOp} (ho : OpR X (compareOp op) r) (ab : Ab2 X W F r) (hm : behindInMarks op b = false) (ha : SE X W a f) (hb : SE X W b g) : ST X W (.Compare a [op] [b] pos) (tBin F f g) :=
  ⟨pt_imp (pt_cmpR ho ha.pe hb.pe hm) fun σ H Q ⟨env, m, h, sta, sl, out⟩ => by
    have out' : Out X W rlB σ H m ((f env h).bind fun u h1 => (g env h1).bind fun w h2 => tB (F u w h2)) Q := by
      have e : tBin F f g env h = ((f env h).bind fun u h1 => (g env h1).bind fun w h2 => tB (F u w h2)) := by
        unfold tBin tB eBin
        rw [bind_assoc]
        congr 1
        funext u h1
        rw [bind_assoc]
      rw [e] at out
      exact out
    exact rd_of sta sl out' fun u h1 x H1 m1 g1 s1 r1 out1 => rd_of s1 (sl.gr g1) out1 fun w h2 y H2 m2 g2 s2 r2 out2 => ab σ H2 m2 h2 x y u w _ s2 (RU.kp g2.kp g2.pre _ _ r1) r2 (out_bool out2)⟩
/-- a op b op' c -/
def eChain (F G : U → U → Sto → Res U) (f g k : Ev) : Ev := fun env h => (f env h).bind fun u h1 => (g env h1).bind fun w h2 => (tB (F u w h2)).bind fun b h3 => match b with
  | true => (k env h3).bind fun z h4 => G w z h4
  | false => .ok (.d (.bool false)) h3
def tChain (F G : U → U → Sto → Res U) (f g k : Ev) : Eb := fun env h => tB (eChain F G f g k env h)
theorem se_chain {op op' : CmpOp} {G : U → U → Sto → Res U} {r' : R2} {k : Ev} (ho : OpR X (compareOp op) r) (ho' : OpR X (compareOp op') r') (ab : Ab2 X W F r) (ab' : Ab2 X W G r') (ha : SE X W a f) (hb : SE X W b g) (hc : SE X W c k)
    (hm : lastMarks [op, op'] [b, c] = false := by with_unfolding_all rfl) : SE X W (.Compare a [op, op'] [b, c] pos) (eChain F G f g k) :=
  ⟨pe_imp (pe_chain ho ho' ha.pe hb.pe hc.pe hm) fun σ H Q ⟨env, m, h, sta, sl, out⟩ => rd_of sta sl out fun u h1 x H1 m1 g1 s1 r1 out1 => rd_of s1 (sl.gr g1) out1 fun w h2 y H2 m2 g2 s2 r2 out2 => by
    have rx := RU.kp g2.kp g2.pre _ _ r1
    have sl2 := (sl.gr g1).gr g2
    refine ab σ H2 m2 h2 x y u w _ s2 rx r2 ?_
    -- the first answer
    revert out2
    generalize F u w h2 = q
    intro out2
    cases q with
    | stuck => exact out2
    | exc c h3 => exact out2
    | ok z h3 =>
      intro zv H3 m3 g3 s3 rz
      have out3 : Out X W (rlU X.K) σ H2 m2 ((match boolOf z with | some b => Res.ok b h3 | none => Res.stuck).bind fun b h3 => match b with | true => (k env h3).bind fun z h4 => G w z h4 | false => .ok (.d (.bool false)) h3) Q := out2
      cases e : boolOf z with
      | none => rw [e] at out3; exact out3.elim
      | some b =>
        rw [e] at out3
        refine ⟨b, boolOf_v e rz, ?_⟩
        have out4 := Out.gr out3 g3
        cases b with
        | false =>
          rw [if_neg Bool.false_ne_true]
          exact Out.here (b := V.bl false) out4 s3 (.d (.bl false))
        | true =>
          rw [if_pos rfl]
          refine rd_of s3 (sl2.gr g3) out4 fun z2 h4 y2 H4 m4 g4 s4 r4 out5 => ?_
          exact ab' σ H4 m4 h4 y y2 w z2 Q s4 (RU.kp (g3.trans g4).kp (g3.trans g4).pre _ _ r2) r4 out5⟩
end

/-! ### the operators -/
/-- a test that nobody evaluates by itself -/
noncomputable def ask (p : Prop) : Bool := @decide p (Classical.propDecidable p)
theorem ask_iff {p : Prop} : ask p = true ↔ p := @decide_eq_true_iff p (Classical.propDecidable p)
theorem ask_t {p : Prop} (h : p) : ask p = true := ask_iff.mpr h
noncomputable def fits (n : Nat) : Bool := ask (n ≤ sizeLine)
noncomputable def mulOk (i j : Int) : Bool := ask (i.natAbs < 2 ^ 64 ∨ j.natAbs < 2 ^ 64 ∨ (i.natAbs < 2 ^ 400000 ∧ j.natAbs < 2 ^ 400000))
noncomputable def opAdd (b : Bool) (u w : U) (h : Sto) : Res U :=
  match intOf u, intOf w with
  | some i, some j => .ok (.d (.int (i + j))) h
  | _, _ => match tupOf u, tupOf w with
    | some xs, some ys => if fits (xs.length + ys.length) then .ok (.d (.tuple (xs ++ ys))) h else .stuck
    | _, _ => match strOf u, strOf w with
      | some x, some y => if fits (x.length + y.length) then .ok (.d (.str (x ++ y))) h else .stuck
      | _, _ => match listOf h u, listOf h w with
        | some xs, some ys => if fits (xs.length + ys.length) then mkL b (xs ++ ys) h else .stuck
        | _, _ => .stuck
def opSub (u w : U) (h : Sto) : Res U := match intOf u, intOf w with
  | some i, some j => .ok (.d (.int (i - j))) h
  | _, _ => .stuck
noncomputable def opMul (u w : U) (h : Sto) : Res U := match intOf u, intOf w with
  | some i, some j => if mulOk i j then .ok (.d (.int (i * j))) h else .stuck
  | _, _ => .stuck
noncomputable def divOk (j : Int) : Bool := ask (0 < j ∧ j.natAbs < 2 ^ 8000)
noncomputable def opFdiv (u w : U) (h : Sto) : Res U := match intOf u, intOf w with
  | some i, some j => if divOk j then .ok (.d (.int (i / j))) h else .stuck
  | _, _ => .stuck
def opMod (u w : U) (h : Sto) : Res U := match intOf u, intOf w with
  | some i, some j => if 0 < j then .ok (.d (.int (i % j))) h else .stuck
  | _, _ => .stuck
noncomputable def opPow (u w : U) (h : Sto) : Res U := match intOf u, intOf w with
  | some i, some j => if ask (0 ≤ j ∧ j ≤ 1000000 ∧ i.natAbs < 2 ^ 64) then .ok (.d (.int (i ^ j.toNat))) h else .stuck
  | _, _ => .stuck
def opNeg (u : U) (h : Sto) : Res U := match intOf u with
  | some i => .ok (.d (.int (-i))) h
  | _ => .stuck
def opI (p : Int → Int → Bool) (u w : U) (h : Sto) : Res U := match intOf u, intOf w with
  | some i, some j => .ok (.d (.bool (p i j))) h
  | _, _ => .stuck
abbrev opLt := opI fun i j => decide (i < j)
abbrev opLe := opI fun i j => decide (i ≤ j)
abbrev opGt := opI fun i j => decide (j < i)
abbrev opGe := opI fun i j => decide (j ≤ i)
/-- the list + list of any kind -/
def rCatL (K : PySem.W.Frag) : R2 := fun x y H Q => ∃ l b xs zs, x = .ref l ∧ y = .ref b ∧ SqL K H l xs ∧ SqL K H b zs ∧ xs.length + zs.length ≤ sizeLine ∧ ∀ p, H p = none → Q (.ref p) (upd H p (.lst (xs ++ zs)))
section
variable {X : Cx} {W : WX}
theorem plainL_get {h : Heap} {l : Addr} {its : Array Value} (p : PlainL h l its) : ∃ o n, h.get? l = some o ∧ o.cls = .type "list" ∧ o.dict = none ∧ o.data = .seq its n := p
theorem mulOk_ok {i j : Int} (h : mulOk i j = true) : IntMulOk i j := by
  have h := ask_iff.mp h
  rcases h with h | h | ⟨h1, h2⟩
  · exact CMul.ok (.inl (by omega))
  · exact CMul.ok (.inr (by omega))
  · exact CMulW.ok (wide_mul h1 h2 (by decide) (by decide) (by decide))
theorem op_mulA : OpR X (binaryOp .Mult) (rI (fun i j => mulOk i j = true) fun i j => .int (i * j)) := L2.opI fun _ _ _ _ _ _ _ hc q => mul_int q (mulOk_ok hc)
theorem op_fdivA : OpR X (binaryOp .FloorDiv) (rI (fun _ j => divOk j = true) fun i j => .int (i / j)) := by
  intro pins s σ H x y v u Q I rx ry h
  obtain ⟨i, j, e1, e2, hc, q⟩ := h
  have hc := ask_iff.mp hc
  exact op_fdivW pins s σ H x y v u Q I rx ry ⟨i, j, e1, e2, wide_div hc.1 hc.2 (by decide) (by decide), q⟩
theorem ab_int {F : U → U → Sto → Res U} {C : Int → Int → Prop} {g : Int → Int → V} {gd : Int → Int → D} (hF : ∀ u w h, F u w h = .stuck ∨ ∃ i j, intOf u = some i ∧ intOf w = some j ∧ (F u w h = .stuck ∨ (C i j ∧ F u w h = .ok (.d (gd i j)) h)))
    (hg : ∀ (K : PySem.W.Frag) (H : Hp) i j, RD K H (g i j) (gd i j)) : Ab2 X W F (rI C g) := by
  intro σ H m h x y u w Q s ru rw out
  rcases hF u w h with e | ⟨i, j, e1, e2, e | ⟨hc, e⟩⟩
  · rw [e] at out; exact out.elim
  · rw [e] at out; exact out.elim
  · rw [e] at out
    exact ⟨i, j, intOf_v e1 ru, intOf_v e2 rw, hc, Out.here out s (.d (hg _ _ i j))⟩
theorem ab_int0 {F : U → U → Sto → Res U} {g : Int → Int → V} {gd : Int → Int → D} (hF : ∀ u w h, F u w h = .stuck ∨ ∃ i j, intOf u = some i ∧ intOf w = some j ∧ F u w h = .ok (.d (gd i j)) h)
    (hg : ∀ (K : PySem.W.Frag) (H : Hp) i j, RD K H (g i j) (gd i j)) : Ab2 X W F (rI0 g) := by
  intro σ H m h x y u w Q s ru rw out
  rcases hF u w h with e | ⟨i, j, e1, e2, e⟩
  · rw [e] at out; exact out.elim
  · rw [e] at out
    exact ⟨i, j, intOf_v e1 ru, intOf_v e2 rw, Out.here out s (.d (hg _ _ i j))⟩
theorem ab_sub : Ab2 X W opSub (rI0 fun i j => .int (i - j)) := ab_int0 (gd := fun i j => .int (i - j)) (fun u w h => by
  unfold opSub
  split
  · exact .inr ⟨_, _, by assumption, by assumption, rfl⟩
  · exact .inl rfl) fun _ _ _ _ => .int _
theorem ab_cmp (p : Int → Int → Bool) : Ab2 X W (opI p) (rI0 fun i j => .bl (p i j)) := ab_int0 (gd := fun i j => .bool (p i j)) (fun u w h => by
  unfold opI
  split
  · exact .inr ⟨_, _, by assumption, by assumption, rfl⟩
  · exact .inl rfl) fun _ _ _ _ => .bl _
theorem ab_mul : Ab2 X W opMul (rI (fun i j => mulOk i j = true) fun i j => .int (i * j)) := ab_int (gd := fun i j => .int (i * j)) (fun u w h => by
  unfold opMul
  split
  · refine .inr ⟨_, _, by assumption, by assumption, ?_⟩
    split
    · exact .inr ⟨by assumption, rfl⟩
    · exact .inl rfl
  · exact .inl rfl) fun _ _ _ _ => .int _
theorem ab_fdiv : Ab2 X W opFdiv (rI (fun _ j => divOk j = true) fun i j => .int (i / j)) := ab_int (gd := fun i j => .int (i / j)) (fun u w h => by
  unfold opFdiv
  split
  · refine .inr ⟨_, _, by assumption, by assumption, ?_⟩
    split
    · exact .inr ⟨by assumption, rfl⟩
    · exact .inl rfl
  · exact .inl rfl) fun _ _ _ _ => .int _
theorem ab_mod : Ab2 X W opMod (rI (fun _ j => 0 < j) fun i j => .int (i % j)) := ab_int (gd := fun i j => .int (i % j)) (fun u w h => by
  unfold opMod
  split
  · refine .inr ⟨_, _, by assumption, by assumption, ?_⟩
    split
    · exact .inr ⟨by assumption, rfl⟩
    · exact .inl rfl
  · exact .inl rfl) fun _ _ _ _ => .int _
theorem ab_pow : Ab2 X W opPow (rI CPow fun i j => .int (i ^ j.toNat)) := ab_int (gd := fun i j => .int (i ^ j.toNat)) (fun u w h => by
  unfold opPow
  split
  · refine .inr ⟨_, _, by assumption, by assumption, ?_⟩
    split
    · rename_i hz
      exact .inr ⟨ask_iff.mp hz, rfl⟩
    · exact .inl rfl
  · exact .inl rfl) fun _ _ _ _ => .int _
theorem op_catL : OpR X (binaryOp .Add) (rCatL X.K) := by
  intro pins s σ H x y v u Q I rx ry h
  obtain ⟨l, b, xs, zs, rfl, rfl, hH, hB, hz, q⟩ := h
  cases rx
  cases ry
  obtain ⟨its, r, ⟨o, n, e, c1, c2, c3⟩, z⟩ := I.list hH
  obtain ⟨its2, r2, ⟨o2, n2, e2, d1, d2, d3⟩, z2⟩ := I.list hB
  obtain ⟨oc, od, odt, osl⟩ := o
  obtain ⟨oc2, od2, odt2, osl2⟩ := o2
  simp only at c1 c2 c3 d1 d2 d3
  subst c1 c2 c3 d1 d2 d3
  have h1 := r.length
  have h2 := r2.length
  have ea : its.toArray ++ its2.toArray = (its ++ its2).toArray := by simp
  refine concat_meets ⟨_, e, rfl⟩ ⟨_, e2, rfl⟩ noFill_list_add seq_list_add PySem.F.slot_list_add PySem.F.entry_list_add (PySem.F.args_list_add_2 _ _) (list_addW l b its.toArray its2.toArray n n2 none none osl osl2 (by rw [List.size_toArray, List.size_toArray]; omega)) ⟨e, e2, ?_⟩
  rw [ea]
  exact ⟨.ref _, _, I.lnew (t' := s.toks) (r.append r2) (by rw [List.length_append]; omega), rfl, q _ I.fresh⟩
/-- a + b of ints, tuples, texts, lists -/
def rAddA (K : PySem.W.Frag) : R2 := fun x y H Q => rI0 (fun i j => .int (i + j)) x y H Q ∨ rCatA K x y H Q ∨ (∃ i j, x = .str i ∧ y = .str j ∧ i.length + j.length ≤ sizeLine ∧ Q (.str (i ++ j)) H) ∨ rCatL K x y H (gh Q)
theorem op_addA : OpR X (binaryOp .Add) (rAddA X.K) := op_add.or (op_catA.or (op_add_str.or (gh_op op_catL)))
theorem ab_add (b : Bool) : Ab2 X W (opAdd b) (rAddA X.K) := by
  intro σ H m h x y u w Q s ru rw out
  unfold opAdd at out
  split at out
  · rename_i i j e1 e2
    exact .inl ⟨i, j, intOf_v e1 ru, intOf_v e2 rw, Out.here out s (.d (.int _))⟩
  · split at out
    · rename_i xs ys e1 e2
      split at out
      · rename_i hz
        obtain ⟨p, vs, rfl, t1, d1⟩ := tupOf_v e1 ru
        obtain ⟨p', vs', rfl, t2, d2⟩ := tupOf_v e2 rw
        refine .inr (.inl ⟨p, p', vs, vs', rfl, rfl, t1, t2, by rw [d1.len, d2.len]; exact ask_iff.mp hz, fun e => ?_, fun e e' => ?_, fun e e' a na => ?_⟩)
        · subst e
          cases d1
          exact Out.here (b := V.ref p') out s (.d (.tup t2 d2))
        · subst e'
          cases d2
          rw [List.append_nil] at out
          exact Out.here (b := V.ref p) out s (.d (.tup t1 d1))
        · have sm : Same H (upd H a (.tup (vs ++ vs'))) := Same.lay na
          exact Out.ok (b := V.ref a) out (Gr.of_same sm m) (s.same sm) (.d (.tup (.inl (.inl upd_same)) (RDs.kp (Kp.same sm) _ _ (d1.app d2))))
      · exact out.elim
    · split at out
      · rename_i xs ys e1 e2
        split at out
        · rename_i hz
          exact .inr (.inr (.inl ⟨_, _, strOf_v e1 ru, strOf_v e2 rw, ask_iff.mp hz, Out.here out s (.d (.str _))⟩))
        · exact out.elim
      · split at out
        · rename_i xs ys e1 e2
          split at out
          · rename_i hz
            obtain ⟨p, vs, rfl, t1, d1⟩ := listOf_v s e1 ru
            obtain ⟨p', vs', rfl, t2, d2⟩ := listOf_v s e2 rw
            exact .inr (.inr (.inr ⟨p, p', vs, vs', rfl, rfl, t1, t2, by rw [d1.len, d2.len]; exact ask_iff.mp hz, fun a na => mkL_ok s na (d1.app d2) out⟩))
          · exact out.elim
        · exact out.elim

/-! ### == and != -/
mutual
def dataOf (h : Sto) : U → Option D
  | .d x => some x
  | .ref n => (listOf h (.ref n)).map .list
  | .tup us => (datasOf h us).map .tuple
def datasOf (h : Sto) : List U → Option (List D)
  | [] => some []
  | u :: us => match dataOf h u, datasOf h us with
    | some x, some xs => some (x :: xs)
    | _, _ => none
end
mutual
theorem dataOf_v {K : PySem.W.Frag} {mg : Str → Option Value} {H : Hp} {m : List Addr} {h : Sto} (s : Sta K mg H m h) : ∀ (u : U) (v : V) (d : D), dataOf h u = some d → RU K H m v u → Dp K H v d
  | .d x, v, d, e, r => by
    rw [dataOf] at e
    cases e
    exact RD.dp _ _ r.rd
  | .ref n, v, d, e, r => by
    rw [dataOf] at e
    cases q : listOf h (.ref n) with
    | none => rw [q] at e; cases e
    | some xs =>
      rw [q] at e
      cases e
      obtain ⟨a, vs, rfl, h1, h2⟩ := listOf_v s q r
      exact .lst h1 (RDs.dp _ _ h2)
  | .tup us, v, d, e, r => by
    rw [dataOf] at e
    cases q : datasOf h us with
    | none => rw [q] at e; cases e
    | some xs =>
      rw [q] at e
      cases e
      cases r with
      | tup t b => exact .tup t (datasOf_v s us _ xs q b)
theorem datasOf_v {K : PySem.W.Frag} {mg : Str → Option Value} {H : Hp} {m : List Addr} {h : Sto} (s : Sta K mg H m h) : ∀ (us : List U) (vs : List V) (ds : List D), datasOf h us = some ds → RUs K H m vs us → DpAll K H vs ds
  | [], vs, ds, e, r => by
    rw [datasOf] at e
    cases e
    cases r
    exact .nil
  | u :: us, vs, ds, e, r => by
    rw [datasOf] at e
    split at e
    · rename_i x xs e1 e2
      cases e
      cases r with
      | cons a b => exact .cons (dataOf_v s u _ x e1 a) (datasOf_v s us _ xs e2 b)
    · cases e
end
def opEqB (n : Bool) (u w : U) (h : Sto) : Res U := match strOf u, strOf w with
  | some x, some y => .ok (.d (.bool (xor n (decide (x = y))))) h
  | _, _ => match dataOf h u, dataOf h w with
    | some d, some e => if SeqAt.shaped d && SeqAt.shaped e then .ok (.d (.bool (xor n (PyData.eqv d e)))) h else .stuck
    | _, _ => .stuck
abbrev opEq := opEqB false
abbrev opNe := opEqB true
def rEqA (K : PySem.W.Frag) : R2 := fun x y H Q => rEq x y H Q ∨ rEqD K x y H Q
def rNeA (K : PySem.W.Frag) : R2 := fun x y H Q => rNe x y H Q ∨ rNeD K x y H Q
theorem op_eqA (hu : X.A.units + 64 < cLine) : OpR X (compareOp .Eq) (rEqA X.K) := op_eq.or (op_eqD hu)
theorem op_neA (hu : X.A.units + 64 < cLine) : OpR X (compareOp .NotEq) (rNeA X.K) := op_ne.or (op_neD hu)
theorem dec_strV {x y : Str} : decide (V.str x = V.str y) = decide (x = y) := by
  rw [Bool.eq_iff_iff]
  simp
theorem ab_eq : Ab2 X W opEq (rEqA X.K) := by
  intro σ H m h x y u w Q s ru rw out
  unfold opEq opEqB at out
  split at out
  · rename_i a b e1 e2
    refine .inl ?_
    rw [strOf_v e1 ru, strOf_v e2 rw]
    refine ⟨rfl, ?_⟩
    rw [dec_strV]
    exact Out.here (b := V.bl _) out s (.d (by rw [Bool.false_xor]; exact .bl _))
  · split at out
    · rename_i d e e1 e2
      split at out
      · rename_i hs
        rw [Bool.and_eq_true] at hs
        exact .inr ⟨d, e, dataOf_v s _ _ _ e1 ru, dataOf_v s _ _ _ e2 rw, hs.1, hs.2, Out.here (b := V.bl _) out s (.d (by rw [Bool.false_xor]; exact .bl _))⟩
      · exact out.elim
    · exact out.elim
theorem ab_ne : Ab2 X W opNe (rNeA X.K) := by
  intro σ H m h x y u w Q s ru rw out
  unfold opNe opEqB at out
  split at out
  · rename_i a b e1 e2
    refine .inl ?_
    rw [strOf_v e1 ru, strOf_v e2 rw]
    refine ⟨rfl, ?_⟩
    rw [dec_strV]
    exact Out.here (b := V.bl _) out s (.d (by rw [Bool.true_xor]; exact .bl _))
  · split at out
    · rename_i d e e1 e2
      split at out
      · rename_i hs
        rw [Bool.and_eq_true] at hs
        exact .inr ⟨d, e, dataOf_v s _ _ _ e1 ru, dataOf_v s _ _ _ e2 rw, hs.1, hs.2, Out.here (b := V.bl _) out s (.d (by rw [Bool.true_xor]; exact .bl _))⟩
      · exact out.elim
    · exact out.elim
/-- x is None, x is not None -/
def isN : U → Bool
  | .d .none => true
  | _ => false
def opIsN (n : Bool) (u w : U) (h : Sto) : Res U := match isN w with
  | true => .ok (.d (.bool (xor n (isN u)))) h
  | false => .stuck
theorem isN_v {K : PySem.W.Frag} {H : Hp} {m : List Addr} {v : V} {u : U} (r : RU K H m v u) : decide (v = .non) = isN u := by
  cases r with
  | d p => cases p <;> first | rfl | simp [isN]
  | ref p => simp [isN]
  | tup p q => simp [isN]
theorem isN_non {K : PySem.W.Frag} {H : Hp} {m : List Addr} {v : V} {u : U} (r : RU K H m v u) (e : isN u = true) : v = .non := by
  have z := isN_v r
  rw [e] at z
  exact of_decide_eq_true z
theorem ab_isN : Ab2 X W (opIsN false) (fun x y H Q => y = .non ∧ Q (.bl (decide (x = .non))) H) := by
  intro σ H m h x y u w Q s ru rw out
  unfold opIsN at out
  split at out
  · rename_i e
    refine ⟨isN_non rw e, ?_⟩
    rw [isN_v ru]
    exact Out.here (b := V.bl _) out s (.d (by rw [Bool.false_xor]; exact .bl _))
  · exact out.elim
theorem ab_notN : Ab2 X W (opIsN true) (fun x y H Q => y = .non ∧ Q (.bl (!decide (x = .non))) H) := by
  intro σ H m h x y u w Q s ru rw out
  unfold opIsN at out
  split at out
  · rename_i e
    refine ⟨isN_non rw e, ?_⟩
    rw [isN_v ru]
    exact Out.here (b := V.bl _) out s (.d (by rw [Bool.true_xor]; exact .bl _))
  · exact out.elim
end

/-! ### names, constants -/
def eV (i : Nat) : Ev := fun env h => match env[i]? with
  | some (some u) => .ok u h
  | _ => .stuck
def eC (d : D) : Ev := fun _ h => .ok (.d d) h
section
variable {X : Cx} {W : WX} {a b c : Expr} {f g : Ev} {pos : Pos}
theorem se_v (i : Nat) {x : Str} (hN : X.N[i]? = some x := by rfl) (hv : Vis X.env.scope x := by first | exact Or.inl rfl | exact Or.inr (Or.inl rfl) | exact Or.inr (Or.inr rfl)) (hd : (x == ("__debug__" : Str)) = false := by decide)
    (hcd : (x == ("__classdict__" : Str)) = false := by decide) : SE X W (.Name x pos) (eV i) :=
  ⟨pe_imp (pv i hN hv hd hcd) fun σ H Q ⟨env, m, h, sta, sl, out⟩ => by
    unfold eV at out
    split at out
    · rename_i u e
      obtain ⟨v, h1, h2⟩ := sl.2 i u e
      exact ⟨v, h1, Out.here out sta h2⟩
    · exact out.elim⟩
theorem se_c {e : Expr} {v : V} {d : D} (h : PE X e (tC v)) (r : ∀ H, RD X.K H v d) : SE X W e (eC d) :=
  ⟨pe_imp h fun σ H Q ⟨env, m, h, sta, sl, out⟩ => Out.here (b := v) out sta (.d (r H))⟩
theorem se_int {i : Int} {j : Nat} : SE X W (.Constant (.int i) j pos) (eC (.int i)) := se_c pe_int fun _ => .int i
theorem se_bl {i : Bool} {j : Nat} : SE X W (.Constant (.bool i) j pos) (eC (.bool i)) := se_c pe_bl fun _ => .bl i
theorem se_non {j : Nat} : SE X W (.Constant .none j pos) (eC .none) := se_c pe_non fun _ => .non
theorem se_str {x : Str} {j : Nat} : SE X W (.Constant (.str x) j pos) (eC (.str x)) := se_c pe_str fun _ => .str x
/-- a constant of the module -/
theorem se_glob {x : Str} {v : V} {u : Value} {d : D} (hg : Gl X x) (hm : X.mg x = some u) (r : RelV v u) (hd : ∀ H, RD X.K H v d) (hx : (x == ("__debug__" : Str)) = false := by decide) : SE X W (.Name x pos) (eC d) :=
  se_c (pe_glob hg hm r hx) hd
theorem se_neg (ha : SE X W a f) : SE X W (.UnaryOp .USub a pos) (eUn opNeg f) :=
  ⟨pe_imp (pe_un un_neg ha.pe) fun σ H Q ⟨env, m, h, sta, sl, out⟩ => rd_of sta sl out fun u h1 x H1 m1 g1 s1 r1 out1 => by
    unfold opNeg at out1
    split at out1
    · rename_i i e
      exact ⟨i, intOf_v e r1, Out.here (b := V.int _) out1 s1 (.d (.int _))⟩
    · exact out1.elim⟩

/-! ### tests -/
def truthOf (h : Sto) (u : U) : Option Bool := match boolOf u with
  | some b => some b
  | none => match intOf u with
    | some i => some (i != 0)
    | none => match tupOf u with
      | some xs => some (!xs.isEmpty)
      | none => match listOf h u with
        | some xs => some (!xs.isEmpty)
        | none => none
def tTru (f : Ev) : Eb := fun env h => (f env h).bind fun u h1 => match truthOf h1 u with
  | some b => .ok b h1
  | none => .stuck
theorem isEmpty_rds {K : PySem.W.Frag} {H : Hp} {vs : List V} {ds : List D} (r : RDs K H vs ds) : (!ds.isEmpty) = !vs.isEmpty := by cases r <;> rfl
theorem st_truth (ha : SE X W a f) (he : ∀ whole, isTrue a X.env whole = (do let v ← whole; standAt a.pos; holding [v] (truthy v)) := by intro _; rfl) : ST X W a (tTru f) :=
  ⟨pt_imp (pt_truth ha.pe he) fun σ H Q ⟨env, m, h, sta, sl, out⟩ => rd_of sta sl out fun u h1 x H1 m1 g1 s1 r1 out1 => by
    have tr : ∀ k, truthOf h1 u = some k → TruV X.K x H1 k := fun k e => by
      unfold truthOf at e
      split at e
      · rename_i b eb
        cases e
        rw [boolOf_v eb r1]
        rfl
      · split at e
        · rename_i i eb
          cases e
          rw [intOf_v eb r1]
          rfl
        · split at e
          · rename_i xs eb
            cases e
            obtain ⟨p, vs, rfl, t1, d1⟩ := tupOf_v eb r1
            exact .inr (.inl ⟨vs, t1, isEmpty_rds d1⟩)
          · split at e
            · rename_i xs eb
              cases e
              obtain ⟨p, vs, rfl, t1, d1⟩ := listOf_v s1 eb r1
              exact .inl ⟨vs, t1, isEmpty_rds d1⟩
            · cases e
    cases e : truthOf h1 u with
    | none => rw [e] at out1; exact out1.elim
    | some k =>
      rw [e] at out1
      exact ⟨k, tr k e, Out.here (b := k) out1 s1 rfl⟩⟩
def bAnd (f g : Eb) : Eb := fun env h => (f env h).bind fun b h1 => match b with
  | true => g env h1
  | false => .ok false h1
def bOr (f g : Eb) : Eb := fun env h => (f env h).bind fun b h1 => match b with
  | true => .ok true h1
  | false => g env h1
def bNot (f : Eb) : Eb := fun env h => (f env h).bind fun b h1 => .ok (!b) h1
variable {p q : Eb} {rest : List Expr}
theorem sw_st {e : Expr} (h : SW X W e p) : ST X W e p := ⟨h.pw.pt⟩
theorem sw_and1 (ha : ST X W a p) : SW X W (.BoolOp .And [a] pos) p := ⟨pw_and1 ha.pt⟩
theorem sw_or1 (ha : ST X W a p) : SW X W (.BoolOp .Or [a] pos) p := ⟨pw_or1 ha.pt⟩
theorem rd_id {α β : Type} {rl : Hp → List Addr → β → α → Prop} {f : Env' → Sto → Res α} {σ : L2.St} {H : Hp} {m : List Addr} {h : Sto} {env : Env'} {Q : β → Hp → Prop} (sta : Sta X.K X.mg H m h) (sl : Sl X.K H m σ env) (out : Out X W rl σ H m (f env h) Q) : rd X W rl f σ H Q := ⟨env, m, h, sta, sl, out⟩
theorem sw_and (ha : ST X W a p) (hb : SW X W (.BoolOp .And (b :: rest) pos) q) : SW X W (.BoolOp .And (a :: b :: rest) pos) (bAnd p q) :=
  ⟨pw_imp (pw_and ha.pt hb.pw) fun σ H Q ⟨env, m, h, sta, sl, out⟩ => rd_of sta sl out fun u h1 x H1 m1 g1 s1 r1 out1 => by
    cases r1
    cases u with
    | true => rw [if_pos rfl]; exact rd_id s1 (sl.gr g1) out1
    | false => rw [if_neg Bool.false_ne_true]; exact Out.here (b := false) out1 s1 rfl⟩
theorem sw_or (ha : ST X W a p) (hb : SW X W (.BoolOp .Or (b :: rest) pos) q) : SW X W (.BoolOp .Or (a :: b :: rest) pos) (bOr p q) :=
  ⟨pw_imp (pw_or ha.pt hb.pw) fun σ H Q ⟨env, m, h, sta, sl, out⟩ => rd_of sta sl out fun u h1 x H1 m1 g1 s1 r1 out1 => by
    cases r1
    cases u with
    | true => rw [if_pos rfl]; exact Out.here (b := true) out1 s1 rfl
    | false => rw [if_neg Bool.false_ne_true]; exact rd_id s1 (sl.gr g1) out1⟩
theorem st_not (ha : ST X W a p) : ST X W (.UnaryOp .Not a pos) (bNot p) :=
  ⟨pt_imp (pt_not ha.pt) fun σ H Q ⟨env, m, h, sta, sl, out⟩ => rd_of sta sl out fun u h1 x H1 m1 g1 s1 r1 out1 => by
    cases r1
    exact Out.here (b := !u) out1 s1 rfl⟩
/-! .. as values -/
def eAnd (f g : Ev) : Ev := fun env h => (tB (f env h)).bind fun b h1 => match b with
  | true => g env h1
  | false => .ok (.d (.bool false)) h1
def eOr (f g : Ev) : Ev := fun env h => (tB (f env h)).bind fun b h1 => match b with
  | true => .ok (.d (.bool true)) h1
  | false => g env h1
def eNot (f : Ev) : Ev := fun env h => (tB (f env h)).bind fun b h1 => .ok (.d (.bool (!b))) h1
theorem rd_ofB {α β : Type} {rl : Hp → List Addr → β → α → Prop} {f : Ev} {k : Bool → Sto → Res α} {σ : L2.St} {H : Hp} {m : List Addr} {h : Sto} {env : Env'} {Q : β → Hp → Prop} {Q' : V → Hp → Prop} (sta : Sta X.K X.mg H m h) (sl : Sl X.K H m σ env)
    (out : Out X W rl σ H m ((tB (f env h)).bind k) Q) (nx : ∀ b h1 H1 m1, Gr H m H1 m1 → Sta X.K X.mg H1 m1 h1 → Out X W rl σ H1 m1 (k b h1) Q → Q' (.bl b) H1) : rd X W (rlU X.K) f σ H Q' := by
  unfold tB at out
  rw [bind_assoc] at out
  refine rd_of sta sl out fun u h1 x H1 m1 g1 s1 r1 out1 => ?_
  cases e : boolOf u with
  | none => rw [e] at out1; exact out1.elim
  | some b =>
    rw [e] at out1
    rw [boolOf_v e r1]
    exact nx b h1 H1 m1 g1 s1 out1
theorem se_one {op : BoolOp} (h : SE X W a f) : SE X W (.BoolOp op [a] pos) f := ⟨pe_one h.pe⟩
theorem se_and (ha : SE X W a f) (hb : SE X W (.BoolOp .And (b :: rest) pos) g) : SE X W (.BoolOp .And (a :: b :: rest) pos) (eAnd f g) :=
  ⟨pe_imp (pe_and ha.pe hb.pe) fun σ H Q ⟨env, m, h, sta, sl, out⟩ => rd_ofB sta sl out fun b h1 H1 m1 g1 s1 out1 => ⟨b, rfl, by
    cases b with
    | true => rw [if_pos rfl]; exact rd_id s1 (sl.gr g1) out1
    | false => rw [if_neg Bool.false_ne_true]; exact Out.here (b := V.bl false) out1 s1 (.d (.bl false))⟩⟩
theorem se_or (ha : SE X W a f) (hb : SE X W (.BoolOp .Or (b :: rest) pos) g) : SE X W (.BoolOp .Or (a :: b :: rest) pos) (eOr f g) :=
  ⟨pe_imp (pe_or ha.pe hb.pe) fun σ H Q ⟨env, m, h, sta, sl, out⟩ => rd_ofB sta sl out fun b h1 H1 m1 g1 s1 out1 => ⟨b, rfl, by
    cases b with
    | false => rw [if_neg Bool.false_ne_true]; exact rd_id s1 (sl.gr g1) out1
    | true => rw [if_pos rfl]; exact Out.here (b := V.bl true) out1 s1 (.d (.bl true))⟩⟩
theorem se_not (ha : SE X W a f) : SE X W (.UnaryOp .Not a pos) (eNot f) :=
  ⟨pe_imp (pe_not ha.pe) fun σ H Q ⟨env, m, h, sta, sl, out⟩ => rd_ofB sta sl out fun b h1 H1 m1 g1 s1 out1 => ⟨b, rfl, Out.here (b := V.bl (!b)) out1 s1 (.d (.bl _))⟩⟩

/-! ### arguments, displays -/
def aNil : Ea := fun _ h => .ok [] h
def aCons (f : Ev) (r : Ea) : Ea := fun env h => (f env h).bind fun u h1 => (r env h1).bind fun us h2 => .ok (u :: us) h2
theorem sa_nil : SA X W [] aNil := ⟨pa_imp pa_nil fun σ H Q ⟨env, m, h, sta, sl, out⟩ => Out.here (b := ([] : List V)) out sta .nil⟩
theorem sa_cons {e : Expr} {es : List Expr} {r : Ea} (ha : SE X W e f) (hr : SA X W es r) (hs : starEach (e :: es) X.env = (false, eval e X.env) :: starEach es X.env := by rfl) : SA X W (e :: es) (aCons f r) :=
  ⟨pa_imp (pa_cons ha.pe hr.pa hs) fun σ H Q ⟨env, m, h, sta, sl, out⟩ => rd_of sta sl out fun u h1 x H1 m1 g1 s1 r1 out1 => rd_of s1 (sl.gr g1) out1 fun us h2 xs H2 m2 g2 s2 r2 out2 =>
    Out.here (b := x :: xs) out2 s2 (.cons (RU.kp g2.kp g2.pre _ _ r1) r2)⟩
def allD : List U → Option (List D)
  | [] => some []
  | .d x :: r => match allD r with
    | some xs => some (x :: xs)
    | none => none
  | _ :: _ => none
theorem allD_v {K : PySem.W.Frag} {H : Hp} {m : List Addr} : ∀ {us : List U} {vs : List V} {ds : List D}, allD us = some ds → RUs K H m vs us → RDs K H vs ds
  | [], _, _, e, r => by cases e; cases r; exact .nil
  | .d x :: us, _, _, e, r => by
    unfold allD at e
    split at e
    · rename_i xs q
      cases e
      cases r with
      | cons a b => exact .cons a.rd (allD_v q b)
    · cases e
  | .ref _ :: _, _, _, e, _ => by cases e
  | .tup _ :: _, _, _, e, _ => by cases e
def eTup (r : Ea) : Ev := fun env h => (r env h).bind fun us h1 => if us.length ≤ 1000 then (match allD us with
  | some ds => .ok (.d (.tuple ds)) h1
  | none => .ok (.tup us) h1) else .stuck
theorem line1000 {n : Nat} (h : n ≤ 1000) : n ≤ sizeLine := by rw [sizeLine_eq]; omega
theorem se_tup {es : List Expr} {r : Ea} {x1 : Nat} (h : SA X W es r) : SE X W (.Tuple es x1 pos) (eTup r) :=
  ⟨pe_imp (pe_tup h.pa) fun σ H Q ⟨env, m, h, sta, sl, out⟩ => rd_of sta sl out fun us h1 xs H1 m1 g1 s1 r1 out1 => by
    split at out1
    · rename_i hz
      refine ⟨by rw [RUs.len r1]; exact line1000 hz, fun p np => ?_⟩
      have sm : Same H1 (upd H1 p (.tup xs)) := Same.lay np
      split at out1
      · rename_i ds e
        exact Out.ok (b := V.ref p) out1 (Gr.of_same sm m1) (s1.same sm) (.d (.tup (.inl (.inl upd_same)) (RDs.kp (Kp.same sm) _ _ (allD_v e r1))))
      · exact Out.ok (b := V.ref p) out1 (Gr.of_same sm m1) (s1.same sm) (.tup (.inl (.inl upd_same)) (RUs.kp (Kp.same sm) ⟨[], by simp⟩ _ _ r1))
    · exact out1.elim⟩
def eLst (b : Bool) (r : Ea) : Ev := fun env h => (r env h).bind fun us h1 => if us.length ≤ 1000 then (match allD us with
  | some ds => mkL b ds h1
  | none => .stuck) else .stuck
theorem se_lst (b : Bool) {es : List Expr} {r : Ea} (h : SA X W es r) : SE X W (.List es pos) (eLst b r) :=
  ⟨pe_imp (pe_gh (pe_lst h.pa)) fun σ H Q ⟨env, m, h, sta, sl, out⟩ => rd_of sta sl out fun us h1 xs H1 m1 g1 s1 r1 out1 => by
    split at out1
    · rename_i hz
      refine ⟨by rw [RUs.len r1]; exact line1000 hz, fun p np => ?_⟩
      split at out1
      · rename_i ds e
        exact mkL_ok s1 np (allD_v e r1) out1
      · exact out1.elim
    · exact out1.elim⟩

/-! ### a[i], a[i:j] -/
def opIx (u w : U) (h : Sto) : Res U := match intOf w with
  | none => .stuck
  | some i => match tupOf u with
    | some xs => (match atI xs i with | some x => .ok (.d x) h | none => .stuck)
    | none => match listOf h u with
      | some xs => (match atI xs i with | some x => .ok (.d x) h | none => .stuck)
      | none => match u with
        | .tup us => (match atI us i with | some x => .ok x h | none => .stuck)
        | _ => .stuck
theorem atI_rds {K : PySem.W.Frag} {H : Hp} {vs : List V} {ds : List D} {i : Int} {d : D} (r : RDs K H vs ds) (e : atI ds i = some d) : ∃ v, atI vs i = some v ∧ RD K H v d := by
  unfold atI at e ⊢
  rw [r.len]
  cases q : ixN ds.length i with
  | none => rw [q] at e; cases e
  | some j =>
    rw [q] at e
    exact r.get e
theorem atI_rus {K : PySem.W.Frag} {H : Hp} {m : List Addr} {vs : List V} {ds : List U} {i : Int} {d : U} (r : RUs K H m vs ds) (e : atI ds i = some d) : ∃ v, atI vs i = some v ∧ RU K H m v d := by
  unfold atI at e ⊢
  rw [r.len]
  cases q : ixN ds.length i with
  | none => rw [q] at e; cases e
  | some j =>
    rw [q] at e
    exact r.get e
theorem se_ix (hs : PlainIx b) (ha : SE X W a f) (hb : SE X W b g) : SE X W (.Subscript a b pos) (eBin opIx f g) :=
  ⟨pe_imp (pe_ix ix_seq ha.pe hb.pe hs) fun σ H Q ⟨env, m, h, sta, sl, out⟩ => rd_of sta sl out fun u h1 x H1 m1 g1 s1 r1 out1 => rd_of s1 (sl.gr g1) out1 fun w h2 y H2 m2 g2 s2 r2 out2 => by
    have ru := RU.kp g2.kp g2.pre _ _ r1
    unfold opIx at out2
    split at out2
    · exact out2.elim
    · rename_i i ei
      have ey := intOf_v ei r2
      split at out2
      · rename_i xs e
        obtain ⟨p, vs, rfl, t1, d1⟩ := tupOf_v e ru
        split at out2
        · rename_i d ed
          obtain ⟨v, h3, h4⟩ := atI_rds d1 ed
          exact .inr (.inl ⟨p, vs, i, v, rfl, ey, t1, h3, Out.here out2 s2 (.d h4)⟩)
        · exact out2.elim
      · split at out2
        · rename_i xs e
          obtain ⟨p, vs, rfl, t1, d1⟩ := listOf_v s2 e ru
          split at out2
          · rename_i d ed
            obtain ⟨v, h3, h4⟩ := atI_rds d1 ed
            exact .inl ⟨p, vs, i, v, rfl, ey, t1, h3, Out.here out2 s2 (.d h4)⟩
          · exact out2.elim
        · split at out2
          · split at out2
            · rename_i d ed
              cases ru with
              | tup t1 d1 =>
                obtain ⟨v, h3, h4⟩ := atI_rus d1 ed
                exact .inr (.inl ⟨_, _, i, v, rfl, ey, t1, h3, Out.here out2 s2 h4⟩)
            · exact out2.elim
          · exact out2.elim⟩
end
end Wk

/-! T3: freezing, calls, statements, loops, comprehensions, defs. -/
namespace Wk
open PySem PySem.Spec PyProof.Rows L2

/-! ### what is handed on is frozen -/
mutual
def refsOf : U → List Nat
  | .d _ => []
  | .ref n => [n]
  | .tup us => refsOfs us
def refsOfs : List U → List Nat
  | [] => []
  | u :: us => refsOf u ++ refsOfs us
end
def fzO : Ob → Ob
  | .lst xs => .frz xs
  | o => o
def fzH (ns : List Nat) (h : Sto) : Sto := h.mapIdx fun i o => if i ∈ ns then fzO o else o
def fzR (u : U) (h : Sto) : Res U := match u with
  | .d x => .ok (.d x) h
  | u => match dataOf h u with
    | some x => .ok (.d x) (fzH (refsOf u) h)
    | none => .stuck
def eFz (f : Ev) : Ev := fun env h => (f env h).bind fzR
section
variable {K : PySem.W.Frag} {mg : Str → Option Value} {H H' : Hp} {m : List Addr} {h : Sto}
def fzA (m : List Addr) (ns : List Nat) : List Addr := ns.filterMap fun n => m[n]?
theorem mem_fzA {ns : List Nat} {a : Addr} (hm : a ∈ fzA m ns) : ∃ i ∈ ns, m[i]? = some a := by
  obtain ⟨i, h1, h2⟩ := List.mem_filterMap.mp hm
  exact ⟨i, h1, h2⟩
theorem fzA_mem {ns : List Nat} {a : Addr} {i : Nat} (h1 : i ∈ ns) (h2 : m[i]? = some a) : a ∈ fzA m ns := List.mem_filterMap.mpr ⟨i, h1, h2⟩
theorem fz_gr {ns : List Nat} (f : Fz (fzA m ns) H H') : Gr H m H' m :=
  ⟨⟨[], by simp⟩, fun a o e n => by
    rcases f.alt a with z | ⟨z, _⟩
    · exact z.trans e
    · obtain ⟨i, _, q⟩ := mem_fzA z
      exact absurd (List.mem_of_getElem? q) n, fun _ z n => absurd z n, f.kp⟩
theorem fz_sta {ns : List Nat} (s : Sta K mg H m h) (f : Fz (fzA m ns) H H') : Sta K mg H' m (fzH ns h) := by
  refine ⟨s.nd, by unfold fzH; rw [List.length_mapIdx]; exact s.len, fun i a o h1 h2 => ?_⟩
  unfold fzH at h2
  rw [List.getElem?_mapIdx] at h2
  obtain ⟨o0, e0, r0⟩ := s.at_ h1
  rw [e0] at h2
  have e2 : (if i ∈ ns then fzO o0 else o0) = o := Option.some.inj h2
  have stay : H' a = H a → RO K mg H' m a o0 := fun e => r0.mono e f.kp ⟨[], by simp⟩
  have nfz : i ∉ ns → H' a = H a := fun hn => by
    rcases f.alt a with z | ⟨z, _⟩
    · exact z
    · obtain ⟨j, hj, q⟩ := mem_fzA z
      rw [nd_ix s.nd h1 q] at hn
      exact absurd hj hn
  by_cases hi : i ∈ ns
  · rw [if_pos hi] at e2
    subst e2
    cases o0 with
    | lst xs =>
      obtain ⟨vs, k1, k2⟩ := r0
      obtain ⟨o, k3⟩ := f.did a (fzA_mem hi h1) vs k1
      exact ⟨o, vs, k3, RDs.kp f.kp _ _ k2⟩
    | frz xs =>
      obtain ⟨o, vs, k1, k2⟩ := r0
      exact ⟨o, vs, f.kp.frz _ _ _ k1, RDs.kp f.kp _ _ k2⟩
    | ins c fs =>
      refine stay ?_
      rcases f.alt a with z | ⟨_, _, vs, q, _⟩
      · exact z
      · obtain ⟨C, dx, gs, _, k, _⟩ := r0
        rw [k] at q; cases q
    | dct kvs =>
      refine stay ?_
      rcases f.alt a with z | ⟨_, _, vs, q, _⟩
      · exact z
      · obtain ⟨gs, k, _⟩ := r0
        rw [k] at q; cases q
  · rw [if_neg hi] at e2
    subst e2
    exact stay (nfz hi)
mutual
theorem fz_rd (s : Sta K mg H m h) {ns : List Nat} (f : Fz (fzA m ns) H H') : ∀ (u : U) (v : V) (d : D), (∀ n ∈ refsOf u, n ∈ ns) → dataOf h u = some d → RU K H m v u → RD K H' v d
  | .d x, v, d, _, e, r => by
    rw [dataOf] at e
    cases e
    exact RD.kp f.kp _ _ r.rd
  | .ref n, v, d, sub, e, r => by
    rw [dataOf] at e
    cases r with
    | ref hm =>
      rename_i a
      have hn : n ∈ ns := sub n (by rw [refsOf]; exact List.mem_singleton.mpr rfl)
      obtain ⟨o0, e0, r0⟩ := s.at_ hm
      unfold listOf at e
      simp only [e0] at e
      cases o0 with
      | lst xs =>
        cases e
        obtain ⟨vs, k1, k2⟩ := r0
        obtain ⟨o, k3⟩ := f.did a (fzA_mem hn hm) vs k1
        exact .lst (.inl ⟨o, k3⟩) (RDs.kp f.kp _ _ k2)
      | frz xs =>
        cases e
        obtain ⟨o, vs, k1, k2⟩ := r0
        exact .lst (.inl ⟨o, f.kp.frz _ _ _ k1⟩) (RDs.kp f.kp _ _ k2)
      | ins c fs => cases e
      | dct kvs => cases e
  | .tup us, v, d, sub, e, r => by
    rw [dataOf] at e
    cases q : datasOf h us with
    | none => rw [q] at e; cases e
    | some xs =>
      rw [q] at e
      cases e
      cases r with
      | tup t b => exact .tup (f.kp.sqT t) (fz_rds s f us _ xs (fun n hn => sub n (by rw [refsOf]; exact hn)) q b)
theorem fz_rds (s : Sta K mg H m h) {ns : List Nat} (f : Fz (fzA m ns) H H') : ∀ (us : List U) (vs : List V) (ds : List D), (∀ n ∈ refsOfs us, n ∈ ns) → datasOf h us = some ds → RUs K H m vs us → RDs K H' vs ds
  | [], vs, ds, _, e, r => by
    rw [datasOf] at e
    cases e
    cases r
    exact .nil
  | u :: us, vs, ds, sub, e, r => by
    rw [datasOf] at e
    split at e
    · rename_i x xs e1 e2
      cases e
      cases r with
      | cons a b => exact .cons (fz_rd s f u _ x (fun n hn => sub n (by rw [refsOfs]; exact List.mem_append_left _ hn)) e1 a) (fz_rds s f us _ xs (fun n hn => sub n (by rw [refsOfs]; exact List.mem_append_right _ hn)) e2 b)
    · cases e
end
end
theorem fzR_ok {X : Cx} {W : WX} {σ : L2.St} {H : Hp} {m : List Addr} {h : Sto} {u : U} {v : V} {Q : VK} (s : Sta X.K X.mg H m h) (r : RU X.K H m v u) (out : Out X W (rlU X.K) σ H m (fzR u h) Q) : gh Q v H := by
  have gen : (∀ x, u ≠ .d x) → gh Q v H := fun nd => by
    have out' : Out X W (rlU X.K) σ H m (match dataOf h u with | some x => .ok (.d x) (fzH (refsOf u) h) | none => .stuck) Q := by
      cases u with
      | d x => exact absurd rfl (nd x)
      | ref n => exact out
      | tup us => exact out
    cases e : dataOf h u with
    | none => rw [e] at out'; exact out'.elim
    | some x =>
      rw [e] at out'
      exact ⟨fzA m (refsOf u), fun H' f => Out.ok out' (fz_gr f) (fz_sta s f) (.d (fz_rd s f u v x (fun _ hn => hn) e r))⟩
  cases u with
  | d x => exact gh.no (Out.here out s r)
  | ref n => exact gen fun x z => nomatch z
  | tup us => exact gen fun x z => nomatch z
theorem se_fz {X : Cx} {W : WX} {e : Expr} {f : Ev} (h : SE X W e f) : SE X W e (eFz f) :=
  ⟨pe_imp (pe_gh h.pe) fun σ H Q ⟨env, m, h, sta, sl, out⟩ => rd_of sta sl out fun u h1 v H1 m1 g1 s1 r1 out1 => fzR_ok s1 r1 out1⟩

/-! ### defs that take data and give data -/
inductive PR where
  | ok (d : D)
  | exc (c : Str)
  | stuck
abbrev PF := List D → PR
def PR.res (r : PR) (h : Sto) : Res U := match r with
  | .ok d => .ok (.d d) h
  | .exc c => .exc c h
  | .stuck => .stuck
def spP (K : PySem.W.Frag) (mg : Str → Option Value) (n : Nat) (F : PF) : Sp := fun vs H Q E => ∃ ds, RDs K H vs ds ∧ vs.length = n ∧ match F ds with
  | .ok d => ∀ v H', Same H H' → RD K H' v d → Q v H'
  | .exc c => ∀ H', Same H H' → ∀ C, mg c = some (.ref C) → E (.ref C) none H'
  | .stuck => False
structure FnP (P : Program) (w : World) (K : PySem.W.Frag) (mg : Str → Option Value) (base : Heap) (k : Nat) (name : Str) (ps : List Str) (F : PF) : Prop where
  ex : ∃ f fd, mg name = some (.ref f) ∧ PySem.W.keepIn K (.ref f) = true ∧ Binds K fd ps [] ∧ FnOk P w K mg base (L2.CX P w) k f fd ps (spP K mg ps.length F)
theorem FnP.mono {P : Program} {w : World} {K : PySem.W.Frag} {mg : Str → Option Value} {base : Heap} {j k : Nat} {name : Str} {ps : List Str} {F : PF} (h : FnP P w K mg base j name ps F) (l : j ≤ k) : FnP P w K mg base k name ps F := by
  obtain ⟨f, fd, h1, h2, h3, h4⟩ := h.ex
  exact ⟨f, fd, h1, h2, h3, h4.mono l⟩
/-- how many arguments there are -/
def aLen (fa : Ea) (n : Nat) : Prop := ∀ us env h h', fa env h = .ok us h' → us.length = n
theorem aLen_nil : aLen aNil 0 := fun us env h h' e => by cases e; rfl
theorem aLen_cons {f : Ev} {r : Ea} {n : Nat} (hr : aLen r n) : aLen (aCons f r) (n + 1) := fun us env h h' e => by
  unfold aCons at e
  cases q : f env h with
  | stuck => rw [q] at e; cases e
  | exc c h1 => rw [q] at e; cases e
  | ok u h1 =>
    rw [q] at e
    rw [Res.bind_ok] at e
    cases q2 : r env h1 with
    | stuck => rw [q2] at e; cases e
    | exc c h2 => rw [q2] at e; cases e
    | ok us' h2 =>
      rw [q2] at e
      cases e
      rw [List.length_cons, hr us' env h1 _ q2]
def eCall (F : PF) (fa : Ea) : Ev := fun env h => (fa env h).bind fun us h1 => match allD us with
  | some ds => (F ds).res h1
  | none => .stuck
section
variable {X : Cx} {W : WX} {k j : Nat} {x : Str} {p pos : Pos} {e : Expr} {es : List Expr} {ps : List Str} {F : PF} {fa : Ea}
theorem spP_of {σ : L2.St} {H : Hp} {m : List Addr} {h : Sto} {us : List U} {ds : List D} {vs : List V} {Q : VK} {n : Nat} (s : Sta X.K X.mg H m h) (r : RUs X.K H m vs us) (e : allD us = some ds) (hn : ds.length = n) (out : Out X W (rlU X.K) σ H m ((F ds).res h) Q) :
    spP X.K X.mg n F vs H Q (WE W σ) := by
  refine ⟨ds, allD_v e r, (allD_v e r).len.trans hn, ?_⟩
  generalize F ds = q at out
  cases q with
  | ok d => exact fun v H' sm rd => Out.ok (b := v) out (Gr.of_same sm m) (s.same sm) (.d rd)
  | exc c => exact fun H' sm C hC => (show ∀ H' m', Gr H m H' m' → Sta X.K X.mg H' m' h → ExW X W c σ H' from out) H' m (Gr.of_same sm m) (s.same sm) C hC
  | stuck => exact out
theorem se_call (tk : Takes X W) (f : FnP X.prog X.w X.K X.mg X.base k x ps F) (hr : Room k X.A) (hg : Gl X x) (ha : SA X W (e :: es) fa) (hn : aLen fa ps.length)
    (hdb : (x == ("__debug__" : Str)) = false := by decide) (he : starEach (e :: es) X.env = (false, eval e X.env) :: starEach es X.env := by rfl) (hpl : (backTo pos (starEach es X.env)).any (·.1) = false := by rfl) :
    SE X W (.Call (.Name x p) (e :: es) [] pos) (eCall F fa) := by
  obtain ⟨fa', fd, h1, h2, h3, h4⟩ := f.ex
  refine ⟨pe_imp (pe_callS h4 hr hg h1 h2 h3 (fun σ => passAt tk σ) ha.pa hdb he hpl) fun σ H Q ⟨env, m, h, sta, sl, out⟩ => ?_⟩
  have hl := fun us => hn us env h
  refine ⟨env, m, h, sta, sl, ?_⟩
  unfold eCall at out
  generalize hq : fa env h = q at out
  cases q with
  | stuck => exact out
  | exc c h1 => exact out
  | ok us h1 =>
    intro vs H1 m1 g1 s1 r1
    have out1 : Out X W (rlU X.K) σ H1 m1 (match allD us with | some ds => (F ds).res h1 | none => .stuck) Q := Out.gr out g1
    cases ed : allD us with
    | none => rw [ed] at out1; exact out1.elim
    | some ds =>
      rw [ed] at out1
      exact spP_of s1 r1 ed (by rw [← (allD_v ed r1).len, RUs.len r1]; exact hl us h1 hq) out1
end

/-! ### built-in functions and types -/
def eB (F : List U → Sto → Res U) (fa : Ea) : Ev := fun env h => (fa env h).bind F
def AbC (X : Cx) (W : WX) (F : List U → Sto → Res U) (r : List V → Hp → VK → Prop) : Prop := ∀ (σ : L2.St) (H : Hp) (m : List Addr) (h : Sto) (xs : List V) (us : List U) (Q : VK), Sta X.K X.mg H m h → RUs X.K H m xs us → Out X W (rlU X.K) σ H m (F us h) Q → r xs H Q
theorem gh_call {X : Cx} {f : Value} {r : List V → Hp → VK → Prop} (h : CallR X f r) : CallR X f (fun xs H Q => r xs H (gh Q)) := by
  intro pins s σ H xs us Q I rx q
  refine thn (h pins s σ H xs us _ I rx q) fun z s1 ⟨zv, H1, I1, rz, S, q1⟩ => ?_
  obtain ⟨H2, f2, I2⟩ := inv_fz S I1
  exact ⟨zv, H2, I2, rz, q1 H2 f2⟩
section
variable {X : Cx} {W : WX} {x : Str} {p pos : Pos} {e : Expr} {es : List Expr} {fa : Ea} {id T : String} {r : List V → Hp → VK → Prop} {F : List U → Sto → Res U}
theorem se_callB (hc : CallR X (.builtin id) r) (ab : AbC X W F r) (hg : Gl X x) (hm : X.mg x = none) (hv : bootBuiltins x = some (.builtin id)) (ha : SA X W (e :: es) fa) (hn : x ≠ "__name__" := by decide) (hdb : (x == ("__debug__" : Str)) = false := by decide)
    (he : starEach (e :: es) X.env = (false, eval e X.env) :: starEach es X.env := by rfl) (hpl : (backTo pos (starEach es X.env)).any (·.1) = false := by rfl) : SE X W (.Call (.Name x p) (e :: es) [] pos) (eB F fa) :=
  ⟨pe_imp (pe_callB hc hg hm hv ha.pa hn hdb he hpl) fun σ H Q ⟨env, m, h, sta, sl, out⟩ => rd_of sta sl out fun us h1 xs H1 m1 g1 s1 r1 out1 => ab σ H1 m1 h1 xs us Q s1 r1 out1⟩
theorem se_callTy (hc : CallR X (.type T) r) (ab : AbC X W F r) (hg : Gl X x) (hm : X.mg x = none) (hv : bootBuiltins x = some (.type T)) (ha : SA X W (e :: es) fa) (hn : x ≠ "__name__" := by decide) (hdb : (x == ("__debug__" : Str)) = false := by decide)
    (he : starEach (e :: es) X.env = (false, eval e X.env) :: starEach es X.env := by rfl) (hpl : (backTo pos (starEach es X.env)).any (·.1) = false := by rfl) : SE X W (.Call (.Name x p) (e :: es) [] pos) (eB F fa) :=
  ⟨pe_imp (pe_callTy hc hg hm hv ha.pa hn hdb he hpl) fun σ H Q ⟨env, m, h, sta, sl, out⟩ => rd_of sta sl out fun us h1 xs H1 m1 g1 s1 r1 out1 => ab σ H1 m1 h1 xs us Q s1 r1 out1⟩
/-- len -/
noncomputable def lenOf (h : Sto) (u : U) : Option Nat := match tupOf u with
  | some xs => some xs.length
  | none => match listOf h u with
    | some xs => some xs.length
    | none => match strOf u with
      | some x => if fits x.length then some x.length else none
      | none => match u with
        | .tup us => some us.length
        | _ => none
noncomputable def fLen (us : List U) (h : Sto) : Res U := match us with
  | [u] => (match lenOf h u with
    | some n => .ok (.d (.int n)) h
    | none => .stuck)
  | _ => .stuck
theorem ab_len : AbC X W fLen (fun xs H Q => ∃ x n, xs = [x] ∧ LenV X.K x H n ∧ Q (.int n) H) := by
  intro σ H m h xs us Q s r out
  unfold fLen at out
  split at out
  · rename_i u
    cases r with
    | cons ru rn =>
      rename_i v vs
      cases rn
      split at out
      · rename_i n e
        refine ⟨v, n, rfl, ?_, Out.here (b := V.int n) out s (.d (.int _))⟩
        unfold lenOf at e
        split at e
        · rename_i ys ey
          cases e
          obtain ⟨p, ws, rfl, t1, d1⟩ := tupOf_v ey ru
          exact .inr ⟨ws, t1, d1.len.symm⟩
        · split at e
          · rename_i ys ey
            cases e
            obtain ⟨p, ws, rfl, t1, d1⟩ := listOf_v s ey ru
            exact .inl ⟨ws, t1, d1.len.symm⟩
          · split at e
            · rename_i y ey
              split at e
              · rename_i hz
                cases e
                rw [strOf_v ey ru]
                exact ⟨ask_iff.mp hz, rfl⟩
              · cases e
            · split at e
              · cases e
                cases ru with
                | tup t b => exact .inr ⟨_, t, (RUs.len b).symm⟩
              · cases e
      · exact out.elim
  · exact out.elim
/-- one int, two ints -/
def fI1 (g : Int → Int) (us : List U) (h : Sto) : Res U := match us with
  | [u] => (match intOf u with
    | some i => .ok (.d (.int (g i))) h
    | none => .stuck)
  | _ => .stuck
def fI2 (g : Int → Int → Int) (us : List U) (h : Sto) : Res U := match us with
  | [u, w] => (match intOf u, intOf w with
    | some i, some j => .ok (.d (.int (g i j))) h
    | _, _ => .stuck)
  | _ => .stuck
abbrev fAbs := fI1 fun i => if i < 0 then -i else i
abbrev fMax := fI2 fun i j => if j > i then j else i
abbrev fMin := fI2 fun i j => if j < i then j else i
theorem ab_i1 (g : Int → Int) : AbC X W (fI1 g) (fun xs H Q => ∃ i, xs = [.int i] ∧ Q (.int (g i)) H) := by
  intro σ H m h xs us Q s r out
  unfold fI1 at out
  split at out
  · cases r with
    | cons ru rn =>
      cases rn
      split at out
      · rename_i i e
        exact ⟨i, by rw [intOf_v e ru], Out.here (b := V.int _) out s (.d (.int _))⟩
      · exact out.elim
  · exact out.elim
theorem ab_i2 (g : Int → Int → Int) : AbC X W (fI2 g) (fun xs H Q => ∃ i j, xs = [.int i, .int j] ∧ Q (.int (g i j)) H) := by
  intro σ H m h xs us Q s r out
  unfold fI2 at out
  split at out
  · cases r with
    | cons ru rn =>
      cases rn with
      | cons rw rn =>
        cases rn
        split at out
        · rename_i i j e1 e2
          exact ⟨i, j, by rw [intOf_v e1 ru, intOf_v e2 rw], Out.here (b := V.int _) out s (.d (.int _))⟩
        · exact out.elim
  · exact out.elim
/-- int(x) -/
def fInt (us : List U) (h : Sto) : Res U := match us with
  | [u] => (match intOf u with
    | some i => .ok (.d (.int i)) h
    | none => match boolOf u with
      | some b => .ok (.d (.int (if b then 1 else 0))) h
      | none => .stuck)
  | _ => .stuck
theorem ab_intOf : AbC X W fInt (fun xs H Q => (∃ i, xs = [.int i] ∧ Q (.int i) H) ∨ ∃ k, xs = [.bl k] ∧ Q (.int (if k then 1 else 0)) H) := by
  intro σ H m h xs us Q s r out
  unfold fInt at out
  split at out
  · cases r with
    | cons ru rn =>
      cases rn
      split at out
      · rename_i i e
        exact .inl ⟨i, by rw [intOf_v e ru], Out.here (b := V.int _) out s (.d (.int _))⟩
      · split at out
        · rename_i b e
          exact .inr ⟨b, by rw [boolOf_v e ru], Out.here (b := V.int _) out s (.d (.int _))⟩
        · exact out.elim
  · exact out.elim
/-- list(x), tuple(x) -/
def seqOf (h : Sto) (u : U) : Option (List D) := match tupOf u with
  | some xs => some xs
  | none => listOf h u
def fList (b : Bool) (us : List U) (h : Sto) : Res U := match us with
  | [u] => (match seqOf h u with
    | some xs => mkL b xs h
    | none => .stuck)
  | _ => .stuck
def fTuple (us : List U) (h : Sto) : Res U := match us with
  | [u] => (match seqOf h u with
    | some xs => .ok (.d (.tuple xs)) h
    | none => .stuck)
  | _ => .stuck
theorem seqOf_v {K : PySem.W.Frag} {mg : Str → Option Value} {H : Hp} {m : List Addr} {h : Sto} {v : V} {u : U} {xs : List D} (s : Sta K mg H m h) (e : seqOf h u = some xs) (r : RU K H m v u) : ∃ a vs, v = .ref a ∧ (SqL K H a vs ∨ SqT K H a vs) ∧ RDs K H vs xs := by
  unfold seqOf at e
  split at e
  · rename_i ys ey
    cases e
    obtain ⟨p, ws, rfl, t1, d1⟩ := tupOf_v ey r
    exact ⟨p, ws, rfl, .inr t1, d1⟩
  · obtain ⟨p, ws, rfl, t1, d1⟩ := listOf_v s e r
    exact ⟨p, ws, rfl, .inl t1, d1⟩
theorem ab_list (b : Bool) : AbC X W (fList b) (fun xs H Q => ∃ p ys, xs = [.ref p] ∧ (SqL X.K H p ys ∨ SqT X.K H p ys) ∧ ∀ l, H l = none → gh Q (.ref l) (upd H l (.lst ys))) := by
  intro σ H m h xs us Q s r out
  unfold fList at out
  split at out
  · cases r with
    | cons ru rn =>
      cases rn
      split at out
      · rename_i ys e
        obtain ⟨p, ws, rfl, t1, d1⟩ := seqOf_v s e ru
        exact ⟨p, ws, rfl, t1, fun l nl => mkL_ok s nl d1 out⟩
      · exact out.elim
  · exact out.elim
theorem ab_tuple : AbC X W fTuple (fun xs H Q => ∃ p ys, xs = [.ref p] ∧ ((SqL X.K H p ys ∧ ∀ l, H l = none → Q (.ref l) (upd H l (.tup ys))) ∨ (SqT X.K H p ys ∧ Q (.ref p) H))) := by
  intro σ H m h xs us Q s r out
  unfold fTuple at out
  split at out
  · cases r with
    | cons ru rn =>
      cases rn
      split at out
      · rename_i ys e
        obtain ⟨p, ws, rfl, t1, d1⟩ := seqOf_v s e ru
        refine ⟨p, ws, rfl, ?_⟩
        rcases t1 with t1 | t1
        · exact .inl ⟨t1, fun l nl => by
            have sm : Same H (upd H l (.tup ws)) := Same.lay nl
            exact Out.ok (b := V.ref l) out (Gr.of_same sm m) (s.same sm) (.d (.tup (.inl (.inl upd_same)) (RDs.kp (Kp.same sm) _ _ d1)))⟩
        · exact .inr ⟨t1, Out.here (b := V.ref p) out s (.d (.tup t1 d1))⟩
      · exact out.elim
  · exact out.elim
end
/-! ### isinstance(x, T) -/
inductive Ty where | int | bool | str | tuple | list
def Ty.name : Ty → String
  | .int => "int" | .bool => "bool" | .str => "str" | .tuple => "tuple" | .list => "list"
def isTy (T : Ty) : D → Bool
  | .int _ => match T with | .int => true | _ => false
  | .bool _ => match T with | .int => true | .bool => true | _ => false
  | .str _ => match T with | .str => true | _ => false
  | .tuple _ => match T with | .tuple => true | _ => false
  | .list _ => match T with | .list => true | _ => false
  | _ => false
def isTyU (T : Ty) (h : Sto) : U → Option Bool
  | .d x => some (isTy T x)
  | .ref n => match listOf h (.ref n) with
    | some _ => some (match T with | .list => true | _ => false)
    | none => none
  | .tup _ => some (match T with | .tuple => true | _ => false)
def opIsi (T : Ty) (u : U) (h : Sto) : Res U := match isTyU T h u with
  | some b => .ok (.d (.bool b)) h
  | none => .stuck
theorem kt_non (T : Ty) : kitB "NoneType" T.name = some false := by cases T <;> decide +kernel
theorem kt_bl (T : Ty) : kitB "bool" T.name = some (match T with | .int => true | .bool => true | _ => false) := by cases T <;> decide +kernel
theorem kt_int (T : Ty) : kitB "int" T.name = some (match T with | .int => true | _ => false) := by cases T <;> decide +kernel
theorem kt_str (T : Ty) : kitB "str" T.name = some (match T with | .str => true | _ => false) := by cases T <;> decide +kernel
theorem kt_tup (T : Ty) : kitB "tuple" T.name = some (match T with | .tuple => true | _ => false) := by cases T <;> decide +kernel
theorem kt_lst (T : Ty) : kitB "list" T.name = some (match T with | .list => true | _ => false) := by cases T <;> decide +kernel
section
variable {X : Cx} {W : WX} {a : Expr} {f : Ev} {p p2 pos : Pos} {y : Str}
theorem isTy_v {K : PySem.W.Frag} {mg : Str → Option Value} {H : Hp} {m : List Addr} {h : Sto} {v : V} {u : U} {T : Ty} {b : Bool} (s : Sta K mg H m h) (e : isTyU T h u = some b) (r : RU K H m v u) : ∃ t, TyX K H v t ∧ PySem.W.kitOne K t (.type T.name) = some b := by
  cases r with
  | d rd =>
    cases e
    cases rd with
    | non => exact ⟨_, .base .non, kit_ty (kt_non T)⟩
    | bl i => exact ⟨_, .base (.bl _), kit_ty (kt_bl T)⟩
    | int i => exact ⟨_, .base (.int _), kit_ty (kt_int T)⟩
    | str i => exact ⟨_, .base (.str _), kit_ty (kt_str T)⟩
    | lst z _ =>
      rcases z with ⟨o, z⟩ | ⟨o, its, n, z1, z2, z3⟩
      · exact ⟨_, .base (.frz z), kit_ty (kt_lst T)⟩
      · exact ⟨_, .kList z1 z2, kit_ty (kt_lst T)⟩
    | tup z _ =>
      rcases z with (z | ⟨o, z⟩) | ⟨o, its, n, z1, z2, z3⟩
      · exact ⟨_, .base (.tup z), kit_ty (kt_tup T)⟩
      · exact ⟨_, .fTuple z, kit_ty (kt_tup T)⟩
      · exact ⟨_, .kTuple z1 z2, kit_ty (kt_tup T)⟩
  | ref hm =>
    obtain ⟨o0, e0, r0⟩ := s.at_ hm
    simp only [isTyU, listOf, e0] at e
    cases o0 with
    | lst xs =>
      cases e
      obtain ⟨vs, k1, _⟩ := r0
      exact ⟨_, .base (.lst k1), kit_ty (kt_lst T)⟩
    | frz xs =>
      cases e
      obtain ⟨o, vs, k1, _⟩ := r0
      exact ⟨_, .base (.frz k1), kit_ty (kt_lst T)⟩
    | ins c fs => cases e
    | dct kvs => cases e
  | tup z _ =>
    cases e
    rcases z with (z | ⟨o, z⟩) | ⟨o, its, n, z1, z2, z3⟩
    · exact ⟨_, .base (.tup z), kit_ty (kt_tup T)⟩
    · exact ⟨_, .fTuple z, kit_ty (kt_tup T)⟩
    · exact ⟨_, .kTuple z1 z2, kit_ty (kt_tup T)⟩
theorem se_isi (T : Ty) (hg : Gl X "isinstance") (hm : X.mg "isinstance" = none) (hg2 : Gl X y) (hm2 : X.mg y = none) (hv2 : bootBuiltins y = some (.type T.name)) (ha : SE X W a f) (hn2 : y ≠ "__name__" := by decide) (hd2 : (y == ("__debug__" : Str)) = false := by decide)
    (he : starEach [a, .Name y p2] X.env = (false, eval a X.env) :: starEach [.Name y p2] X.env := by rfl) (he2 : starEach [.Name y p2] X.env = (false, eval (.Name y p2) X.env) :: starEach [] X.env := by rfl)
    (hpl : (backTo pos (starEach [.Name y p2] X.env)).any (·.1) = false := by rfl) :
    SE X W (.Call (.Name "isinstance" p) [a, .Name y p2] [] pos) (eUn (opIsi T) f) :=
  ⟨pe_imp (pe_callB call_isi hg hm (by decide +kernel) (pa_cons ha.pe (pa_cons (pe_bltn (v := .ty T.name) hg2 hm2 hv2 rfl hn2 hd2) pa_nil he2) he) (by decide) (by decide) he hpl) fun σ H Q ⟨env, m, h, sta, sl, out⟩ => rd_of sta sl out fun u h1 x H1 m1 g1 s1 r1 out1 => by
    unfold opIsi at out1
    split at out1
    · rename_i b e
      obtain ⟨t, h2, h3⟩ := isTy_v s1 e r1
      exact ⟨x, .ty T.name, t, _, b, rfl, .ty _, h2, h3, Out.here (b := V.bl b) out1 s1 (.d (.bl b))⟩
    · exact out1.elim⟩
end
end Wk

/-! T4: statements, loops, comprehensions, defs. -/
namespace Wk
open PySem PySem.Spec PyProof.Rows L2

/-! ### statements -/
def OutS (X : Cx) (W : WX) (D : Ends) (H : Hp) (m : List Addr) : SRes → Prop
  | .next env' h' => ∀ σ' H' m', Gr H m H' m' → Sta X.K X.mg H' m' h' → Sl X.K H' m' σ' env' → D.nx σ' H'
  | .ret u h' => ∀ v H' m', Gr H m H' m' → Sta X.K X.mg H' m' h' → RU X.K H' m' v u → D.rt v H'
  | .exc c env' h' => ∀ σ' H' m', Gr H m H' m' → Sta X.K X.mg H' m' h' → Sl X.K H' m' σ' env' → ExW X W c σ' H'
  | .stuck => False
def rdS (X : Cx) (W : WX) (g : Es) : TS := fun D σ H => ∃ env m h, Sta X.K X.mg H m h ∧ Sl X.K H m σ env ∧ OutS X W D H m (g env h)
structure SS (X : Cx) (W : WX) (st : Stmt) (g : Es) : Prop where
  ps : PS X st (rdS X W g)
structure SSs (X : Cx) (W : WX) (st : List Stmt) (g : Es) : Prop where
  ps : PSs X st (rdS X W g)
theorem OutS.gr {X : Cx} {W : WX} {D : Ends} {H H1 : Hp} {m m1 : List Addr} {r : SRes} (o : OutS X W D H m r) (g : Gr H m H1 m1) : OutS X W D H1 m1 r := by
  cases r with
  | next env' h' => exact fun σ' H' m' g' => o σ' H' m' (g.trans g')
  | ret u h' => exact fun v H' m' g' => o v H' m' (g.trans g')
  | exc c env' h' => exact fun σ' H' m' g' => o σ' H' m' (g.trans g')
  | stuck => exact o
def SRes.seq (r : SRes) (k : Es) : SRes := match r with
  | .next env h => k env h
  | .ret u h => .ret u h
  | .exc c env h => .exc c env h
  | .stuck => .stuck
@[simp] theorem SRes.seq_next (env : Env') (h : Sto) (k : Es) : (SRes.next env h).seq k = k env h := (rfl)
@[simp] theorem SRes.seq_ret (u : U) (h : Sto) (k : Es) : (SRes.ret u h).seq k = .ret u h := (rfl)
@[simp] theorem SRes.seq_exc (c : Str) (env : Env') (h : Sto) (k : Es) : (SRes.exc c env h).seq k = .exc c env h := (rfl)
@[simp] theorem SRes.seq_stuck (k : Es) : (SRes.stuck).seq k = .stuck := (rfl)
def sNil : Es := fun env h => .next env h
def sSeq (a b : Es) : Es := fun env h => (a env h).seq b
/-- an expression, then a statement's end -/
def Res.then_ {α : Type} (r : Res α) (env : Env') (k : α → Sto → SRes) : SRes := match r with
  | .ok x h => k x h
  | .exc c h => .exc c env h
  | .stuck => .stuck
@[simp] theorem Res.then_ok {α : Type} (x : α) (h : Sto) (env : Env') (k : α → Sto → SRes) : (Res.ok x h).then_ env k = k x h := (rfl)
@[simp] theorem Res.then_exc {α : Type} (c : Str) (h : Sto) (env : Env') (k : α → Sto → SRes) : (Res.exc c h : Res α).then_ env k = .exc c env h := (rfl)
@[simp] theorem Res.then_stuck {α : Type} (env : Env') (k : α → Sto → SRes) : (Res.stuck : Res α).then_ env k = .stuck := (rfl)
section
variable {X : Cx} {W : WX} {D : Ends} {σ : L2.St} {H : Hp} {m : List Addr} {h : Sto} {env : Env'}
/-- the expression ahead of a statement's end -/
theorem rd_then {α β : Type} {rl : Hp → List Addr → β → α → Prop} {f : Env' → Sto → Res α} {k : α → Sto → SRes} {Q' : β → Hp → Prop} (sta : Sta X.K X.mg H m h) (sl : Sl X.K H m σ env) (out : OutS X W D H m ((f env h).then_ env k))
    (nx : ∀ a h1 b H1 m1, Gr H m H1 m1 → Sta X.K X.mg H1 m1 h1 → rl H1 m1 b a → OutS X W D H1 m1 (k a h1) → Q' b H1) : rd X W rl f σ H Q' := by
  refine ⟨env, m, h, sta, sl, ?_⟩
  generalize f env h = q at out
  cases q with
  | ok a h1 => exact fun b H1 m1 g s r => nx a h1 b H1 m1 g s r (OutS.gr out g)
  | exc c h1 => exact fun H1 m1 g s => (show ∀ σ' H' m', Gr H m H' m' → Sta X.K X.mg H' m' h1 → Sl X.K H' m' σ' env → ExW X W c σ' H' from out) σ H1 m1 g s (sl.gr g)
  | stuck => exact out
theorem ss_nil : SSs X W [] sNil := ⟨pss_imp pss_nil fun D σ H ⟨env, m, h, sta, sl, out⟩ => (show ∀ σ' H' m', Gr H m H' m' → Sta X.K X.mg H' m' h → Sl X.K H' m' σ' env → D.nx σ' H' from out) σ H m (Gr.refl H m) sta sl⟩
theorem seq_out {st : SRes} {g : Es} (out : OutS X W D H m (st.seq g)) : OutS X W { D with nx := rdS X W g D } H m st := by
  cases st with
  | next env' h' => exact fun σ' H' m' g' s' l' => ⟨env', m', h', s', l', OutS.gr out g'⟩
  | ret u h' => exact out
  | exc c env' h' => exact out
  | stuck => exact out
theorem ss_cons {st : Stmt} {rest : List Stmt} {f g : Es} (h1 : SS X W st f) (h2 : SSs X W rest g) : SSs X W (st :: rest) (sSeq f g) :=
  ⟨pss_imp (pss_cons h1.ps h2.ps) fun D σ H ⟨env, m, h, sta, sl, out⟩ => ⟨env, m, h, sta, sl, seq_out out⟩⟩
theorem ss_one {st : Stmt} {f : Es} (h1 : SS X W st f) : SSs X W [st] f := ⟨pss_one h1.ps⟩

variable {a b c e : Expr} {f g : Ev} {pos : Pos}
theorem ss_pass : SS X W (.Pass pos) sNil := ⟨ps_imp ps_pass fun D σ H ⟨env, m, h, sta, sl, out⟩ => (show ∀ σ' H' m', Gr H m H' m' → Sta X.K X.mg H' m' h → Sl X.K H' m' σ' env → D.nx σ' H' from out) σ H m (Gr.refl H m) sta sl⟩
def sExpr (f : Ev) : Es := fun env h => (f env h).then_ env fun _ h1 => .next env h1
theorem ss_expr (he : SE X W e f) (hs : swapsWith e none pos.line X.env = pure false := by rfl) : SS X W (.Expr e pos) (sExpr f) :=
  ⟨ps_imp (ps_expr he.pe hs) fun D σ H ⟨env, m, h, sta, sl, out⟩ => rd_then sta sl out fun u h1 v H1 m1 g1 s1 r1 out1 =>
    (show ∀ σ' H' m', Gr H1 m1 H' m' → Sta X.K X.mg H' m' h1 → Sl X.K H' m' σ' env → D.nx σ' H' from out1) σ H1 m1 (Gr.refl _ _) s1 (sl.gr g1)⟩
def sRet (f : Ev) : Es := fun env h => (f env h).then_ env fun u h1 => .ret u h1
theorem ss_ret (he : SE X W e f) : SS X W (.Return (some e) pos) (sRet f) :=
  ⟨ps_imp (ps_ret he.pe) fun D σ H ⟨env, m, h, sta, sl, out⟩ => rd_then sta sl out fun u h1 v H1 m1 g1 s1 r1 out1 =>
    (show ∀ v H' m', Gr H1 m1 H' m' → Sta X.K X.mg H' m' h1 → RU X.K H' m' v u → D.rt v H' from out1) v H1 m1 (Gr.refl _ _) s1 r1⟩
def sRetN : Es := fun env h => .ret (.d .none) h
theorem ss_retN : SS X W (.Return none pos) sRetN := ⟨ps_imp ps_retN fun D σ H ⟨env, m, h, sta, sl, out⟩ => (show ∀ v H' m', Gr H m H' m' → Sta X.K X.mg H' m' h → RU X.K H' m' v (.d .none) → D.rt v H' from out) .non H m (Gr.refl H m) sta (.d .non)⟩
def sIf (c : Eb) (f g : Es) : Es := fun env h => (c env h).then_ env fun b h1 => match b with
  | true => f env h1
  | false => g env h1
theorem ss_if {p : Eb} {s t : Es} {th el : List Stmt} (hc : ST X W c p) (ha : SSs X W th s) (hb : SSs X W el t) : SS X W (.If c th el pos) (sIf p s t) :=
  ⟨ps_imp (ps_if hc.pt ha.ps hb.ps) fun D σ H ⟨env, m, h, sta, sl, out⟩ => rd_then (rl := rlB) sta sl out fun u h1 v H1 m1 g1 s1 r1 out1 => by
    cases r1
    cases u with
    | true => rw [if_pos rfl]; exact ⟨env, m1, h1, s1, sl.gr g1, out1⟩
    | false => rw [if_neg Bool.false_ne_true]; exact ⟨env, m1, h1, s1, sl.gr g1, out1⟩⟩
def sSet (i : Nat) (f : Ev) : Es := fun env h => (f env h).then_ env fun u h1 => .next (env.set i (some u)) h1
theorem ss_set (i : Nat) {x : Str} {pos' : Pos} (hN : X.N.Nodup) (he : SE X W e f) (hi : X.N[i]? = some x := by rfl) (hx : Loc X.env.scope x := by first | exact Or.inl rfl | exact Or.inr rfl) (hs : swapsWith e (some (.Name x pos')) pos.line X.env = pure false := by rfl)
    (hf : X.fn x = true ∨ X.env.scope.names.lookup x = some .local := by first | exact .inl rfl | exact .inr rfl | assumption) : SS X W (.Assign [.Name x pos'] e pos) (sSet i f) :=
  ⟨ps_imp (ps_set hN hi hx he.pe hs hf) fun D σ H ⟨env, m, h, sta, sl, out⟩ => rd_then sta sl out fun u h1 v H1 m1 g1 s1 r1 out1 =>
    (show ∀ σ' H' m', Gr H1 m1 H' m' → Sta X.K X.mg H' m' h1 → Sl X.K H' m' σ' (env.set i (some u)) → D.nx σ' H' from out1) _ H1 m1 (Gr.refl _ _) s1 ((sl.gr g1).set r1 i)⟩
end

/-! ### targets -/
abbrev Tg := U → Env' → Sto → Option Env'
abbrev Tgs := List U → Env' → Sto → Option Env'
/-- only the slots of ix change -/
def Only' (ix : List Nat) (σ σ' : L2.St) : Prop := σ'.length = σ.length ∧ ∀ j, j ∉ ix → σ'[j]? = σ[j]?
theorem Only'.refl (ix : List Nat) (σ : L2.St) : Only' ix σ σ := ⟨rfl, fun _ _ => rfl⟩
theorem Only'.trans {ix : List Nat} {σ σ1 σ2 : L2.St} (a : Only' ix σ σ1) (b : Only' ix σ1 σ2) : Only' ix σ σ2 := ⟨b.1.trans a.1, fun j hj => (b.2 j hj).trans (a.2 j hj)⟩
theorem Only'.mono {ix iy : List Nat} {σ σ1 : L2.St} (a : Only' ix σ σ1) (h : ∀ j ∈ ix, j ∈ iy) : Only' iy σ σ1 := ⟨a.1, fun j hj => a.2 j fun z => hj (h j z)⟩
def rdG (X : Cx) (ix : List Nat) (t : Tg) : TG := fun v σ H Q => ∃ u env m h, Sta X.K X.mg H m h ∧ Sl X.K H m σ env ∧ RU X.K H m v u ∧ ∃ env', t u env h = some env' ∧ ∀ σ', Sl X.K H m σ' env' → Only' ix σ σ' → Q σ' H
def rdGs (X : Cx) (ix : List Nat) (t : Tgs) : TGs := fun vs σ H Q => ∃ us env m h, Sta X.K X.mg H m h ∧ Sl X.K H m σ env ∧ RUs X.K H m vs us ∧ ∃ env', t us env h = some env' ∧ ∀ σ', Sl X.K H m σ' env' → Only' ix σ σ' → Q σ' H
structure SG (X : Cx) (tg : Expr) (ix : List Nat) (t : Tg) : Prop where
  pg : PG X tg (rdG X ix t)
structure SGs (X : Cx) (tg : List Expr) (ix : List Nat) (t : Tgs) : Prop where
  pg : PGs X tg (rdGs X ix t)
theorem pg_imp {X : Cx} {e : Expr} {t t' : TG} (h : PG X e t) (i : ∀ v σ H Q, t' v σ H Q → t v σ H Q) : PG X e t' := ⟨fun pins s σ H v u Q I r q => h.run pins s σ H v u Q I r (i v σ H Q q)⟩
theorem pgs_imp {X : Cx} {e : List Expr} {t t' : TGs} (h : PGs X e t) (i : ∀ v σ H Q, t' v σ H Q → t v σ H Q) : PGs X e t' := ⟨fun pins s σ H v u Q I r q => h.run pins s σ H v u Q I r (i v σ H Q q)⟩
theorem pg_or {X : Cx} {e : Expr} {t t' : TG} (h : PG X e t) (h' : PG X e t') : PG X e (fun v σ H Q => t v σ H Q ∨ t' v σ H Q) := ⟨fun pins s σ H v u Q I r q => by
  rcases q with q | q
  · exact h.run pins s σ H v u Q I r q
  · exact h'.run pins s σ H v u Q I r q⟩
def gN (i : Nat) : Tg := fun u env _ => some (env.set i (some u))
def gNil' : Tgs := fun us env _ => match us with
  | [] => some env
  | _ => none
def gCons' (t : Tg) (r : Tgs) : Tgs := fun us env h => match us with
  | u :: us => (match t u env h with
    | some env1 => r us env1 h
    | none => none)
  | [] => none
def itemsOf (h : Sto) (u : U) : Option (List U) := match tupOf u with
  | some xs => some (xs.map .d)
  | none => match listOf h u with
    | some xs => some (xs.map .d)
    | none => match u with
      | .tup us => some us
      | _ => none
def gTup' (n : Nat) (r : Tgs) : Tg := fun u env h => match itemsOf h u with
  | some us => if us.length = n then r us env h else none
  | none => none
theorem RDs.rus {K : PySem.W.Frag} {H : Hp} {m : List Addr} : ∀ {ds : List D} {vs : List V}, RDs K H vs ds → RUs K H m vs (ds.map .d)
  | [], _, h => by cases h; exact .nil
  | _ :: _, _, h => by cases h with | cons a b => exact .cons (.d a) (RDs.rus b)
theorem itemsOf_v {K : PySem.W.Frag} {mg : Str → Option Value} {H : Hp} {m : List Addr} {h : Sto} {v : V} {u : U} {us : List U} (s : Sta K mg H m h) (e : itemsOf h u = some us) (r : RU K H m v u) : ∃ a vs, v = .ref a ∧ (SqT K H a vs ∨ SqL K H a vs) ∧ RUs K H m vs us := by
  unfold itemsOf at e
  split at e
  · rename_i ys ey
    cases e
    obtain ⟨p, ws, rfl, t1, d1⟩ := tupOf_v ey r
    exact ⟨p, ws, rfl, .inl t1, d1.rus⟩
  · split at e
    · rename_i ys ey
      cases e
      obtain ⟨p, ws, rfl, t1, d1⟩ := listOf_v s ey r
      exact ⟨p, ws, rfl, .inr t1, d1.rus⟩
    · split at e
      · cases e
        cases r with
        | tup t b => exact ⟨_, _, rfl, .inl t, b⟩
      · cases e
section
variable {X : Cx} {W : WX} {e : Expr} {es : List Expr} {pos : Pos} {f : Ev} {ix iy : List Nat} {t : Tg} {ts : Tgs}
theorem sg_name (i : Nat) {x : Str} (hN : X.N.Nodup) (hi : X.N[i]? = some x := by rfl) (hx : Loc X.env.scope x := by first | exact Or.inl rfl | exact Or.inr rfl) (hf : X.fn x = true ∨ X.env.scope.names.lookup x = some .local := by first | exact .inl rfl | exact .inr rfl | assumption) : SG X (.Name x pos) [i] (gN i) :=
  ⟨pg_imp (pg_name hN hi hx hf) fun v σ H Q ⟨u, env, m, h, sta, sl, r, env', e, q⟩ => by
    cases e
    exact q _ (sl.set r i) ⟨by simp, fun j hj => List.getElem?_set_ne fun z => hj (by rw [z]; exact List.mem_singleton.mpr rfl)⟩⟩
theorem sgs_nil : SGs X [] [] gNil' :=
  ⟨pgs_imp pgs_nil fun vs σ H Q ⟨us, env, m, h, sta, sl, r, env', e, q⟩ => by
    unfold gNil' at e
    split at e
    · cases e
      cases r
      exact ⟨rfl, q σ sl (Only'.refl _ _)⟩
    · cases e⟩
theorem sgs_cons (h1 : SG X e ix t) (h2 : SGs X es iy ts) (hs : (assignEach (e :: es) X.env).map (·.2) = assign e X.env :: (assignEach es X.env).map (·.2) := by rfl) : SGs X (e :: es) (ix ++ iy) (gCons' t ts) :=
  ⟨pgs_imp (pgs_cons h1.pg h2.pg hs) fun vs σ H Q ⟨us, env, m, h, sta, sl, r, env', e, q⟩ => by
    unfold gCons' at e
    split at e
    · rename_i us u us'
      split at e
      · rename_i env1 e1
        cases r with
        | cons ra rb =>
          exact ⟨_, _, rfl, u, env, m, h, sta, sl, ra, env1, e1, fun σ1 sl1 o1 => ⟨us', env1, m, h, sta, sl1, rb, env', e, fun σ2 sl2 o2 => q σ2 sl2 ((o1.mono fun j hj => List.mem_append_left _ hj).trans (o2.mono fun j hj => List.mem_append_right _ hj))⟩⟩
      · cases e
    · cases e⟩
theorem sg_tup {k n : Nat} (hc : X.calm = true) (h : SGs X es ix ts) (hn : (assignEach es X.env).length = n := by rfl) (hst : (assignEach es X.env).findIdx? (·.1) = none := by rfl) : SG X (.Tuple es k pos) ix (gTup' n ts) :=
  ⟨pg_imp (pg_or (pg_tup hc h.pg hn hst) (pg_unl hc h.pg hn hst)) fun v σ H Q ⟨u, env, m, hh, sta, sl, r, env', e, q⟩ => by
    unfold gTup' at e
    split at e
    · rename_i us eu
      split at e
      · rename_i hl
        obtain ⟨p, vs, rfl, t1, r1⟩ := itemsOf_v sta eu r
        have hvs : vs.length = n := (RUs.len r1).trans hl
        rcases t1 with t1 | t1
        · exact .inl ⟨p, vs, rfl, t1, hvs, us, env, m, hh, sta, sl, r1, env', e, q⟩
        · exact .inr ⟨p, vs, rfl, t1, hvs, us, env, m, hh, sta, sl, r1, env', e, q⟩
      · cases e
    · cases e⟩
/-- target = e -/
def sAsg (t : Tg) (f : Ev) : Es := fun env h => (f env h).then_ env fun u h1 => match t u env h1 with
  | some env' => .next env' h1
  | none => .stuck
theorem ss_asg {tg : Expr} (he : SE X W e f) (hg : SG X tg ix t) (hs : swapsWithSole [tg] e pos.line X.env = pure false := by rfl) (hw : swappedStores [tg] e X.env = pure none := by rfl)
    (h1 : (assignEach [tg] X.env).map (·.2) = [assign tg X.env] := by rfl) : SS X W (.Assign [tg] e pos) (sAsg t f) :=
  ⟨ps_imp (ps_asg he.pe hg.pg hs hw h1) fun D σ H ⟨env, m, h, sta, sl, out⟩ => rd_then sta sl out fun u h1 v H1 m1 g1 s1 r1 out1 => by
    split at out1
    · rename_i env' e'
      exact ⟨u, env, m1, h1, s1, sl.gr g1, r1, env', e', fun σ' sl' _ => (show ∀ σ' H' m', Gr H1 m1 H' m' → Sta X.K X.mg H' m' h1 → Sl X.K H' m' σ' env' → D.nx σ' H' from out1) σ' H1 m1 (Gr.refl _ _) s1 sl'⟩
    · exact out1.elim⟩
end

/-! ### loops -/
/-- J walks the things us, whatever comes -/
def Wlk (K : PySem.W.Frag) (J : It) (H : Hp) (m : List Addr) (us : List U) : Prop := ∀ H' m', Kp H H' → (∃ e, m' = m ++ e) →
  (∀ i, us.length ≤ i → J.stop i H') ∧ ∀ (i : Nat) u, us[i]? = some u → J.go i H' ∧ ∀ x H'', J.yld i H' x H'' → Same H' H'' ∧ RU K H'' m' x u
theorem Wlk.gr {K : PySem.W.Frag} {J : It} {H H1 : Hp} {m m1 : List Addr} {us : List U} (w : Wlk K J H m us) (k : Kp H H1) (p : ∃ e, m1 = m ++ e) : Wlk K J H1 m1 us := fun H' m' k' p' => w H' m' (k.trans k') (by
  obtain ⟨e, rfl⟩ := p
  obtain ⟨e', rfl⟩ := p'
  exact ⟨e ++ e', by rw [List.append_assoc]⟩)
def rlJ (K : PySem.W.Frag) : Hp → List Addr → It → List U → Prop := fun H m J us => Wlk K J H m us
structure SI (X : Cx) (W : WX) (tg iter : Expr) (f : Ea) : Prop where
  pi : PI X tg iter (rd X W (rlJ X.K) f)
theorem pi_imp {X : Cx} {tg e : Expr} {t t' : TI} (h : PI X tg e t) (i : ∀ σ H Q, t' σ H Q → t σ H Q) : PI X tg e t' := ⟨fun pins s σ H Q I q => h.run pins s σ H Q I (i σ H Q q)⟩
theorem pi_or {X : Cx} {tg e : Expr} {t t' : TI} (h : PI X tg e t) (h' : PI X tg e t') : PI X tg e (fun σ H Q => t σ H Q ∨ t' σ H Q) := ⟨fun pins s σ H Q I q => by
  rcases q with q | q
  · exact h.run pins s σ H Q I q
  · exact h'.run pins s σ H Q I q⟩
def iRange (n : Nat) (lo : Int) : List U := (List.range n).map fun (i : Nat) => .d (.int (lo + (i : Int)))
noncomputable def rngOk (i : Int) : Bool := ask (-(2 ^ 62) ≤ i ∧ i < 2 ^ 62)
noncomputable def iR1 (fa : Ea) : Ea := fun env h => (fa env h).bind fun us h1 => match us with
  | [u] => (match intOf u with
    | some j => if rngOk j then .ok (iRange j.toNat 0) h1 else .stuck
    | none => .stuck)
  | _ => .stuck
noncomputable def iR2 (fa : Ea) : Ea := fun env h => (fa env h).bind fun us h1 => match us with
  | [u, w] => (match intOf u, intOf w with
    | some i, some j => if rngOk i && rngOk j then .ok (iRange (j - i).toNat i) h1 else .stuck
    | _, _ => .stuck)
  | _ => .stuck
theorem wlk_range {K : PySem.W.Frag} {lo : Int} {n : Nat} {H : Hp} {m : List Addr} : Wlk K (Itr lo n) H m (iRange n lo) := fun H' m' _ _ => by
  have hl : (iRange n lo).length = n := by unfold iRange; simp
  refine ⟨fun i hi => by rw [hl] at hi; exact hi, fun i u e => ?_⟩
  have hi : i < n := by rw [← hl]; exact (List.getElem?_eq_some_iff.mp e).1
  refine ⟨hi, fun x H'' y => ?_⟩
  obtain ⟨rfl, rfl⟩ := y
  unfold iRange at e
  rw [List.getElem?_map, List.getElem?_range hi] at e
  cases e
  exact ⟨Same.refl _, .d (.int _)⟩
/-- a tuple or a frozen list, walked -/
def iSeq (f : Ev) : Ea := fun env h => (f env h).bind fun u h1 => match u with
  | .d (.tuple xs) => .ok (xs.map .d) h1
  | .d (.list xs) => .ok (xs.map .d) h1
  | .tup us => .ok us h1
  | _ => .stuck
section
variable {X : Cx} {W : WX} {tg a b l : Expr} {fa : Ea} {f : Ev} {p pos : Pos}
theorem si_range1 (hg : Gl X "range") (hm : X.mg "range" = none) (ha : SA X W [a] fa) (hs : starEach [a] X.env = [(false, eval a X.env)] := by rfl) : SI X W tg (.Call (.Name "range" p) [a] [] pos) (iR1 fa) :=
  ⟨pi_imp (pi_range1 hg hm ha.pa hs) fun σ H R ⟨env, m, h, sta, sl, out⟩ => rd_of sta sl out fun us h1 vs H1 m1 g1 s1 r1 out1 => by
    split at out1
    · split at out1
      · rename_i j e
        split at out1
        · rename_i hj
          have hj := ask_iff.mp hj
          cases r1 with
          | cons ra rb =>
            cases rb
            exact ⟨j, by rw [intOf_v e ra], hj.1, hj.2, Out.here (b := Itr 0 j.toNat) out1 s1 wlk_range⟩
        · exact out1.elim
      · exact out1.elim
    · exact out1.elim⟩
theorem si_range2 (hg : Gl X "range") (hm : X.mg "range" = none) (ha : SA X W [a, b] fa) (hs : starEach [a, b] X.env = [(false, eval a X.env), (false, eval b X.env)] := by rfl) (hs2 : starEach [b] X.env = [(false, eval b X.env)] := by rfl) : SI X W tg (.Call (.Name "range" p) [a, b] [] pos) (iR2 fa) :=
  ⟨pi_imp (pi_range2 hg hm ha.pa hs hs2) fun σ H R ⟨env, m, h, sta, sl, out⟩ => rd_of sta sl out fun us h1 vs H1 m1 g1 s1 r1 out1 => by
    split at out1
    · split at out1
      · rename_i i j e1 e2
        split at out1
        · rename_i hj
          have hj : (-(2 ^ 62) ≤ i ∧ i < 2 ^ 62) ∧ -(2 ^ 62) ≤ j ∧ j < 2 ^ 62 := ⟨ask_iff.mp (Bool.and_eq_true_iff.mp hj).1, ask_iff.mp (Bool.and_eq_true_iff.mp hj).2⟩
          cases r1 with
          | cons ra rb =>
            cases rb with
            | cons rb rc =>
              cases rc
              exact ⟨i, j, by rw [intOf_v e1 ra, intOf_v e2 rb], ⟨hj.1.1, hj.1.2, hj.2.1, hj.2.2⟩, Out.here (b := Itr i (j - i).toNat) out1 s1 wlk_range⟩
        · exact out1.elim
      · exact out1.elim
    · exact out1.elim⟩
theorem wlk_lst {K : PySem.W.Frag} {q : Addr} {vs : List V} {us : List U} {H : Hp} {m : List Addr} (t : FzL K H q vs) (r : RUs K H m vs us) : Wlk K (Itl K q) H m us := fun H' m' k pre => by
  have t' := (k.fzL t).sq
  refine ⟨fun i hi => ⟨vs, t', by rw [RUs.len r]; exact hi⟩, fun i u e => ?_⟩
  obtain ⟨v, e1, rv⟩ := RUs.get r e
  refine ⟨⟨vs, v, t', e1⟩, fun x H'' y => ?_⟩
  obtain ⟨rfl, y⟩ := y
  have e2 := y vs t'
  rw [e1] at e2
  cases e2
  exact ⟨Same.refl _, RU.kp k pre _ _ rv⟩
theorem wlk_tup' {K : PySem.W.Frag} {q : Addr} {vs : List V} {us : List U} {H : Hp} {m : List Addr} (t : SqT K H q vs) (r : RUs K H m vs us) : Wlk K (Itt K q) H m us := fun H' m' k pre => by
  have t' := k.sqT t
  refine ⟨fun i hi => ⟨vs, t', by rw [RUs.len r]; exact hi⟩, fun i u e => ?_⟩
  obtain ⟨v, e1, rv⟩ := RUs.get r e
  refine ⟨⟨vs, v, t', e1⟩, fun x H'' y => ?_⟩
  obtain ⟨rfl, y⟩ := y
  have e2 := y vs t'
  rw [e1] at e2
  cases e2
  exact ⟨Same.refl _, RU.kp k pre _ _ rv⟩
theorem si_seq (hl : SE X W l f) : SI X W tg l (iSeq f) :=
  ⟨pi_imp (pi_or (pi_tup hl.pe) (pi_list hl.pe)) fun σ H R ⟨env, m, h, sta, sl, out⟩ => by
    have key : ∀ (Q : VK), (∀ u h1 v H1 m1, Gr H m H1 m1 → Sta X.K X.mg H1 m1 h1 → RU X.K H1 m1 v u → Out X W (rlJ X.K) σ H1 m1 (match u with | .d (.tuple xs) => .ok (xs.map .d) h1 | .d (.list xs) => .ok (xs.map .d) h1 | .tup us => .ok us h1 | _ => .stuck) R → f env h = .ok u h1 → Q v H1) → rd X W (rlU X.K) f σ H Q := fun Q nx => by
      refine ⟨env, m, h, sta, sl, ?_⟩
      unfold iSeq at out
      generalize hq : f env h = q at out
      cases q with
      | ok u h1 => exact fun v H1 m1 g s r => nx u h1 v H1 m1 g s r (Out.gr out g) hq
      | exc c h1 => exact out
      | stuck => exact out
    by_cases hq : ∃ xs h1, f env h = .ok (.d (.list xs)) h1
    · obtain ⟨ys, h2, hq⟩ := hq
      refine .inr (key _ fun u h1 v H1 m1 g1 s1 r1 out1 e => ?_)
      rw [hq] at e
      cases e
      cases r1.rd with
      | lst t d => exact ⟨_, rfl, ⟨_, t.sq⟩, Out.here (b := Itl X.K _) out1 s1 (wlk_lst t d.rus)⟩
    · refine .inl (key _ fun u h1 v H1 m1 g1 s1 r1 out1 e => ?_)
      split at out1
      · cases r1.rd with
        | tup t d => exact ⟨_, rfl, ⟨_, t⟩, Out.here (b := Itt X.K _) out1 s1 (wlk_tup' t d.rus)⟩
      · exact absurd ⟨_, _, e⟩ hq
      · cases r1 with
        | tup t d => exact ⟨_, rfl, ⟨_, t⟩, Out.here (b := Itt X.K _) out1 s1 (wlk_tup' t d)⟩
      · exact out1.elim⟩
end
def forGo (t : Tg) (b : Es) : List U → Es
  | [], env, h => .next env h
  | u :: us, env, h => match t u env h with
    | some env1 => (b env1 h).seq (forGo t b us)
    | none => .stuck
def sFor (it : Ea) (t : Tg) (b : Es) : Es := fun env h => (it env h).then_ env fun us h1 => forGo t b us env h1
def whileGo (c : Eb) (b : Es) : Nat → Es
  | 0, _, _ => .stuck
  | n + 1, env, h => (c env h).then_ env fun k h1 => match k with
    | true => (b env h1).seq (whileGo c b n)
    | false => .next env h1
def sWhile (n : Nat) (c : Eb) (b : Es) : Es := whileGo c b n
section
variable {X : Cx} {W : WX} {tg iter c : Expr} {body : List Stmt} {it : Ea} {ix : List Nat} {t : Tg} {b : Es} {p : Eb} {pos : Pos}
theorem ss_for (hp : PassesOwn (model X.prog X.w) X.A X.env X.xe) (hc : X.calm = true) (hi : SI X W tg iter it) (hg : SG X tg ix t) (hb : SSs X W body b)
    (hs : ∀ x, foldedSetIterable iter X.env x = pure x := by intro _; rfl) : SS X W (.For tg iter body [] pos) (sFor it t b) :=
  ⟨ps_imp (ps_for hp hc hi.pi hg.pg hb.ps hs) fun D σ H ⟨env, m, h, sta, sl, out⟩ => rd_then sta sl out fun us h1 J H1 m1 g1 s1 w1 out1 => by
    refine ⟨fun i k σ' H' => k = us.length - i ∧ i ≤ us.length ∧ ∃ env m h, Sta X.K X.mg H' m h ∧ Sl X.K H' m σ' env ∧ Wlk X.K J H' m us ∧ OutS X W D H' m (forGo t b (us.drop i) env h), ⟨us.length, by simp, Nat.zero_le _, env, m1, h1, s1, sl.gr g1, w1, by simpa using out1⟩, ?_⟩
    rintro i k σ2 H2 ⟨rfl, hi2, env2, m2, h2, s2, l2, w2, o2⟩
    obtain ⟨wst, wgo⟩ := w2 H2 m2 (Kp.refl _) ⟨[], by simp⟩
    by_cases hlt : i < us.length
    · have eu : us[i]? = some us[i] := List.getElem?_eq_getElem hlt
      have ed : us.drop i = us[i] :: us.drop (i + 1) := List.drop_eq_getElem_cons hlt
      obtain ⟨go, gy⟩ := wgo i _ eu
      rw [ed] at o2
      have o3 : OutS X W D H2 m2 (match t us[i] env2 h2 with | some env1 => (b env1 h2).seq (forGo t b (us.drop (i + 1))) | none => .stuck) := o2
      cases et : t us[i] env2 h2 with
      | none => rw [et] at o3; exact o3.elim
      | some env3 =>
        rw [et] at o3
        refine .inr ⟨go, fun σ' H' => us.length - (i + 1) < us.length - i ∧ i + 1 ≤ us.length ∧ ∃ env m h, Sta X.K X.mg H' m h ∧ Sl X.K H' m σ' env ∧ Wlk X.K J H' m us ∧ OutS X W D H' m (forGo t b (us.drop (i + 1)) env h), fun σ' H' ⟨n1, n2, n3⟩ => ⟨us.length - (i + 1), n1, rfl, n2, n3⟩, fun x H3 y => ?_⟩
        obtain ⟨sm, rx⟩ := gy x H3 y
        have gg := Gr.of_same sm m2
        refine ⟨us[i], env2, m2, h2, s2.same sm, l2.gr gg, rx, env3, et, fun σ3 l3 _ => ⟨env3, m2, h2, s2.same sm, l3, ?_⟩⟩
        have o4 : OutS X W D H3 m2 ((b env3 h2).seq (forGo t b (us.drop (i + 1)))) := OutS.gr o3 gg
        revert o4
        generalize b env3 h2 = q
        intro o4
        cases q with
        | next env4 h4 => exact fun σ4 H4 m4 g4 s4 l4 => ⟨by omega, hlt, env4, m4, h4, s4, l4, w2.gr (gg.trans g4).kp (gg.trans g4).pre, OutS.gr o4 g4⟩
        | ret u h4 => exact o4
        | exc c env4 h4 => exact o4
        | stuck => exact o4
    · have e : i = us.length := by omega
      subst e
      rw [List.drop_length] at o2
      exact .inl ⟨wst _ (Nat.le_refl _), (show ∀ σ' H' m', Gr H2 m2 H' m' → Sta X.K X.mg H' m' h2 → Sl X.K H' m' σ' env2 → D.nx σ' H' from o2) σ2 H2 m2 (Gr.refl _ _) s2 l2⟩⟩
theorem ss_while (n : Nat) (hp : PassesOwn (model X.prog X.w) X.A X.env X.xe) (hc : ST X W c p) (hb : SSs X W body b) : SS X W (.While c body [] pos) (sWhile n p b) :=
  ⟨ps_imp (ps_while hp hc.pt hb.ps) fun D σ H ⟨env, m, h, sta, sl, out⟩ => by
    refine ⟨fun k σ' H' => ∃ env m h, Sta X.K X.mg H' m h ∧ Sl X.K H' m σ' env ∧ OutS X W D H' m (whileGo p b k env h), ⟨n, env, m, h, sta, sl, out⟩, ?_⟩
    rintro k σ2 H2 ⟨env2, m2, h2, s2, l2, o2⟩
    cases k with
    | zero => exact o2.elim
    | succ k =>
      refine rd_then (rl := rlB) s2 l2 o2 fun u h3 v H3 m3 g3 s3 r3 o3 => ?_
      cases r3
      cases u with
      | false =>
        rw [if_neg Bool.false_ne_true]
        exact (show ∀ σ' H' m', Gr H3 m3 H' m' → Sta X.K X.mg H' m' h3 → Sl X.K H' m' σ' env2 → D.nx σ' H' from o3) σ2 H3 m3 (Gr.refl _ _) s3 (l2.gr g3)
      | true =>
        rw [if_pos rfl]
        refine ⟨fun σ' H' => ∃ env m h, Sta X.K X.mg H' m h ∧ Sl X.K H' m σ' env ∧ OutS X W D H' m (whileGo p b k env h), fun σ' H' q => ⟨k, Nat.lt_succ_self _, q⟩, env2, m3, h3, s3, l2.gr g3, ?_⟩
        revert o3
        dsimp only
        generalize b env2 h3 = q
        intro o4
        cases q with
        | next env4 h4 => exact fun σ4 H4 m4 g4 s4 l4 => ⟨env4, m4, h4, s4, l4, OutS.gr o4 g4⟩
        | ret u h4 => exact o4
        | exc c env4 h4 => exact o4
        | stuck => exact o4⟩
end
end Wk

/-! T5: methods of lists, slices, comprehensions, defs, the end. -/
namespace Wk
open PySem PySem.Spec PyProof.Rows L2

/-! ### methods of lists -/
def eMl (F : U → List U → Sto → Res U) (f : Ev) (fa : Ea) : Ev := fun env h => (f env h).bind fun u h1 => match listOf h1 u with
  | some _ => (fa env h1).bind fun us h2 => F u us h2
  | none => .stuck
noncomputable def fApp (u : U) (us : List U) (h : Sto) : Res U := match u, us with
  | .ref n, [.d x] => (match h[n]? with
    | some (.lst xs) => if fits (xs.length + 1) then .ok (.d .none) (h.set n (.lst (xs ++ [x]))) else .stuck
    | _ => .stuck)
  | _, _ => .stuck
def fPop (u : U) (us : List U) (h : Sto) : Res U := match u, us with
  | .ref n, [] => (match h[n]? with
    | some (.lst xs) => (match xs[xs.length - 1]? with
      | some y => .ok (.d y) (h.set n (.lst xs.dropLast))
      | none => .stuck)
    | _ => .stuck)
  | _, _ => .stuck
def fClear (u : U) (us : List U) (h : Sto) : Res U := match u, us with
  | .ref n, [] => (match h[n]? with
    | some (.lst xs) => .ok (.d .none) (h.set n (.lst []))
    | _ => .stuck)
  | _, _ => .stuck
def AbM (X : Cx) (W : WX) (F : U → List U → Sto → Res U) (r : V → List V → Hp → VK → Prop) : Prop := ∀ (σ : L2.St) (H : Hp) (m : List Addr) (h : Sto) (x : V) (xs : List V) (u : U) (us : List U) (Q : VK), Sta X.K X.mg H m h → RU X.K H m x u → RUs X.K H m xs us → Out X W (rlU X.K) σ H m (F u us h) Q → r x xs H Q
section
variable {X : Cx} {W : WX} {o e : Expr} {es : List Expr} {f : Ev} {fa : Ea} {name : Str} {apos cpos : Pos} {id : String} {r : V → List V → Hp → VK → Prop} {F : U → List U → Sto → Res U}
theorem tyV_list {K : PySem.W.Frag} {H : Hp} {a : Addr} {vs : List V} (h : SqL K H a vs) : tyV K "list" (.ref a) H := Or.inl ⟨rfl, vs, h⟩
theorem se_ml (slot : Slot "list" name id) (hty : typeOf (.builtin id) = pure (.type "method_descriptor")) (hm : MtR X id r) (ab : AbM X W F r) (ho : SE X W o f) (ha : SA X W (e :: es) fa)
    (hbase : attributeBase o name X.env (eval o X.env) = eval o X.env := by rfl)
    (hfew : ((backTo cpos (starEach (e :: es) X.env)).all (fun x => !x.1) && (backToKw cpos (keywordEach [] X.env)).all (fun x => x.1.isSome)
      && decide ((e :: es).length + ([] : List Keyword).length + (if ([] : List Keyword).isEmpty then 0 else 1) < 30)) = true := by rfl)
    (hline : (apos.endLine == cpos.line) = true := by rfl) (hs : starEach (e :: es) X.env = (false, eval e X.env) :: starEach es X.env := by rfl) (hplain : (backTo cpos (starEach es X.env)).any (·.1) = false := by rfl) :
    SE X W (.Call (.Attribute o name apos) (e :: es) [] cpos) (eMl F f fa) :=
  ⟨pe_imp (pe_bm PySem.F.plainAttrs_list slot hty hm ho.pe ha.pa hbase hfew hline hs hplain) fun σ H Q ⟨env, m, h, sta, sl, out⟩ => rd_of sta sl out fun u h1 x H1 m1 g1 s1 r1 out1 => by
    split at out1
    · rename_i ys ey
      obtain ⟨p, ws, rfl, t1, d1⟩ := listOf_v s1 ey r1
      exact ⟨tyV_list t1, rd_of s1 (sl.gr g1) out1 fun us h2 xs H2 m2 g2 s2 r2 out2 => ab σ H2 m2 h2 _ xs u us Q s2 (RU.kp g2.kp g2.pre _ _ r1) r2 out2⟩
    · exact out1.elim⟩
theorem se_ml0 (slot : Slot "list" name id) (hty : typeOf (.builtin id) = pure (.type "method_descriptor")) (hm : MtR X id r) (ab : AbM X W F r) (ho : SE X W o f)
    (hbase : attributeBase o name X.env (eval o X.env) = eval o X.env := by rfl) (hline : (apos.endLine == cpos.line) = true := by rfl) : SE X W (.Call (.Attribute o name apos) [] [] cpos) (eMl F f aNil) :=
  ⟨pe_imp (pe_bm0 PySem.F.plainAttrs_list slot hty hm ho.pe hbase hline) fun σ H Q ⟨env, m, h, sta, sl, out⟩ => rd_of sta sl out fun u h1 x H1 m1 g1 s1 r1 out1 => by
    split at out1
    · rename_i ys ey
      obtain ⟨p, ws, rfl, t1, d1⟩ := listOf_v s1 ey r1
      exact ⟨tyV_list t1, ab σ H1 m1 h1 _ [] u [] Q s1 r1 .nil out1⟩
    · exact out1.elim⟩
theorem ab_app : AbM X W fApp rAppend := by
  intro σ H m h x xs u us Q s ru rus out
  unfold fApp at out
  split at out
  · split at out
    · rename_i n x h' ds ed
      split at out
      · rename_i hz
        cases ru with
        | ref hm =>
          rename_i a
          cases rus with
          | cons rx rn =>
            cases rn
            obtain ⟨vs, k1, k2⟩ := s.obj _ _ _ hm ed
            refine ⟨a, vs, _, rfl, rfl, k1, by rw [k2.len]; exact ask_iff.mp hz, ?_⟩
            refine Out.ok (b := V.non) out (Gr.write (List.mem_of_getElem? hm) k1 trivial) (s.write hm k1 trivial ⟨_, upd_same, ?_⟩) (.d .non)
            exact (RDs.kp (mut_kp k1 trivial) _ _ k2).app (.one (RD.kp (mut_kp k1 trivial) _ _ rx.rd))
      · exact out.elim
    · exact out.elim
  · exact out.elim
theorem ab_pop : AbM X W fPop rPop := by
  intro σ H m h x xs u us Q s ru rus out
  unfold fPop at out
  split at out
  · split at out
    · rename_i n h' ds ed
      split at out
      · rename_i y ey
        cases ru with
        | ref hm =>
          rename_i a
          cases rus
          obtain ⟨vs, k1, k2⟩ := s.obj _ _ _ hm ed
          obtain ⟨v, e1, e2⟩ := k2.get ey
          have kp := mut_kp (y := HO.lst vs.dropLast) k1 trivial
          refine ⟨a, vs, v, rfl, rfl, k1, by rw [k2.len]; exact e1, ?_⟩
          exact Out.ok (b := v) out (Gr.write (List.mem_of_getElem? hm) k1 trivial) (s.write hm k1 trivial ⟨_, upd_same, (RDs.kp kp _ _ k2).dropLast⟩) (.d (RD.kp kp _ _ e2))
      · exact out.elim
    · exact out.elim
  · exact out.elim
theorem ab_clear : AbM X W fClear rClear := by
  intro σ H m h x xs u us Q s ru rus out
  unfold fClear at out
  split at out
  · split at out
    · rename_i n h' ds ed
      cases ru with
      | ref hm =>
        rename_i a
        cases rus
        obtain ⟨vs, k1, k2⟩ := s.obj _ _ _ hm ed
        exact ⟨a, vs, rfl, rfl, k1, Out.ok (b := V.non) out (Gr.write (List.mem_of_getElem? hm) k1 trivial) (s.write hm k1 trivial ⟨_, upd_same, .nil⟩) (.d .non)⟩
    · exact out.elim
  · exact out.elim
end

/-! ### a[i] = e, a a list of the store -/
def setIx (u w z : U) (h : Sto) : Option Sto := match u, intOf w, z with
  | .ref n, some i, .d x => (match h[n]? with
    | some (.lst xs) => (match ixN xs.length i with
      | some j => some (h.set n (.lst (xs.set j x)))
      | none => none)
    | _ => none)
  | _, _, _ => none
def sSetIx (f o i : Ev) : Es := fun env h => (f env h).then_ env fun z h1 => (o env h1).then_ env fun u h2 => (i env h2).then_ env fun w h3 => match setIx u w z h3 with
  | some h4 => .next env h4
  | none => .stuck
section
variable {X : Cx} {W : WX} {o i e : Expr} {f fo fi : Ev} {pos p2 : Pos}
theorem ss_setIx (he : SE X W e f) (ho : SE X W o fo) (hi : SE X W i fi) (hs : swapsWithSole [.Subscript o i p2] e pos.line X.env = pure false := by rfl) (hw : swappedStores [.Subscript o i p2] e X.env = pure none := by rfl)
    (h1 : (assignEach [.Subscript o i p2] X.env).map (·.2) = [assign (.Subscript o i p2) X.env] := by rfl)
    (ha : ∀ v, assign (.Subscript o i p2) X.env v = (do
      let ov ← holding [v] (eval o X.env)
      let iv ← holding [v, ov] (eval i X.env)
      standAt p2
      holding [v, ov, iv] (setItem ov iv v)
      release [v, ov, iv] []) := by intro _; rfl) : SS X W (.Assign [.Subscript o i p2] e pos) (sSetIx f fo fi) :=
  ⟨ps_imp (ps_asg he.pe (pg_sub ho.pe hi.pe set_list ha) hs hw h1) fun D σ H ⟨env, m, h, sta, sl, out⟩ => rd_then sta sl out fun z h1 vz H1 m1 g1 s1 r1 out1 =>
    rd_then s1 (sl.gr g1) out1 fun u h2 vu H2 m2 g2 s2 r2 out2 => rd_then s2 ((sl.gr g1).gr g2) out2 fun w h3 vw H3 m3 g3 s3 r3 out3 => by
      have rz := RU.kp (g2.trans g3).kp (g2.trans g3).pre _ _ r1
      have ru := RU.kp g3.kp g3.pre _ _ r2
      cases eq : setIx u w z h3 with
      | none => rw [eq] at out3; exact out3.elim
      | some h4 =>
        rw [eq] at out3
        unfold setIx at eq
        split at eq
        · rename_i n i' x ei
          split at eq
          · rename_i xs ex
            split at eq
            · rename_i j ej
              cases eq
              cases ru with
              | ref hm =>
                rename_i a
                obtain ⟨vs, k1, k2⟩ := s3.obj _ _ _ hm ex
                have kp := mut_kp (y := HO.lst (vs.set j vz)) k1 trivial
                refine ⟨a, vs, i', j, rfl, intOf_v ei r3, k1, by rw [k2.len]; exact ej, ?_⟩
                exact (show ∀ σ' H' m', Gr H3 m3 H' m' → Sta X.K X.mg H' m' _ → Sl X.K H' m' σ' env → D.nx σ' H' from out3) σ _ m3 (Gr.write (List.mem_of_getElem? hm) k1 trivial)
                  (s3.write hm k1 trivial ⟨_, upd_same, RDs.set (RD.kp kp _ _ rz.rd) j (RDs.kp kp _ _ k2)⟩) ((((sl.gr g1).gr g2).gr g3).gr (Gr.write (List.mem_of_getElem? hm) k1 trivial))
            · cases eq
          · cases eq
        · cases eq⟩
end

/-! ### slices -/
def cutD {α : Type} (xs : List α) (lo hi : Option Int) : List α := (xs.drop (HT.sIx xs.length 0 lo)).take (HT.sIx xs.length xs.length hi - HT.sIx xs.length 0 lo)
abbrev Eo := Env' → Sto → Res (Option Int)
def oNo : Eo := fun _ h => .ok none h
def oSo (f : Ev) : Eo := fun env h => (f env h).bind fun u h1 => match intOf u with
  | some i => .ok (some i) h1
  | none => .stuck
def rlO : Hp → List Addr → Option Int → Option Int → Prop := fun _ _ b c => b = c
structure SO (X : Cx) (W : WX) (e : Option Expr) (f : Eo) : Prop where
  po : PO X e (rd X W rlO f)
def opSl (b : Bool) (u : U) (lo hi : Option Int) (h : Sto) : Res U := match tupOf u with
  | some xs => .ok (.d (.tuple (cutD xs lo hi))) h
  | none => match listOf h u with
    | some xs => mkL b (cutD xs lo hi) h
    | none => .stuck
def eSl (b : Bool) (f : Ev) (lo hi : Eo) : Ev := fun env h => (f env h).bind fun u h1 => (lo env h1).bind fun l h2 => (hi env h2).bind fun r h3 => opSl b u l r h3
theorem gh_sl {X : Cx} {r : V → Option Int → Option Int → Hp → VK → Prop} {e : Expr} {te : TE} {tl th : TO} (h : PE X e (tSl r te tl th)) : PE X e (tSl (fun x lo hi H Q => r x lo hi H (gh Q)) te tl th) := pe_gh h
section
variable {X : Cx} {W : WX} {e : Expr} {lo hi : Option Expr} {f : Ev} {l r : Eo} {pos p2 : Pos}
theorem po_imp {e : Option Expr} {t t' : TO} (h : PO X e t) (i : ∀ σ H Q, t' σ H Q → t σ H Q) : PO X e t' := ⟨fun pins s σ H Q I q => h.run pins s σ H Q I (i σ H Q q)⟩
theorem so_no : SO X W none oNo := ⟨po_imp po_none fun σ H Q ⟨env, m, h, sta, sl, out⟩ => Out.here (b := (none : Option Int)) out sta rfl⟩
theorem so_so (h : SE X W e f) : SO X W (some e) (oSo f) := ⟨po_imp (po_some h.pe) fun σ H Q ⟨env, m, h, sta, sl, out⟩ => rd_of sta sl out fun u h1 x H1 m1 g1 s1 r1 out1 => by
  split at out1
  · rename_i i ei
    exact ⟨i, intOf_v ei r1, Out.here (b := some i) out1 s1 rfl⟩
  · exact out1.elim⟩
theorem RDs.cut {K : PySem.W.Frag} {H : Hp} {vs : List V} {ds : List D} (h : RDs K H vs ds) (lo hi : Option Int) : RDs K H (cutV vs lo hi) (cutD ds lo hi) := by
  unfold cutV cutD
  rw [h.len]
  exact (h.drop _).take _
theorem se_sl (b : Bool) (he : SE X W e f) (hl : SO X W lo l) (hu : SO X W hi r) : SE X W (.Subscript e (.Slice lo hi none p2) pos) (eSl b f l r) :=
  ⟨pe_imp (pe_gh (pe_slice (sl_tupA.or sl_list) he.pe hl.po hu.po)) fun σ H Q ⟨env, m, h, sta, sl, out⟩ => rd_of sta sl out fun u h1 x H1 m1 g1 s1 r1 out1 =>
    rd_of (rl2 := rlO) s1 (sl.gr g1) out1 fun i1 h2 i2 H2 m2 g2 s2 r2 out2 => rd_of (rl2 := rlO) s2 ((sl.gr g1).gr g2) out2 fun j1 h3 j2 H3 m3 g3 s3 r3 out3 => by
      cases r2
      cases r3
      have ru := RU.kp (g2.trans g3).kp (g2.trans g3).pre _ _ r1
      unfold opSl at out3
      split at out3
      · rename_i xs ex
        obtain ⟨p, vs, rfl, t1, d1⟩ := tupOf_v ex ru
        refine .inl ⟨p, vs, rfl, t1, fun hw => ?_, fun hw q nq => ?_⟩
        · have e1 : cutD xs i1 j1 = xs := by
            unfold cutD
            rw [← d1.len, hw.1, hw.2]
            simp [d1.len]
          rw [e1] at out3
          exact gh.no (Out.here (b := V.ref p) out3 s3 (.d (.tup t1 d1)))
        · have sm : Same H3 (upd H3 q (.tup (cutV vs i1 j1))) := Same.lay nq
          exact gh.no (Out.ok (b := V.ref q) out3 (Gr.of_same sm m3) (s3.same sm) (.d (.tup (.inl (.inl upd_same)) (RDs.kp (Kp.same sm) _ _ (d1.cut _ _)))))
      · split at out3
        · rename_i xs ex
          obtain ⟨p, vs, rfl, t1, d1⟩ := listOf_v s3 ex ru
          exact .inr ⟨p, vs, rfl, t1, fun q nq => mkL_ok s3 nq (d1.cut _ _) out3⟩
        · exact out3.elim⟩
end

/-! ### comprehensions -/
def wipeE (env : Env') : List Nat → Env'
  | [] => env
  | v :: vs => (wipeE env vs).set v none
noncomputable def lcGo (t : Tg) (c : Eb) (e : Ev) (env : Env') : List U → List D → Sto → Res (List D)
  | [], acc, h => .ok acc h
  | u :: us, acc, h => match t u env h with
    | some env1 => (c env1 h).bind fun k h1 => (match k with
      | true => (e env1 h1).bind fun w h2 => (match w with
        | .d x => if fits (acc.length + 1) then lcGo t c e env us (acc ++ [x]) h2 else .stuck
        | _ => .stuck)
      | false => lcGo t c e env us acc h1)
    | none => .stuck
def Res.noExc {α : Type} (r : Res α) : Res α := match r with
  | .ok x h => .ok x h
  | _ => .stuck
noncomputable def eLc (b : Bool) (vs : List Nat) (it : Ea) (t : Tg) (c : Eb) (e : Ev) : Ev := fun env h => (it env h).bind fun us h1 => (lcGo t c e (wipeE env vs) us [] h1).noExc.bind fun xs h2 => mkL b xs h2
def cYes : Eb := fun _ h => .ok true h
abbrev W0 : WX := fun _ _ _ _ => False
structure STs (X : Cx) (W : WX) (ifs : List Expr) (c : Eb) : Prop where
  pt : PTs X ifs (rd X W rlB c)
section
variable {K : PySem.W.Frag} {mg : Str → Option Value} {H H' : Hp} {m : List Addr} {h : Sto} {σ : L2.St} {env : Env'}
theorem Sl.wipe (s : Sl K H m σ env) : ∀ vs : List Nat, Sl K H m (wipe σ vs) (wipeE env vs)
  | [] => s
  | v :: vs => by
    have ih := Sl.wipe s vs
    unfold L2.wipe wipeE
    refine ⟨by simp [ih.1], fun j w e => ?_⟩
    by_cases hj : v = j
    · subst hj
      by_cases hv : v < (wipeE env vs).length
      · rw [List.getElem?_set_self hv] at e; cases e
      · rw [List.getElem?_eq_none (by simpa using hv)] at e; cases e
    · rw [List.getElem?_set_ne hj] at e
      obtain ⟨x, h1, h2⟩ := ih.2 j w e
      exact ⟨x, by rw [List.getElem?_set_ne hj]; exact h1, h2⟩
theorem wipe_at (σ : L2.St) : ∀ (vs : List Nat) (j : Nat), j ∈ vs → j < σ.length → (wipe σ vs)[j]? = some none
  | v :: vs, j, hj, hl => by
    unfold wipe
    by_cases e : v = j
    · subst e
      rw [List.getElem?_set_self (by rw [wipe_length]; exact hl)]
    · rw [List.getElem?_set_ne e]
      rcases List.mem_cons.mp hj with z | z
      · exact absurd z.symm e
      · exact wipe_at σ vs j z hl
theorem wipe_only {ix vs : List Nat} {σ σ' : L2.St} (o : Only' ix (wipe σ vs) σ') (sub : ∀ j ∈ ix, j ∈ vs) : wipe σ' vs = wipe σ vs := by
  have hl : σ'.length = σ.length := by rw [o.1, wipe_length]
  refine List.ext_getElem? fun j => ?_
  by_cases hj : j ∈ vs
  · by_cases hlt : j < σ.length
    · rw [wipe_at σ' vs j hj (by rw [hl]; exact hlt), wipe_at σ vs j hj hlt]
    · rw [List.getElem?_eq_none (by rw [wipe_length, hl]; omega), List.getElem?_eq_none (by rw [wipe_length]; omega)]
  · rw [wipe_out hj, o.2 j fun z => hj (sub j z)]
/-- a list that was made meanwhile -/
theorem mkL_ok2 {X : Cx} {W : WX} {σ : L2.St} {H0 H : Hp} {m0 m : List Addr} {h : Sto} {b : Bool} {xs : List D} {vs : List V} {p : Addr} {Q : VK} (g : Gr H0 m0 H m) (s : Sta X.K X.mg H m h) (n0 : H0 p = none) (n : p ∉ m) (hp : H p = some (.lst vs)) (r : RDs X.K H vs xs) (out : Out X W (rlU X.K) σ H0 m0 (mkL b xs h) Q) :
    gh Q (.ref p) H := by
  cases b with
  | true =>
    refine gh.no (Out.ok (b := V.ref p) (m' := m ++ [p]) out ⟨?_, fun a o e na => g.keep a o e na, fun a ha na => ?_, g.kp⟩ ⟨List.nodup_append.mpr ⟨s.nd, by simp, fun b hb c hc z => by rw [List.mem_singleton.mp hc] at z; rw [z] at hb; exact n hb⟩, by simp [s.len], fun j b ob h1 h2 => ?_⟩ ?_)
    · obtain ⟨e, rfl⟩ := g.pre
      exact ⟨e ++ [p], by rw [List.append_assoc]⟩
    · rcases List.mem_append.mp ha with z | z
      · exact g.fresh a z na
      · rw [List.mem_singleton.mp z]; exact n0
    · by_cases hj : j < m.length
      · rw [List.getElem?_append_left hj] at h1
        rw [List.getElem?_append_left (by rw [← s.len]; exact hj)] at h2
        exact (s.obj j b ob h1 h2).mono rfl (Kp.refl _) ⟨[p], rfl⟩
      · rw [List.getElem?_append_right (by omega)] at h1
        rw [List.getElem?_append_right (by rw [← s.len]; omega)] at h2
        have e1 : j - m.length = 0 := by
          have := (List.getElem?_eq_some_iff.mp h1).1
          simpa using this
        have e2 : j - h.length = 0 := by rw [← s.len]; exact e1
        rw [e1] at h1
        rw [e2] at h2
        simp at h1 h2
        rw [← h1, ← h2]
        exact ⟨vs, hp, r⟩
    · exact .ref (by rw [← s.len]; simp)
  | false =>
    refine ⟨[p], fun H2 f => ?_⟩
    have hm : ∀ a, a ≠ p → H2 a = H a := fun a na => by
      rcases f.alt a with z | ⟨z, _⟩
      · exact z
      · exact absurd (List.mem_singleton.mp z) na
    obtain ⟨o, ho⟩ := f.did p List.mem_cons_self vs hp
    refine Out.ok (b := V.ref p) (m' := m) out ⟨g.pre, fun a x q na => ?_, g.fresh, g.kp.trans f.kp⟩ ⟨s.nd, s.len, fun i a ob h1 h2 => ?_⟩ (.d (.lst (.inl ⟨o, ho⟩) (RDs.kp f.kp _ _ r)))
    · rw [hm a (ne_of_none q n0)]
      exact g.keep a x q na
    · exact (s.obj i a ob h1 h2).mono (hm a fun z => n (z ▸ List.mem_of_getElem? h1)) f.kp ⟨[], by simp⟩
end
section
variable {X : Cx} {W : WX} {elt tg iter : Expr} {ifs : List Expr} {scope : Scope} {own : List (Str × Nat)} {pos : Pos} {it : Ea} {ix : List Nat} {t : Tg} {c : Eb} {e : Ev}
theorem sts_nil : STs X W [] cYes := ⟨by
  refine ⟨fun pins s σ H Q I q => pts_nil.run pins s σ H Q I ?_⟩
  obtain ⟨env, m, h, sta, sl, out⟩ := q
  exact Out.here (b := true) out sta rfl⟩
theorem sts_one {a : Expr} (h : ST X W a c) : STs X W [a] c := ⟨pts_one h.pt⟩
theorem lc_rd {σ : L2.St} {H : Hp} {Q : VK} {b : Bool} (sub : ∀ j ∈ ix, j ∈ own.map (·.2)) (q : rd X W (rlU X.K) (eLc b (own.map (·.2)) it t c e) σ H Q) :
    tLc (rd X W (rlJ X.K) it) (rdG X ix t) (rd X W0 rlB c) (rd X W0 (rlU X.K) e) (own.map (·.2)) σ H (gh Q) := by
  obtain ⟨env, m, h, sta, sl, out⟩ := q
  refine rd_of sta sl out fun us h1 J H1 m1 g1 s1 w1 out1 => fun D nD => ?_
  refine ⟨fun i k H' => k = us.length - i ∧ i ≤ us.length ∧ ∃ m' h' acc vacc, Gr H1 m1 H' m' ∧ Sta X.K X.mg H' m' h' ∧ H' D = some (.lst vacc) ∧ D ∉ m' ∧ RDs X.K H' vacc acc ∧
    Out X W (rlU X.K) σ H1 m1 ((lcGo t c e (wipeE env (own.map (·.2))) (us.drop i) acc h').noExc.bind fun xs h2 => mkL b xs h2) Q,
    ⟨us.length, by simp, Nat.zero_le _, m1, h1, [], [], Gr.of_same (Same.lay nD) m1, s1.same (Same.lay nD), upd_same, s1.new nD, .nil, by simpa using out1⟩, ?_⟩
  rintro i k H2 ⟨rfl, hi2, m2, h2, acc, vacc, g2, s2, hD, nDm, racc, o2⟩
  obtain ⟨wst, wgo⟩ := w1 H2 m2 g2.kp g2.pre
  by_cases hlt : i < us.length
  · have eu : us[i]? = some us[i] := List.getElem?_eq_getElem hlt
    have ed : us.drop i = us[i] :: us.drop (i + 1) := List.drop_eq_getElem_cons hlt
    obtain ⟨go, gy⟩ := wgo i _ eu
    rw [ed] at o2
    unfold lcGo at o2
    cases et : t us[i] (wipeE env (own.map (·.2))) h2 with
    | none => rw [et] at o2; exact o2.elim
    | some env3 =>
      rw [et] at o2
      dsimp only at o2
      refine .inr ⟨go, fun H' => us.length - (i + 1) < us.length - i ∧ i + 1 ≤ us.length ∧ ∃ m' h' acc vacc, Gr H1 m1 H' m' ∧ Sta X.K X.mg H' m' h' ∧ H' D = some (.lst vacc) ∧ D ∉ m' ∧ RDs X.K H' vacc acc ∧
        Out X W (rlU X.K) σ H1 m1 ((lcGo t c e (wipeE env (own.map (·.2))) (us.drop (i + 1)) acc h').noExc.bind fun xs h2 => mkL b xs h2) Q, fun H' ⟨n1, n2, n3⟩ => ⟨us.length - (i + 1), n1, rfl, n2, n3⟩, fun x H3 y => ?_⟩
      obtain ⟨sm, rx⟩ := gy x H3 y
      have gg := Gr.of_same sm m2
      have g3 := g2.trans gg
      have s3 := s2.same sm
      have hD3 : H3 D = some (.lst vacc) := sm _ _ hD
      have racc3 := RDs.kp gg.kp _ _ racc
      refine ⟨us[i], wipeE env (own.map (·.2)), m2, h2, s3, ((sl.gr g1).gr g3).wipe _, rx, env3, et, fun σ3 l3 only => ⟨wipe_only only sub, ?_⟩⟩
      refine ⟨env3, m2, h2, s3, l3, ?_⟩
      -- the test
      generalize hc : c env3 h2 = q at o2
      cases q with
      | stuck => exact o2.elim
      | exc c1 h4 => exact o2.elim
      | ok kb h4 =>
        intro b4 H4 m4 g4 s4 r4
        cases r4
        have keepD : ∀ {Ha : Hp} {ma : List Addr} {Hb : Hp} {mb : List Addr}, Gr Ha ma Hb mb → Ha D = some (.lst vacc) → D ∉ ma → Hb D = some (.lst vacc) ∧ D ∉ mb := fun {Ha ma Hb mb} g hd nd => ⟨g.keep _ _ hd nd, fun z => by
          have q := g.fresh D z nd
          rw [hd] at q
          cases q⟩
        obtain ⟨hD4, nD4⟩ := keepD g4 hD3 nDm
        cases kb with
        | false =>
          rw [if_neg Bool.false_ne_true]
          exact ⟨by omega, hlt, m4, h4, acc, vacc, g3.trans g4, s4, hD4, nD4, RDs.kp g4.kp _ _ racc3, o2⟩
        | true =>
          rw [if_pos rfl]
          refine ⟨env3, m4, h4, s4, l3.gr g4, ?_⟩
          have o3 : Out X W (rlU X.K) σ H1 m1 (Res.bind (Res.noExc ((e env3 h4).bind fun w h2 => match w with | .d x => if fits (acc.length + 1) then lcGo t c e (wipeE env (own.map (·.2))) (us.drop (i + 1)) (acc ++ [x]) h2 else .stuck | _ => .stuck)) fun xs h2 => mkL b xs h2) Q := o2
          generalize he : e env3 h4 = q at o3
          cases q with
          | stuck => exact o3.elim
          | exc c1 h5 => exact o3.elim
          | ok w h5 =>
            intro y H5 m5 g5 s5 r5
            obtain ⟨hD5, nD5⟩ := keepD g5 hD4 nD4
            rw [Res.bind_ok] at o3
            cases w with
            | ref n => exact o3.elim
            | tup us => exact o3.elim
            | d dx =>
              dsimp only at o3
              split at o3
              · rename_i hz
                have racc5 := RDs.kp (g4.trans g5).kp _ _ racc3
                refine ⟨vacc, hD5, by rw [racc5.len]; exact ask_iff.mp hz, by omega, hlt, m5, h5, acc ++ [dx], vacc ++ [y], ?_, ?_, upd_same, nD5, ?_, o3⟩
                · have gA := (g3.trans g4).trans g5
                  refine ⟨gA.pre, fun a o q na => ?_, gA.fresh, ⟨fun a xs q => ?_, fun a o u q => ?_⟩⟩
                  · rw [upd_ne (ne_of_none q nD)]; exact gA.keep a o q na
                  · rw [upd_ne (ne_of_none q nD)]; exact gA.kp.tup a xs q
                  · rw [upd_ne (ne_of_none q nD)]; exact gA.kp.frz a o u q
                · exact ⟨s5.nd, s5.len, fun j a ob k1 k2 => (s5.obj j a ob k1 k2).mono (upd_ne fun z => nD5 (z ▸ List.mem_of_getElem? k1)) (mut_kp hD5 trivial) ⟨[], by simp⟩⟩
                · have kp := mut_kp (y := HO.lst (vacc ++ [y])) hD5 trivial
                  exact (RDs.kp kp _ _ racc5).app (.one (RD.kp kp _ _ r5.rd))
              · exact o3.elim
  · have e' : i = us.length := by omega
    subst e'
    rw [List.drop_length] at o2
    exact .inl ⟨wst _ (Nat.le_refl _), mkL_ok2 g2 s2 nD nDm hD racc o2⟩
theorem se_lc (b : Bool) {vs : List Nat} (own : List (Str × Nat)) (hc : X.calm = true) (hN : X.N.Nodup) (hv : own.map (·.2) = vs) (sub : ∀ j ∈ ix, j ∈ vs) (hi : SI X W tg iter it) (ok : BlkOk X.N X.env.scope scope own)
    (hg : ∀ (s : Shared) (H : Hp) (C : Addr) (cl : List (Str × Addr)) (fp : List Addr), SG (X.blk s H scope (compEnvC scope cl C X.env) fp) tg ix t)
    (ht : ∀ (s : Shared) (H : Hp) (C : Addr) (cl : List (Str × Addr)) (fp : List Addr), STs (X.blk s H scope (compEnvC scope cl C X.env) fp) W0 ifs c)
    (he : ∀ (s : Shared) (H : Hp) (C : Addr) (cl : List (Str × Addr)) (fp : List Addr), SE (X.blk s H scope (compEnvC scope cl C X.env) fp) W0 elt e) (hs : ∀ x, foldedSetIterable iter X.env x = pure x := by intro _; rfl) :
    SE X W (.ListComp elt [⟨tg, iter, ifs, 0⟩] scope pos) (eLc b vs it t c e) := by
  subst hv
  exact ⟨pe_imp (pe_gh (pe_lc hc hN hi.pi ok (fun s H C cl fp => (hg s H C cl fp).pg) (fun s H C cl fp => (ht s H C cl fp).pt) (fun s H C cl fp => (he s H C cl fp).pe) hs)) fun σ H Q q => lc_rd sub q⟩
theorem ps_gh {X : Cx} {st : Stmt} {t : TS} (h : PS X st t) : PS X st (fun D σ H => t { D with nx := fun σ' H1 => ∃ S, ∀ H2, Fz S H1 H2 → D.nx σ' H2 } σ H) := by
  refine ⟨fun pins s σ H D I q => thn (h.run pins s σ H _ I q) fun fl s1 z => ?_⟩
  cases fl with
  | next =>
    obtain ⟨σ', H1, I1, S, q1⟩ := z
    obtain ⟨H2, f, I2⟩ := inv_fz S I1
    exact ⟨σ', H2, I2, q1 H2 f⟩
  | brk => exact z
  | cont => exact z
  | ret u => exact z
/-- name = [..] -/
theorem ss_setLc (b : Bool) (i : Nat) {vs : List Nat} {y : Str} {py spos : Pos} (hsw : swapsWith (.ListComp elt [⟨tg, iter, ifs, 0⟩] scope pos) (some (.Name y py)) spos.line X.env = pure true) (own : List (Str × Nat)) (hc : X.calm = true) (hN : X.N.Nodup) (hv : own.map (·.2) = vs) (sub : ∀ j ∈ ix, j ∈ vs) (hi : SI X W tg iter it) (ok : BlkOk X.N X.env.scope scope own)
    (hg : ∀ (s : Shared) (H : Hp) (C : Addr) (cl : List (Str × Addr)) (fp : List Addr), SG (X.blk s H scope (compEnvC scope cl C X.env) fp) tg ix t)
    (ht : ∀ (s : Shared) (H : Hp) (C : Addr) (cl : List (Str × Addr)) (fp : List Addr), STs (X.blk s H scope (compEnvC scope cl C X.env) fp) W0 ifs c)
    (he : ∀ (s : Shared) (H : Hp) (C : Addr) (cl : List (Str × Addr)) (fp : List Addr), SE (X.blk s H scope (compEnvC scope cl C X.env) fp) W0 elt e)
    (hy : X.N[i]? = some y := by rfl) (hyl : X.env.scope.names.lookup y = some .local := by rfl) (hs : ∀ x, foldedSetIterable iter X.env x = pure x := by intro _; rfl) :
    SS X W (.Assign [.Name y py] (.ListComp elt [⟨tg, iter, ifs, 0⟩] scope pos) spos) (sSet i (eLc b vs it t c e)) := by
  subst hv
  exact ⟨ps_imp (ps_gh (ps_setLc hc hN hy hyl hsw hi.pi ok (fun s H C cl fp => (hg s H C cl fp).pg) (fun s H C cl fp => (ht s H C cl fp).pt) (fun s H C cl fp => (he s H C cl fp).pe) hs)) fun D σ H ⟨env, m, h, sta, sl, out⟩ => by
    have q : rd X W (rlU X.K) (eLc b (own.map (·.2)) it t c e) σ H (fun v H1 => D.nx (σ.set i (some v)) H1) := rd_then sta sl out fun u h1 v H1 m1 g1 s1 r1 out1 =>
      (show ∀ σ' H' m', Gr H1 m1 H' m' → Sta X.K X.mg H' m' h1 → Sl X.K H' m' σ' (env.set i (some u)) → D.nx σ' H' from out1) _ H1 m1 (Gr.refl _ _) s1 ((sl.gr g1).set r1 i)
    exact lc_rd sub q⟩
end
end Wk

/-! T6: defs, the end. -/
namespace Wk
open PySem PySem.Spec PyProof.Rows L2

def fuel : Nat := 100000000000000000000000
theorem bt_len : bootBuiltins "len" = some (.builtin "len") := by decide +kernel
theorem bt_abs : bootBuiltins "abs" = some (.builtin "abs") := by decide +kernel
theorem bt_max : bootBuiltins "max" = some (.builtin "max") := by decide +kernel
theorem bt_min : bootBuiltins "min" = some (.builtin "min") := by decide +kernel
theorem bt_int : bootBuiltins "int" = some (.type "int") := by decide +kernel
theorem bt_bool : bootBuiltins "bool" = some (.type "bool") := by decide +kernel
theorem bt_str : bootBuiltins "str" = some (.type "str") := by decide +kernel
theorem bt_tuple : bootBuiltins "tuple" = some (.type "tuple") := by decide +kernel
theorem bt_list : bootBuiltins "list" = some (.type "list") := by decide +kernel

structure Has (K : PySem.W.Frag) (mg : Str → Option Value) (name : Str) (st : Stmt) (ps : List Str) : Prop where
  ex : ∃ f fd, mg name = some (.ref f) ∧ Fun K name name st f fd ∧ ∀ us : List Value, us.length = ps.length → bindArgs fd ⟨us, []⟩ = pure (ps.zip us)
theorem has_mk {K : PySem.W.Frag} {h : Heap} {mg : Str → Option Value} {x : Str} {st : Stmt} {ps : List Str} {f : Addr} {oc : Value} {od an : Option Addr} {osl : Array (Option Value)} {kV doc pm cdv ct : Value} (X : K.In h) (G : h.Ns mainGlobals mg)
    (hb : ∀ (kV doc pm : Value) (an : Option Addr) (cdv ct : Value) (us : List Value), us.length = ps.length → bindArgs (PySem.W.fnOf x x (defArgs st) (defBody st) (defScope st) .none kV doc pm an cdv ct) ⟨us, []⟩ = pure (ps.zip us))
    (a : PySem.W.nsIn K mainGlobals x = some (some (.ref f))) (l : K.lookup f = some ⟨oc, od, .func (PySem.W.fnOf x x (defArgs st) (defBody st) (defScope st) .none kV doc pm an cdv ct), osl⟩) (c : PySem.W.codeIn K cdv x = true) (k : PySem.W.keepIn K (.ref f) = true) : Has K mg x st ps :=
  ⟨f, _, PySem.W.mg_of X G a, fun_mk l c k, hb _ _ _ _ _ _⟩
/-! a constant of the module, looked up in the written part -/
mutual
def rdB (K : PySem.W.Frag) : Nat → Value → D → Bool
  | 0, _, _ => false
  | _ + 1, .none, .none => true
  | _ + 1, .bool b, .bool c => b == c
  | _ + 1, .int i _, .int j => decide (i = j)
  | _ + 1, .str x _, .str y => decide (x = y)
  | n + 1, .ref a, .tuple ds => match K.lookup a with
    | some o => (match o.data with
      | .seq its _ => decide (o.cls = .type "tuple") && decide (its.size ≤ 1000) && rdBs K n its.toList ds
      | _ => false)
    | none => false
  | _ + 1, _, _ => false
def rdBs (K : PySem.W.Frag) : Nat → List Value → List D → Bool
  | 0, _, _ => false
  | _ + 1, [], [] => true
  | n + 1, u :: us, d :: ds => rdB K n u d && rdBs K n us ds
  | _ + 1, _, _ => false
end
mutual
theorem rdB_ok {K : PySem.W.Frag} : ∀ (n : Nat) (u : Value) (d : D), rdB K n u d = true → ∃ v, RelV v u ∧ ∀ H, RD K H v d
  | 0, _, _, e => by rw [rdB] at e; cases e
  | n + 1, u, d, e => by
    unfold rdB at e
    split at e
    · rename_i h; cases h
    · exact ⟨.non, rfl, fun _ => .non⟩
    · have z := beq_iff_eq.mp e
      subst z
      exact ⟨.bl _, rfl, fun _ => .bl _⟩
    · have z := of_decide_eq_true e
      subst z
      exact ⟨.int _, ⟨_, rfl⟩, fun _ => .int _⟩
    · have z := of_decide_eq_true e
      subst z
      exact ⟨.str _, ⟨_, rfl⟩, fun _ => .str _⟩
    · rename_i m a ds hm
      cases hm
      split at e
      · rename_i o ho
        split at e
        · rename_i its k hd
          simp only [Bool.and_eq_true, decide_eq_true_eq] at e
          obtain ⟨vs, rv, rd⟩ := rdBs_ok n its.toList ds e.2
          exact ⟨.ref a, rfl, fun H => .tup (.inr ⟨o, its, k, ho, e.1.1, hd, line1000 e.1.2, rv⟩) (rd H)⟩
        · cases e
      · cases e
    · cases e
theorem rdBs_ok {K : PySem.W.Frag} : ∀ (n : Nat) (us : List Value) (ds : List D), rdBs K n us ds = true → ∃ vs, Vals vs us ∧ ∀ H, RDs K H vs ds
  | 0, _, _, e => by rw [rdBs] at e; cases e
  | n + 1, us, ds, e => by
    unfold rdBs at e
    split at e
    · rename_i h; cases h
    · exact ⟨[], .nil, fun _ => .nil⟩
    · rename_i m u us d ds hm
      cases hm
      rw [Bool.and_eq_true] at e
      obtain ⟨v, r1, d1⟩ := rdB_ok n u d e.1
      obtain ⟨vs, r2, d2⟩ := rdBs_ok n us ds e.2
      exact ⟨v :: vs, .cons r1 r2, fun H => .cons (d1 H) (d2 H)⟩
    · cases e
end
theorem const_mk {K : PySem.W.Frag} {h : Heap} {mg : Str → Option Value} {x : Str} {u : Value} {d : D} (KX : K.In h) (G : h.Ns mainGlobals mg) (a : PySem.W.nsIn K mainGlobals x = some (some u)) (b : rdB K 30 u d = true)
    (hx : (x == ("__debug__" : Str)) = false := by decide) : ∀ {X : Cx} {W : WX} {pos : Pos}, X.K = K → X.mg = mg → Gl X x → SE X W (.Name x pos) (eC d) := by
  intro X W pos eK em hg
  subst eK em
  obtain ⟨v, r, rd⟩ := rdB_ok _ _ _ b
  exact se_glob hg (PySem.W.mg_of KX G a) r rd hx
/-- the def keeps its data function, wherever it stands -/
def FnA (P : Program) (w : World) (K : PySem.W.Frag) (mg : Str → Option Value) (base : Heap) (k : Nat) (x : Str) (st : Stmt) (ps : List Str) (F : PF) : Prop :=
  ∀ f fd, Fun K x x st f fd → FnOk P w K mg base (L2.CX P w) k f fd ps (spP K mg ps.length F)
theorem FnA.p {P : Program} {w : World} {K : PySem.W.Frag} {mg : Str → Option Value} {base : Heap} {k : Nat} {x : Str} {st : Stmt} {ps : List Str} {F : PF} (h : FnA P w K mg base k x st ps F) (hs : Has K mg x st ps) : FnP P w K mg base k x ps F := by
  obtain ⟨f, fd, h1, h2, h3⟩ := hs.ex
  exact ⟨f, fd, h1, h2.kp, Binds.all h3, h f fd h2⟩

/-- a def's data function, by its body -/
def pfOf (n : Nat) (B : Es) : PF := fun ds => match B (ds.map (fun d => some (.d d)) ++ List.replicate (n - ds.length) none) [] with
  | .ret (.d d) _ => .ok d
  | .next _ _ => .ok .none
  | .exc c _ _ => .exc c
  | _ => .stuck
theorem sl_start {K : PySem.W.Frag} {H : Hp} {N : List Str} {vs : List V} {ds : List D} (r : RDs K H vs ds) : Sl K H [] (L2.start N vs) (ds.map (fun d => some (.d d)) ++ List.replicate (N.length - ds.length) none) := by
  unfold L2.start
  refine ⟨by simp [r.len], fun i u e => ?_⟩
  by_cases hi : i < ds.length
  · rw [List.getElem?_append_left (by simpa using hi), List.getElem?_map, List.getElem?_eq_getElem hi] at e
    cases e
    obtain ⟨v, h1, h2⟩ := r.get (List.getElem?_eq_getElem hi)
    exact ⟨v, by rw [List.getElem?_append_left (by rw [List.length_map, r.len]; exact hi), List.getElem?_map, h1]; rfl, .d h2⟩
  · rw [List.getElem?_append_right (by simpa using hi), List.getElem?_replicate] at e
    split at e <;> cases e
section
variable {P : Program} {w : World} {K : PySem.W.Frag} {mg : Str → Option Value} {base : Heap}
abbrev WD (E : XK) : WX := fun cls d _ H => E cls d H
/-- THE RULE for a def that takes data and gives data -/
theorem fn_priv {x : Str} {st : Stmt} {N ps : List Str} {k : Nat} {B : Es} (S : FnScope N ps (defScope st))
    (body : ∀ (f : Addr) (cdv : Value) (A : Around) (outer : List Env) (s : Shared) (H : Hp) (E : XK), Room k (A.deeper (envOfC x (defScope st) s.heap.objs.size f cdv)) →
      Takes (cxOf (L2.CX P w) P w K mg base N x (defScope st) f cdv A outer s H E) (WD E) →
      PassesOwn (model P w) (A.deeper (envOfC x (defScope st) s.heap.objs.size f cdv)) (envOfC x (defScope st) s.heap.objs.size f cdv) (cxOf (L2.CX P w) P w K mg base N x (defScope st) f cdv A outer s H E).xe →
      SSs (cxOf (L2.CX P w) P w K mg base N x (defScope st) f cdv A outer s H E) (WD E) (defBody st) B) :
    FnA P w K mg base (k + 1) x st ps (pfOf N.length B) := by
  intro f fd h2
  refine h2.okX S (fun vs H Q E h => ?_) fun cdv A outer s H vs Q E hr h => ?_
  · obtain ⟨ds, _, e, _⟩ := h
    exact e
  · obtain ⟨ds, r, e, q⟩ := h
    refine ⟨_, (body f cdv A outer s H E hr (takes_of rfl rfl rfl rfl) (passes_of rfl)).ps, _, [], [], Sta.nil, sl_start r, ?_⟩
    unfold pfOf at q
    generalize B (ds.map (fun d => some (.d d)) ++ List.replicate (N.length - ds.length) none) [] = z at q
    cases z with
    | next env' h' => exact fun σ' H' m' g s' l => (show ∀ v H', Same H H' → RD K H' v .none → Q v H' from q) .non H' g.same .non
    | ret u h' =>
      cases u with
      | d d => exact fun v H' m' g s' r' => (show ∀ v H', Same H H' → RD K H' v d → Q v H' from q) v H' g.same r'.rd
      | ref n => exact q.elim
      | tup us => exact q.elim
    | exc c env' h' => exact fun σ' H' m' g s' l C hC => (show ∀ H', Same H H' → ∀ C, mg c = some (.ref C) → E (.ref C) none H' from q) H' g.same C hC
    | stuck => exact q
end

theorem only_frz {K : PySem.W.Frag} {H : Hp} {a : Addr} {vs : List V} (o : Only H) (h : SqL K H a vs) : FzL K H a vs := by
  rcases h with (h | ⟨ob, h⟩) | h
  · rcases o a with z | ⟨ob, xs, z⟩
    · rw [h] at z; cases z
    · rw [h] at z; cases z
  · exact .inl ⟨ob, h⟩
  · exact .inr h
theorem end_of {l : PySem.W.OpenLaw} {n k : Nat} {q : Program} {loose : List Str} {XP : (Str → Option Value) → Heap → Prop} {YP : World → Heap → Prop} {d : DefRec} {K : Params → PySem.W.Frag} {x : Str} {st : Stmt} {F : PF}
    (hn : l.most = some n) (hn2 : n ≤ sizeLine) (hdf : d.params.defaults = []) (hr : Room k callerA)
    (hY : ∀ (w : World) (h : Heap), YP w h → (K w.params).In h)
    (hF : ∀ (w : World) (mg : Str → Option Value) (h : Heap), (K w.params).In h → h.Ns mainGlobals mg → Has (K w.params) mg d.name st [x] ∧ ∀ base : Heap, FnA l.prog w (K w.params) mg base k d.name st [x] F)
    (law : ∀ ns : List Int, ns.length ≤ n → (∀ z ∈ ns, Builtin.Int.intBits z ≤ 1048576) → F [.list (ns.map .int)] = .ok (.bool true)) :
    PySem.W.WalkO q loose XP YP l.row.toRowW d [] (fun f vs => PySem.call f vs) := by
  have tk : ∀ (w : World) (H : Hp) (s : Shared) (e : Value) (s' : Shared), L2.CX l.prog w [] H s (fun _ _ _ => False) e s' → False := fun w H s e s' z => by
    obtain ⟨_, _, _, _, _, _, _, _, _, _, _, _, z⟩ := z
    exact z
  refine Att.attach_callB hn hdf fun w s₀ s₁ mg mb fa o pm cd doc a vs ns G Y ho hd hcd hmg hobj hints hlen hbits hg => ?_
  have KX := hY w _ Y
  obtain ⟨hs, hA⟩ := hF w mg _ KX G.T.g
  obtain ⟨f, fd, h1, h2, h3⟩ := hs.ex
  rw [hmg] at h1
  cases h1
  exact law_call KX G.T.g G.T.b G.T.builtins G.T.nolimit hg hobj hints (Nat.le_trans hlen hn2) hr (sp := spP (K w.params) mg 1 F) (fun base _ _ => hA base fa fd h2) (fun s u => .of_eq (h3 [u] rfl))
    (fun H hO hS => ⟨[.list (ns.map .int)], .cons (.lst (only_frz hO hS) RDs.ints) .nil, rfl, by
      rw [law ns hlen hbits]
      intro v H' _ r
      cases r
      rfl⟩) fun H e s' => tk w H s₁ e s'
end Wk

/-! T7: how the functions come out. -/
namespace Wk
open PySem L2

section
variable {α : Type} {f g k : Ev} {fa : Ea} {p q : Eb} {s t : Es} {env : Env'} {h : Sto} {u w : U}
@[simp] theorem ev_C (d : D) : eC d env h = .ok (.d d) h := (rfl)
@[simp] theorem ev_V (i : Nat) : eV i env h = match env[i]? with | some (some u) => .ok u h | _ => .stuck := (rfl)
@[simp] theorem ev_Bin (F : U → U → Sto → Res U) : eBin F f g env h = (f env h).bind fun u h1 => (g env h1).bind fun w h2 => F u w h2 := (rfl)
@[simp] theorem ev_Un (F : U → Sto → Res U) : eUn F f env h = (f env h).bind F := (rfl)
@[simp] theorem ev_B (F : List U → Sto → Res U) : eB F fa env h = (fa env h).bind F := (rfl)
@[simp] theorem ev_aNil : aNil env h = .ok [] h := (rfl)
@[simp] theorem ev_aCons : aCons f fa env h = (f env h).bind fun u h1 => (fa env h1).bind fun us h2 => .ok (u :: us) h2 := (rfl)
@[simp] theorem ev_tBin (F : U → U → Sto → Res U) : tBin F f g env h = tB (eBin F f g env h) := (rfl)
@[simp] theorem ev_tBb (b : Bool) : tB (.ok (.d (.bool b)) h) = .ok b h := (rfl)
@[simp] theorem ev_tBs : tB .stuck = .stuck := (rfl)
@[simp] theorem ev_tBe (c : Str) : tB (.exc c h) = .exc c h := (rfl)
@[simp] theorem ev_tTru : tTru f env h = (f env h).bind fun u h1 => match truthOf h1 u with | some b => .ok b h1 | none => .stuck := (rfl)
@[simp] theorem ev_truB (b : Bool) : truthOf h (.d (.bool b)) = some b := (rfl)
@[simp] theorem ev_bAnd : bAnd p q env h = (p env h).bind fun b h1 => match b with | true => q env h1 | false => .ok false h1 := (rfl)
@[simp] theorem ev_bOr : bOr p q env h = (p env h).bind fun b h1 => match b with | true => .ok true h1 | false => q env h1 := (rfl)
@[simp] theorem ev_bNot : bNot p env h = (p env h).bind fun b h1 => .ok (!b) h1 := (rfl)
@[simp] theorem ev_eAnd : eAnd f g env h = (tB (f env h)).bind fun b h1 => match b with | true => g env h1 | false => .ok (.d (.bool false)) h1 := (rfl)
@[simp] theorem ev_eOr : eOr f g env h = (tB (f env h)).bind fun b h1 => match b with | true => .ok (.d (.bool true)) h1 | false => g env h1 := (rfl)
@[simp] theorem ev_eNot : eNot f env h = (tB (f env h)).bind fun b h1 => .ok (.d (.bool (!b))) h1 := (rfl)
@[simp] theorem ev_Fz : eFz f env h = (f env h).bind fzR := (rfl)
@[simp] theorem ev_fzd (d : D) : fzR (.d d) h = .ok (.d d) h := (rfl)
@[simp] theorem ev_Tup : eTup fa env h = (fa env h).bind fun us h1 => if us.length ≤ 1000 then (match allD us with | some ds => .ok (.d (.tuple ds)) h1 | none => .ok (.tup us) h1) else .stuck := (rfl)
@[simp] theorem ev_Lst (b : Bool) : eLst b fa env h = (fa env h).bind fun us h1 => if us.length ≤ 1000 then (match allD us with | some ds => mkL b ds h1 | none => .stuck) else .stuck := (rfl)
@[simp] theorem ev_mkT (xs : List D) : mkL true xs h = .ok (.ref h.length) (h ++ [.lst xs]) := (rfl)
@[simp] theorem ev_mkF (xs : List D) : mkL false xs h = .ok (.d (.list xs)) h := (rfl)
@[simp] theorem ev_allN : allD [] = some [] := (rfl)
@[simp] theorem ev_allC (x : D) (r : List U) : allD (.d x :: r) = match allD r with | some xs => some (x :: xs) | none => none := (rfl)
@[simp] theorem ev_Call (F : PF) : eCall F fa env h = (fa env h).bind fun us h1 => match allD us with | some ds => (F ds).res h1 | none => .stuck := (rfl)
@[simp] theorem ev_resK (d : D) : (PR.ok d).res h = .ok (.d d) h := (rfl)
@[simp] theorem ev_resE (c : Str) : (PR.exc c).res h = .exc c h := (rfl)
@[simp] theorem ev_resS : (PR.stuck).res h = .stuck := (rfl)
-- statements
@[simp] theorem ev_Nil : sNil env h = .next env h := (rfl)
@[simp] theorem ev_Seq : sSeq s t env h = (s env h).seq t := (rfl)
@[simp] theorem ev_If : sIf p s t env h = (p env h).then_ env fun b h1 => match b with | true => s env h1 | false => t env h1 := (rfl)
@[simp] theorem ev_Set (i : Nat) : sSet i f env h = (f env h).then_ env fun u h1 => .next (env.set i (some u)) h1 := (rfl)
@[simp] theorem ev_Ret : sRet f env h = (f env h).then_ env fun u h1 => .ret u h1 := (rfl)
@[simp] theorem ev_Expr : sExpr f env h = (f env h).then_ env fun _ h1 => .next env h1 := (rfl)
@[simp] theorem ev_Asg (g : Tg) : sAsg g f env h = (f env h).then_ env fun u h1 => match g u env h1 with | some env' => .next env' h1 | none => .stuck := (rfl)
@[simp] theorem ev_gN (i : Nat) : gN i u env h = some (env.set i (some u)) := (rfl)
@[simp] theorem ev_gT (n : Nat) (r : Tgs) : gTup' n r u env h = match itemsOf h u with | some us => if us.length = n then r us env h else none | none => none := (rfl)
@[simp] theorem ev_gNil : gNil' [] env h = some env := (rfl)
@[simp] theorem ev_gCons (g : Tg) (r : Tgs) (us : List U) : gCons' g r (u :: us) env h = match g u env h with | some env1 => r us env1 h | none => none := (rfl)
@[simp] theorem ev_itT (xs : List D) : itemsOf h (.d (.tuple xs)) = some (xs.map .d) := (rfl)
@[simp] theorem ev_itL (xs : List D) : itemsOf h (.d (.list xs)) = some (xs.map .d) := (rfl)
-- operators
@[simp] theorem ev_add (b : Bool) (i j : Int) : opAdd b (.d (.int i)) (.d (.int j)) h = .ok (.d (.int (i + j))) h := (rfl)
@[simp] theorem ev_sub (i j : Int) : opSub (.d (.int i)) (.d (.int j)) h = .ok (.d (.int (i - j))) h := (rfl)
@[simp] theorem ev_mul (i j : Int) : opMul (.d (.int i)) (.d (.int j)) h = if mulOk i j then .ok (.d (.int (i * j))) h else .stuck := (rfl)
@[simp] theorem ev_fdiv (i j : Int) : opFdiv (.d (.int i)) (.d (.int j)) h = if divOk j then .ok (.d (.int (i / j))) h else .stuck := (rfl)
@[simp] theorem ev_mod (i j : Int) : opMod (.d (.int i)) (.d (.int j)) h = if 0 < j then .ok (.d (.int (i % j))) h else .stuck := (rfl)
theorem ev_pow (i j : Int) (h0 : 0 ≤ j) (h1 : j ≤ 1000000) (h2 : i.natAbs < 2 ^ 64) : opPow (.d (.int i)) (.d (.int j)) h = .ok (.d (.int (i ^ j.toNat))) h := if_pos (ask_t ⟨h0, h1, h2⟩)
@[simp] theorem ev_neg (i : Int) : opNeg (.d (.int i)) h = .ok (.d (.int (-i))) h := (rfl)
@[simp] theorem ev_cmp (c : Int → Int → Bool) (i j : Int) : opI c (.d (.int i)) (.d (.int j)) h = .ok (.d (.bool (c i j))) h := (rfl)
@[simp] theorem ev_int (i : Int) : fInt [.d (.int i)] h = .ok (.d (.int i)) h := (rfl)
@[simp] theorem ev_intB (b : Bool) : fInt [.d (.bool b)] h = .ok (.d (.int (if b then 1 else 0))) h := (rfl)
@[simp] theorem ev_i1 (g : Int → Int) (i : Int) : fI1 g [.d (.int i)] h = .ok (.d (.int (g i))) h := (rfl)
@[simp] theorem ev_i2 (g : Int → Int → Int) (i j : Int) : fI2 g [.d (.int i), .d (.int j)] h = .ok (.d (.int (g i j))) h := (rfl)
@[simp] theorem ev_lenL (xs : List D) : fLen [.d (.list xs)] h = .ok (.d (.int xs.length)) h := (rfl)
@[simp] theorem ev_lenT (xs : List D) : fLen [.d (.tuple xs)] h = .ok (.d (.int xs.length)) h := (rfl)
@[simp] theorem ev_ixT (xs : List D) (i : Int) : opIx (.d (.tuple xs)) (.d (.int i)) h = match atI xs i with | some x => .ok (.d x) h | none => .stuck := (rfl)
@[simp] theorem ev_ixL (xs : List D) (i : Int) : opIx (.d (.list xs)) (.d (.int i)) h = match atI xs i with | some x => .ok (.d x) h | none => .stuck := (rfl)
@[simp] theorem ev_isi (T : Ty) (d : D) : opIsi T (.d d) h = .ok (.d (.bool (isTy T d))) h := (rfl)
end
theorem mulOk_of {i j : Int} (h : i.natAbs < 2 ^ 64 ∨ j.natAbs < 2 ^ 64) : mulOk i j = true := ask_t (h.elim .inl fun z => .inr (.inl z))
theorem mulOk_big {i j : Int} (h1 : i.natAbs < 2 ^ 400000) (h2 : j.natAbs < 2 ^ 400000) : mulOk i j = true := ask_t (.inr (.inr ⟨h1, h2⟩))
theorem divOk_of {j : Int} (h1 : 0 < j) (h2 : j.natAbs < 2 ^ 8000) : divOk j = true := ask_t ⟨h1, h2⟩
theorem fits_of {n : Nat} (h : n ≤ 16777216) : fits n = true := ask_t (by rw [sizeLine_eq]; exact h)
theorem pfOf_ap (n : Nat) (B : Es) (ds : List D) : pfOf n B ds = match B (ds.map (fun d => some (.d d)) ++ List.replicate (n - ds.length) none) [] with
  | .ret (.d d) _ => .ok d
  | .next _ _ => .ok .none
  | .exc c _ _ => .exc c
  | _ => .stuck := (rfl)
@[simp] theorem mulOk_r {i j : Int} (h : j.natAbs < 2 ^ 64) : mulOk i j = true := mulOk_of (.inr h)
@[simp] theorem mulOk_l {i j : Int} (h : i.natAbs < 2 ^ 64) : mulOk i j = true := mulOk_of (.inl h)
theorem natAbs_mod {x m : Int} (h : 0 < m) (h' : m ≤ 2 ^ 64) : (x % m).natAbs < 2 ^ 64 := by
  have h1 := Int.emod_nonneg x (show m ≠ 0 by omega)
  have h2 := Int.emod_lt_of_pos x h
  omega
@[simp] theorem mulOk_ml {x m j : Int} (h : 0 < m) (h' : m ≤ 2 ^ 64) : mulOk (x % m) j = true := mulOk_of (.inl (natAbs_mod h h'))
@[simp] theorem mulOk_mr {x m j : Int} (h : 0 < m) (h' : m ≤ 2 ^ 64) : mulOk j (x % m) = true := mulOk_of (.inr (natAbs_mod h h'))
@[simp] theorem divOk_s {j : Int} (h : 0 < j) (h' : j.natAbs < 2 ^ 64) : divOk j = true := divOk_of h (Nat.lt_of_lt_of_le h' (Nat.pow_le_pow_right (by decide) (by decide)))

/-! ### loops -/
theorem forGo_nil (t : Tg) (b : Es) (env : Env') (h : Sto) : forGo t b [] env h = .next env h := rfl
theorem forGo_cons (t : Tg) (b : Es) (u : U) (us : List U) (env : Env') (h : Sto) : forGo t b (u :: us) env h = match t u env h with | some env1 => (b env1 h).seq (forGo t b us) | none => .stuck := rfl
/-- each turn goes on, and keeps I -/
theorem forGo_inv {t : Tg} {b : Es} : ∀ {us : List U} (I : Nat → Env' → Sto → Prop) (k : Nat) {env : Env'} {h : Sto}, I k env h →
    (∀ (i : Nat) u env h, us[i]? = some u → I (k + i) env h → ∃ env1 env2 h2, t u env h = some env1 ∧ b env1 h = .next env2 h2 ∧ I (k + i + 1) env2 h2) → ∃ env' h', forGo t b us env h = .next env' h' ∧ I (k + us.length) env' h'
  | [], I, k, env, h, h0, _ => ⟨env, h, rfl, h0⟩
  | u :: us, I, k, env, h, h0, st => by
    obtain ⟨env1, env2, h2, e1, e2, h3⟩ := st 0 u env h rfl h0
    obtain ⟨env', h', e3, h4⟩ := forGo_inv (us := us) I (k + 1) h3 (fun i v env h e hi => by
      have q := st (i + 1) v env h (by simpa using e) (by rw [← Nat.add_assoc, Nat.add_right_comm]; exact hi)
      rw [← Nat.add_assoc, Nat.add_right_comm k i 1] at q
      exact q)
    refine ⟨env', h', ?_, ?_⟩
    · rw [forGo_cons, e1]
      show (b env1 h).seq (forGo t b us) = _
      rw [e2]
      exact e3
    · rw [List.length_cons, Nat.add_comm us.length 1, ← Nat.add_assoc]
      exact h4
theorem iRange_get {n : Nat} {lo : Int} {i : Nat} {u : U} (e : (iRange n lo)[i]? = some u) : i < n ∧ u = .d (.int (lo + i)) := by
  unfold iRange at e
  rw [List.getElem?_map] at e
  cases q : (List.range n)[i]? with
  | none => rw [q] at e; cases e
  | some j =>
    rw [q] at e
    have hi := (List.getElem?_eq_some_iff.mp q).1
    rw [List.length_range] at hi
    rw [List.getElem?_range hi] at q
    cases q
    cases e
    exact ⟨hi, rfl⟩
theorem iRange_len (n : Nat) (lo : Int) : (iRange n lo).length = n := by unfold iRange; simp
/-- a while by a number that falls -/
theorem whileGo_ix {c : Eb} {b : Es} (I : Nat → Env' → Sto → Prop) (st : ∀ m env h, I m env h → ∃ k h1, c env h = .ok k h1 ∧ (k = true → ∃ m' env2 h2, m' < m ∧ b env h1 = .next env2 h2 ∧ I m' env2 h2)) :
    ∀ (n m : Nat) (env : Env') (h : Sto), I m env h → m < n → ∃ m' env' h' h1, whileGo c b n env h = .next env' h1 ∧ I m' env' h' ∧ c env' h' = .ok false h1
  | 0, _, _, _, _, hm => absurd hm (Nat.not_lt_zero _)
  | n + 1, m, env, h, hi, hm => by
    obtain ⟨k, h1, e1, hk⟩ := st m env h hi
    cases k with
    | false => exact ⟨m, env, h, h1, by unfold whileGo; rw [e1]; rfl, hi, e1⟩
    | true =>
      obtain ⟨m2, env2, h2, lt, e2, i2⟩ := hk rfl
      obtain ⟨m', env', h', h3, e3, i3, e4⟩ := whileGo_ix I st n m2 env2 h2 i2 (by omega)
      exact ⟨m', env', h', h3, by unfold whileGo; rw [e1]; simp only [Res.then_ok]; rw [e2]; exact e3, i3, e4⟩
@[simp] theorem ev_While (n : Nat) (c : Eb) (b : Es) (env : Env') (h : Sto) : sWhile n c b env h = whileGo c b n env h := (rfl)
theorem lcGo_nil (t : Tg) (c : Eb) (e : Ev) (env : Env') (acc : List D) (h : Sto) : lcGo t c e env [] acc h = .ok acc h := rfl
/-- a comprehension without a test, whose items are f of the place -/
theorem lcGo_map {t : Tg} {e : Ev} {env : Env'} {h : Sto} : ∀ {us : List U} (f : U → D) (acc : List D), (∀ u ∈ us, ∃ env1, t u env h = some env1 ∧ e env1 h = .ok (.d (f u)) h) → acc.length + us.length ≤ 16777216 → lcGo t cYes e env us acc h = .ok (acc ++ us.map f) h
  | [], f, acc, _, _ => by rw [lcGo_nil, List.map_nil, List.append_nil]
  | u :: us, f, acc, H, hl => by
    obtain ⟨env1, e1, e2⟩ := H u List.mem_cons_self
    rw [List.length_cons] at hl
    have ih := lcGo_map (t := t) (e := e) (env := env) (h := h) (us := us) f (acc ++ [f u]) (fun v hv => H v (List.mem_cons_of_mem _ hv)) (by rw [List.length_append, List.length_singleton]; omega)
    unfold lcGo
    simp only [e1, cYes, Res.bind_ok, e2]
    rw [if_pos (fits_of (by omega)), ih]
    simp
end Wk

/-! LB: the helpers that every law has: a cell of the script, mixed numbers, a row of digits. -/
namespace Wk
open PySem L2
@[simp] theorem ev_For (it : Ea) (t : Tg) (b : Es) (env : Env') (h : Sto) : sFor it t b env h = (it env h).then_ env fun us h1 => forGo t b us env h1 := (rfl)
@[simp] theorem ev_iR1 (fa : Ea) (env : Env') (h : Sto) : iR1 fa env h = (fa env h).bind fun us h1 => match us with | [u] => (match intOf u with | some j => if rngOk j then .ok (iRange j.toNat 0) h1 else .stuck | none => .stuck) | _ => .stuck := (rfl)
@[simp] theorem ev_iR2 (fa : Ea) (env : Env') (h : Sto) : iR2 fa env h = (fa env h).bind fun us h1 => match us with | [u, w] => (match intOf u, intOf w with | some i, some j => if rngOk i && rngOk j then .ok (iRange (j - i).toNat i) h1 else .stuck | _, _ => .stuck) | _ => .stuck := (rfl)
@[simp] theorem ev_intOf (i : Int) : intOf (.d (.int i)) = some i := (rfl)
@[simp] theorem ev_Lc (b : Bool) (vs : List Nat) (it : Ea) (t : Tg) (c : Eb) (e : Ev) (env : Env') (h : Sto) : eLc b vs it t c e env h = (it env h).bind fun us h1 => (lcGo t c e (wipeE env vs) us [] h1).noExc.bind fun xs h2 => mkL b xs h2 := (rfl)
@[simp] theorem ev_noExc {α : Type} (x : α) (h : Sto) : (Res.ok x h).noExc = .ok x h := (rfl)
@[simp] theorem ev_Ml (F : U → List U → Sto → Res U) (f : Ev) (fa : Ea) (env : Env') (h : Sto) : eMl F f fa env h = (f env h).bind fun u h1 => match listOf h1 u with | some _ => (fa env h1).bind fun us h2 => F u us h2 | none => .stuck := (rfl)
@[simp] theorem ev_fzr (n : Nat) (h : Sto) : fzR (.ref n) h = match dataOf h (.ref n) with | some x => .ok (.d x) (fzH (refsOf (.ref n)) h) | none => .stuck := (rfl)
@[simp] theorem ev_dat (n : Nat) (h : Sto) : dataOf h (.ref n) = (listOf h (.ref n)).map .list := by rw [dataOf]
@[simp] theorem ev_lstR (n : Nat) (h : Sto) : listOf h (.ref n) = match h[n]? with | some (.lst xs) => some xs | some (.frz xs) => some xs | _ => none := (rfl)
@[simp] theorem ev_lstD (xs : List D) (h : Sto) : listOf h (.d (.list xs)) = some xs := (rfl)
@[simp] theorem ev_app (n : Nat) (x : D) (h : Sto) : fApp (.ref n) [.d x] h = match h[n]? with | some (.lst xs) => if fits (xs.length + 1) then .ok (.d .none) (h.set n (.lst (xs ++ [x]))) else .stuck | _ => .stuck := (rfl)
theorem shaped_int (i : Int) : SeqAt.shaped (.int i) = true := (rfl)
theorem eqv_int (i j : Int) : PyData.eqv (.int i) (.int j) = decide (i = j) := by
  rw [PyData.eqv]
  exact (Bool.beq_eq_decide_eq i j)
@[simp] theorem ev_eqI (n : Bool) (i j : Int) (h : Sto) : opEqB n (.d (.int i)) (.d (.int j)) h = .ok (.d (.bool (xor n (decide (i = j))))) h := by
  unfold opEqB
  simp only [strOf, dataOf, shaped_int, Bool.and_self, if_true, eqv_int]
theorem rng_of {i : Int} (h1 : -1000000000000 ≤ i) (h2 : i ≤ 1000000000000) : rngOk i = true := ask_t ⟨by omega, by omega⟩
theorem atI_map {α β : Type} (f : α → β) (xs : List α) (i : Int) : atI (xs.map f) i = (atI xs i).map f := by
  unfold atI
  rw [List.length_map]
  cases ixN xs.length i with
  | none => rfl
  | some j => simp
theorem atI_in {α : Type} {xs : List α} {i : Int} (h0 : 0 ≤ i) (h1 : i < xs.length) : ∃ x, atI xs i = some x ∧ x ∈ xs := by
  have hj : i.toNat < xs.length := by omega
  refine ⟨xs[i.toNat], ?_, List.getElem_mem hj⟩
  have q : atI xs ((i.toNat : Nat) : Int) = some xs[i.toNat] := atI_nat (List.getElem?_eq_getElem hj)
  have e : ((i.toNat : Nat) : Int) = i := by omega
  rw [e] at q
  exact q

noncomputable def B_cell : Es := (sSeq (sIf (tBin opLt (eV 1) (eB fLen (aCons (eV 0) aNil)))
    (sRet (eBin opIx (eV 0) (eV 1)))
    sNil)
    (sSeq (sSet 2 (eBin (opAdd false) (eBin opMul (eBin opMul (eV 1) (eV 1)) (eC (.int 7919))) (eC (.int 104729))))
    (sSeq (sIf (tBin opGt (eB fLen (aCons (eV 0) aNil)) (eC (.int 0)))
    (sSet 2 (eBin (opAdd false) (eV 2) (eBin opMul (eBin opMod (eBin opIx (eV 0) (eBin opMod (eBin opMul (eV 1) (eC (.int 7))) (eB fLen (aCons (eV 0) aNil)))) (eBin opPow (eC (.int 10)) (eC (.int 40)))) (eBin (opAdd false) (eC (.int 48271)) (eV 1)))))
    sNil)
    (sRet (eBin opMod (eBin opMul (eV 2) (eV 2)) (eC (.int 2305843009213693951)))))))
noncomputable def B_mixed : Es := (sSeq (sSet 2 (eBin opMod (eBin (opAdd false) (eBin (opAdd false) (eV 0) (eBin opMul (eBin opMul (eV 1) (eV 1)) (eC (.int 40503)))) (eC (.int 12345))) (eC (.int 2305843009213693951))))
    (sSeq (sSet 2 (eBin opMod (eBin opMul (eV 2) (eV 2)) (eC (.int 2305843009213693951))))
    (sSeq (sSet 2 (eBin opMod (eBin opMul (eBin (opAdd false) (eBin (opAdd false) (eV 2) (eBin opMul (eV 1) (eC (.int 7919)))) (eC (.int 1))) (eC (.int 48271))) (eC (.int 2305843009213693951))))
    (sRet (eBin opFdiv (eBin opMod (eBin opMul (eV 2) (eV 2)) (eC (.int 2305843009213693951))) (eC (.int 1024)))))))
noncomputable def B_row : Es := (sSeq (sSet 3 (eLst true aNil))
    (sSeq (sSet 4 (eV 0))
    (sSeq (sFor (iR1 (aCons (eV 2) aNil)) (gN 5)
    (sSeq (sExpr (eMl fApp (eV 3) (aCons (eBin opMod (eV 4) (eV 1)) aNil)))
    (sSet 4 (eBin opFdiv (eV 4) (eV 1)))))
    (sSeq (sIf (tBin opGt (eV 4) (eC (.int 0)))
    (sRet (eFz (eV 3)))
    sNil)
    (sRet (eLc false [5] (iR1 (aCons (eV 2) aNil)) (gN 5) cYes (eBin opMod (eCall (pfOf 3 B_mixed) (aCons (eV 0) (aCons (eV 5) aNil))) (eV 1))))))))

theorem mixed_ev (c k : Int) (h0 : 0 ≤ k) (h1 : k < 1000000) : ∃ r, pfOf 3 B_mixed [.int c, .int k] = .ok (.int r) ∧ 0 ≤ r := by
  have m1 : mulOk k k = true := mulOk_of (.inl (by omega))
  simp [pfOf_ap, B_mixed, m1]
  exact Int.ediv_nonneg (Int.emod_nonneg _ (by decide)) (by decide)
theorem ev_pow40 (h : Sto) : opPow (.d (.int 10)) (.d (.int 40)) h = .ok (.d (.int 10000000000000000000000000000000000000000)) h := by
  rw [ev_pow _ _ (by decide) (by decide) (by decide)]
  rfl
theorem cell_ev (ns : List Int) (k : Int) (h0 : 0 ≤ k) (h1 : k < 1000000) (hl : ns.length < 1000000) : ∃ r, pfOf 3 B_cell [.list (ns.map .int), .int k] = .ok (.int r) := by
  have m1 : mulOk k k = true := mulOk_of (.inl (by omega))
  have m3 : mulOk (k * k * 7919 + 104729) (k * k * 7919 + 104729) = true := by
    have hk : k * k ≤ 1000000 * 1000000 := Int.mul_le_mul (by omega) (by omega) h0 (by decide)
    have hk0 : 0 ≤ k * k := Int.mul_nonneg h0 h0
    exact mulOk_of (.inl (by omega))
  by_cases hk : k < ns.length
  · obtain ⟨x, e, _⟩ := atI_in h0 hk
    simp [pfOf_ap, B_cell, hk, atI_map, e]
  · by_cases hz : ns.length = 0
    · simp [pfOf_ap, B_cell, hz, m1, m3, show ¬ k < 0 by omega]
    · have hp : (0 : Int) < ns.length := by omega
      obtain ⟨x, e, _⟩ := atI_in (xs := ns) (i := k * 7 % ns.length) (Int.emod_nonneg _ (by omega)) (Int.emod_lt_of_pos _ hp)
      have hp' : 0 < ns.length := by omega
      have m4 : mulOk (x % 10000000000000000000000000000000000000000) (48271 + k) = true := mulOk_of (.inr (by omega))
      have m5 : mulOk (k * k * 7919 + 104729 + x % 10000000000000000000000000000000000000000 * (48271 + k)) (k * k * 7919 + 104729 + x % 10000000000000000000000000000000000000000 * (48271 + k)) = true := by
        have hk : k * k ≤ 1000000 * 1000000 := Int.mul_le_mul (by omega) (by omega) h0 (by decide)
        have hk0 : 0 ≤ k * k := Int.mul_nonneg h0 h0
        have hy := Int.emod_nonneg x (show (10000000000000000000000000000000000000000 : Int) ≠ 0 by decide)
        have hy2 := Int.emod_lt_of_pos x (show (0 : Int) < 10000000000000000000000000000000000000000 by decide)
        have hp2 : x % 10000000000000000000000000000000000000000 * (48271 + k) ≤ 10000000000000000000000000000000000000000 * 2000000 := Int.mul_le_mul (by omega) (by omega) (by omega) (by decide)
        have hp0 : 0 ≤ x % 10000000000000000000000000000000000000000 * (48271 + k) := Int.mul_nonneg hy (by omega)
        have hb : (k * k * 7919 + 104729 + x % 10000000000000000000000000000000000000000 * (48271 + k)).natAbs < 2 ^ 200 := by omega
        have hc : (2 : Nat) ^ 200 ≤ 2 ^ 400000 := Nat.pow_le_pow_right (by decide) (by decide)
        exact mulOk_big (Nat.lt_of_lt_of_le hb hc) (Nat.lt_of_lt_of_le hb hc)
      simp [pfOf_ap, B_cell, hk, hp', m1, ev_pow40, atI_map, e, m4, m5]
theorem row_ev (c most : Int) (n : Nat) (hm : 0 < most) (hm2 : most < 2 ^ 64) (hn : n ≤ 1000) : ∃ l : List Int, pfOf 6 B_row [.int c, .int most, .int n] = .ok (.list (l.map .int)) ∧ l.length = n ∧ ∀ x ∈ l, 0 ≤ x ∧ x < most := by
  have hr : rngOk (n : Int) = true := rng_of (by omega) (by omega)
  have hd : divOk most = true := divOk_s hm (by omega)
  obtain ⟨env', h', e, l, rest, k5, e1, e2, e3, e4⟩ := forGo_inv (t := gN 5) (b := sSeq (sExpr (eMl fApp (eV 3) (aCons (eBin opMod (eV 4) (eV 1)) aNil))) (sSet 4 (eBin opFdiv (eV 4) (eV 1)))) (us := iRange n 0)
    (fun i env h => ∃ (l : List Int) (rest : Int) (k5 : Option U), env = [some (.d (.int c)), some (.d (.int most)), some (.d (.int n)), some (.ref 0), some (.d (.int rest)), k5] ∧ h = [.lst (l.map .int)] ∧ l.length = i ∧ ∀ x ∈ l, 0 ≤ x ∧ x < most) 0
    (env := [some (.d (.int c)), some (.d (.int most)), some (.d (.int n)), some (.ref 0), some (.d (.int c)), none]) (h := [.lst []]) ⟨[], c, none, rfl, rfl, rfl, by simp⟩ (fun i u env h eu hI => by
      obtain ⟨l, rest, k5, rfl, rfl, e3, e4⟩ := hI
      obtain ⟨hi, rfl⟩ := iRange_get eu
      refine ⟨_, [some (.d (.int c)), some (.d (.int most)), some (.d (.int n)), some (.ref 0), some (.d (.int (rest / most))), some (.d (.int (0 + i)))], [.lst ((l ++ [rest % most]).map .int)], rfl, ?_, l ++ [rest % most], rest / most, _, rfl, rfl, by simp [e3], fun x hx => ?_⟩
      · simp [hm, hd, fits_of (show l.length + 1 ≤ 16777216 by omega)]
      · rcases List.mem_append.mp hx with z | z
        · exact e4 x z
        · rw [List.mem_singleton.mp z]
          exact ⟨Int.emod_nonneg _ (by omega), Int.emod_lt_of_pos _ hm⟩)
  subst e1 e2
  rw [iRange_len] at e3
  by_cases hrest : 0 < rest
  · refine ⟨l, ?_, by omega, e4⟩
    simp [pfOf_ap, B_row, hr, e, hrest]
  · have hmix : ∀ k : Nat, ∃ r, k < 1000000 → pfOf 3 B_mixed [.int c, .int k] = .ok (.int r) := fun k => by
      by_cases hk : k < 1000000
      · obtain ⟨r, h1, _⟩ := mixed_ev c k (by omega) (by omega)
        exact ⟨r, fun _ => h1⟩
      · exact ⟨0, fun z => absurd z hk⟩
    obtain ⟨mx, hmx⟩ := Classical.axiomOfChoice hmix
    refine ⟨(List.range n).map fun k => mx k % most, ?_, by simp, fun x hx => ?_⟩
    · have lc := lcGo_map (t := gN 5) (e := eBin opMod (eCall (pfOf 3 B_mixed) (aCons (eV 0) (aCons (eV 5) aNil))) (eV 1)) (env := [some (.d (.int c)), some (.d (.int most)), some (.d (.int n)), some (.ref 0), some (.d (.int rest)), none]) (h := [.lst (l.map .int)])
        (us := iRange n 0) (fun u => .int (mx ((intOf u).getD 0).toNat % most)) [] (fun u hu => by
          obtain ⟨i, hi⟩ := List.mem_iff_getElem?.mp hu
          obtain ⟨hi, rfl⟩ := iRange_get hi
          have hq : pfOf 3 B_mixed [.int c, .int (i : Int)] = .ok (.int (mx i)) := hmx i (by omega)
          refine ⟨_, rfl, ?_⟩
          simp [hq, hm]) (by rw [iRange_len]; simp; omega)
      have em : (iRange n 0).map (fun u => PyData.int (mx ((intOf u).getD 0).toNat % most)) = ((List.range n).map fun k => mx k % most).map .int := by
        unfold iRange
        rw [List.map_map, List.map_map]
        refine List.map_congr_left fun k _ => ?_
        simp
      rw [List.nil_append, em] at lc
      simp only [List.map_map] at lc
      simp [pfOf_ap, B_row, hr, e, hrest, wipeE, lc]
    · obtain ⟨k, _, rfl⟩ := List.mem_map.mp hx
      exact ⟨Int.emod_nonneg _ (by omega), Int.emod_lt_of_pos _ hm⟩
@[simp] theorem ev_Sl (b : Bool) (f : Ev) (lo hi : Eo) (env : Env') (h : Sto) : eSl b f lo hi env h = (f env h).bind fun u h1 => (lo env h1).bind fun l h2 => (hi env h2).bind fun r h3 => opSl b u l r h3 := (rfl)
@[simp] theorem ev_oNo (env : Env') (h : Sto) : oNo env h = .ok none h := (rfl)
@[simp] theorem ev_oSo (f : Ev) (env : Env') (h : Sto) : oSo f env h = (f env h).bind fun u h1 => match intOf u with | some i => .ok (some i) h1 | none => .stuck := (rfl)
@[simp] theorem ev_slL (b : Bool) (xs : List D) (lo hi : Option Int) (h : Sto) : opSl b (.d (.list xs)) lo hi h = mkL b (cutD xs lo hi) h := (rfl)
@[simp] theorem ev_slT (b : Bool) (xs : List D) (lo hi : Option Int) (h : Sto) : opSl b (.d (.tuple xs)) lo hi h = .ok (.d (.tuple (cutD xs lo hi))) h := (rfl)
end Wk

/-! FL: the floor: numbers, places, steps. -/
namespace Wk
open PySem L2
@[simp] theorem ev_lcN (t : Tg) (c : Eb) (e : Ev) (env : Env') (acc : List D) (h : Sto) : lcGo t c e env [] acc h = .ok acc h := (rfl)
@[simp] theorem ev_lcC (t : Tg) (c : Eb) (e : Ev) (env : Env') (u : U) (us : List U) (acc : List D) (h : Sto) : lcGo t c e env (u :: us) acc h = match t u env h with
    | some env1 => (c env1 h).bind fun k h1 => (match k with
      | true => (e env1 h1).bind fun w h2 => (match w with
        | .d x => if fits (acc.length + 1) then lcGo t c e env us (acc ++ [x]) h2 else .stuck
        | _ => .stuck)
      | false => lcGo t c e env us acc h1)
    | none => .stuck := (rfl)
@[simp] theorem ev_yes (env : Env') (h : Sto) : cYes env h = .ok true h := (rfl)
@[simp] theorem fits_s {n : Nat} (h : n ≤ 16777216) : fits n = true := fits_of h
@[simp] theorem ev_iSeq (f : Ev) (env : Env') (h : Sto) : iSeq f env h = (f env h).bind fun u h1 => match u with
  | .d (.tuple xs) => .ok (xs.map .d) h1
  | .d (.list xs) => .ok (xs.map .d) h1
  | .tup us => .ok us h1
  | _ => .stuck := (rfl)
@[simp] theorem ev_forN (t : Tg) (b : Es) (env : Env') (h : Sto) : forGo t b [] env h = .next env h := (rfl)
@[simp] theorem ev_forC (t : Tg) (b : Es) (u : U) (us : List U) (env : Env') (h : Sto) : forGo t b (u :: us) env h = match t u env h with | some env1 => (b env1 h).seq (forGo t b us) | none => .stuck := (rfl)
@[simp] theorem atI_0 {α : Type} (x : α) (r : List α) : atI (x :: r) 0 = some x := by
  have := atI_nat (xs := x :: r) (j := 0) (v := x) rfl
  exact this
@[simp] theorem atI_1 {α : Type} (x y : α) (r : List α) : atI (x :: y :: r) 1 = some y := by
  have := atI_nat (xs := x :: y :: r) (j := 1) (v := y) rfl
  exact this
@[simp] theorem atI_2 {α : Type} (x y z : α) (r : List α) : atI (x :: y :: z :: r) 2 = some z := by
  have := atI_nat (xs := x :: y :: z :: r) (j := 2) (v := z) rfl
  exact this
@[simp] theorem atI_3 {α : Type} (x y z w : α) (r : List α) : atI (x :: y :: z :: w :: r) 3 = some w := by
  have := atI_nat (xs := x :: y :: z :: w :: r) (j := 3) (v := w) rfl
  exact this
@[simp] theorem atI_4 {α : Type} (x y z w v : α) (r : List α) : atI (x :: y :: z :: w :: v :: r) 4 = some v := by
  have := atI_nat (xs := x :: y :: z :: w :: v :: r) (j := 4) (v := v) rfl
  exact this
/-- == of data that are no texts -/
theorem ev_eqD {x y : D} (n : Bool) (h : Sto) (nx : ∀ s, x ≠ .str s) (sx : SeqAt.shaped x = true) (sy : SeqAt.shaped y = true) : opEqB n (.d x) (.d y) h = .ok (.d (.bool (xor n (PyData.eqv x y)))) h := by
  have e : strOf (.d x) = none := by
    cases x with
    | str s => exact absurd rfl (nx s)
    | _ => rfl
  unfold opEqB
  rw [e]
  simp only [dataOf, sx, sy, Bool.and_self, if_true]
theorem ev_eqS {x : D} (n : Bool) (h : Sto) (nx : ∀ s, x ≠ .str s) (sx : SeqAt.shaped x = true) : opEqB n (.d x) (.d x) h = .ok (.d (.bool (!n))) h := by
  rw [ev_eqD n h nx sx sx, SeqAt.eqv_refl _ (SeqAt.canLay_of_shaped sx), Bool.xor_true]

/-- a place -/
structure P4 where
  a : Int
  b : Int
  c : Int
  d : Int
def P4.e (p : P4) : D := .tuple [.tuple [.int p.a, .int p.b], .tuple [.int p.c, .int p.d]]
theorem P4.shaped (p : P4) : SeqAt.shaped p.e = true := (rfl)
theorem P4.ns (p : P4) : ∀ s, p.e ≠ .str s := fun s z => nomatch z
@[simp] theorem ev_eqP (n : Bool) (p : P4) (h : Sto) : opEqB n (.d p.e) (.d p.e) h = .ok (.d (.bool (!n))) h := ev_eqS n h p.ns p.shaped
/-- the ways of the eight headings -/
def xa (h : Int) : Int := if h = 0 then 1 else if h = 4 then -1 else 0
def xb (h : Int) : Int := if h = 1 ∨ h = 7 then 1 else if h = 3 ∨ h = 5 then -1 else 0
def ya (h : Int) : Int := if h = 2 then 1 else if h = 6 then -1 else 0
def yb (h : Int) : Int := if h = 1 ∨ h = 3 then 1 else if h = 5 ∨ h = 7 then -1 else 0
def mv (h s : Int) (p : P4) : P4 := ⟨p.a + s * xa h, p.b + s * xb h, p.c + s * ya h, p.d + s * yb h⟩

def c_EAST : D := (.tuple [(.int 1), (.int 1), (.int 0), (.int (-1)), (.int (-1)), (.int (-1)), (.int 0), (.int 1)])
noncomputable def B_plus : Es := (sRet (eTup (aCons (eBin (opAdd false) (eBin opIx (eV 0) (eC (.int 0))) (eBin opIx (eV 1) (eC (.int 0)))) (aCons (eBin (opAdd false) (eBin opIx (eV 0) (eC (.int 1))) (eBin opIx (eV 1) (eC (.int 1)))) aNil))))
noncomputable def B_way_of : Es := (sSeq (sSet 2 (eBin opMul (eV 1) (eBin opIx (eC c_EAST) (eV 0))))
    (sSeq (sSet 3 (eBin opMul (eV 1) (eBin opIx (eC c_EAST) (eBin opMod (eBin (opAdd false) (eV 0) (eC (.int 6))) (eC (.int 8))))))
    (sSeq (sIf (tBin opEq (eBin opMod (eV 0) (eC (.int 2))) (eC (.int 0)))
    (sRet (eTup (aCons (eTup (aCons (eV 2) (aCons (eC (.int 0)) aNil))) (aCons (eTup (aCons (eV 3) (aCons (eC (.int 0)) aNil))) aNil))))
    sNil)
    (sRet (eTup (aCons (eTup (aCons (eC (.int 0)) (aCons (eV 2) aNil))) (aCons (eTup (aCons (eC (.int 0)) (aCons (eV 3) aNil))) aNil)))))))
noncomputable def B_moved : Es := (sSeq (sAsg (gTup' 2 (gCons' (gN 3) (gCons' (gN 4) gNil'))) (eCall (pfOf 4 B_way_of) (aCons (eV 1) (aCons (eV 2) aNil))))
    (sRet (eTup (aCons (eCall (pfOf 2 B_plus) (aCons (eBin opIx (eV 0) (eC (.int 0))) (aCons (eV 3) aNil))) (aCons (eCall (pfOf 2 B_plus) (aCons (eBin opIx (eV 0) (eC (.int 1))) (aCons (eV 4) aNil))) aNil)))))
theorem plus_ev (a b c d : Int) : pfOf 2 B_plus [.tuple [.int a, .int b], .tuple [.int c, .int d]] = .ok (.tuple [.int (a + c), .int (b + d)]) := by
  unfold B_plus
  simp [pfOf_ap]
theorem heads {h : Int} (h0 : 0 ≤ h) (h1 : h < 8) : h = 0 ∨ h = 1 ∨ h = 2 ∨ h = 3 ∨ h = 4 ∨ h = 5 ∨ h = 6 ∨ h = 7 := by omega
theorem east_at {h : Int} (h0 : 0 ≤ h) (h1 : h < 8) : ∃ x : Int, atI [PyData.int 1, .int 1, .int 0, .int (-1), .int (-1), .int (-1), .int 0, .int 1] h = some (.int x) ∧ x.natAbs ≤ 1 := by
  rcases heads h0 h1 with z | z | z | z | z | z | z | z <;> subst z <;> exact ⟨_, rfl, by decide⟩
theorem way_ev (h s : Int) (h0 : 0 ≤ h) (h1 : h < 8) : pfOf 4 B_way_of [.int h, .int s] = .ok (.tuple [.tuple [.int (s * xa h), .int (s * xb h)], .tuple [.int (s * ya h), .int (s * yb h)]]) := by
  have ix : ∀ (j : Nat) (x : D), [PyData.int 1, .int 1, .int 0, .int (-1), .int (-1), .int (-1), .int 0, .int 1][j]? = some x → atI [PyData.int 1, .int 1, .int 0, .int (-1), .int (-1), .int (-1), .int 0, .int 1] (j : Int) = some x := fun j x e => atI_nat e
  have i0 := ix 0 _ rfl
  have i1 := ix 1 _ rfl
  have i2 := ix 2 _ rfl
  have i3 := ix 3 _ rfl
  have i4 := ix 4 _ rfl
  have i5 := ix 5 _ rfl
  have i6 := ix 6 _ rfl
  have i7 := ix 7 _ rfl
  simp only [Int.ofNat_eq_natCast, Int.cast_ofNat_Int] at i0 i1 i2 i3 i4 i5 i6 i7
  unfold B_way_of c_EAST
  rcases heads h0 h1 with z | z | z | z | z | z | z | z <;> subst z <;> simp [pfOf_ap, i5, i6, i7, xa, xb, ya, yb]
theorem moved_ev (p : P4) (h s : Int) (h0 : 0 ≤ h) (h1 : h < 8) : pfOf 5 B_moved [p.e, .int h, .int s] = .ok (mv h s p).e := by
  rw [pfOf_ap]
  unfold B_moved P4.e mv
  simp [way_ev h s h0 h1, plus_ev]
theorem mv_zero (h : Int) (p : P4) : mv h 0 p = p := by
  unfold mv
  simp
theorem mv_mv (h s t : Int) (p : P4) : mv h t (mv h s p) = mv h (s + t) p := by
  unfold mv
  simp only [P4.mk.injEq]
  refine ⟨?_, ?_, ?_, ?_⟩ <;> grind
theorem mv_opp {h : Int} (s : Int) (p : P4) (h0 : 0 ≤ h) (h1 : h < 8) : mv ((h + 4) % 8) s p = mv h (-s) p := by
  unfold mv
  rcases heads h0 h1 with z | z | z | z | z | z | z | z <;> subst z <;> simp [xa, xb, ya, yb]
theorem mv_par {h : Int} (s : Int) (p : P4) (h0 : 0 ≤ h) (h1 : h < 8) : ((mv h s p).b + (mv h s p).d) % 2 = (p.b + p.d) % 2 := by
  unfold mv
  rcases heads h0 h1 with z | z | z | z | z | z | z | z <;> subst z <;> simp [xb, yb] <;> omega
theorem ev_pow6 (h : Sto) : opPow (.d (.int 10)) (.d (.int 6)) h = .ok (.d (.int 1000000)) h := by
  rw [ev_pow _ _ (by decide) (by decide) (by decide)]
  rfl
theorem two_at {α : Type} (a b : α) (x : Int) : ∃ y, atI [a, b] (x % 2) = some y ∧ (y = a ∨ y = b) := by
  have h : x % 2 = 0 ∨ x % 2 = 1 := by omega
  rcases h with z | z <;> rw [z]
  · exact ⟨a, atI_0 _ _, .inl rfl⟩
  · exact ⟨b, atI_1 _ _ _, .inr rfl⟩
/-! ### turned and mirrored -/
def rot (p : P4) : P4 := ⟨(p.b - p.d) / 2, p.a - p.c, (p.b + p.d) / 2, p.a + p.c⟩
def rotN : Nat → P4 → P4
  | 0, p => p
  | n + 1, p => rot (rotN n p)
def mir (p : P4) : P4 := ⟨p.a, p.b, -p.c, -p.d⟩
noncomputable def B_minus : Es := (sRet (eTup (aCons (eBin opSub (eBin opIx (eV 0) (eC (.int 0))) (eBin opIx (eV 1) (eC (.int 0)))) (aCons (eBin opSub (eBin opIx (eV 0) (eC (.int 1))) (eBin opIx (eV 1) (eC (.int 1)))) aNil))))
noncomputable def B_halved : Es := (sRet (eTup (aCons (eBin opFdiv (eBin opIx (eV 0) (eC (.int 1))) (eC (.int 2))) (aCons (eBin opIx (eV 0) (eC (.int 0))) aNil))))
noncomputable def B_mirrored_place : Es := (sRet (eTup (aCons (eBin opIx (eV 0) (eC (.int 0))) (aCons (eTup (aCons (eBin opSub (eC (.int 0)) (eBin opIx (eBin opIx (eV 0) (eC (.int 1))) (eC (.int 0)))) (aCons (eBin opSub (eC (.int 0)) (eBin opIx (eBin opIx (eV 0) (eC (.int 1))) (eC (.int 1)))) aNil))) aNil))))
noncomputable def L_turned_place_0 : Es := (sSeq (sAsg (gTup' 2 (gCons' (gN 3) (gCons' (gN 4) gNil'))) (eV 0))
    (sSet 0 (eTup (aCons (eCall (pfOf 1 B_halved) (aCons (eCall (pfOf 2 B_minus) (aCons (eV 3) (aCons (eV 4) aNil))) aNil)) (aCons (eCall (pfOf 1 B_halved) (aCons (eCall (pfOf 2 B_plus) (aCons (eV 3) (aCons (eV 4) aNil))) aNil)) aNil)))))
noncomputable def B_turned_place : Es := (sSeq (sFor (iR1 (aCons (eBin opMod (eV 1) (eC (.int 8))) aNil)) (gN 2) L_turned_place_0)
    (sRet (eV 0)))
theorem minus_ev (a b c d : Int) : pfOf 2 B_minus [.tuple [.int a, .int b], .tuple [.int c, .int d]] = .ok (.tuple [.int (a - c), .int (b - d)]) := by
  unfold B_minus
  simp [pfOf_ap]
theorem halved_ev (a b : Int) : pfOf 1 B_halved [.tuple [.int a, .int b]] = .ok (.tuple [.int (b / 2), .int a]) := by
  unfold B_halved
  simp [pfOf_ap]
theorem mirrored_ev (p : P4) : pfOf 1 B_mirrored_place [p.e] = .ok (mir p).e := by
  unfold B_mirrored_place P4.e mir
  simp [pfOf_ap]
theorem turned_ev (p : P4) (k : Int) : pfOf 5 B_turned_place [p.e, .int k] = .ok (rotN (k % 8).toNat p).e := by
  have h0 := Int.emod_nonneg k (show (8 : Int) ≠ 0 by decide)
  have h1 := Int.emod_lt_of_pos k (show (0 : Int) < 8 by decide)
  have hr : rngOk (k % 8) = true := rng_of (by omega) (by omega)
  obtain ⟨env', h', e, y2, y3, y4, rfl, rfl⟩ := forGo_inv (t := gN 2) (b := L_turned_place_0) (us := iRange (k % 8).toNat 0)
    (fun i env h => ∃ (y2 y3 y4 : Option U), env = [some (.d (rotN i p).e), some (.d (.int k)), y2, y3, y4] ∧ h = []) 0
    (env := [some (.d p.e), some (.d (.int k)), none, none, none]) (h := []) ⟨none, none, none, rfl, rfl⟩ (fun i u env h eu hI => by
      obtain ⟨y2, y3, y4, rfl, rfl⟩ := hI
      obtain ⟨hi, rfl⟩ := iRange_get eu
      refine ⟨_, [some (.d (rotN (0 + i + 1) p).e), some (.d (.int k)), some (.d (.int (0 + i))), some (.d (.tuple [.int (rotN (0 + i) p).a, .int (rotN (0 + i) p).b])), some (.d (.tuple [.int (rotN (0 + i) p).c, .int (rotN (0 + i) p).d]))], [], rfl, ?_, _, _, _, rfl, rfl⟩
      unfold L_turned_place_0
      simp [P4.e, minus_ev, plus_ev, halved_ev, rotN, rot])
  rw [pfOf_ap]
  unfold B_turned_place
  rw [iRange_len] at e
  simp [hr, e]
def P4.par (p : P4) : Prop := (p.b + p.d) % 2 = 0
theorem rot_par (p : P4) : (rot p).par := by
  unfold P4.par rot
  dsimp only
  omega
theorem rotN_par {p : P4} (h : p.par) : ∀ n, (rotN n p).par
  | 0 => h
  | n + 1 => rot_par _
theorem mir_par {p : P4} (h : p.par) : (mir p).par := by
  unfold P4.par mir at *
  dsimp only
  omega
theorem mv_par' {h : Int} (s : Int) {p : P4} (h0 : 0 ≤ h) (h1 : h < 8) (q : p.par) : (mv h s p).par := by
  unfold P4.par at *
  rw [mv_par s p h0 h1]
  exact q
theorem mir_mir (p : P4) : mir (mir p) = p := by
  unfold mir
  simp
theorem rot_mv {h : Int} (s : Int) {p : P4} (h0 : 0 ≤ h) (h1 : h < 8) : rot (mv h s p) = mv ((h + 1) % 8) s (rot p) := by
  unfold rot mv
  simp only [P4.mk.injEq]
  rcases heads h0 h1 with z | z | z | z | z | z | z | z <;> subst z <;> simp [xa, xb, ya, yb] <;> omega
theorem rotN_mv {h : Int} (s : Int) {p : P4} (h0 : 0 ≤ h) (h1 : h < 8) : ∀ n : Nat, rotN n (mv h s p) = mv ((h + n) % 8) s (rotN n p)
  | 0 => by
    show mv h s p = mv ((h + 0) % 8) s p
    rw [Int.add_zero, Int.emod_eq_of_lt h0 h1]
  | n + 1 => by
    show rot (rotN n (mv h s p)) = mv _ s (rot (rotN n p))
    rw [rotN_mv s h0 h1 n, rot_mv s (Int.emod_nonneg _ (by decide)) (Int.emod_lt_of_pos _ (by decide))]
    congr 1
    omega
theorem mir_mv {h : Int} (s : Int) {p : P4} (h0 : 0 ≤ h) (h1 : h < 8) : mir (mv h s p) = mv ((8 - h) % 8) s (mir p) := by
  unfold mir mv
  simp only [P4.mk.injEq]
  rcases heads h0 h1 with z | z | z | z | z | z | z | z <;> subst z <;> simp [xa, xb, ya, yb] <;> omega
/-- back by one eighth -/
def tor (p : P4) : P4 := ⟨(p.b + p.d) / 2, p.a + p.c, (p.d - p.b) / 2, p.c - p.a⟩
theorem tor_rot {p : P4} (h : p.par) : tor (rot p) = p := by
  unfold P4.par at h
  unfold tor rot
  rcases p with ⟨a, b, c, d⟩
  simp only [P4.mk.injEq] at *
  omega
theorem rot_mir {p : P4} (h : p.par) : rot (mir (rot p)) = mir p := by
  unfold P4.par at h
  unfold mir rot
  rcases p with ⟨a, b, c, d⟩
  simp only [P4.mk.injEq] at *
  omega
theorem rotN_add (p : P4) (m : Nat) : ∀ n, rotN (n + m) p = rotN n (rotN m p)
  | 0 => by rw [Nat.zero_add]; rfl
  | n + 1 => by
    rw [Nat.add_right_comm]
    show rot (rotN (n + m) p) = rot (rotN n (rotN m p))
    rw [rotN_add p m n]
theorem rotN_mir {p : P4} (h : p.par) : ∀ n, rotN n (mir (rotN n p)) = mir p
  | 0 => rfl
  | n + 1 => by
    rw [rotN_add (mir (rotN (n + 1) p)) 1 n]
    show rotN n (rot (mir (rot (rotN n p)))) = mir p
    rw [rot_mir (rotN_par h n), rotN_mir h n]
theorem rot8 {p : P4} (h : p.par) : rotN 8 p = p := by
  unfold P4.par at h
  rcases p with ⟨a, b, c, d⟩
  simp only [rotN, rot, P4.mk.injEq] at *
  omega
theorem rotN_back {p : P4} (h : p.par) {n : Nat} (hn : n ≤ 8) : rotN (8 - n) (mir p) = mir (rotN n p) := by
  have e := rotN_mir (rotN_par h n) (8 - n)
  have q : rotN (8 - n) (rotN n p) = p := by
    rw [← rotN_add, Nat.sub_add_cancel hn]
    exact rot8 h
  rw [q] at e
  exact e
end Wk

/-! T8: zip, reversed, in. -/
namespace RT
open PySem PySem.Spec PyProof.Rows
section
variable {prog : Program} {w : World} {A : Around} {E : Value → Shared → Prop} {s : Shared}
theorem call_list_rev {it l : Addr} {items : Array Value} {Q : Value → Shared → Prop} (hh : A.handled = none) (hit : s.heap.IsRevIter it l ((items.size : Int) - 1)) (hl : s.heap.IsList l items) (hne : l ≠ it) (hn : items.size ≤ sizeLine)
    (hQ : ∀ (h' : Heap) (tk : Nat) (acc : Array Value) (c' : Nat), (∀ b o, b ≠ it → s.heap.get? b = some o → h'.get? b = some o) → h'.get? s.heap.objs.size = some { cls := .type "list", dict := none, data := .seq acc c', slots := #[] } →
      ItemsOf (fun i v => items[items.size - 1 - i]? = some v) acc items.size → Q (.ref s.heap.objs.size) { s with heap := h', toks := tk }) :
    wpAny (model prog w) A (call (.type "list") [.ref it]) Q E s := by
  have W := (Walks.listRev (prog := prog) (w := w) (A := A.in1.in1) hh it l hne items).toS
  obtain ⟨oi, hoi, _⟩ := id hit
  obtain ⟨ol, hol, _⟩ := id hl
  have hSi : s.heap.objs.size ≠ it := Nat.ne_of_gt (Heap.lt_size hoi)
  have hSl : s.heap.objs.size ≠ l := Nat.ne_of_gt (Heap.lt_size hol)
  have hSf : s.heap.objs.size ∉ [it, l] := by simp only [List.mem_cons, List.not_mem_nil, or_false, not_or]; exact ⟨hSi, hSl⟩
  refine callType_codes (Q₁ := fun obj s₁ => obj = .ref s.heap.objs.size ∧ s₁ = { s with heap := s.heap.push { cls := .type "list", data := .seq #[] } }) F.called_list (F.typeCall_list_1 _) F.entry_list_init
    (code_list_new _ ⟨rfl, rfl⟩) fun obj s₁ h₁ => ?_
  obtain ⟨rfl, rfl⟩ := h₁
  have hS : (s.heap.push { cls := .type "list", data := .seq #[] }).get? s.heap.objs.size = some { cls := .type "list", data := .seq #[] } := Heap.get?_push_size _ rfl
  refine ⟨⟨_, hS, rfl⟩, F.args_list_init_2 _ _, ?_⟩
  show wpAny _ A.in1.in1 (do let old ← Builtin.List.listItems (.ref s.heap.objs.size); Builtin.List.listUpdate (.ref s.heap.objs.size) (fun _ => #[]); letGo old.toList.reverse; Builtin.List.listExtendWith (.ref s.heap.objs.size) (.ref it) .none) _ _ _
  refine wpAny_bind ?_
  unfold Builtin.List.listItems
  refine wpAny_bind (wpAny_seqItems hS rfl (wpAny_pure ?_))
  show wpAny _ A.in1.in1 (updateSeq s.heap.objs.size (fun _ => #[]) >>= fun _ => letGo (#[] : Array Value).toList.reverse >>= fun _ => Builtin.List.listExtendWith (.ref s.heap.objs.size) (.ref it) .none) _ _ _
  refine wpAny_bind (wpAny_updateSeq hS rfl ?_)
  have hS₂ := Heap.get?_update_self (Obj.mapSeq (fun _ => (#[] : Array Value))) hS rfl
  have oth : ∀ b o, s.heap.get? b = some o → ((s.heap.push { cls := .type "list", data := .seq #[] }).update s.heap.objs.size (Obj.mapSeq (fun _ => (#[] : Array Value)))).get? b = some o :=
    fun b o e => (Heap.get?_update_other _ _ (Nat.ne_of_gt (Heap.lt_size e))).trans (Heap.get?_push_of_some _ e)
  refine wpAny_bind (wpAny_letGo ?_)
  generalize ((s.heap.push { cls := .type "list", data := .seq #[] }).update s.heap.objs.size (Obj.mapSeq (fun _ => (#[] : Array Value)))) = h2 at hS₂ oth
  have hit1 : h2.IsRevIter it l ((items.size : Int) - 1) := hit.at fun o e => oth _ _ e
  have hl1 : h2.IsList l items := hl.at fun o e => oth _ _ e
  have hT : ({ s with heap := h2 } : Shared).TypeIs (.ref it) "list_reverseiterator" := Heap.IsRevIter.typeIs (s := { s with heap := h2 }) hit1
  have h1 : Builtin.List.listSameRef (.ref s.heap.objs.size) (.ref it) = false := by simp [Builtin.List.listSameRef, hSi]
  unfold Builtin.List.listExtendWith
  refine wpAny_bind (wpAny_typeOf hT ?_)
  rw [if_neg (by rw [h1]; decide)]
  refine wpAny_bind (wpAny_pyIter_revIter (s := { s with heap := h2 }) hit1 ?_)
  refine wpAny_bind (wpAny_holding ?_)
  unfold Builtin.List.listLengthHint
  refine wpAny_bind (wpAny_specialOf hT nolen_lri ?_)
  show wpAny _ A.in1.in1 (specialOf (Value.ref it) (Str.ofString "__length_hint__") >>= _) _ _ _
  refine wpAny_bind (wpAny_specialOf hT hint_lri ?_)
  generalize hid : ("list_reverseiterator.__length_hint__" : String) = id0
  wp_delta
  rw [show splitId id0 = some ("list_reverseiterator", "__length_hint__") from by subst hid; decide +kernel]
  subst hid
  refine wpAny_bind (wpAny_isInstance (b := true) hT (by rw [isSubtype_type]; kernel_rfl) ?_)
  refine wpAny_pure ?_
  rw [if_neg (by decide)]
  have e0 : ((items.size : Nat) : Int) - 1 - ((0 : Nat) : Int) = (items.size : Int) - 1 := by omega
  refine wpAny_pure ⟨plainId_quiet F.plain_extend_loop _, codeAny_extend_loopS W hn _ hSf _ items.size 0 _ _ _ rfl (Nat.zero_le _) ⟨Nat.zero_le _, by rw [e0]; exact hit1, hl1⟩ hS₂ (ItemsOf.nil _) fun s' acc' c' hm hS' hacc => ?_⟩
  refine ⟨rfl, ?_⟩
  rw [Moved.eq_with hm]
  refine hQ s'.heap s'.toks acc' c' (fun b o hb e => hm.heap b o (fun hmem => ?_) (oth b o e)) hS' hacc
  rcases List.mem_cons.mp hmem with e' | hmem
  · exact absurd (Heap.lt_size e) (by rw [e']; exact Nat.lt_irrefl _)
  · exact hb (List.mem_singleton.mp hmem)
end
end RT
namespace L2
open PySem PySem.Spec PyProof.Rows
section
variable {X : Cx}
/-- list(reversed(x)), x a list -/
def tListRev (K : PySem.W.Frag) (te : TE) : TE := fun σ H Q => te σ H fun v H1 => ∃ (a : Addr) (xs : List V), v = .ref a ∧ SqL K H1 a xs ∧ ∀ q, H1 q = none → Q (.ref q) (upd H1 q (.lst xs.reverse))
theorem pe_listRev {e : Expr} {te : TE} {p p2 pos pos2 : Pos} (hc : X.calm = true) (hg : Gl X "list") (hm : X.mg "list" = none) (hg2 : Gl X "reversed") (hm2 : X.mg "reversed" = none) (he : PE X e te)
    (hs : starEach [e] X.env = (false, eval e X.env) :: starEach [] X.env := by rfl)
    (hs2 : starEach [.Call (.Name "reversed" p2) [e] [] pos2] X.env = (false, eval (.Call (.Name "reversed" p2) [e] [] pos2) X.env) :: starEach [] X.env := by rfl) :
    PE X (.Call (.Name "list" p) [.Call (.Name "reversed" p2) [e] [] pos2] [] pos) (tListRev X.K te) := by
  refine ⟨fun pins s σ H Q I h => ?_⟩
  refine Call_ (ld_blt I hg hm boot_list (PyProof.Rows.callWith_type1 (args_cons (Call_ (ld_blt I hg2 hm2 PyProof.Rows.boot_reversed (PyProof.Rows.callWith_type1 (args_cons (thn (he.run pins s σ H _ I h) fun u s1 ⟨v, H1, I1, r1, q1⟩ => args_nil ?_) hs) hs rfl))) hs2) hs2 rfl))
  obtain ⟨a, xs, ev, hq, q⟩ := q1
  subst ev
  obtain rfl : u = Value.ref a := r1
  obtain ⟨its, rv, p', hz⟩ := I1.list hq
  refine call_reversed_list p'.isList (args_nil ?_)
  have k0 : ∀ b o, s1.heap.get? b = some o → (s1.heap.push (revObj a ((its.toArray.size : Int) - 1))).get? b = some o := fun b o e => Heap.get?_push_of_some _ e
  have I2 : Inv X pins σ H1 { s1 with heap := s1.heap.push (revObj a ((its.toArray.size : Int) - 1)) } := I1.kept (t' := s1.toks) k0
  obtain ⟨f0, f1, f2, f3, f4, f5⟩ := I1.fpOk (H' := H1) (b := s1.heap.objs.size) (Nat.le_refl _) (I1.hok.fresh (Nat.le_refl _))
  have hl := p'.isList
  obtain ⟨ol, hol, _⟩ := id hl
  have hne : a ≠ s1.heap.objs.size := Nat.ne_of_lt (Heap.lt_size hol)
  have hn : its.toArray.size ≤ sizeLine := by rw [List.size_toArray, ← rv.length]; exact hz
  refine RT.call_list_rev (s := { s1 with heap := s1.heap.push (revObj a ((its.toArray.size : Int) - 1)) }) (I1.ok.hd hc) ⟨_, Heap.get?_push_size _ rfl, rfl, rfl⟩ (hl.push _) hne hn fun h' tk acc c' hk hS hi => ?_
  have hL : s1.heap.objs.size ≠ (s1.heap.push (revObj a ((its.toArray.size : Int) - 1))).objs.size := by simp [Heap.push]
  have nL := I2.hok.fresh (Nat.le_refl (s1.heap.push (revObj a ((its.toArray.size : Int) - 1))).objs.size)
  have I3 := I2.laid (t' := tk) (o := .lst xs.reverse) (h' := (s1.heap.push (revObj a ((its.toArray.size : Int) - 1))).push { cls := .type "list", data := .seq acc c' }) (fun c o e => Heap.get?_push_of_some _ e) (Nat.le_refl _) (show ObjOk X.prog X.w _ _ _ (.lst xs.reverse) from ⟨by rw [List.length_reverse]; exact hz, acc.toList, c', RT.vals_rev rv hi, by rw [Array.toArray_toList]; exact Heap.get?_push_size _ rfl⟩)
  have I4 := I3.turned (t' := tk) (h' := h') (it := s1.heap.objs.size) (fun b o hb e => ?_) (by rw [upd_ne hL]; exact f0) f1 f3 f4 f5
  · exact ⟨.ref _, _, I4, rfl, q _ nL⟩
  · rcases Heap.get?_push_cases e with ⟨rfl, rfl⟩ | e
    · exact hS
    · exact hk b o hb e
end
end L2
namespace Wk
open PySem PySem.Spec PyProof.Rows L2
/-! ### list(reversed(x)), tuple(reversed(x)) -/
def opRevL (b : Bool) (u : U) (h : Sto) : Res U := match listOf h u with
  | some xs => mkL b xs.reverse h
  | none => .stuck
def opRevT (u : U) (h : Sto) : Res U := match listOf h u with
  | some xs => .ok (.d (.tuple xs.reverse)) h
  | none => .stuck
section
variable {X : Cx} {W : WX} {a : Expr} {f : Ev} {p p2 pos pos2 : Pos}
theorem se_revL (b : Bool) (hc : X.calm = true) (hg : Gl X "list") (hm : X.mg "list" = none) (hg2 : Gl X "reversed") (hm2 : X.mg "reversed" = none) (he : SE X W a f)
    (hs : starEach [a] X.env = (false, eval a X.env) :: starEach [] X.env := by rfl)
    (hs2 : starEach [.Call (.Name "reversed" p2) [a] [] pos2] X.env = (false, eval (.Call (.Name "reversed" p2) [a] [] pos2) X.env) :: starEach [] X.env := by rfl) :
    SE X W (.Call (.Name "list" p) [.Call (.Name "reversed" p2) [a] [] pos2] [] pos) (eUn (opRevL b) f) :=
  ⟨pe_imp (pe_gh (pe_listRev hc hg hm hg2 hm2 he.pe hs hs2)) fun σ H Q ⟨env, m, h, sta, sl, out⟩ => rd_of sta sl out fun u h1 x H1 m1 g1 s1 r1 out1 => by
    unfold opRevL at out1
    split at out1
    · rename_i ys e
      obtain ⟨q, vs, rfl, t1, d1⟩ := listOf_v s1 e r1
      exact ⟨q, vs, rfl, t1, fun l nl => mkL_ok s1 nl d1.rev out1⟩
    · exact out1.elim⟩
theorem se_revT (hc : X.calm = true) (hg : Gl X "tuple") (hm : X.mg "tuple" = none) (hg2 : Gl X "reversed") (hm2 : X.mg "reversed" = none) (he : SE X W a f)
    (hs : starEach [a] X.env = (false, eval a X.env) :: starEach [] X.env := by rfl)
    (hs2 : starEach [.Call (.Name "reversed" p2) [a] [] pos2] X.env = (false, eval (.Call (.Name "reversed" p2) [a] [] pos2) X.env) :: starEach [] X.env := by rfl) :
    SE X W (.Call (.Name "tuple" p) [.Call (.Name "reversed" p2) [a] [] pos2] [] pos) (eUn opRevT f) :=
  ⟨pe_imp (RT.pe_tupRev hc hg hm hg2 hm2 he.pe hs hs2) fun σ H Q ⟨env, m, h, sta, sl, out⟩ => rd_of sta sl out fun u h1 x H1 m1 g1 s1 r1 out1 => by
    unfold opRevT at out1
    split at out1
    · rename_i ys e
      obtain ⟨q, vs, rfl, t1, d1⟩ := listOf_v s1 e r1
      refine ⟨q, vs, rfl, t1, fun l nl => ?_⟩
      have sm : Same H1 (upd H1 l (.tup vs.reverse)) := Same.lay nl
      exact Out.ok (b := V.ref l) out1 (Gr.of_same sm m1) (s1.same sm) (.d (.tup (.inl (.inl upd_same)) (RDs.kp (Kp.same sm) _ _ d1.rev)))
    · exact out1.elim⟩
end
/-! ### zip -/
def zipD (xs ys : List D) : List U := List.zipWith (fun x y => U.d (.tuple [x, y])) xs ys
def iZip (fa : Ea) : Ea := fun env h => (fa env h).bind fun us h1 => match us with
  | [.d (.list xs), .d (.list ys)] => .ok (zipD xs ys) h1
  | [.d (.tuple xs), .d (.tuple ys)] => .ok (zipD xs ys) h1
  | _ => .stuck
section
variable {X : Cx} {W : WX} {a b : Expr} {fa : Ea} {p pos tpos : Pos} {elts : List Expr} {kk : Nat}
theorem zipD_get {xs ys : List D} {i : Nat} {u : U} (e : (zipD xs ys)[i]? = some u) : ∃ x y, xs[i]? = some x ∧ ys[i]? = some y ∧ u = .d (.tuple [x, y]) := by
  unfold zipD at e
  rw [List.getElem?_zipWith] at e
  split at e
  · rename_i x y h1 h2
    cases e
    exact ⟨x, y, h1, h2, rfl⟩
  · cases e
theorem si_zip (hg : Gl X "zip") (hm : X.mg "zip" = none) (ha : SA X W [a, b] fa)
    (hs : starEach [a, b] X.env = (false, eval a X.env) :: starEach [b] X.env := by rfl) (hpl : (backTo pos (starEach [b] X.env)).any (·.1) = false := by rfl) :
    SI X W (.Tuple elts kk tpos) (.Call (.Name "zip" p) [a, b] [] pos) (iZip fa) :=
  ⟨pi_imp (RZ.pi_zipA hg hm ha.pa hs hpl) fun σ H R ⟨env, m, h, sta, sl, out⟩ => rd_of sta sl out fun us h1 vs H1 m1 g1 s1 r1 out1 => by
    split at out1
    · cases r1 with
      | cons ra rb =>
        cases rb with
        | cons rb rc =>
          cases rc
          cases ra.rd with
          | lst t d =>
            cases rb.rd with
            | lst t' d' =>
              refine ⟨_, _, _, _, rfl, .inl ⟨t.sq, t'.sq, Out.here (b := Itz X.K _ _) out1 s1 fun H' m' k pre => ?_⟩⟩
              have q1 := (k.fzL t).sq
              have q2 := (k.fzL t').sq
              refine ⟨fun i hi => ⟨_, _, q1, q2, ?_⟩, fun i u e => ?_⟩
              · unfold zipD at hi
                rw [List.length_zipWith] at hi
                have := d.len
                have := d'.len
                omega
              · obtain ⟨x, y, e1, e2, rfl⟩ := zipD_get e
                obtain ⟨v, f1, w1⟩ := d.get e1
                obtain ⟨v', f2, w2⟩ := d'.get e2
                refine ⟨⟨_, _, _, _, q1, q2, f1, f2⟩, fun z H'' yy => ?_⟩
                obtain ⟨T, x', y', rfl, hT, rfl, g1, g2⟩ := yy
                have g1 := g1 _ q1
                have g2 := g2 _ q2
                rw [f1] at g1
                rw [f2] at g2
                cases g1
                cases g2
                have sm : Same H' (upd H' T (.tup [v, v'])) := Same.lay hT
                have kk := k.trans (Kp.same sm)
                exact ⟨sm, .d (.tup (.inl (.inl upd_same)) (.cons (RD.kp kk _ _ w1) (.cons (RD.kp kk _ _ w2) .nil)))⟩
    · cases r1 with
      | cons ra rb =>
        cases rb with
        | cons rb rc =>
          cases rc
          cases ra.rd with
          | tup t d =>
            cases rb.rd with
            | tup t' d' =>
              refine ⟨_, _, _, _, rfl, .inr ⟨t, t', Out.here (b := RZ.ItzT X.K _ _) out1 s1 fun H' m' k pre => ?_⟩⟩
              have q1 := k.sqT t
              have q2 := k.sqT t'
              refine ⟨fun i hi => ⟨_, _, q1, q2, ?_⟩, fun i u e => ?_⟩
              · unfold zipD at hi
                rw [List.length_zipWith] at hi
                have := d.len
                have := d'.len
                omega
              · obtain ⟨x, y, e1, e2, rfl⟩ := zipD_get e
                obtain ⟨v, f1, w1⟩ := d.get e1
                obtain ⟨v', f2, w2⟩ := d'.get e2
                refine ⟨⟨_, _, _, _, q1, q2, f1, f2⟩, fun z H'' yy => ?_⟩
                obtain ⟨T, x', y', rfl, hT, rfl, g1, g2⟩ := yy
                have g1 := g1 _ q1
                have g2 := g2 _ q2
                rw [f1] at g1
                rw [f2] at g2
                cases g1
                cases g2
                have sm : Same H' (upd H' T (.tup [v, v'])) := Same.lay hT
                have kk := k.trans (Kp.same sm)
                exact ⟨sm, .d (.tup (.inl (.inl upd_same)) (.cons (RD.kp kk _ _ w1) (.cons (RD.kp kk _ _ w2) .nil)))⟩
    · exact out1.elim⟩
end
end Wk
/-! ### in, not in -/
namespace Wk
open PySem PySem.Spec PyProof.Rows L2
def keyOf : U → Option Key
  | .d (.int i) => some (.inl i)
  | .d (.str x) => some (.inr x)
  | _ => none
def dictOf (h : Sto) : U → Option (List (Key × U))
  | .ref n => match h[n]? with
    | some (.dct kvs) => some kvs
    | _ => none
  | _ => none
def valU (kvs : List (Key × U)) (k : Key) : Option U := (kvs.find? fun kv => decide (kv.1 = k)).map (·.2)
def putU (kvs : List (Key × U)) (k : Key) (v : U) : List (Key × U) := if kvs.any fun kv => decide (kv.1 = k) then kvs.map fun kv => if kv.1 = k then (kv.1, v) else kv else kvs ++ [(k, v)]
theorem RK.val {K : PySem.W.Frag} {H : Hp} {m : List Addr} {gs : List (Key × V)} {kvs : List (Key × U)} (r : RK K H m gs kvs) (k : Key) : (valV gs k = none ∧ valU kvs k = none) ∨ ∃ v u, valV gs k = some v ∧ valU kvs k = some u ∧ RU K H m v u := by
  unfold RK at r
  induction r with
  | nil => exact .inl ⟨rfl, rfl⟩
  | @cons p q l l' h _ ih =>
    by_cases e : p.1 = k
    · exact .inr ⟨p.2, q.2, valV_pos e, by simp [valU, List.find?_cons, ← h.1, e], h.2⟩
    · have e' : ¬ q.1 = k := fun z => e (h.1.trans z)
      rw [valV_neg e]
      have : valU (q :: l') k = valU l' k := by simp [valU, List.find?_cons, e']
      rw [this]
      exact ih
theorem RK.any {K : PySem.W.Frag} {H : Hp} {m : List Addr} {gs : List (Key × V)} {kvs : List (Key × U)} (r : RK K H m gs kvs) (k : Key) : (gs.any fun kv => decide (kv.1 = k)) = kvs.any fun kv => decide (kv.1 = k) := by
  unfold RK at r
  induction r with
  | nil => rfl
  | cons h _ ih => rw [List.any_cons, List.any_cons, ih, h.1]
theorem RK.put {K : PySem.W.Frag} {H : Hp} {m : List Addr} {gs : List (Key × V)} {kvs : List (Key × U)} (r : RK K H m gs kvs) (k : Key) {v : V} {u : U} (ru : RU K H m v u) : RK K H m (putK gs k v) (putU kvs k u) := by
  unfold putK putU
  rw [← r.any k]
  split
  · unfold RK at r ⊢
    rename_i hh; clear hh
    induction r with
    | nil => exact .nil
    | @cons p q l l' h _ ih =>
      rw [List.map_cons, List.map_cons]
      refine .cons ?_ ih
      by_cases e : p.1 = k
      · rw [if_pos e, if_pos (h.1 ▸ e)]
        exact ⟨h.1, ru⟩
      · rw [if_neg e, if_neg (h.1 ▸ e)]
        exact h
  · unfold RK at r ⊢
    rename_i hh; clear hh
    induction r with
    | nil => exact .cons ⟨rfl, ru⟩ .nil
    | cons h _ ih => exact .cons h ih
theorem RK.len {K : PySem.W.Frag} {H : Hp} {m : List Addr} {gs : List (Key × V)} {kvs : List (Key × U)} (r : RK K H m gs kvs) : gs.length = kvs.length := Paired.length r
theorem keyOf_v {K : PySem.W.Frag} {H : Hp} {m : List Addr} {v : V} {u : U} {k : Key} (e : keyOf u = some k) (r : RU K H m v u) : v = kV k := by
  unfold keyOf at e
  split at e
  · cases e; cases r.rd; rfl
  · cases e; cases r.rd; rfl
  · cases e
theorem dictOf_v {K : PySem.W.Frag} {mg : Str → Option Value} {H : Hp} {m : List Addr} {h : Sto} {v : V} {u : U} {kvs : List (Key × U)} (s : Sta K mg H m h) (e : dictOf h u = some kvs) (r : RU K H m v u) : ∃ a n gs, u = .ref n ∧ m[n]? = some a ∧ h[n]? = some (.dct kvs) ∧ v = .ref a ∧ H a = some (.dK gs) ∧ RK K H m gs kvs := by
  unfold dictOf at e
  split at e
  · split at e
    · rename_i n ob ho
      cases e
      cases r with
      | ref hm =>
        obtain ⟨gs, h1, h2⟩ := s.obj _ _ _ hm ho
        exact ⟨_, _, gs, rfl, hm, ho, rfl, h1, h2⟩
    · cases e
  · cases e
def signIn (x z : Str) : Option Bool := match x.cps.toList with
  | [c] => some (decide (c ∈ z.cps.toList))
  | _ => none
def inOf (u w : U) (h : Sto) : Option Bool := match strOf u, strOf w with
  | some x, some z => signIn x z
  | _, _ => match dictOf h w, keyOf u with
    | some kvs, some k => some (valU kvs k).isSome
    | _, _ => match dataOf h u, dataOf h w with
      | some d, some (.list ds) => if SeqAt.shaped d && SeqAt.shaped (.list ds) then some (ds.any fun z => PyData.eqv z d) else none
      | some d, some (.tuple ds) => if SeqAt.shaped d && SeqAt.shaped (.tuple ds) then some (ds.any fun z => PyData.eqv z d) else none
      | _, _ => none
def opIn (n : Bool) (u w : U) (h : Sto) : Res U := match inOf u w h with
  | some b => .ok (.d (.bool (xor n b))) h
  | none => .stuck
section
variable {X : Cx} {W : WX}
def rInX (K : PySem.W.Frag) (n : Bool) : R2 := fun x y H Q =>
  (∃ (c : Nat) (z : Str), x = .str ⟨#[c]⟩ ∧ y = .str z ∧ Q (.bl (xor n (decide (c ∈ z.cps.toList)))) H) ∨
  (∃ a o, y = .ref a ∧ DGet H a x o ∧ Q (.bl (xor n o.isSome)) H) ∨
  (∃ d ds, Dp K H x d ∧ (Dp K H y (.list ds) ∧ SeqAt.shaped (.list ds) = true ∨ Dp K H y (.tuple ds) ∧ SeqAt.shaped (.tuple ds) = true) ∧ SeqAt.shaped d = true ∧ Q (.bl (xor n (ds.any fun z => PyData.eqv z d))) H)
theorem shaped_tup {ds : List PyData} (h : SeqAt.shaped (.tuple ds) = true) : PyData.canLayAll0 ds = true := SeqAt.canLay_of_shaped h
theorem op_inX (hu : X.A.units + 65 < cLine) : OpR X (compareOp .In) (rInX X.K false) := by
  intro pins s σ H x y v u Q I rx ry h
  rcases h with ⟨c, z, rfl, rfl, q⟩ | ⟨a, o, rfl, g, q⟩ | ⟨d, ds, hd, he | he, sd, q⟩
  · rw [Bool.false_xor] at q
    exact op_in_sign pins s σ H _ _ v u Q I rx ry ⟨c, z, rfl, rfl, q⟩
  · cases ry
    rw [Bool.false_xor] at q
    exact d_in (by omega) I g rx fun s' I' => ⟨.bl _, H, I', rfl, q⟩
  · rw [Bool.false_xor] at q
    exact op_inD hu pins s σ H x y v u Q I rx ry ⟨d, ds, hd, he.1, sd, he.2, q⟩
  · rw [Bool.false_xor] at q
    obtain ⟨as, r1⟩ := Dp.reads I d x v hd rx
    obtain ⟨bs, r2⟩ := Dp.reads I (.tuple ds) y u he.1 ry
    exact SeqAt.in_tuple_reads r2 r1 (shaped_tup he.2) (SeqAt.canLay_of_shaped sd) (room_in_shaped sd hu) ⟨.bl _, H, I, rfl, q⟩
theorem op_notInX (hu : X.A.units + 65 < cLine) : OpR X (compareOp .NotIn) (rInX X.K true) := by
  intro pins s σ H x y v u Q I rx ry h
  rcases h with ⟨c, z, rfl, rfl, q⟩ | ⟨a, o, rfl, g, q⟩ | ⟨d, ds, hd, he | he, sd, q⟩
  · rw [Bool.true_xor] at q
    exact op_notIn_sign pins s σ H _ _ v u Q I rx ry ⟨c, z, rfl, rfl, q⟩
  · cases ry
    rw [Bool.true_xor] at q
    exact d_notIn (by omega) I g rx fun s' I' => ⟨.bl _, H, I', rfl, q⟩
  · rw [Bool.true_xor] at q
    exact op_notInD hu pins s σ H x y v u Q I rx ry ⟨d, ds, hd, he.1, sd, he.2, q⟩
  · rw [Bool.true_xor] at q
    obtain ⟨as, r1⟩ := Dp.reads I d x v hd rx
    obtain ⟨bs, r2⟩ := Dp.reads I (.tuple ds) y u he.1 ry
    exact SeqAt.notIn_tuple_reads r2 r1 (shaped_tup he.2) (SeqAt.canLay_of_shaped sd) (room_in_shaped sd hu) ⟨.bl _, H, I, rfl, q⟩
theorem ab_in (n : Bool) : Ab2 X W (opIn n) (rInX X.K n) := by
  intro σ H m h x y u w Q s ru rw out
  unfold opIn at out
  split at out
  · rename_i b e
    have fin : ∀ H' m', H' = H → m' = m → Q (.bl (xor n b)) H := fun _ _ _ _ => Out.here (b := V.bl _) out s (.d (.bl _))
    have q := fin H m rfl rfl
    unfold inOf at e
    split at e
    · rename_i x' z' e1 e2
      unfold signIn at e
      split at e
      · rename_i c ec
        cases e
        refine .inl ⟨c, z', ?_, strOf_v e2 rw, q⟩
        rw [strOf_v e1 ru]
        obtain ⟨cps⟩ := x'
        obtain ⟨l⟩ := cps
        simp at ec
        rw [ec]
      · cases e
    · split at e
      · rename_i kvs k e1 e2
        cases e
        obtain ⟨a, i, gs, rfl, hm, hi, rfl, hH, rk⟩ := dictOf_v s e1 rw
        refine .inr (.inl ⟨a, valV gs k, rfl, ?_, ?_⟩)
        · rw [keyOf_v e2 ru]
          exact .inl ⟨gs, k, .inl hH, rfl, rfl⟩
        · rcases rk.val k with ⟨h1, h2⟩ | ⟨v, u', h1, h2, _⟩
          · rw [h1]; rw [h2] at q; exact q
          · rw [h1]; rw [h2] at q; exact q
      · split at e
        · rename_i d ds e1 e2
          split at e
          · rename_i hs
            rw [Bool.and_eq_true] at hs
            cases e
            exact .inr (.inr ⟨d, ds, dataOf_v s _ _ _ e1 ru, .inl ⟨dataOf_v s _ _ _ e2 rw, hs.2⟩, hs.1, q⟩)
          · cases e
        · rename_i d ds e1 e2
          split at e
          · rename_i hs
            rw [Bool.and_eq_true] at hs
            cases e
            exact .inr (.inr ⟨d, ds, dataOf_v s _ _ _ e1 ru, .inr ⟨dataOf_v s _ _ _ e2 rw, hs.2⟩, hs.1, q⟩)
          · cases e
        · cases e
  · exact out.elim
end
end Wk
namespace Wk
open PySem L2
theorem units65 {k : Nat} {A : Around} (r : Room k A) : A.units + 65 < cLine := by have := r.un; omega
section
variable {fa : Ea} {env : Env'} {h : Sto} {u w : U}
@[simp] theorem ev_Zip : iZip fa env h = (fa env h).bind fun us h1 => match us with | [.d (.list xs), .d (.list ys)] => .ok (zipD xs ys) h1 | [.d (.tuple xs), .d (.tuple ys)] => .ok (zipD xs ys) h1 | _ => .stuck := (rfl)
@[simp] theorem ev_revL (b : Bool) (xs : List D) : opRevL b (.d (.list xs)) h = mkL b xs.reverse h := (rfl)
@[simp] theorem ev_revT (xs : List D) : opRevT (.d (.list xs)) h = .ok (.d (.tuple xs.reverse)) h := (rfl)
@[simp] theorem ev_in (n : Bool) : opIn n u w h = match inOf u w h with | some b => .ok (.d (.bool (xor n b))) h | none => .stuck := (rfl)
end
end Wk

/-! WL: bounds of places, lists in the store. -/
namespace Wk
open PySem L2
def P4.bd (n : Int) (p : P4) : Prop := (-n ≤ p.a ∧ p.a ≤ n) ∧ (-n ≤ p.b ∧ p.b ≤ n) ∧ (-n ≤ p.c ∧ p.c ≤ n) ∧ -n ≤ p.d ∧ p.d ≤ n
theorem P4.bd.mono {m n : Int} {p : P4} (h : p.bd m) (l : m ≤ n) : p.bd n := by unfold P4.bd at *; omega
theorem mv_bd {n m h s : Int} {p : P4} (h0 : 0 ≤ h) (h1 : h < 8) (b : p.bd n) (hs : -m ≤ s) (hs2 : s ≤ m) : (mv h s p).bd (n + m) := by
  unfold P4.bd at *
  unfold mv
  rcases heads h0 h1 with z | z | z | z | z | z | z | z <;> subst z <;> simp [xa, xb, ya, yb] <;> omega
theorem lst_ref (xs : List D) (n : Int) (h0 : 0 ≤ n) (h1 : n < xs.length) : ∃ x, atI xs n = some x ∧ x ∈ xs := atI_in h0 h1
theorem ixR (xs : List D) (i : Int) : opIx (.ref 0) (.d (.int i)) [.lst xs] = match atI xs i with | some x => .ok (.d x) [.lst xs] | none => .stuck := (rfl)
theorem lenR (xs : List D) : fLen [.ref 0] [.lst xs] = .ok (.d (.int xs.length)) [.lst xs] := (rfl)
theorem slR (b : Bool) (xs : List D) (lo hi : Option Int) : opSl b (.ref 0) lo hi [.lst xs] = mkL b (cutD xs lo hi) [.lst xs] := (rfl)
theorem addRL (xs ys : List D) (h : xs.length + ys.length ≤ 16777216) : opAdd false (.ref 0) (.d (.list ys)) [.lst xs] = .ok (.d (.list (xs ++ ys))) [.lst xs] := by
  show (if fits (xs.length + ys.length) then mkL false (xs ++ ys) [.lst xs] else .stuck) = _
  rw [fits_of h]
  rfl
theorem addLL (xs ys : List D) (h : Sto) (hl : xs.length + ys.length ≤ 16777216) : opAdd false (.d (.list xs)) (.d (.list ys)) h = .ok (.d (.list (xs ++ ys))) h := by
  show (if fits (xs.length + ys.length) then mkL false (xs ++ ys) h else .stuck) = _
  rw [fits_of hl]
  rfl
theorem three {α : Type} {l : List α} (h : l.length = 3) : ∃ a b c, l = [a, b, c] := by
  match l, h with
  | [a, b, c], _ => exact ⟨a, b, c, rfl⟩
theorem pick {l : List Int} (hl : 0 < l.length) (hb : ∀ x ∈ l, 0 ≤ x ∧ x < 8) (i : Int) : ∃ h : Int, atI (l.map PyData.int) (i % l.length) = some (.int h) ∧ 0 ≤ h ∧ h < 8 := by
  obtain ⟨x, e, hx⟩ := atI_in (xs := l) (i := i % l.length) (Int.emod_nonneg _ (by omega)) (Int.emod_lt_of_pos _ (by omega))
  exact ⟨x, by rw [atI_map, e]; rfl, hb x hx⟩
theorem heads_at (i : Int) : ∃ l : List Int, atI [PyData.list [.int 0, .int 1, .int 2, .int 3, .int 4, .int 5, .int 6, .int 7], .list [.int 0, .int 2, .int 4, .int 6], .list [.int 1, .int 2, .int 3, .int 4, .int 5, .int 6, .int 7, .int 0], .list [.int 0, .int 1, .int 1, .int 4, .int 5]] (i % 4) = some (.list (l.map .int)) ∧ 0 < l.length ∧ ∀ x ∈ l, 0 ≤ x ∧ x < 8 := by
  have h : i % 4 = 0 ∨ i % 4 = 1 ∨ i % 4 = 2 ∨ i % 4 = 3 := by omega
  rcases h with z | z | z | z <;> rw [z]
  · exact ⟨[0, 1, 2, 3, 4, 5, 6, 7], atI_0 _ _, by decide, by decide⟩
  · exact ⟨[0, 2, 4, 6], atI_1 _ _ _, by decide, by decide⟩
  · exact ⟨[1, 2, 3, 4, 5, 6, 7, 0], atI_2 _ _ _ _, by decide, by decide⟩
  · exact ⟨[0, 1, 1, 4, 5], atI_3 _ _ _ _ _, by decide, by decide⟩
theorem fars_at (i : Int) : ∃ f : Int, atI [PyData.int 2, .int 3, .int 6, .int 1000] (i % 4) = some (.int f) ∧ 0 < f ∧ f ≤ 1000 := by
  have h : i % 4 = 0 ∨ i % 4 = 1 ∨ i % 4 = 2 ∨ i % 4 = 3 := by omega
  rcases h with z | z | z | z <;> rw [z]
  · exact ⟨2, atI_0 _ _, by decide, by decide⟩
  · exact ⟨3, atI_1 _ _ _, by decide, by decide⟩
  · exact ⟨6, atI_2 _ _ _ _, by decide, by decide⟩
  · exact ⟨1000, atI_3 _ _ _ _ _, by decide, by decide⟩

theorem lcGo_mapF {α : Type} {t : Tg} {e : Ev} {env : Env'} {h : Sto} (en : α → U) (f : α → D) : ∀ (l : List α) (acc : List D), (∀ x ∈ l, ∃ env1, t (en x) env h = some env1 ∧ e env1 h = .ok (.d (f x)) h) → acc.length + l.length ≤ 16777216 → lcGo t cYes e env (l.map en) acc h = .ok (acc ++ l.map f) h
  | [], acc, _, _ => by simp
  | x :: l, acc, H, hl => by
    obtain ⟨env1, e1, e2⟩ := H x List.mem_cons_self
    rw [List.length_cons] at hl
    have ih := lcGo_mapF (t := t) (e := e) (env := env) (h := h) en f l (acc ++ [f x]) (fun v hv => H v (List.mem_cons_of_mem _ hv)) (by rw [List.length_append, List.length_singleton]; omega)
    have hf : fits (acc.length + 1) = true := fits_of (by omega)
    simp [e1, e2, hf, ih]
/-! ### a way, pair by pair -/
def pairs {α : Type} : List α → List (α × α)
  | p :: q :: r => (p, q) :: pairs (q :: r)
  | _ => []
theorem zip_pairs {α : Type} : ∀ l : List α, List.zipWith (fun x y => (x, y)) l.dropLast l.tail = pairs l
  | [] => rfl
  | [p] => rfl
  | p :: q :: r => by
    have ih := zip_pairs (q :: r)
    have e : (p :: q :: r).dropLast = p :: (q :: r).dropLast := List.dropLast_cons_of_ne_nil (by simp)
    rw [e, List.tail_cons, pairs, ← ih]
    cases r with
    | nil => rfl
    | cons a r => rfl
def prU (z : D × D) : U := .d (.tuple [z.1, z.2])
theorem zipD_pairs (l : List D) : zipD l.dropLast l.tail = (pairs l).map prU := by
  rw [← zip_pairs]
  unfold zipD
  rw [List.map_zipWith]
  rfl
theorem pairs_map {α β : Type} (f : α → β) : ∀ l : List α, pairs (l.map f) = (pairs l).map fun z => (f z.1, f z.2)
  | [] => rfl
  | [p] => rfl
  | p :: q :: r => by
    have ih := pairs_map f (q :: r)
    simp only [List.map_cons] at ih ⊢
    rw [pairs, pairs, ih]
    rfl
theorem cut_front {α : Type} (l : List α) : cutD l none (some (-1)) = l.dropLast := by
  unfold cutD
  rw [List.dropLast_eq_take]
  have h1 : HT.sIx l.length 0 none = 0 := rfl
  have h2 : HT.sIx l.length l.length (some (-1)) = l.length - 1 := by
    unfold HT.sIx
    simp
    omega
  rw [h1, h2]
  simp
theorem cut_tail {α : Type} (l : List α) : cutD l (some 1) none = l.tail := by
  unfold cutD
  have h1 : HT.sIx l.length 0 (some 1) = min 1 l.length := HT.sIx_nat _ _ 1
  have h2 : HT.sIx l.length l.length none = l.length := rfl
  rw [h1, h2]
  cases l with
  | nil => rfl
  | cons a r => simp
theorem cut_to {α : Type} (l : List α) (n : Nat) (h : n ≤ l.length) : cutD l none (some (n : Int)) = l.take n := by
  unfold cutD
  have h1 : HT.sIx l.length 0 none = 0 := rfl
  have h2 : HT.sIx l.length l.length (some (n : Int)) = n := by
    rw [HT.sIx_nat]
    omega
  rw [h1, h2]
  simp
theorem cut_from {α : Type} (l : List α) (n : Nat) (h : n ≤ l.length) : cutD l (some (n : Int)) none = l.drop n := by
  unfold cutD
  have h1 : HT.sIx l.length 0 (some (n : Int)) = n := by
    rw [HT.sIx_nat]
    omega
  have h2 : HT.sIx l.length l.length none = l.length := rfl
  rw [h1, h2, List.take_of_length_le]
  simp
theorem cut_fb {α : Type} (l : List α) (n : Nat) (h : n < l.length) : cutD l (some (n : Int)) (some (-1)) = (l.dropLast).drop n := by
  unfold cutD
  have h1 : HT.sIx l.length 0 (some (n : Int)) = n := by
    rw [HT.sIx_nat]
    omega
  have h2 : HT.sIx l.length l.length (some (-1)) = l.length - 1 := by
    unfold HT.sIx
    simp
    omega
  rw [h1, h2, List.dropLast_eq_take, List.drop_take]
/-- a sum along a way -/
def sumP {α : Type} (f : α → α → Int) : List α → Int
  | p :: q :: r => f p q + sumP f (q :: r)
  | _ => 0
theorem sumP_app {α : Type} (f : α → α → Int) (x : α) (m : List α) : ∀ l : List α, sumP f (l ++ x :: m) = sumP f (l ++ [x]) + sumP f (x :: m)
  | [] => by simp [sumP]
  | [p] => by simp [sumP]
  | p :: q :: r => by
    have ih := sumP_app f x m (q :: r)
    simp only [List.cons_append] at ih ⊢
    rw [sumP, sumP, ih]
    omega
theorem sumP_snoc {α : Type} (f : α → α → Int) (l : List α) (x y : α) : sumP f (l ++ [x, y]) = sumP f (l ++ [x]) + f x y := by
  rw [sumP_app f x [y] l]
  simp [sumP]
theorem sumP_rev {α : Type} (f : α → α → Int) : ∀ l : List α, sumP f l.reverse = sumP (fun p q => f q p) l
  | [] => rfl
  | [p] => rfl
  | p :: q :: r => by
    have ih := sumP_rev f (q :: r)
    rw [List.reverse_cons, List.reverse_cons, List.append_assoc, List.singleton_append, sumP_snoc, sumP, ← List.reverse_cons, ih]
    omega
theorem sumP_map {α β : Type} (g : α → β) (f : β → β → Int) : ∀ l : List α, sumP f (l.map g) = sumP (fun p q => f (g p) (g q)) l
  | [] => rfl
  | [p] => rfl
  | p :: q :: r => by
    have ih := sumP_map g f (q :: r)
    simp only [List.map_cons] at ih ⊢
    rw [sumP, sumP, ih]
theorem sumP_congr {α : Type} {f g : α → α → Int} (h : ∀ p q, f p q = g p q) : ∀ l : List α, sumP f l = sumP g l
  | [] => rfl
  | [p] => rfl
  | p :: q :: r => by
    have ih := sumP_congr h (q :: r)
    rw [sumP, sumP, ih, h]
theorem sumP_mul {α : Type} (k : Int) (f : α → α → Int) : ∀ l : List α, sumP (fun p q => k * f p q) l = k * sumP f l
  | [] => by simp [sumP]
  | [p] => by simp [sumP]
  | p :: q :: r => by
    have ih := sumP_mul k f (q :: r)
    rw [sumP, sumP, ih, Int.mul_add]
theorem sumP_neg {α : Type} (f : α → α → Int) (l : List α) : sumP (fun p q => - f p q) l = - sumP f l := by
  have h := sumP_mul (-1) f l
  rw [show (fun p q => - f p q) = (fun p q => -1 * f p q) from funext fun p => funext fun q => by omega, h]
  omega
theorem sumP_tel {α : Type} (f : α → α → Int) (g : α → Int) : ∀ (l : List α) (p q : α), sumP (fun x y => f x y + (g y - g x)) (p :: (l ++ [q])) = sumP f (p :: (l ++ [q])) + (g q - g p)
  | [], p, q => by simp [sumP]
  | x :: l, p, q => by
    have ih := sumP_tel f g l x q
    simp only [List.cons_append] at ih ⊢
    rw [sumP, sumP, ih]
    omega
/-- a closed way, begun at another of its places -/
theorem sumP_turn {α : Type} (f : α → α → Int) (q : α) (r : List α) (n : Nat) (x : α) (hn : n < (q :: r).length) (hx : (q :: r)[n]? = some x) : sumP f ((q :: r).drop n ++ (q :: r).take n ++ [x]) = sumP f (q :: (r ++ [q])) := by
  cases n with
  | zero =>
    simp at hx
    subst hx
    simp
  | succ n =>
    have hn' : n < r.length := by simpa using hn
    have hx' : r[n]? = some x := by simpa using hx
    have ed : r.drop n = x :: r.drop (n + 1) := by
      rw [List.drop_eq_getElem_cons hn']
      rw [List.getElem?_eq_getElem hn'] at hx'
      cases hx'
      rfl
    have e1 : (q :: r).drop (n + 1) ++ (q :: r).take (n + 1) ++ [x] = (x :: r.drop (n + 1)) ++ q :: (r.take n ++ [x]) := by
      rw [List.drop_succ_cons, List.take_succ_cons, ed]
      simp
    have e2 : q :: (r ++ [q]) = (q :: r.take n) ++ x :: (r.drop (n + 1) ++ [q]) := by
      rw [show r ++ [q] = (r.take n ++ r.drop n) ++ [q] by rw [List.take_append_drop], ed]
      simp
    rw [e1, e2, sumP_app, sumP_app f x]
    simp only [List.cons_append]
    omega
end Wk

/-! SG: the sign of a number. -/
namespace Wk
open PySem L2
def sgn (a b : Int) : Int := if 0 ≤ a ∧ 0 ≤ b then (if 0 < a + b then 1 else 0) else if a ≤ 0 ∧ b ≤ 0 then -1 else if b * b < 2 * a * a then (if a < 0 then -1 else 1) else (if b < 0 then -1 else 1)
def lsg (a b : Int) : Int := if 0 ≤ a * b then (if 0 < a + b then 1 else 0) - (if a + b < 0 then 1 else 0)
  else if 0 < a then (if 0 < 2 * a * a - b * b then 1 else 0) - (if 2 * a * a - b * b < 0 then 1 else 0)
  else (if 2 * a * a - b * b < 0 then 1 else 0) - (if 0 < 2 * a * a - b * b then 1 else 0)
/-- the root of two is no quotient -/
theorem root2 : ∀ n : Nat, ∀ a b : Nat, b ≤ n → 2 * (a * a) = b * b → b = 0
  | 0, a, b, h, _ => Nat.le_zero.mp h
  | n + 1, a, b, h, e => by
    by_cases hb : b = 0
    · exact hb
    · have hev : b % 2 = 0 := by
        have h2 : (b * b) % 2 = 0 := by rw [← e]; exact Nat.mul_mod_right 2 _
        rcases Nat.mod_two_eq_zero_or_one b with z | z
        · exact z
        · rw [Nat.mul_mod, z] at h2; cases h2
      obtain ⟨c, rfl⟩ : ∃ c, b = 2 * c := ⟨b / 2, by omega⟩
      have e2 : 2 * (c * c) = a * a := by
        have : 2 * (a * a) = 2 * (2 * (c * c)) := by rw [e, Nat.mul_mul_mul_comm, Nat.mul_assoc]
        omega
      have ha : a ≤ n := by
        have h1 : a < 2 * c := by
          refine Nat.lt_of_not_le fun hh => ?_
          have := Nat.mul_le_mul hh hh
          have hc : 0 < 2 * c * (2 * c) := Nat.mul_pos (by omega) (by omega)
          omega
        omega
      have z := root2 n c a ha e2
      subst z
      have hc : 2 * c * (2 * c) = 0 := by rw [← e]
      rcases Nat.mul_eq_zero.mp hc with z | z <;> exact absurd z hb
theorem root2i {a b : Int} (e : 2 * (a * a) = b * b) : b = 0 := by
  have h : 2 * (a.natAbs * a.natAbs) = b.natAbs * b.natAbs := by
    have h1 : ((a.natAbs * a.natAbs : Nat) : Int) = a * a := by rw [Int.natCast_mul]; exact Int.natAbs_mul_self' _
    have h2 : ((b.natAbs * b.natAbs : Nat) : Int) = b * b := by rw [Int.natCast_mul]; exact Int.natAbs_mul_self' _
    omega
  have := root2 _ _ _ (Nat.le_refl _) h
  omega
theorem sgn_lsg (a b : Int) : sgn a b = lsg a b := by
  have ra := @root2i a b
  have e2 : 2 * a * a = 2 * (a * a) := Int.mul_assoc 2 a a
  have f1 : 0 ≤ a → 0 ≤ b → 0 ≤ a * b := Int.mul_nonneg
  have f2 : a ≤ 0 → b ≤ 0 → 0 ≤ a * b := Int.mul_nonneg_of_nonpos_of_nonpos
  have f3 : 0 < a → b < 0 → a * b < 0 := Int.mul_neg_of_pos_of_neg
  have f4 : a < 0 → 0 < b → a * b < 0 := Int.mul_neg_of_neg_of_pos
  unfold sgn lsg
  rw [e2]
  generalize a * a = p at *
  generalize b * b = q at *
  generalize a * b = r at *
  repeat' split
  all_goals omega
theorem sgn_neg (a b : Int) : sgn (0 - a) (0 - b) = 0 - sgn a b := by
  rw [sgn_lsg, sgn_lsg]
  have e1 : (0 - a) * (0 - b) = a * b := by grind
  have e2 : 2 * (0 - a) * (0 - a) = 2 * a * a := by grind
  have e3 : (0 - b) * (0 - b) = b * b := by grind
  have f : 0 ≤ a * b ∨ a ≠ 0 := by
    by_cases h : a = 0
    · subst h; exact .inl (by rw [Int.zero_mul]; exact Int.le_refl _)
    · exact .inr h
  unfold lsg
  rw [e1, e2, e3]
  generalize 2 * a * a = p at *
  generalize b * b = q at *
  generalize a * b = r at *
  repeat' split
  all_goals omega
theorem sgn_two (a b : Int) : sgn (2 * a) (2 * b) = sgn a b := by
  have e1 : 2 * b * (2 * b) = 4 * (b * b) := by grind
  have e2 : 2 * (2 * a) * (2 * a) = 4 * (2 * a * a) := by grind
  unfold sgn
  rw [e1, e2]
  generalize 2 * a * a = p at *
  generalize b * b = q at *
  repeat' split
  all_goals omega
/-! ### what the defs compute -/
end Wk

/-! SG2: signs of sums and products of numbers. -/
namespace Wk
/-- above 0: by the norm -/
def Pos (a b : Int) : Prop := (0 < 2 * (a * a) - b * b ∧ 0 < a) ∨ (2 * (a * a) - b * b < 0 ∧ 0 < b)
theorem sq_nonneg (a : Int) : 0 ≤ a * a := by
  rcases Int.le_total 0 a with h | h
  · exact Int.mul_nonneg h h
  · exact Int.mul_nonneg_of_nonpos_of_nonpos h h
theorem sq_pos {a : Int} (h : a ≠ 0) : 0 < a * a := by
  rcases Int.lt_or_gt_of_ne h with h | h
  · exact Int.mul_pos_of_neg_of_neg h h
  · exact Int.mul_pos h h
theorem abs_of_sq {x y : Int} (h : x * x < y * y) (hy : 0 ≤ y) : -y < x ∧ x < y := by
  constructor
  · refine Classical.byContradiction fun z => ?_
    have h1 : y ≤ -x := by omega
    have h2 : y * y ≤ (-x) * (-x) := Int.mul_le_mul h1 h1 hy (by omega)
    rw [Int.neg_mul_neg] at h2
    omega
  · refine Classical.byContradiction fun z => ?_
    have h1 : y ≤ x := by omega
    have h2 : y * y ≤ x * x := Int.mul_le_mul h1 h1 hy (by omega)
    omega
theorem sq_of_abs {x y : Int} (h1 : -y < x) (h2 : x < y) : x * x < y * y := by
  rcases Int.le_total 0 x with h | h
  · exact Int.lt_of_le_of_lt (Int.mul_le_mul_of_nonneg_left (Int.le_of_lt h2) h) (Int.mul_lt_mul_of_pos_right h2 (by omega))
  · have e : x * x = (-x) * (-x) := by rw [Int.neg_mul_neg]
    rw [e]
    exact Int.lt_of_le_of_lt (Int.mul_le_mul_of_nonneg_left (show -x ≤ y by omega) (by omega)) (Int.mul_lt_mul_of_pos_right (show -x < y by omega) (by omega))
theorem lt_mul {p q r s : Int} (h1 : p < q) (h2 : r < s) (hp : 0 ≤ p) (hr : 0 ≤ r) : p * r < q * s :=
  Int.lt_of_le_of_lt (Int.mul_le_mul_of_nonneg_left (Int.le_of_lt h2) hp) (Int.mul_lt_mul_of_pos_right h1 (by omega))
theorem norm0 {a b : Int} (h : 2 * (a * a) - b * b = 0) : a = 0 ∧ b = 0 := by
  have hb : b = 0 := root2i (a := a) (b := b) (by omega)
  subst hb
  refine ⟨Classical.byContradiction fun z => ?_, rfl⟩
  have := sq_pos z
  omega
theorem pos_def {a b : Int} : Pos a b ↔ (0 ≤ a ∧ 0 ≤ b ∧ 0 < a + b) ∨ (0 < a ∧ b < 0 ∧ b * b < 2 * (a * a)) ∨ (a < 0 ∧ 0 < b ∧ 2 * (a * a) < b * b) := by
  unfold Pos
  have ha := sq_nonneg a
  have hb := sq_nonneg b
  constructor
  · rintro (⟨h1, h2⟩ | ⟨h1, h2⟩)
    · by_cases h3 : 0 ≤ b
      · exact .inl ⟨by omega, h3, by omega⟩
      · exact .inr (.inl ⟨h2, by omega, by omega⟩)
    · by_cases h3 : 0 ≤ a
      · exact .inl ⟨h3, by omega, by omega⟩
      · exact .inr (.inr ⟨by omega, h2, by omega⟩)
  · rintro (⟨h1, h2, h3⟩ | ⟨h1, h2, h3⟩ | ⟨h1, h2, h3⟩)
    · by_cases hn : 0 < 2 * (a * a) - b * b
      · refine .inl ⟨hn, ?_⟩
        refine Classical.byContradiction fun z => ?_
        have : a = 0 := by omega
        subst this
        omega
      · by_cases hm : 2 * (a * a) - b * b < 0
        · refine .inr ⟨hm, ?_⟩
          refine Classical.byContradiction fun z => ?_
          have : b = 0 := by omega
          subst this
          omega
        · have := norm0 (a := a) (b := b) (by omega)
          omega
    · exact .inl ⟨by omega, h1⟩
    · exact .inr ⟨by omega, h2⟩
theorem sgn_one {a b : Int} : sgn a b = 1 ↔ Pos a b := by
  rw [pos_def]
  unfold sgn
  have e : 2 * a * a = 2 * (a * a) := Int.mul_assoc 2 a a
  rw [e]
  constructor
  · intro h
    by_cases h1 : 0 ≤ a ∧ 0 ≤ b
    · rw [if_pos h1] at h
      by_cases h2 : 0 < a + b
      · exact .inl ⟨h1.1, h1.2, h2⟩
      · rw [if_neg h2] at h; omega
    · rw [if_neg h1] at h
      by_cases h2 : a ≤ 0 ∧ b ≤ 0
      · rw [if_pos h2] at h; omega
      · rw [if_neg h2] at h
        by_cases h3 : b * b < 2 * (a * a)
        · rw [if_pos h3] at h
          by_cases h4 : a < 0
          · rw [if_pos h4] at h; omega
          · exact .inr (.inl ⟨by omega, by omega, h3⟩)
        · rw [if_neg h3] at h
          by_cases h4 : b < 0
          · rw [if_pos h4] at h; omega
          · refine .inr (.inr ⟨by omega, by omega, ?_⟩)
            have : 2 * (a * a) - b * b ≠ 0 := fun z => by have := norm0 z; omega
            omega
  · rintro (⟨h1, h2, h3⟩ | ⟨h1, h2, h3⟩ | ⟨h1, h2, h3⟩)
    · rw [if_pos ⟨h1, h2⟩, if_pos h3]
    · rw [if_neg (by omega), if_neg (by omega), if_pos h3, if_neg (by omega)]
    · rw [if_neg (by omega), if_neg (by omega), if_neg (by omega), if_neg (by omega)]
theorem sgn_ng (a b : Int) : sgn (-a) (-b) = - sgn a b := by
  have := sgn_neg a b
  simpa using this
theorem sgn_mone {a b : Int} : sgn a b = -1 ↔ Pos (-a) (-b) := by
  rw [← sgn_one, sgn_ng]
  omega
theorem sgn_zero {a b : Int} : sgn a b = 0 ↔ a = 0 ∧ b = 0 := by
  constructor
  · intro h
    have h1 : ¬ Pos a b := fun z => by rw [← sgn_one] at z; omega
    have h2 : ¬ Pos (-a) (-b) := fun z => by rw [← sgn_mone] at z; omega
    have h3 : 2 * (a * a) - b * b = 0 := by
      refine Classical.byContradiction fun z => ?_
      unfold Pos at h1 h2
      rw [Int.neg_mul_neg, Int.neg_mul_neg] at h2
      have ha := sq_nonneg a
      have hb := sq_nonneg b
      by_cases hn : 0 < 2 * (a * a) - b * b
      · have : a = 0 := by omega
        subst this
        omega
      · have : b = 0 := by omega
        subst this
        omega
    exact norm0 h3
  · rintro ⟨rfl, rfl⟩
    rfl
theorem sgn_three (a b : Int) : sgn a b = -1 ∨ sgn a b = 0 ∨ sgn a b = 1 := by
  unfold sgn
  repeat' split
  all_goals omega
/-- twice the product -/
def m1 (a b c d : Int) : Int := 2 * a * c + b * d
def m2 (a b c d : Int) : Int := 2 * (a * d + b * c)
theorem norm_mul (a b c d : Int) : 2 * (m1 a b c d * m1 a b c d) - m2 a b c d * m2 a b c d = 2 * ((2 * (a * a) - b * b) * (2 * (c * c) - d * d)) := by
  unfold m1 m2
  grind
theorem pos_mul {a b c d : Int} (h : Pos a b) (k : Pos c d) : Pos (m1 a b c d) (m2 a b c d) := by
  have hb := sq_nonneg b
  have hd := sq_nonneg d
  have ha := sq_nonneg a
  have hc := sq_nonneg c
  unfold Pos
  rw [norm_mul]
  unfold Pos at h k
  rcases h with ⟨h1, h2⟩ | ⟨h1, h2⟩ <;> rcases k with ⟨k1, k2⟩ | ⟨k1, k2⟩
  · refine .inl ⟨?_, ?_⟩
    · have := Int.mul_pos h1 k1
      omega
    · have q : (b * d) * (b * d) < (2 * a * c) * (2 * a * c) := by
        have := lt_mul (show b * b < 2 * (a * a) by omega) (show d * d < 2 * (c * c) by omega) hb hd
        have e1 : (b * d) * (b * d) = (b * b) * (d * d) := by grind
        have e2 : (2 * a * c) * (2 * a * c) = (2 * (a * a)) * (2 * (c * c)) := by grind
        rw [e1, e2]
        exact this
      have hac : 0 < 2 * a * c := Int.mul_pos (by omega) k2
      have := abs_of_sq q (by omega)
      unfold m1
      omega
  · refine .inr ⟨?_, ?_⟩
    · have := Int.mul_neg_of_pos_of_neg h1 k1
      omega
    · have q : (b * c) * (b * c) < (a * d) * (a * d) := by
        have := lt_mul (show b * b < 2 * (a * a) by omega) (show 2 * (c * c) < d * d by omega) hb (by omega)
        have e1 : (b * b) * (2 * (c * c)) = 2 * ((b * c) * (b * c)) := by grind
        have e2 : (2 * (a * a)) * (d * d) = 2 * ((a * d) * (a * d)) := by grind
        rw [e1, e2] at this
        omega
      have hac : 0 < a * d := Int.mul_pos h2 k2
      have := abs_of_sq q (by omega)
      unfold m2
      omega
  · refine .inr ⟨?_, ?_⟩
    · have := Int.mul_neg_of_neg_of_pos h1 k1
      omega
    · have q : (a * d) * (a * d) < (b * c) * (b * c) := by
        have := lt_mul (show 2 * (a * a) < b * b by omega) (show d * d < 2 * (c * c) by omega) (by omega) hd
        have e1 : (2 * (a * a)) * (d * d) = 2 * ((a * d) * (a * d)) := by grind
        have e2 : (b * b) * (2 * (c * c)) = 2 * ((b * c) * (b * c)) := by grind
        rw [e1, e2] at this
        omega
      have hac : 0 < b * c := Int.mul_pos h2 k2
      have := abs_of_sq q (by omega)
      unfold m2
      omega
  · refine .inl ⟨?_, ?_⟩
    · have := Int.mul_pos_of_neg_of_neg h1 k1
      omega
    · have q : (2 * a * c) * (2 * a * c) < (b * d) * (b * d) := by
        have := lt_mul (show 2 * (a * a) < b * b by omega) (show 2 * (c * c) < d * d by omega) (by omega) (by omega)
        have e1 : (b * d) * (b * d) = (b * b) * (d * d) := by grind
        have e2 : (2 * a * c) * (2 * a * c) = (2 * (a * a)) * (2 * (c * c)) := by grind
        rw [e1, e2]
        exact this
      have hac : 0 < b * d := Int.mul_pos h2 k2
      have := abs_of_sq q (by omega)
      unfold m1
      omega
theorem sgn_cases {a b : Int} : (sgn a b = 1 ∧ Pos a b) ∨ (sgn a b = 0 ∧ a = 0 ∧ b = 0) ∨ (sgn a b = -1 ∧ Pos (-a) (-b)) := by
  rcases sgn_three a b with h | h | h
  · exact .inr (.inr ⟨h, sgn_mone.mp h⟩)
  · exact .inr (.inl ⟨h, sgn_zero.mp h⟩)
  · exact .inl ⟨h, sgn_one.mp h⟩
theorem sgn_mul (a b c d : Int) : sgn (m1 a b c d) (m2 a b c d) = sgn a b * sgn c d := by
  have n1 : m1 (-a) (-b) c d = - m1 a b c d := by unfold m1; grind
  have n2 : m2 (-a) (-b) c d = - m2 a b c d := by unfold m2; grind
  have n3 : m1 a b (-c) (-d) = - m1 a b c d := by unfold m1; grind
  have n4 : m2 a b (-c) (-d) = - m2 a b c d := by unfold m2; grind
  have n5 : m1 (-a) (-b) (-c) (-d) = m1 a b c d := by unfold m1; grind
  have n6 : m2 (-a) (-b) (-c) (-d) = m2 a b c d := by unfold m2; grind
  rcases sgn_cases (a := a) (b := b) with ⟨h, p⟩ | ⟨h, rfl, rfl⟩ | ⟨h, p⟩ <;> rcases sgn_cases (a := c) (b := d) with ⟨k, q⟩ | ⟨k, rfl, rfl⟩ | ⟨k, q⟩ <;> (first | rw [h, k] | rw [h])
  · exact sgn_one.mpr (pos_mul p q)
  · exact sgn_zero.mpr ⟨by unfold m1; simp, by unfold m2; simp⟩
  · exact sgn_mone.mpr (by have := pos_mul p q; rwa [n3, n4] at this)
  · exact sgn_zero.mpr ⟨by unfold m1; simp, by unfold m2; simp⟩
  · exact sgn_zero.mpr ⟨by unfold m1; simp, by unfold m2; simp⟩
  · exact sgn_zero.mpr ⟨by unfold m1; simp, by unfold m2; simp⟩
  · exact sgn_mone.mpr (by have := pos_mul p q; rwa [n1, n2] at this)
  · exact sgn_zero.mpr ⟨by unfold m1; simp, by unfold m2; simp⟩
  · exact sgn_one.mpr (by have := pos_mul p q; rwa [n5, n6] at this)
theorem pos_more {a b n : Int} (h : Pos a b) (hn : 0 ≤ n) : Pos (n + a) b := by
  rw [pos_def] at h ⊢
  rcases h with ⟨h1, h2, h3⟩ | ⟨h1, h2, h3⟩ | ⟨h1, h2, h3⟩
  · exact .inl ⟨by omega, h2, by omega⟩
  · refine .inr (.inl ⟨by omega, h2, ?_⟩)
    have : a * a ≤ (n + a) * (n + a) := Int.mul_le_mul (by omega) (by omega) (by omega) (by omega)
    omega
  · by_cases h4 : 0 ≤ n + a
    · exact .inl ⟨h4, by omega, by omega⟩
    · refine .inr (.inr ⟨by omega, h2, ?_⟩)
      have : (-(n + a)) * (-(n + a)) ≤ (-a) * (-a) := Int.mul_le_mul (by omega) (by omega) (by omega) (by omega)
      rw [Int.neg_mul_neg, Int.neg_mul_neg] at this
      omega
theorem pos_add {a b c d : Int} (h : Pos a b) (k : Pos c d) : Pos (a + c) (b + d) := by
  have key : ∀ e f : Int, Pos e f → 0 ≤ m1 a b e f → m2 a b e f = 0 → Pos (a + c) (b + d) := fun e f q h1 h2 => by
    have w := pos_more (pos_mul k q) h1
    have e1 : m1 a b e f + m1 c d e f = m1 (a + c) (b + d) e f := by unfold m1; grind
    have e2 : m2 c d e f = m2 (a + c) (b + d) e f := by
      have : m2 (a + c) (b + d) e f = m2 a b e f + m2 c d e f := by unfold m2; grind
      omega
    rw [e1, e2, ← sgn_one, sgn_mul, sgn_one.mpr q, Int.mul_one] at w
    exact sgn_one.mp w
  have hh := h
  unfold Pos at hh
  rcases hh with ⟨h1, h2⟩ | ⟨h1, h2⟩
  · refine key a (-b) (.inl ⟨by rw [Int.neg_mul_neg]; exact h1, h2⟩) ?_ ?_
    · unfold m1
      rw [Int.mul_neg, Int.mul_assoc]
      omega
    · unfold m2
      grind
  · refine key (-a) b (.inr ⟨by rw [Int.neg_mul_neg]; exact h1, h2⟩) ?_ ?_
    · unfold m1
      rw [Int.mul_neg, Int.mul_assoc]
      omega
    · unfold m2
      grind
/-- the sign of a difference, where the signs differ -/
theorem sgn_gt {a b c d : Int} (h : sgn c d < sgn a b) : sgn (a - c) (b - d) = 1 := by
  rw [sgn_one]
  have e : ∀ x y : Int, x - y = x + -y := fun x y => by omega
  rcases sgn_cases (a := a) (b := b) with ⟨h1, p⟩ | ⟨h1, rfl, rfl⟩ | ⟨h1, p⟩ <;> rcases sgn_cases (a := c) (b := d) with ⟨k1, q⟩ | ⟨k1, rfl, rfl⟩ | ⟨k1, q⟩ <;> (first | rw [h1, k1] at h | rw [h1] at h) <;> first | (exfalso; omega) | skip
  · simpa using p
  · rw [e, e]; exact pos_add p q
  · simpa using q
theorem sgn_lt {a b c d : Int} (h : sgn a b < sgn c d) : sgn (a - c) (b - d) = -1 := by
  have := sgn_gt h
  have e := sgn_ng (a - c) (b - d)
  rw [show -(a - c) = c - a by omega, show -(b - d) = d - b by omega] at e
  omega
theorem sgn_eq0 {a b c d : Int} (h : sgn a b = 0) (k : sgn c d = 0) : sgn (a - c) (b - d) = 0 := by
  obtain ⟨rfl, rfl⟩ := sgn_zero.mp h
  obtain ⟨rfl, rfl⟩ := sgn_zero.mp k
  rfl
end Wk

namespace Lw
open PySem PySem.Spec PyProof.Rows L2 Wk
def topS (i : Nat) : Stmt := PySem.Challenge.pw_turtlehouse_k42_rounds.main.body.getD i (.Pass ⟨0, 0, 0, 0⟩)
def N_sign_of : List Str := ["number", "a", "b"]
abbrev s_sign_of : Stmt := topS 1
theorem sc_sign_of : FnScope N_sign_of ["number"] (defScope s_sign_of) := ⟨rfl, rfl, rfl, by decide +kernel, rfl, by decide +kernel, by decide +kernel⟩
noncomputable def B_sign_of : Es := (sSeq (sAsg (gTup' 2 (gCons' (gN 1) (gCons' (gN 2) gNil'))) (eV 0))
    (sSeq (sIf (bAnd (tBin opGe (eV 1) (eC (.int 0))) (tBin opGe (eV 2) (eC (.int 0))))
    (sRet (eB fInt (aCons (eBin opGt (eBin (opAdd false) (eV 1) (eV 2)) (eC (.int 0))) aNil)))
    sNil)
    (sSeq (sIf (bAnd (tBin opLe (eV 1) (eC (.int 0))) (tBin opLe (eV 2) (eC (.int 0))))
    (sRet (eUn opNeg (eC (.int 1))))
    sNil)
    (sSeq (sIf (tBin opGt (eBin opMul (eBin opMul (eC (.int 2)) (eV 1)) (eV 1)) (eBin opMul (eV 2) (eV 2)))
    (sRet (eBin opSub (eC (.int 1)) (eBin opMul (eC (.int 2)) (eB fInt (aCons (eBin opLt (eV 1) (eC (.int 0))) aNil)))))
    sNil)
    (sRet (eBin opSub (eC (.int 1)) (eBin opMul (eC (.int 2)) (eB fInt (aCons (eBin opLt (eV 2) (eC (.int 0))) aNil)))))))))
noncomputable def F_sign_of : PF := pfOf 3 B_sign_of
def N_minus : List Str := ["one", "other"]
abbrev s_minus : Stmt := topS 2
theorem sc_minus : FnScope N_minus ["one", "other"] (defScope s_minus) := ⟨rfl, rfl, rfl, by decide +kernel, rfl, by decide +kernel, by decide +kernel⟩
noncomputable def B_minus : Es := (sRet (eTup (aCons (eBin opSub (eBin opIx (eV 0) (eC (.int 0))) (eBin opIx (eV 1) (eC (.int 0)))) (aCons (eBin opSub (eBin opIx (eV 0) (eC (.int 1))) (eBin opIx (eV 1) (eC (.int 1)))) aNil))))
noncomputable def F_minus : PF := pfOf 2 B_minus
def N_twice_times : List Str := ["one", "other", "a", "b", "c", "d"]
abbrev s_twice_times : Stmt := topS 5
theorem sc_twice_times : FnScope N_twice_times ["one", "other"] (defScope s_twice_times) := ⟨rfl, rfl, rfl, by decide +kernel, rfl, by decide +kernel, by decide +kernel⟩
noncomputable def B_twice_times : Es := (sSeq (sAsg (gTup' 2 (gCons' (gN 2) (gCons' (gN 3) gNil'))) (eV 0))
    (sSeq (sAsg (gTup' 2 (gCons' (gN 4) (gCons' (gN 5) gNil'))) (eV 1))
    (sRet (eTup (aCons (eBin (opAdd false) (eBin opMul (eBin opMul (eC (.int 2)) (eV 2)) (eV 4)) (eBin opMul (eV 3) (eV 5))) (aCons (eBin opMul (eC (.int 2)) (eBin (opAdd false) (eBin opMul (eV 2) (eV 5)) (eBin opMul (eV 3) (eV 4)))) aNil))))))
noncomputable def F_twice_times : PF := pfOf 6 B_twice_times
def N_law_cell : List Str := ["_law_script", "_law_k", "_law_number"]
abbrev s_law_cell : Stmt := topS 14
theorem sc_law_cell : FnScope N_law_cell ["_law_script", "_law_k"] (defScope s_law_cell) := ⟨rfl, rfl, rfl, by decide +kernel, rfl, by decide +kernel, by decide +kernel⟩
noncomputable def B_law_cell : Es := (sSeq (sIf (tBin opLt (eV 1) (eB fLen (aCons (eV 0) aNil)))
    (sRet (eBin opIx (eV 0) (eV 1)))
    sNil)
    (sSeq (sSet 2 (eBin (opAdd false) (eBin opMul (eBin opMul (eV 1) (eV 1)) (eC (.int 7919))) (eC (.int 104729))))
    (sSeq (sIf (tBin opGt (eB fLen (aCons (eV 0) aNil)) (eC (.int 0)))
    (sSet 2 (eBin (opAdd false) (eV 2) (eBin opMul (eBin opMod (eBin opIx (eV 0) (eBin opMod (eBin opMul (eV 1) (eC (.int 7))) (eB fLen (aCons (eV 0) aNil)))) (eBin opPow (eC (.int 10)) (eC (.int 40)))) (eBin (opAdd false) (eC (.int 48271)) (eV 1)))))
    sNil)
    (sRet (eBin opMod (eBin opMul (eV 2) (eV 2)) (eC (.int 2305843009213693951)))))))
noncomputable def F_law_cell : PF := pfOf 3 B_law_cell
def N_law_mixed : List Str := ["_law_cell_here", "_law_k", "_law_number"]
abbrev s_law_mixed : Stmt := topS 15
theorem sc_law_mixed : FnScope N_law_mixed ["_law_cell_here", "_law_k"] (defScope s_law_mixed) := ⟨rfl, rfl, rfl, by decide +kernel, rfl, by decide +kernel, by decide +kernel⟩
noncomputable def B_law_mixed : Es := (sSeq (sSet 2 (eBin opMod (eBin (opAdd false) (eBin (opAdd false) (eV 0) (eBin opMul (eBin opMul (eV 1) (eV 1)) (eC (.int 40503)))) (eC (.int 12345))) (eC (.int 2305843009213693951))))
    (sSeq (sSet 2 (eBin opMod (eBin opMul (eV 2) (eV 2)) (eC (.int 2305843009213693951))))
    (sSeq (sSet 2 (eBin opMod (eBin opMul (eBin (opAdd false) (eBin (opAdd false) (eV 2) (eBin opMul (eV 1) (eC (.int 7919)))) (eC (.int 1))) (eC (.int 48271))) (eC (.int 2305843009213693951))))
    (sRet (eBin opFdiv (eBin opMod (eBin opMul (eV 2) (eV 2)) (eC (.int 2305843009213693951))) (eC (.int 1024)))))))
noncomputable def F_law_mixed : PF := pfOf 3 B_law_mixed
def N_law_int : List Str := ["_law_found"]
abbrev s_law_int : Stmt := topS 17
theorem sc_law_int : FnScope N_law_int ["_law_found"] (defScope s_law_int) := ⟨rfl, rfl, rfl, by decide +kernel, rfl, by decide +kernel, by decide +kernel⟩
noncomputable def B_law_int : Es := (sRet (eAnd (eUn (opIsi .int) (eV 0)) (eNot (eUn (opIsi .bool) (eV 0)))))
noncomputable def F_law_int : PF := pfOf 1 B_law_int
def N_law_sign : List Str := ["_law_number", "_law_more", "_law_a", "_law_b"]
abbrev s_law_sign : Stmt := topS 18
theorem sc_law_sign : FnScope N_law_sign ["_law_number"] (defScope s_law_sign) := ⟨rfl, rfl, rfl, by decide +kernel, rfl, by decide +kernel, by decide +kernel⟩
noncomputable def B_law_sign : Es := (sSeq (sAsg (gTup' 2 (gCons' (gN 2) (gCons' (gN 3) gNil'))) (eV 0))
    (sSeq (sIf (tBin opGe (eBin opMul (eV 2) (eV 3)) (eC (.int 0)))
    (sRet (eBin opSub (eB fInt (aCons (eBin opGt (eBin (opAdd false) (eV 2) (eV 3)) (eC (.int 0))) aNil)) (eB fInt (aCons (eBin opLt (eBin (opAdd false) (eV 2) (eV 3)) (eC (.int 0))) aNil))))
    sNil)
    (sSeq (sSet 1 (eBin opSub (eBin opMul (eBin opMul (eC (.int 2)) (eV 2)) (eV 2)) (eBin opMul (eV 3) (eV 3))))
    (sSeq (sIf (tBin opGt (eV 2) (eC (.int 0)))
    (sRet (eBin opSub (eB fInt (aCons (eBin opGt (eV 1) (eC (.int 0))) aNil)) (eB fInt (aCons (eBin opLt (eV 1) (eC (.int 0))) aNil))))
    sNil)
    (sRet (eBin opSub (eB fInt (aCons (eBin opLt (eV 1) (eC (.int 0))) aNil)) (eB fInt (aCons (eBin opGt (eV 1) (eC (.int 0))) aNil))))))))
noncomputable def F_law_sign : PF := pfOf 4 B_law_sign
def N_law_moved : List Str := ["_law_place_here", "_law_heading", "_law_steps", "_law_ways", "_law_here", "_law_east", "_law_north", "_law_x", "_law_y"]
abbrev s_law_moved : Stmt := topS 19
theorem sc_law_moved : FnScope N_law_moved ["_law_place_here", "_law_heading", "_law_steps"] (defScope s_law_moved) := ⟨rfl, rfl, rfl, by decide +kernel, rfl, by decide +kernel, by decide +kernel⟩
noncomputable def B_law_moved : Es := (sSeq (sSet 3 (eLst false (aCons (eTup (aCons (eTup (aCons (eC (.int 1)) (aCons (eC (.int 0)) aNil))) (aCons (eTup (aCons (eC (.int 0)) (aCons (eC (.int 0)) aNil))) aNil))) (aCons (eTup (aCons (eTup (aCons (eC (.int 0)) (aCons (eC (.int 1)) aNil))) (aCons (eTup (aCons (eC (.int 0)) (aCons (eC (.int 1)) aNil))) aNil))) (aCons (eTup (aCons (eTup (aCons (eC (.int 0)) (aCons (eC (.int 0)) aNil))) (aCons (eTup (aCons (eC (.int 1)) (aCons (eC (.int 0)) aNil))) aNil))) (aCons (eTup (aCons (eTup (aCons (eC (.int 0)) (aCons (eUn opNeg (eC (.int 1))) aNil))) (aCons (eTup (aCons (eC (.int 0)) (aCons (eC (.int 1)) aNil))) aNil))) aNil))))))
    (sSeq (sIf (tBin opGt (eV 1) (eC (.int 3)))
    (sSet 2 (eBin opSub (eC (.int 0)) (eV 2)))
    sNil)
    (sSeq (sAsg (gTup' 2 (gCons' (gN 5) (gCons' (gN 6) gNil'))) (eBin opIx (eV 3) (eBin opMod (eV 1) (eC (.int 4)))))
    (sSeq (sAsg (gTup' 2 (gCons' (gN 7) (gCons' (gN 8) gNil'))) (eV 0))
    (sSeq (sSet 4 (eTup (aCons (eBin (opAdd false) (eBin opIx (eV 7) (eC (.int 0))) (eBin opMul (eV 2) (eBin opIx (eV 5) (eC (.int 0))))) (aCons (eBin (opAdd false) (eBin opIx (eV 7) (eC (.int 1))) (eBin opMul (eV 2) (eBin opIx (eV 5) (eC (.int 1))))) aNil))))
    (sRet (eTup (aCons (eV 4) (aCons (eTup (aCons (eBin (opAdd false) (eBin opIx (eV 8) (eC (.int 0))) (eBin opMul (eV 2) (eBin opIx (eV 6) (eC (.int 0))))) (aCons (eBin (opAdd false) (eBin opIx (eV 8) (eC (.int 1))) (eBin opMul (eV 2) (eBin opIx (eV 6) (eC (.int 1))))) aNil))) aNil)))))))))
noncomputable def F_law_moved : PF := pfOf 9 B_law_moved
noncomputable def K_law_place_0 : Ev := (eBin opSub (eBin opMod (eV 7) (eBin (opAdd false) (eBin opMul (eC (.int 2)) (eV 1)) (eC (.int 1)))) (eV 1))
def N_law_place : List Str := ["_law_row_here", "_law_far", "_law_a", "_law_b", "_law_c", "_law_d", "_law_spare", "_law_number"]
abbrev s_law_place : Stmt := topS 20
theorem sc_law_place : FnScope N_law_place ["_law_row_here", "_law_far"] (defScope s_law_place) := ⟨rfl, rfl, rfl, by decide +kernel, rfl, by decide +kernel, by decide +kernel⟩
noncomputable def B_law_place : Es := (sSeq (sAsg (gTup' 5 (gCons' (gN 2) (gCons' (gN 3) (gCons' (gN 4) (gCons' (gN 5) (gCons' (gN 6) gNil')))))) (eLc false [7] (iSeq (eV 0)) (gN 7) cYes K_law_place_0))
    (sSeq (sIf (tBin opEq (eBin opMod (eBin (opAdd false) (eV 3) (eV 5)) (eC (.int 2))) (eC (.int 1)))
    (sSet 5 (eBin (opAdd false) (eV 5) (eC (.int 1))))
    sNil)
    (sRet (eTup (aCons (eTup (aCons (eV 2) (aCons (eV 3) aNil))) (aCons (eTup (aCons (eV 4) (aCons (eV 5) aNil))) aNil))))))
noncomputable def F_law_place : PF := pfOf 8 B_law_place
def N_law_minus : List Str := ["_law_one", "_law_other"]
abbrev s_law_minus : Stmt := topS 22
theorem sc_law_minus : FnScope N_law_minus ["_law_one", "_law_other"] (defScope s_law_minus) := ⟨rfl, rfl, rfl, by decide +kernel, rfl, by decide +kernel, by decide +kernel⟩
noncomputable def B_law_minus : Es := (sRet (eTup (aCons (eBin opSub (eBin opIx (eV 0) (eC (.int 0))) (eBin opIx (eV 1) (eC (.int 0)))) (aCons (eBin opSub (eBin opIx (eV 0) (eC (.int 1))) (eBin opIx (eV 1) (eC (.int 1)))) aNil))))
noncomputable def F_law_minus : PF := pfOf 2 B_law_minus
def N_law_double : List Str := ["_law_one", "_law_other"]
abbrev s_law_double : Stmt := topS 23
theorem sc_law_double : FnScope N_law_double ["_law_one", "_law_other"] (defScope s_law_double) := ⟨rfl, rfl, rfl, by decide +kernel, rfl, by decide +kernel, by decide +kernel⟩
noncomputable def B_law_double : Es := (sRet (eTup (aCons (eBin (opAdd false) (eBin opMul (eBin opMul (eC (.int 2)) (eBin opIx (eV 0) (eC (.int 0)))) (eBin opIx (eV 1) (eC (.int 0)))) (eBin opMul (eBin opIx (eV 0) (eC (.int 1))) (eBin opIx (eV 1) (eC (.int 1))))) (aCons (eBin opMul (eC (.int 2)) (eBin (opAdd false) (eBin opMul (eBin opIx (eV 0) (eC (.int 0))) (eBin opIx (eV 1) (eC (.int 1)))) (eBin opMul (eBin opIx (eV 0) (eC (.int 1))) (eBin opIx (eV 1) (eC (.int 0)))))) aNil))))
noncomputable def F_law_double : PF := pfOf 2 B_law_double
def N_is_below : List Str := ["one", "other"]
abbrev s_is_below : Stmt := topS 3
theorem sc_is_below : FnScope N_is_below ["one", "other"] (defScope s_is_below) := ⟨rfl, rfl, rfl, by decide +kernel, rfl, by decide +kernel, by decide +kernel⟩
noncomputable def B_is_below : Es := (sRet (eBin opLt (eCall F_sign_of (aCons (eCall F_minus (aCons (eV 0) (aCons (eV 1) aNil))) aNil)) (eC (.int 0))))
noncomputable def F_is_below : PF := pfOf 2 B_is_below
def N_twice_across : List Str := ["one", "other"]
abbrev s_twice_across : Stmt := topS 6
theorem sc_twice_across : FnScope N_twice_across ["one", "other"] (defScope s_twice_across) := ⟨rfl, rfl, rfl, by decide +kernel, rfl, by decide +kernel, by decide +kernel⟩
noncomputable def B_twice_across : Es := (sRet (eCall F_minus (aCons (eCall F_twice_times (aCons (eBin opIx (eV 0) (eC (.int 0))) (aCons (eBin opIx (eV 1) (eC (.int 1))) aNil))) (aCons (eCall F_twice_times (aCons (eBin opIx (eV 1) (eC (.int 0))) (aCons (eBin opIx (eV 0) (eC (.int 1))) aNil))) aNil))))
noncomputable def F_twice_across : PF := pfOf 2 B_twice_across
def N_apart : List Str := ["place", "from_there"]
abbrev s_apart : Stmt := topS 7
theorem sc_apart : FnScope N_apart ["place", "from_there"] (defScope s_apart) := ⟨rfl, rfl, rfl, by decide +kernel, rfl, by decide +kernel, by decide +kernel⟩
noncomputable def B_apart : Es := (sRet (eTup (aCons (eCall F_minus (aCons (eBin opIx (eV 0) (eC (.int 0))) (aCons (eBin opIx (eV 1) (eC (.int 0))) aNil))) (aCons (eCall F_minus (aCons (eBin opIx (eV 0) (eC (.int 1))) (aCons (eBin opIx (eV 1) (eC (.int 1))) aNil))) aNil))))
noncomputable def F_apart : PF := pfOf 2 B_apart
noncomputable def L_law_row_0 : Es := (sSeq (sExpr (eMl fApp (eV 3) (aCons (eBin opMod (eV 4) (eV 1)) aNil)))
    (sSet 4 (eBin opFdiv (eV 4) (eV 1))))
noncomputable def K_law_row_1 : Ev := (eBin opMod (eCall F_law_mixed (aCons (eV 0) (aCons (eV 5) aNil))) (eV 1))
def N_law_row : List Str := ["_law_cell_here", "_law_most", "_law_many", "_law_found", "_law_rest", "_law_k"]
abbrev s_law_row : Stmt := topS 16
theorem sc_law_row : FnScope N_law_row ["_law_cell_here", "_law_most", "_law_many"] (defScope s_law_row) := ⟨rfl, rfl, rfl, by decide +kernel, rfl, by decide +kernel, by decide +kernel⟩
noncomputable def B_law_row : Es := (sSeq (sSet 3 (eLst true aNil))
    (sSeq (sSet 4 (eV 0))
    (sSeq (sFor (iR1 (aCons (eV 2) aNil)) (gN 5) L_law_row_0)
    (sSeq (sIf (tBin opGt (eV 4) (eC (.int 0)))
    (sRet (eFz (eV 3)))
    sNil)
    (sRet (eLc false [5] (iR1 (aCons (eV 2) aNil)) (gN 5) cYes K_law_row_1))))))
noncomputable def F_law_row : PF := pfOf 6 B_law_row
def N_law_side : List Str := ["_law_one", "_law_other", "_law_spot_here", "_law_ahead"]
abbrev s_law_side : Stmt := topS 25
theorem sc_law_side : FnScope N_law_side ["_law_one", "_law_other", "_law_spot_here"] (defScope s_law_side) := ⟨rfl, rfl, rfl, by decide +kernel, rfl, by decide +kernel, by decide +kernel⟩
noncomputable def B_law_side : Es := (sSeq (sSet 3 (eCall F_law_double (aCons (eCall F_law_minus (aCons (eBin opIx (eV 1) (eC (.int 0))) (aCons (eBin opIx (eV 0) (eC (.int 0))) aNil))) (aCons (eCall F_law_minus (aCons (eBin opIx (eV 2) (eC (.int 1))) (aCons (eBin opIx (eV 0) (eC (.int 1))) aNil))) aNil))))
    (sRet (eCall F_law_sign (aCons (eCall F_law_minus (aCons (eV 3) (aCons (eCall F_law_double (aCons (eCall F_law_minus (aCons (eBin opIx (eV 2) (eC (.int 0))) (aCons (eBin opIx (eV 0) (eC (.int 0))) aNil))) (aCons (eCall F_law_minus (aCons (eBin opIx (eV 1) (eC (.int 1))) (aCons (eBin opIx (eV 0) (eC (.int 1))) aNil))) aNil))) aNil))) aNil))))
noncomputable def F_law_side : PF := pfOf 4 B_law_side
def N_law_quarter : List Str := ["_law_spot_here", "_law_place_here", "_law_x", "_law_y"]
abbrev s_law_quarter : Stmt := topS 26
theorem sc_law_quarter : FnScope N_law_quarter ["_law_spot_here", "_law_place_here"] (defScope s_law_quarter) := ⟨rfl, rfl, rfl, by decide +kernel, rfl, by decide +kernel, by decide +kernel⟩
noncomputable def B_law_quarter : Es := (sSeq (sSet 2 (eCall F_law_sign (aCons (eCall F_law_minus (aCons (eBin opIx (eV 1) (eC (.int 0))) (aCons (eBin opIx (eV 0) (eC (.int 0))) aNil))) aNil)))
    (sSeq (sSet 3 (eCall F_law_sign (aCons (eCall F_law_minus (aCons (eBin opIx (eV 1) (eC (.int 1))) (aCons (eBin opIx (eV 0) (eC (.int 1))) aNil))) aNil)))
    (sSeq (sIf (bAnd (tBin opGt (eV 2) (eC (.int 0))) (tBin opGe (eV 3) (eC (.int 0))))
    (sRet (eC (.int 0)))
    sNil)
    (sSeq (sIf (bAnd (tBin opLe (eV 2) (eC (.int 0))) (tBin opGt (eV 3) (eC (.int 0))))
    (sRet (eC (.int 1)))
    sNil)
    (sSeq (sIf (bAnd (tBin opLt (eV 2) (eC (.int 0))) (tBin opLe (eV 3) (eC (.int 0))))
    (sRet (eC (.int 2)))
    sNil)
    (sSeq (sIf (bAnd (tBin opGe (eV 2) (eC (.int 0))) (tBin opLt (eV 3) (eC (.int 0))))
    (sRet (eC (.int 3)))
    sNil)
    (sRet (eC (.int 4)))))))))
noncomputable def F_law_quarter : PF := pfOf 4 B_law_quarter
def N_side_of : List Str := ["one", "other", "place"]
abbrev s_side_of : Stmt := topS 8
theorem sc_side_of : FnScope N_side_of ["one", "other", "place"] (defScope s_side_of) := ⟨rfl, rfl, rfl, by decide +kernel, rfl, by decide +kernel, by decide +kernel⟩
noncomputable def B_side_of : Es := (sRet (eCall F_sign_of (aCons (eCall F_twice_across (aCons (eCall F_apart (aCons (eV 1) (aCons (eV 0) aNil))) (aCons (eCall F_apart (aCons (eV 2) (aCons (eV 0) aNil))) aNil))) aNil)))
noncomputable def F_side_of : PF := pfOf 3 B_side_of
def N_is_within : List Str := ["one", "number", "other"]
abbrev s_is_within : Stmt := topS 9
theorem sc_is_within : FnScope N_is_within ["one", "number", "other"] (defScope s_is_within) := ⟨rfl, rfl, rfl, by decide +kernel, rfl, by decide +kernel, by decide +kernel⟩
noncomputable def B_is_within : Es := (sSeq (sIf (tTru (eCall F_is_below (aCons (eV 2) (aCons (eV 0) aNil))))
    (sRet (eAnd (eNot (eCall F_is_below (aCons (eV 1) (aCons (eV 2) aNil)))) (eNot (eCall F_is_below (aCons (eV 0) (aCons (eV 1) aNil))))))
    sNil)
    (sRet (eAnd (eNot (eCall F_is_below (aCons (eV 1) (aCons (eV 0) aNil)))) (eNot (eCall F_is_below (aCons (eV 2) (aCons (eV 1) aNil)))))))
noncomputable def F_is_within : PF := pfOf 3 B_is_within
noncomputable def L_law_way_0 : Es := (sSeq (sSet 9 (eCall F_law_row (aCons (eCall F_law_cell (aCons (eV 0) (aCons (eV 8) aNil))) (aCons (eBin opPow (eC (.int 10)) (eC (.int 6))) (aCons (eC (.int 3)) aNil)))))
    (sSeq (sSet 10 (eBin opIx (eV 4) (eBin opMod (eBin opIx (eV 9) (eC (.int 0))) (eB fLen (aCons (eV 4) aNil)))))
    (sSeq (sSet 6 (eCall F_law_moved (aCons (eV 6) (aCons (eV 10) (aCons (eBin opMod (eBin opIx (eV 9) (eC (.int 1))) (eBin (opAdd false) (eV 5) (eC (.int 1)))) aNil)))))
    (sSeq (sIf (tBin opEq (eBin opMod (eBin opIx (eV 9) (eC (.int 2))) (eC (.int 9))) (eC (.int 1)))
    (sSet 6 (eBin opIx (eV 7) (eBin opMod (eBin opFdiv (eBin opIx (eV 9) (eC (.int 2))) (eC (.int 9))) (eB fLen (aCons (eV 7) aNil)))))
    sNil)
    (sExpr (eMl fApp (eV 7) (aCons (eV 6) aNil)))))))
def N_law_way : List Str := ["_law_script", "_law_start", "_law_most", "_law_cell_here", "_law_headings", "_law_far", "_law_here", "_law_found", "_law_k", "_law_row_here", "_law_heading"]
abbrev s_law_way : Stmt := topS 24
theorem sc_law_way : FnScope N_law_way ["_law_script", "_law_start", "_law_most"] (defScope s_law_way) := ⟨rfl, rfl, rfl, by decide +kernel, rfl, by decide +kernel, by decide +kernel⟩
noncomputable def B_law_way : Es := (sSeq (sSet 3 (eCall F_law_cell (aCons (eV 0) (aCons (eV 1) aNil))))
    (sSeq (sSet 4 (eBin opIx (eLst false (aCons (eLst false (aCons (eC (.int 0)) (aCons (eC (.int 1)) (aCons (eC (.int 2)) (aCons (eC (.int 3)) (aCons (eC (.int 4)) (aCons (eC (.int 5)) (aCons (eC (.int 6)) (aCons (eC (.int 7)) aNil))))))))) (aCons (eLst false (aCons (eC (.int 0)) (aCons (eC (.int 2)) (aCons (eC (.int 4)) (aCons (eC (.int 6)) aNil))))) (aCons (eLst false (aCons (eC (.int 1)) (aCons (eC (.int 2)) (aCons (eC (.int 3)) (aCons (eC (.int 4)) (aCons (eC (.int 5)) (aCons (eC (.int 6)) (aCons (eC (.int 7)) (aCons (eC (.int 0)) aNil))))))))) (aCons (eLst false (aCons (eC (.int 0)) (aCons (eC (.int 1)) (aCons (eC (.int 1)) (aCons (eC (.int 4)) (aCons (eC (.int 5)) aNil)))))) aNil))))) (eBin opMod (eV 3) (eC (.int 4)))))
    (sSeq (sSet 5 (eBin opIx (eLst false (aCons (eC (.int 2)) (aCons (eC (.int 3)) (aCons (eC (.int 6)) (aCons (eC (.int 1000)) aNil))))) (eBin opMod (eBin opFdiv (eV 3) (eC (.int 4))) (eC (.int 4)))))
    (sSeq (sSet 6 (eTup (aCons (eTup (aCons (eC (.int 0)) (aCons (eC (.int 0)) aNil))) (aCons (eTup (aCons (eC (.int 0)) (aCons (eC (.int 0)) aNil))) aNil))))
    (sSeq (sSet 7 (eLst true (aCons (eV 6) aNil)))
    (sSeq (sFor (iR2 (aCons (eBin (opAdd false) (eV 1) (eC (.int 1))) (aCons (eBin (opAdd false) (eBin (opAdd false) (eV 1) (eC (.int 1))) (eB fMax (aCons (eC (.int 4)) (aCons (eB fMin (aCons (eV 2) (aCons (eBin opSub (eBin opSub (eB fLen (aCons (eV 0) aNil)) (eV 1)) (eC (.int 1))) aNil))) aNil)))) aNil))) (gN 8) L_law_way_0)
    (sRet (eFz (eBin (opAdd false) (eV 7) (eSl false (eV 7) oNo (oSo (eC (.int 1)))))))))))))
noncomputable def F_law_way : PF := pfOf 11 B_law_way
def N_law_turns : List Str := ["_law_spot_here", "_law_one", "_law_other", "_law_here", "_law_there", "_law_turns_here", "_law_side_here"]
abbrev s_law_turns : Stmt := topS 27
theorem sc_law_turns : FnScope N_law_turns ["_law_spot_here", "_law_one", "_law_other"] (defScope s_law_turns) := ⟨rfl, rfl, rfl, by decide +kernel, rfl, by decide +kernel, by decide +kernel⟩
noncomputable def B_law_turns : Es := (sSeq (sSet 3 (eCall F_law_quarter (aCons (eV 0) (aCons (eV 1) aNil))))
    (sSeq (sSet 4 (eCall F_law_quarter (aCons (eV 0) (aCons (eV 2) aNil))))
    (sSeq (sIf (bOr (tBin opEq (eV 3) (eC (.int 4))) (tBin opEq (eV 4) (eC (.int 4))))
    (sRet (eC .none))
    sNil)
    (sSeq (sSet 5 (eBin opMod (eBin opSub (eV 4) (eV 3)) (eC (.int 4))))
    (sSeq (sSet 6 (eCall F_law_side (aCons (eV 1) (aCons (eV 2) (aCons (eV 0) aNil)))))
    (sSeq (sIf (bAnd (tBin opEq (eV 5) (eC (.int 2))) (tBin opEq (eV 6) (eC (.int 0))))
    (sRet (eC .none))
    sNil)
    (sSeq (sIf (bOr (tBin opEq (eV 5) (eC (.int 3))) (bAnd (tBin opEq (eV 5) (eC (.int 2))) (tBin opLt (eV 6) (eC (.int 0)))))
    (sRet (eBin opSub (eV 5) (eC (.int 4))))
    sNil)
    (sRet (eV 5)))))))))
noncomputable def F_law_turns : PF := pfOf 7 B_law_turns
def N_law_spot : List Str := ["_law_script", "_law_k", "_law_way_here", "_law_row_here", "_law_near"]
abbrev s_law_spot : Stmt := topS 29
theorem sc_law_spot : FnScope N_law_spot ["_law_script", "_law_k", "_law_way_here"] (defScope s_law_spot) := ⟨rfl, rfl, rfl, by decide +kernel, rfl, by decide +kernel, by decide +kernel⟩
noncomputable def B_law_spot : Es := (sSeq (sSet 3 (eCall F_law_row (aCons (eCall F_law_cell (aCons (eV 0) (aCons (eV 1) aNil))) (aCons (eBin opPow (eC (.int 10)) (eC (.int 6))) (aCons (eC (.int 8)) aNil)))))
    (sSeq (sIf (tBin opEq (eBin opMod (eBin opIx (eV 3) (eC (.int 0))) (eC (.int 3))) (eC (.int 0)))
    (sRet (eCall F_law_place (aCons (eSl false (eV 3) (oSo (eC (.int 1))) (oSo (eC (.int 6)))) (aCons (eC (.int 4)) aNil))))
    sNil)
    (sSeq (sSet 4 (eCall F_law_moved (aCons (eBin opIx (eV 2) (eBin opMod (eBin opIx (eV 3) (eC (.int 1))) (eB fLen (aCons (eV 2) aNil)))) (aCons (eBin opMod (eBin opIx (eV 3) (eC (.int 2))) (eC (.int 8))) (aCons (eBin opMod (eBin opIx (eV 3) (eC (.int 3))) (eC (.int 4))) aNil)))))
    (sRet (eCall F_law_moved (aCons (eV 4) (aCons (eBin opMod (eBin opIx (eV 3) (eC (.int 4))) (eC (.int 8))) (aCons (eBin opMod (eBin opIx (eV 3) (eC (.int 5))) (eC (.int 3))) aNil))))))))
noncomputable def F_law_spot : PF := pfOf 5 B_law_spot
def N_is_on : List Str := ["one", "other", "place"]
abbrev s_is_on : Stmt := topS 10
theorem sc_is_on : FnScope N_is_on ["one", "other", "place"] (defScope s_is_on) := ⟨rfl, rfl, rfl, by decide +kernel, rfl, by decide +kernel, by decide +kernel⟩
noncomputable def B_is_on : Es := (sSeq (sIf (tBin opNe (eCall F_side_of (aCons (eV 0) (aCons (eV 1) (aCons (eV 2) aNil)))) (eC (.int 0)))
    (sRet (eC (.bool false)))
    sNil)
    (sRet (eAnd (eCall F_is_within (aCons (eBin opIx (eV 0) (eC (.int 0))) (aCons (eBin opIx (eV 2) (eC (.int 0))) (aCons (eBin opIx (eV 1) (eC (.int 0))) aNil)))) (eCall F_is_within (aCons (eBin opIx (eV 0) (eC (.int 1))) (aCons (eBin opIx (eV 2) (eC (.int 1))) (aCons (eBin opIx (eV 1) (eC (.int 1))) aNil)))))))
noncomputable def F_is_on : PF := pfOf 3 B_is_on
def N_passing : List Str := ["one", "other", "place"]
abbrev s_passing : Stmt := topS 11
theorem sc_passing : FnScope N_passing ["one", "other", "place"] (defScope s_passing) := ⟨rfl, rfl, rfl, by decide +kernel, rfl, by decide +kernel, by decide +kernel⟩
noncomputable def B_passing : Es := (sSeq (sIf (bAnd (bNot (tTru (eCall F_is_below (aCons (eBin opIx (eV 2) (eC (.int 1))) (aCons (eBin opIx (eV 0) (eC (.int 1))) aNil))))) (tTru (eCall F_is_below (aCons (eBin opIx (eV 2) (eC (.int 1))) (aCons (eBin opIx (eV 1) (eC (.int 1))) aNil)))))
    (sRet (eB fInt (aCons (eBin opGt (eCall F_side_of (aCons (eV 0) (aCons (eV 1) (aCons (eV 2) aNil)))) (eC (.int 0))) aNil)))
    sNil)
    (sSeq (sIf (bAnd (bNot (tTru (eCall F_is_below (aCons (eBin opIx (eV 2) (eC (.int 1))) (aCons (eBin opIx (eV 1) (eC (.int 1))) aNil))))) (tTru (eCall F_is_below (aCons (eBin opIx (eV 2) (eC (.int 1))) (aCons (eBin opIx (eV 0) (eC (.int 1))) aNil)))))
    (sRet (eBin opSub (eC (.int 0)) (eB fInt (aCons (eBin opLt (eCall F_side_of (aCons (eV 0) (aCons (eV 1) (aCons (eV 2) aNil)))) (eC (.int 0))) aNil))))
    sNil)
    (sRet (eC (.int 0)))))
noncomputable def F_passing : PF := pfOf 3 B_passing
noncomputable def L_law_rounds_0 : Es := (sSeq (sSet 4 (eCall F_law_turns (aCons (eV 1) (aCons (eBin opIx (eV 0) (eV 3)) (aCons (eBin opIx (eV 0) (eBin (opAdd false) (eV 3) (eC (.int 1)))) aNil)))))
    (sSeq (sIf (tBin (opIsN false) (eV 4) (eC .none))
    (sRet (eC .none))
    sNil)
    (sSet 2 (eBin (opAdd false) (eV 2) (eV 4)))))
def N_law_rounds : List Str := ["_law_way_here", "_law_spot_here", "_law_found", "_law_k", "_law_turns_here"]
abbrev s_law_rounds : Stmt := topS 28
theorem sc_law_rounds : FnScope N_law_rounds ["_law_way_here", "_law_spot_here"] (defScope s_law_rounds) := ⟨rfl, rfl, rfl, by decide +kernel, rfl, by decide +kernel, by decide +kernel⟩
noncomputable def B_law_rounds : Es := (sSeq (sSet 2 (eC (.int 0)))
    (sSeq (sIf (tBin opEq (eBin opIx (eV 0) (eC (.int 0))) (eV 1))
    (sRet (eC .none))
    sNil)
    (sSeq (sFor (iR1 (aCons (eBin opSub (eB fLen (aCons (eV 0) aNil)) (eC (.int 1))) aNil)) (gN 3) L_law_rounds_0)
    (sRet (eBin opFdiv (eV 2) (eC (.int 4)))))))
noncomputable def F_law_rounds : PF := pfOf 5 B_law_rounds
noncomputable def L_rounds_of_0 : Es := (sSeq (sIf (tTru (eCall F_is_on (aCons (eV 3) (aCons (eV 4) (aCons (eV 1) aNil)))))
    (sRet (eC .none))
    sNil)
    (sSet 2 (eBin (opAdd false) (eV 2) (eCall F_passing (aCons (eV 3) (aCons (eV 4) (aCons (eV 1) aNil)))))))
def N_rounds_of : List Str := ["way", "place", "found", "one", "other"]
abbrev s_rounds_of : Stmt := topS 12
theorem sc_rounds_of : FnScope N_rounds_of ["way", "place"] (defScope s_rounds_of) := ⟨rfl, rfl, rfl, by decide +kernel, rfl, by decide +kernel, by decide +kernel⟩
noncomputable def B_rounds_of : Es := (sSeq (sSet 2 (eC (.int 0)))
    (sSeq (sFor (iZip (aCons (eSl false (eV 0) oNo (oSo (eUn opNeg (eC (.int 1))))) (aCons (eSl false (eV 0) (oSo (eC (.int 1))) oNo) aNil))) (gTup' 2 (gCons' (gN 3) (gCons' (gN 4) gNil'))) L_rounds_of_0)
    (sSeq (sIf (bAnd (tBin opEq (eB fLen (aCons (eV 0) aNil)) (eC (.int 1))) (tBin opEq (eBin opIx (eV 0) (eC (.int 0))) (eV 1)))
    (sRet (eC .none))
    sNil)
    (sRet (eV 2)))))
noncomputable def F_rounds_of : PF := pfOf 5 B_rounds_of
noncomputable def K_law_0 : Ev := (eCall F_law_spot (aCons (eV 0) (aCons (eV 8) (aCons (eV 1) aNil))))
noncomputable def L_law_1 : Es := (sSeq (sSet 4 (eB (fList false) (aCons (eV 1) aNil)))
    (sSeq (sSet 5 (eCall F_rounds_of (aCons (eV 4) (aCons (eV 3) aNil))))
    (sSeq (sIf (tBin opNe (eV 4) (eV 1))
    (sRet (eC (.bool false)))
    sNil)
    (sSeq (sSet 6 (eCall F_law_rounds (aCons (eV 1) (aCons (eV 3) aNil))))
    (sSeq (sIf (bOr (tBin opNe (eV 5) (eV 6)) (bAnd (tBin (opIsN true) (eV 5) (eC .none)) (bNot (tTru (eCall F_law_int (aCons (eV 5) aNil))))))
    (sRet (eC (.bool false)))
    sNil)
    (sSeq (sSet 7 (eCall F_rounds_of (aCons (eUn (opRevL false) (eV 1)) (aCons (eV 3) aNil))))
    (sIf (bOr (bAnd (tBin (opIsN false) (eV 6) (eC .none)) (tBin (opIsN true) (eV 7) (eC .none))) (bAnd (tBin (opIsN true) (eV 6) (eC .none)) (tBin opNe (eV 7) (eBin opSub (eC (.int 0)) (eV 6)))))
    (sRet (eC (.bool false)))
    sNil)))))))
def N_law : List Str := ["_law_script", "_law_way_here", "_law_spots", "_law_spot_here", "_law_handed", "_law_found", "_law_due", "_law_other", "_law_k"]
abbrev s_law : Stmt := topS 30
theorem sc_law : FnScope N_law ["_law_script"] (defScope s_law) := ⟨rfl, rfl, rfl, by decide +kernel, rfl, by decide +kernel, by decide +kernel⟩
noncomputable def B_law : Es := (sSeq (sSet 1 (eCall F_law_way (aCons (eV 0) (aCons (eC (.int 0)) (aCons (eC (.int 20)) aNil)))))
    (sSeq (sSet 2 (eLc false [8] (iR1 (aCons (eB fMax (aCons (eC (.int 6)) (aCons (eB fMin (aCons (eC (.int 12)) (aCons (eB fLen (aCons (eV 0) aNil)) aNil))) aNil))) aNil)) (gN 8) cYes K_law_0))
    (sSeq (sFor (iSeq (eBin (opAdd false) (eV 2) (eV 1))) (gN 3) L_law_1)
    (sSeq (sIf (bOr (tBin (opIsN true) (eCall F_rounds_of (aCons (eSl false (eV 1) oNo (oSo (eC (.int 1)))) (aCons (eBin opIx (eV 1) (eC (.int 0))) aNil))) (eC .none)) (tBin opNe (eCall F_rounds_of (aCons (eSl false (eV 1) oNo (oSo (eC (.int 1)))) (aCons (eTup (aCons (eTup (aCons (eC (.int 1)) (aCons (eC (.int 1)) aNil))) (aCons (eTup (aCons (eC (.int 0)) (aCons (eC (.int 1)) aNil))) aNil))) aNil))) (eC (.int 0))))
    (sRet (eC (.bool false)))
    sNil)
    (sRet (eBin opEq (eCall F_rounds_of (aCons (eV 1) (aCons (eTup (aCons (eTup (aCons (eBin opPow (eC (.int 10)) (eC (.int 6))) (aCons (eC (.int 0)) aNil))) (aCons (eTup (aCons (eC (.int 3)) (aCons (eC (.int 0)) aNil))) aNil))) aNil))) (eC (.int 0))))))))
noncomputable def F_law : PF := pfOf 9 B_law
structure Txt (K : PySem.W.Frag) (mg : Str → Option Value) : Prop where
  h_sign_of : Has K mg "sign_of" s_sign_of ["number"]
  h_minus : Has K mg "minus" s_minus ["one", "other"]
  h_twice_times : Has K mg "twice_times" s_twice_times ["one", "other"]
  h_law_cell : Has K mg "_law_cell" s_law_cell ["_law_script", "_law_k"]
  h_law_mixed : Has K mg "_law_mixed" s_law_mixed ["_law_cell_here", "_law_k"]
  h_law_int : Has K mg "_law_int" s_law_int ["_law_found"]
  h_law_sign : Has K mg "_law_sign" s_law_sign ["_law_number"]
  h_law_moved : Has K mg "_law_moved" s_law_moved ["_law_place_here", "_law_heading", "_law_steps"]
  h_law_place : Has K mg "_law_place" s_law_place ["_law_row_here", "_law_far"]
  h_law_minus : Has K mg "_law_minus" s_law_minus ["_law_one", "_law_other"]
  h_law_double : Has K mg "_law_double" s_law_double ["_law_one", "_law_other"]
  h_is_below : Has K mg "is_below" s_is_below ["one", "other"]
  h_twice_across : Has K mg "twice_across" s_twice_across ["one", "other"]
  h_apart : Has K mg "apart" s_apart ["place", "from_there"]
  h_law_row : Has K mg "_law_row" s_law_row ["_law_cell_here", "_law_most", "_law_many"]
  h_law_side : Has K mg "_law_side" s_law_side ["_law_one", "_law_other", "_law_spot_here"]
  h_law_quarter : Has K mg "_law_quarter" s_law_quarter ["_law_spot_here", "_law_place_here"]
  h_side_of : Has K mg "side_of" s_side_of ["one", "other", "place"]
  h_is_within : Has K mg "is_within" s_is_within ["one", "number", "other"]
  h_law_way : Has K mg "_law_way" s_law_way ["_law_script", "_law_start", "_law_most"]
  h_law_turns : Has K mg "_law_turns" s_law_turns ["_law_spot_here", "_law_one", "_law_other"]
  h_law_spot : Has K mg "_law_spot" s_law_spot ["_law_script", "_law_k", "_law_way_here"]
  h_is_on : Has K mg "is_on" s_is_on ["one", "other", "place"]
  h_passing : Has K mg "passing" s_passing ["one", "other", "place"]
  h_law_rounds : Has K mg "_law_rounds" s_law_rounds ["_law_way_here", "_law_spot_here"]
  h_rounds_of : Has K mg "rounds_of" s_rounds_of ["way", "place"]
  h_law : Has K mg "law" s_law ["_law_script"]
  b_bool : mg "bool" = none
  b_int : mg "int" = none
  b_isinstance : mg "isinstance" = none
  b_len : mg "len" = none
  b_list : mg "list" = none
  b_max : mg "max" = none
  b_min : mg "min" = none
  b_range : mg "range" = none
  b_reversed : mg "reversed" = none
  b_zip : mg "zip" = none
section
variable {P : Program} {w : World} {K : PySem.W.Frag} {mg : Str → Option Value} {base : Heap}
theorem ok_sign_of (T : Txt K mg) : FnA P w K mg base 1 "sign_of" s_sign_of ["number"] F_sign_of :=
  fn_priv (N := N_sign_of) (k := 0) (B := B_sign_of) sc_sign_of fun f cdv A outer s H E hr tk po => by
    have nd := sc_sign_of.nd
    exact (ss_cons (ss_asg (se_v 0) (sg_tup rfl (sgs_cons (sg_name 1 nd) (sgs_cons (sg_name 2 nd) sgs_nil))))
    (ss_cons (ss_if (sw_st (sw_and (st_cmp op_ge (ab_cmp _) (nomark _) (se_v 1) se_int) (sw_and1 (st_cmp op_ge (ab_cmp _) (nomark _) (se_v 2) se_int))))
    (ss_one (ss_ret (se_callTy call_int1 ab_intOf rfl T.b_int bt_int (sa_cons (se_cmp op_gt (ab_cmp _) (nomark _) (se_bin op_addA (ab_add false) (se_v 1) (se_v 2)) se_int) sa_nil))))
    ss_nil)
    (ss_cons (ss_if (sw_st (sw_and (st_cmp op_le (ab_cmp _) (nomark _) (se_v 1) se_int) (sw_and1 (st_cmp op_le (ab_cmp _) (nomark _) (se_v 2) se_int))))
    (ss_one (ss_ret (se_neg se_int)))
    ss_nil)
    (ss_cons (ss_if (st_cmp op_gt (ab_cmp _) (nomark _) (se_bin op_mulA ab_mul (se_bin op_mulA ab_mul se_int (se_v 1)) (se_v 1)) (se_bin op_mulA ab_mul (se_v 2) (se_v 2)))
    (ss_one (ss_ret (se_bin op_sub ab_sub se_int (se_bin op_mulA ab_mul se_int (se_callTy call_int1 ab_intOf rfl T.b_int bt_int (sa_cons (se_cmp op_lt (ab_cmp _) (nomark _) (se_v 1) se_int) sa_nil))))))
    ss_nil)
    (ss_one (ss_ret (se_bin op_sub ab_sub se_int (se_bin op_mulA ab_mul se_int (se_callTy call_int1 ab_intOf rfl T.b_int bt_int (sa_cons (se_cmp op_lt (ab_cmp _) (nomark _) (se_v 2) se_int) sa_nil))))))))))
theorem ok_minus (T : Txt K mg) : FnA P w K mg base 1 "minus" s_minus ["one", "other"] F_minus :=
  fn_priv (N := N_minus) (k := 0) (B := B_minus) sc_minus fun f cdv A outer s H E hr tk po => by
    have nd := sc_minus.nd
    exact (ss_one (ss_ret (se_tup (sa_cons (se_bin op_sub ab_sub (se_ix (fun _ _ => rfl) (se_v 0) se_int) (se_ix (fun _ _ => rfl) (se_v 1) se_int)) (sa_cons (se_bin op_sub ab_sub (se_ix (fun _ _ => rfl) (se_v 0) se_int) (se_ix (fun _ _ => rfl) (se_v 1) se_int)) sa_nil)))))
theorem ok_twice_times (T : Txt K mg) : FnA P w K mg base 1 "twice_times" s_twice_times ["one", "other"] F_twice_times :=
  fn_priv (N := N_twice_times) (k := 0) (B := B_twice_times) sc_twice_times fun f cdv A outer s H E hr tk po => by
    have nd := sc_twice_times.nd
    exact (ss_cons (ss_asg (se_v 0) (sg_tup rfl (sgs_cons (sg_name 2 nd) (sgs_cons (sg_name 3 nd) sgs_nil))))
    (ss_cons (ss_asg (se_v 1) (sg_tup rfl (sgs_cons (sg_name 4 nd) (sgs_cons (sg_name 5 nd) sgs_nil))))
    (ss_one (ss_ret (se_tup (sa_cons (se_bin op_addA (ab_add false) (se_bin op_mulA ab_mul (se_bin op_mulA ab_mul se_int (se_v 2)) (se_v 4)) (se_bin op_mulA ab_mul (se_v 3) (se_v 5))) (sa_cons (se_bin op_mulA ab_mul se_int (se_bin op_addA (ab_add false) (se_bin op_mulA ab_mul (se_v 2) (se_v 5)) (se_bin op_mulA ab_mul (se_v 3) (se_v 4)))) sa_nil)))))))
theorem ok_law_cell (T : Txt K mg) : FnA P w K mg base 1 "_law_cell" s_law_cell ["_law_script", "_law_k"] F_law_cell :=
  fn_priv (N := N_law_cell) (k := 0) (B := B_law_cell) sc_law_cell fun f cdv A outer s H E hr tk po => by
    have nd := sc_law_cell.nd
    exact (ss_cons (ss_if (st_cmp op_lt (ab_cmp _) (nomark _) (se_v 1) (se_callB call_len ab_len rfl T.b_len bt_len (sa_cons (se_v 0) sa_nil)))
    (ss_one (ss_ret (se_ix (fun _ _ => rfl) (se_v 0) (se_v 1))))
    ss_nil)
    (ss_cons (ss_set 2 nd (se_bin op_addA (ab_add false) (se_bin op_mulA ab_mul (se_bin op_mulA ab_mul (se_v 1) (se_v 1)) se_int) se_int))
    (ss_cons (ss_if (st_cmp op_gt (ab_cmp _) (nomark _) (se_callB call_len ab_len rfl T.b_len bt_len (sa_cons (se_v 0) sa_nil)) se_int)
    (ss_one (ss_set 2 nd (se_bin op_addA (ab_add false) (se_v 2) (se_bin op_mulA ab_mul (se_bin op_mod ab_mod (se_ix (fun _ _ => rfl) (se_v 0) (se_bin op_mod ab_mod (se_bin op_mulA ab_mul (se_v 1) se_int) (se_callB call_len ab_len rfl T.b_len bt_len (sa_cons (se_v 0) sa_nil)))) (se_bin op_pow ab_pow se_int se_int)) (se_bin op_addA (ab_add false) se_int (se_v 1))))))
    ss_nil)
    (ss_one (ss_ret (se_bin op_mod ab_mod (se_bin op_mulA ab_mul (se_v 2) (se_v 2)) se_int))))))
theorem ok_law_mixed (T : Txt K mg) : FnA P w K mg base 1 "_law_mixed" s_law_mixed ["_law_cell_here", "_law_k"] F_law_mixed :=
  fn_priv (N := N_law_mixed) (k := 0) (B := B_law_mixed) sc_law_mixed fun f cdv A outer s H E hr tk po => by
    have nd := sc_law_mixed.nd
    exact (ss_cons (ss_set 2 nd (se_bin op_mod ab_mod (se_bin op_addA (ab_add false) (se_bin op_addA (ab_add false) (se_v 0) (se_bin op_mulA ab_mul (se_bin op_mulA ab_mul (se_v 1) (se_v 1)) se_int)) se_int) se_int))
    (ss_cons (ss_set 2 nd (se_bin op_mod ab_mod (se_bin op_mulA ab_mul (se_v 2) (se_v 2)) se_int))
    (ss_cons (ss_set 2 nd (se_bin op_mod ab_mod (se_bin op_mulA ab_mul (se_bin op_addA (ab_add false) (se_bin op_addA (ab_add false) (se_v 2) (se_bin op_mulA ab_mul (se_v 1) se_int)) se_int) se_int) se_int))
    (ss_one (ss_ret (se_bin op_fdivA ab_fdiv (se_bin op_mod ab_mod (se_bin op_mulA ab_mul (se_v 2) (se_v 2)) se_int) se_int))))))
theorem ok_law_int (T : Txt K mg) : FnA P w K mg base 1 "_law_int" s_law_int ["_law_found"] F_law_int :=
  fn_priv (N := N_law_int) (k := 0) (B := B_law_int) sc_law_int fun f cdv A outer s H E hr tk po => by
    have nd := sc_law_int.nd
    exact (ss_one (ss_ret (se_and (se_isi .int rfl T.b_isinstance rfl T.b_int bt_int (se_v 0)) (se_one (se_not (se_isi .bool rfl T.b_isinstance rfl T.b_bool bt_bool (se_v 0)))))))
theorem ok_law_sign (T : Txt K mg) : FnA P w K mg base 1 "_law_sign" s_law_sign ["_law_number"] F_law_sign :=
  fn_priv (N := N_law_sign) (k := 0) (B := B_law_sign) sc_law_sign fun f cdv A outer s H E hr tk po => by
    have nd := sc_law_sign.nd
    exact (ss_cons (ss_asg (se_v 0) (sg_tup rfl (sgs_cons (sg_name 2 nd) (sgs_cons (sg_name 3 nd) sgs_nil))))
    (ss_cons (ss_if (st_cmp op_ge (ab_cmp _) (nomark _) (se_bin op_mulA ab_mul (se_v 2) (se_v 3)) se_int)
    (ss_one (ss_ret (se_bin op_sub ab_sub (se_callTy call_int1 ab_intOf rfl T.b_int bt_int (sa_cons (se_cmp op_gt (ab_cmp _) (nomark _) (se_bin op_addA (ab_add false) (se_v 2) (se_v 3)) se_int) sa_nil)) (se_callTy call_int1 ab_intOf rfl T.b_int bt_int (sa_cons (se_cmp op_lt (ab_cmp _) (nomark _) (se_bin op_addA (ab_add false) (se_v 2) (se_v 3)) se_int) sa_nil)))))
    ss_nil)
    (ss_cons (ss_set 1 nd (se_bin op_sub ab_sub (se_bin op_mulA ab_mul (se_bin op_mulA ab_mul se_int (se_v 2)) (se_v 2)) (se_bin op_mulA ab_mul (se_v 3) (se_v 3))))
    (ss_cons (ss_if (st_cmp op_gt (ab_cmp _) (nomark _) (se_v 2) se_int)
    (ss_one (ss_ret (se_bin op_sub ab_sub (se_callTy call_int1 ab_intOf rfl T.b_int bt_int (sa_cons (se_cmp op_gt (ab_cmp _) (nomark _) (se_v 1) se_int) sa_nil)) (se_callTy call_int1 ab_intOf rfl T.b_int bt_int (sa_cons (se_cmp op_lt (ab_cmp _) (nomark _) (se_v 1) se_int) sa_nil)))))
    ss_nil)
    (ss_one (ss_ret (se_bin op_sub ab_sub (se_callTy call_int1 ab_intOf rfl T.b_int bt_int (sa_cons (se_cmp op_lt (ab_cmp _) (nomark _) (se_v 1) se_int) sa_nil)) (se_callTy call_int1 ab_intOf rfl T.b_int bt_int (sa_cons (se_cmp op_gt (ab_cmp _) (nomark _) (se_v 1) se_int) sa_nil)))))))))
theorem ok_law_moved (T : Txt K mg) : FnA P w K mg base 1 "_law_moved" s_law_moved ["_law_place_here", "_law_heading", "_law_steps"] F_law_moved :=
  fn_priv (N := N_law_moved) (k := 0) (B := B_law_moved) sc_law_moved fun f cdv A outer s H E hr tk po => by
    have nd := sc_law_moved.nd
    exact (ss_cons (ss_set 3 nd (se_lst false (sa_cons (se_tup (sa_cons (se_tup (sa_cons se_int (sa_cons se_int sa_nil))) (sa_cons (se_tup (sa_cons se_int (sa_cons se_int sa_nil))) sa_nil))) (sa_cons (se_tup (sa_cons (se_tup (sa_cons se_int (sa_cons se_int sa_nil))) (sa_cons (se_tup (sa_cons se_int (sa_cons se_int sa_nil))) sa_nil))) (sa_cons (se_tup (sa_cons (se_tup (sa_cons se_int (sa_cons se_int sa_nil))) (sa_cons (se_tup (sa_cons se_int (sa_cons se_int sa_nil))) sa_nil))) (sa_cons (se_tup (sa_cons (se_tup (sa_cons se_int (sa_cons (se_neg se_int) sa_nil))) (sa_cons (se_tup (sa_cons se_int (sa_cons se_int sa_nil))) sa_nil))) sa_nil))))))
    (ss_cons (ss_if (st_cmp op_gt (ab_cmp _) (nomark _) (se_v 1) se_int)
    (ss_one (ss_set 2 nd (se_bin op_sub ab_sub se_int (se_v 2))))
    ss_nil)
    (ss_cons (ss_asg (se_ix (fun _ _ => rfl) (se_v 3) (se_bin op_mod ab_mod (se_v 1) se_int)) (sg_tup rfl (sgs_cons (sg_name 5 nd) (sgs_cons (sg_name 6 nd) sgs_nil))))
    (ss_cons (ss_asg (se_v 0) (sg_tup rfl (sgs_cons (sg_name 7 nd) (sgs_cons (sg_name 8 nd) sgs_nil))))
    (ss_cons (ss_set 4 nd (se_tup (sa_cons (se_bin op_addA (ab_add false) (se_ix (fun _ _ => rfl) (se_v 7) se_int) (se_bin op_mulA ab_mul (se_v 2) (se_ix (fun _ _ => rfl) (se_v 5) se_int))) (sa_cons (se_bin op_addA (ab_add false) (se_ix (fun _ _ => rfl) (se_v 7) se_int) (se_bin op_mulA ab_mul (se_v 2) (se_ix (fun _ _ => rfl) (se_v 5) se_int))) sa_nil))))
    (ss_one (ss_ret (se_tup (sa_cons (se_v 4) (sa_cons (se_tup (sa_cons (se_bin op_addA (ab_add false) (se_ix (fun _ _ => rfl) (se_v 8) se_int) (se_bin op_mulA ab_mul (se_v 2) (se_ix (fun _ _ => rfl) (se_v 6) se_int))) (sa_cons (se_bin op_addA (ab_add false) (se_ix (fun _ _ => rfl) (se_v 8) se_int) (se_bin op_mulA ab_mul (se_v 2) (se_ix (fun _ _ => rfl) (se_v 6) se_int))) sa_nil))) sa_nil))))))))))
theorem ok_law_place (T : Txt K mg) : FnA P w K mg base 1 "_law_place" s_law_place ["_law_row_here", "_law_far"] F_law_place :=
  fn_priv (N := N_law_place) (k := 0) (B := B_law_place) sc_law_place fun f cdv A outer s H E hr tk po => by
    have nd := sc_law_place.nd
    exact (ss_cons (ss_asg (se_lc false [("_law_number", 7)] rfl nd rfl (by decide) (si_seq (se_v 0)) (blkOk_by (N := N_law_place) (sc := defScope s_law_place) (own := [("_law_number", 7)]) (by decide +kernel)) (fun _ _ _ _ _ => (sg_name 7 nd)) (fun _ _ _ _ _ => sts_nil) (fun _ _ _ _ _ => (se_bin op_sub ab_sub (se_bin op_mod ab_mod (se_v 7) (se_bin op_addA (ab_add false) (se_bin op_mulA ab_mul se_int (se_v 1)) se_int)) (se_v 1)))) (sg_tup rfl (sgs_cons (sg_name 2 nd) (sgs_cons (sg_name 3 nd) (sgs_cons (sg_name 4 nd) (sgs_cons (sg_name 5 nd) (sgs_cons (sg_name 6 nd) sgs_nil)))))))
    (ss_cons (ss_if (st_cmp (op_eqA hr.units) ab_eq (nomark _) (se_bin op_mod ab_mod (se_bin op_addA (ab_add false) (se_v 3) (se_v 5)) se_int) se_int)
    (ss_one (ss_set 5 nd (se_bin op_addA (ab_add false) (se_v 5) se_int)))
    ss_nil)
    (ss_one (ss_ret (se_tup (sa_cons (se_tup (sa_cons (se_v 2) (sa_cons (se_v 3) sa_nil))) (sa_cons (se_tup (sa_cons (se_v 4) (sa_cons (se_v 5) sa_nil))) sa_nil)))))))
theorem ok_law_minus (T : Txt K mg) : FnA P w K mg base 1 "_law_minus" s_law_minus ["_law_one", "_law_other"] F_law_minus :=
  fn_priv (N := N_law_minus) (k := 0) (B := B_law_minus) sc_law_minus fun f cdv A outer s H E hr tk po => by
    have nd := sc_law_minus.nd
    exact (ss_one (ss_ret (se_tup (sa_cons (se_bin op_sub ab_sub (se_ix (fun _ _ => rfl) (se_v 0) se_int) (se_ix (fun _ _ => rfl) (se_v 1) se_int)) (sa_cons (se_bin op_sub ab_sub (se_ix (fun _ _ => rfl) (se_v 0) se_int) (se_ix (fun _ _ => rfl) (se_v 1) se_int)) sa_nil)))))
theorem ok_law_double (T : Txt K mg) : FnA P w K mg base 1 "_law_double" s_law_double ["_law_one", "_law_other"] F_law_double :=
  fn_priv (N := N_law_double) (k := 0) (B := B_law_double) sc_law_double fun f cdv A outer s H E hr tk po => by
    have nd := sc_law_double.nd
    exact (ss_one (ss_ret (se_tup (sa_cons (se_bin op_addA (ab_add false) (se_bin op_mulA ab_mul (se_bin op_mulA ab_mul se_int (se_ix (fun _ _ => rfl) (se_v 0) se_int)) (se_ix (fun _ _ => rfl) (se_v 1) se_int)) (se_bin op_mulA ab_mul (se_ix (fun _ _ => rfl) (se_v 0) se_int) (se_ix (fun _ _ => rfl) (se_v 1) se_int))) (sa_cons (se_bin op_mulA ab_mul se_int (se_bin op_addA (ab_add false) (se_bin op_mulA ab_mul (se_ix (fun _ _ => rfl) (se_v 0) se_int) (se_ix (fun _ _ => rfl) (se_v 1) se_int)) (se_bin op_mulA ab_mul (se_ix (fun _ _ => rfl) (se_v 0) se_int) (se_ix (fun _ _ => rfl) (se_v 1) se_int)))) sa_nil)))))
theorem ok_is_below (T : Txt K mg) : FnA P w K mg base 2 "is_below" s_is_below ["one", "other"] F_is_below :=
  fn_priv (N := N_is_below) (k := 1) (B := B_is_below) sc_is_below fun f cdv A outer s H E hr tk po => by
    have nd := sc_is_below.nd
    exact (ss_one (ss_ret (se_cmp op_lt (ab_cmp _) (nomark _) (se_call tk ((ok_sign_of T).p T.h_sign_of) (hr.mono (by decide)) rfl (sa_cons (se_call tk ((ok_minus T).p T.h_minus) (hr.mono (by decide)) rfl (sa_cons (se_v 0) (sa_cons (se_v 1) sa_nil)) (aLen_cons (aLen_cons aLen_nil))) sa_nil) (aLen_cons aLen_nil)) se_int)))
theorem ok_twice_across (T : Txt K mg) : FnA P w K mg base 2 "twice_across" s_twice_across ["one", "other"] F_twice_across :=
  fn_priv (N := N_twice_across) (k := 1) (B := B_twice_across) sc_twice_across fun f cdv A outer s H E hr tk po => by
    have nd := sc_twice_across.nd
    exact (ss_one (ss_ret (se_call tk ((ok_minus T).p T.h_minus) (hr.mono (by decide)) rfl (sa_cons (se_call tk ((ok_twice_times T).p T.h_twice_times) (hr.mono (by decide)) rfl (sa_cons (se_ix (fun _ _ => rfl) (se_v 0) se_int) (sa_cons (se_ix (fun _ _ => rfl) (se_v 1) se_int) sa_nil)) (aLen_cons (aLen_cons aLen_nil))) (sa_cons (se_call tk ((ok_twice_times T).p T.h_twice_times) (hr.mono (by decide)) rfl (sa_cons (se_ix (fun _ _ => rfl) (se_v 1) se_int) (sa_cons (se_ix (fun _ _ => rfl) (se_v 0) se_int) sa_nil)) (aLen_cons (aLen_cons aLen_nil))) sa_nil)) (aLen_cons (aLen_cons aLen_nil)))))
theorem ok_apart (T : Txt K mg) : FnA P w K mg base 2 "apart" s_apart ["place", "from_there"] F_apart :=
  fn_priv (N := N_apart) (k := 1) (B := B_apart) sc_apart fun f cdv A outer s H E hr tk po => by
    have nd := sc_apart.nd
    exact (ss_one (ss_ret (se_tup (sa_cons (se_call tk ((ok_minus T).p T.h_minus) (hr.mono (by decide)) rfl (sa_cons (se_ix (fun _ _ => rfl) (se_v 0) se_int) (sa_cons (se_ix (fun _ _ => rfl) (se_v 1) se_int) sa_nil)) (aLen_cons (aLen_cons aLen_nil))) (sa_cons (se_call tk ((ok_minus T).p T.h_minus) (hr.mono (by decide)) rfl (sa_cons (se_ix (fun _ _ => rfl) (se_v 0) se_int) (sa_cons (se_ix (fun _ _ => rfl) (se_v 1) se_int) sa_nil)) (aLen_cons (aLen_cons aLen_nil))) sa_nil)))))
theorem ok_law_row (T : Txt K mg) : FnA P w K mg base 2 "_law_row" s_law_row ["_law_cell_here", "_law_most", "_law_many"] F_law_row :=
  fn_priv (N := N_law_row) (k := 1) (B := B_law_row) sc_law_row fun f cdv A outer s H E hr tk po => by
    have nd := sc_law_row.nd
    exact (ss_cons (ss_set 3 nd (se_lst true sa_nil))
    (ss_cons (ss_set 4 nd (se_v 0))
    (ss_cons (ss_for po rfl (si_range1 rfl T.b_range (sa_cons (se_v 2) sa_nil)) (sg_name 5 nd)
    (ss_cons (ss_expr (se_ml PySem.F.slot_list_append PySem.F.type_list_append mt_append ab_app (se_v 3) (sa_cons (se_bin op_mod ab_mod (se_v 4) (se_v 1)) sa_nil)))
    (ss_one (ss_set 4 nd (se_bin op_fdivA ab_fdiv (se_v 4) (se_v 1))))))
    (ss_cons (ss_if (st_cmp op_gt (ab_cmp _) (nomark _) (se_v 4) se_int)
    (ss_one (ss_ret (se_fz (se_v 3))))
    ss_nil)
    (ss_one (ss_ret (se_lc false [("_law_k", 5)] rfl nd rfl (by decide) (si_range1 rfl T.b_range (sa_cons (se_v 2) sa_nil)) (blkOk_by (N := N_law_row) (sc := defScope s_law_row) (own := [("_law_k", 5)]) (by decide +kernel)) (fun _ _ _ _ _ => (sg_name 5 nd)) (fun _ _ _ _ _ => sts_nil) (fun _ _ _ _ _ => (se_bin op_mod ab_mod (se_call takes0 ((ok_law_mixed T).p T.h_law_mixed) (hr.mono (by decide)) rfl (sa_cons (se_v 0) (sa_cons (se_v 5) sa_nil)) (aLen_cons (aLen_cons aLen_nil))) (se_v 1))))))))))
theorem ok_law_side (T : Txt K mg) : FnA P w K mg base 2 "_law_side" s_law_side ["_law_one", "_law_other", "_law_spot_here"] F_law_side :=
  fn_priv (N := N_law_side) (k := 1) (B := B_law_side) sc_law_side fun f cdv A outer s H E hr tk po => by
    have nd := sc_law_side.nd
    exact (ss_cons (ss_set 3 nd (se_call tk ((ok_law_double T).p T.h_law_double) (hr.mono (by decide)) rfl (sa_cons (se_call tk ((ok_law_minus T).p T.h_law_minus) (hr.mono (by decide)) rfl (sa_cons (se_ix (fun _ _ => rfl) (se_v 1) se_int) (sa_cons (se_ix (fun _ _ => rfl) (se_v 0) se_int) sa_nil)) (aLen_cons (aLen_cons aLen_nil))) (sa_cons (se_call tk ((ok_law_minus T).p T.h_law_minus) (hr.mono (by decide)) rfl (sa_cons (se_ix (fun _ _ => rfl) (se_v 2) se_int) (sa_cons (se_ix (fun _ _ => rfl) (se_v 0) se_int) sa_nil)) (aLen_cons (aLen_cons aLen_nil))) sa_nil)) (aLen_cons (aLen_cons aLen_nil))))
    (ss_one (ss_ret (se_call tk ((ok_law_sign T).p T.h_law_sign) (hr.mono (by decide)) rfl (sa_cons (se_call tk ((ok_law_minus T).p T.h_law_minus) (hr.mono (by decide)) rfl (sa_cons (se_v 3) (sa_cons (se_call tk ((ok_law_double T).p T.h_law_double) (hr.mono (by decide)) rfl (sa_cons (se_call tk ((ok_law_minus T).p T.h_law_minus) (hr.mono (by decide)) rfl (sa_cons (se_ix (fun _ _ => rfl) (se_v 2) se_int) (sa_cons (se_ix (fun _ _ => rfl) (se_v 0) se_int) sa_nil)) (aLen_cons (aLen_cons aLen_nil))) (sa_cons (se_call tk ((ok_law_minus T).p T.h_law_minus) (hr.mono (by decide)) rfl (sa_cons (se_ix (fun _ _ => rfl) (se_v 1) se_int) (sa_cons (se_ix (fun _ _ => rfl) (se_v 0) se_int) sa_nil)) (aLen_cons (aLen_cons aLen_nil))) sa_nil)) (aLen_cons (aLen_cons aLen_nil))) sa_nil)) (aLen_cons (aLen_cons aLen_nil))) sa_nil) (aLen_cons aLen_nil)))))
theorem ok_law_quarter (T : Txt K mg) : FnA P w K mg base 2 "_law_quarter" s_law_quarter ["_law_spot_here", "_law_place_here"] F_law_quarter :=
  fn_priv (N := N_law_quarter) (k := 1) (B := B_law_quarter) sc_law_quarter fun f cdv A outer s H E hr tk po => by
    have nd := sc_law_quarter.nd
    exact (ss_cons (ss_set 2 nd (se_call tk ((ok_law_sign T).p T.h_law_sign) (hr.mono (by decide)) rfl (sa_cons (se_call tk ((ok_law_minus T).p T.h_law_minus) (hr.mono (by decide)) rfl (sa_cons (se_ix (fun _ _ => rfl) (se_v 1) se_int) (sa_cons (se_ix (fun _ _ => rfl) (se_v 0) se_int) sa_nil)) (aLen_cons (aLen_cons aLen_nil))) sa_nil) (aLen_cons aLen_nil)))
    (ss_cons (ss_set 3 nd (se_call tk ((ok_law_sign T).p T.h_law_sign) (hr.mono (by decide)) rfl (sa_cons (se_call tk ((ok_law_minus T).p T.h_law_minus) (hr.mono (by decide)) rfl (sa_cons (se_ix (fun _ _ => rfl) (se_v 1) se_int) (sa_cons (se_ix (fun _ _ => rfl) (se_v 0) se_int) sa_nil)) (aLen_cons (aLen_cons aLen_nil))) sa_nil) (aLen_cons aLen_nil)))
    (ss_cons (ss_if (sw_st (sw_and (st_cmp op_gt (ab_cmp _) (nomark _) (se_v 2) se_int) (sw_and1 (st_cmp op_ge (ab_cmp _) (nomark _) (se_v 3) se_int))))
    (ss_one (ss_ret se_int))
    ss_nil)
    (ss_cons (ss_if (sw_st (sw_and (st_cmp op_le (ab_cmp _) (nomark _) (se_v 2) se_int) (sw_and1 (st_cmp op_gt (ab_cmp _) (nomark _) (se_v 3) se_int))))
    (ss_one (ss_ret se_int))
    ss_nil)
    (ss_cons (ss_if (sw_st (sw_and (st_cmp op_lt (ab_cmp _) (nomark _) (se_v 2) se_int) (sw_and1 (st_cmp op_le (ab_cmp _) (nomark _) (se_v 3) se_int))))
    (ss_one (ss_ret se_int))
    ss_nil)
    (ss_cons (ss_if (sw_st (sw_and (st_cmp op_ge (ab_cmp _) (nomark _) (se_v 2) se_int) (sw_and1 (st_cmp op_lt (ab_cmp _) (nomark _) (se_v 3) se_int))))
    (ss_one (ss_ret se_int))
    ss_nil)
    (ss_one (ss_ret se_int))))))))
theorem ok_side_of (T : Txt K mg) : FnA P w K mg base 3 "side_of" s_side_of ["one", "other", "place"] F_side_of :=
  fn_priv (N := N_side_of) (k := 2) (B := B_side_of) sc_side_of fun f cdv A outer s H E hr tk po => by
    have nd := sc_side_of.nd
    exact (ss_one (ss_ret (se_call tk ((ok_sign_of T).p T.h_sign_of) (hr.mono (by decide)) rfl (sa_cons (se_call tk ((ok_twice_across T).p T.h_twice_across) (hr.mono (by decide)) rfl (sa_cons (se_call tk ((ok_apart T).p T.h_apart) (hr.mono (by decide)) rfl (sa_cons (se_v 1) (sa_cons (se_v 0) sa_nil)) (aLen_cons (aLen_cons aLen_nil))) (sa_cons (se_call tk ((ok_apart T).p T.h_apart) (hr.mono (by decide)) rfl (sa_cons (se_v 2) (sa_cons (se_v 0) sa_nil)) (aLen_cons (aLen_cons aLen_nil))) sa_nil)) (aLen_cons (aLen_cons aLen_nil))) sa_nil) (aLen_cons aLen_nil))))
theorem ok_is_within (T : Txt K mg) : FnA P w K mg base 3 "is_within" s_is_within ["one", "number", "other"] F_is_within :=
  fn_priv (N := N_is_within) (k := 2) (B := B_is_within) sc_is_within fun f cdv A outer s H E hr tk po => by
    have nd := sc_is_within.nd
    exact (ss_cons (ss_if (st_truth (se_call tk ((ok_is_below T).p T.h_is_below) (hr.mono (by decide)) rfl (sa_cons (se_v 2) (sa_cons (se_v 0) sa_nil)) (aLen_cons (aLen_cons aLen_nil))))
    (ss_one (ss_ret (se_and (se_not (se_call tk ((ok_is_below T).p T.h_is_below) (hr.mono (by decide)) rfl (sa_cons (se_v 1) (sa_cons (se_v 2) sa_nil)) (aLen_cons (aLen_cons aLen_nil)))) (se_one (se_not (se_call tk ((ok_is_below T).p T.h_is_below) (hr.mono (by decide)) rfl (sa_cons (se_v 0) (sa_cons (se_v 1) sa_nil)) (aLen_cons (aLen_cons aLen_nil))))))))
    ss_nil)
    (ss_one (ss_ret (se_and (se_not (se_call tk ((ok_is_below T).p T.h_is_below) (hr.mono (by decide)) rfl (sa_cons (se_v 1) (sa_cons (se_v 0) sa_nil)) (aLen_cons (aLen_cons aLen_nil)))) (se_one (se_not (se_call tk ((ok_is_below T).p T.h_is_below) (hr.mono (by decide)) rfl (sa_cons (se_v 2) (sa_cons (se_v 1) sa_nil)) (aLen_cons (aLen_cons aLen_nil)))))))))
theorem ok_law_way (T : Txt K mg) : FnA P w K mg base 3 "_law_way" s_law_way ["_law_script", "_law_start", "_law_most"] F_law_way :=
  fn_priv (N := N_law_way) (k := 2) (B := B_law_way) sc_law_way fun f cdv A outer s H E hr tk po => by
    have nd := sc_law_way.nd
    exact (ss_cons (ss_set 3 nd (se_call tk ((ok_law_cell T).p T.h_law_cell) (hr.mono (by decide)) rfl (sa_cons (se_v 0) (sa_cons (se_v 1) sa_nil)) (aLen_cons (aLen_cons aLen_nil))))
    (ss_cons (ss_set 4 nd (se_ix (fun _ _ => rfl) (se_lst false (sa_cons (se_lst false (sa_cons se_int (sa_cons se_int (sa_cons se_int (sa_cons se_int (sa_cons se_int (sa_cons se_int (sa_cons se_int (sa_cons se_int sa_nil))))))))) (sa_cons (se_lst false (sa_cons se_int (sa_cons se_int (sa_cons se_int (sa_cons se_int sa_nil))))) (sa_cons (se_lst false (sa_cons se_int (sa_cons se_int (sa_cons se_int (sa_cons se_int (sa_cons se_int (sa_cons se_int (sa_cons se_int (sa_cons se_int sa_nil))))))))) (sa_cons (se_lst false (sa_cons se_int (sa_cons se_int (sa_cons se_int (sa_cons se_int (sa_cons se_int sa_nil)))))) sa_nil))))) (se_bin op_mod ab_mod (se_v 3) se_int)))
    (ss_cons (ss_set 5 nd (se_ix (fun _ _ => rfl) (se_lst false (sa_cons se_int (sa_cons se_int (sa_cons se_int (sa_cons se_int sa_nil))))) (se_bin op_mod ab_mod (se_bin op_fdivA ab_fdiv (se_v 3) se_int) se_int)))
    (ss_cons (ss_set 6 nd (se_tup (sa_cons (se_tup (sa_cons se_int (sa_cons se_int sa_nil))) (sa_cons (se_tup (sa_cons se_int (sa_cons se_int sa_nil))) sa_nil))))
    (ss_cons (ss_set 7 nd (se_lst true (sa_cons (se_v 6) sa_nil)))
    (ss_cons (ss_for po rfl (si_range2 rfl T.b_range (sa_cons (se_bin op_addA (ab_add false) (se_v 1) se_int) (sa_cons (se_bin op_addA (ab_add false) (se_bin op_addA (ab_add false) (se_v 1) se_int) (se_callB (call_max2 rfl) (ab_i2 _) rfl T.b_max bt_max (sa_cons se_int (sa_cons (se_callB (call_min2 rfl) (ab_i2 _) rfl T.b_min bt_min (sa_cons (se_v 2) (sa_cons (se_bin op_sub ab_sub (se_bin op_sub ab_sub (se_callB call_len ab_len rfl T.b_len bt_len (sa_cons (se_v 0) sa_nil)) (se_v 1)) se_int) sa_nil))) sa_nil)))) sa_nil))) (sg_name 8 nd)
    (ss_cons (ss_set 9 nd (se_call tk ((ok_law_row T).p T.h_law_row) (hr.mono (by decide)) rfl (sa_cons (se_call tk ((ok_law_cell T).p T.h_law_cell) (hr.mono (by decide)) rfl (sa_cons (se_v 0) (sa_cons (se_v 8) sa_nil)) (aLen_cons (aLen_cons aLen_nil))) (sa_cons (se_bin op_pow ab_pow se_int se_int) (sa_cons se_int sa_nil))) (aLen_cons (aLen_cons (aLen_cons aLen_nil)))))
    (ss_cons (ss_set 10 nd (se_ix (fun _ _ => rfl) (se_v 4) (se_bin op_mod ab_mod (se_ix (fun _ _ => rfl) (se_v 9) se_int) (se_callB call_len ab_len rfl T.b_len bt_len (sa_cons (se_v 4) sa_nil)))))
    (ss_cons (ss_set 6 nd (se_call tk ((ok_law_moved T).p T.h_law_moved) (hr.mono (by decide)) rfl (sa_cons (se_v 6) (sa_cons (se_v 10) (sa_cons (se_bin op_mod ab_mod (se_ix (fun _ _ => rfl) (se_v 9) se_int) (se_bin op_addA (ab_add false) (se_v 5) se_int)) sa_nil))) (aLen_cons (aLen_cons (aLen_cons aLen_nil)))))
    (ss_cons (ss_if (st_cmp (op_eqA hr.units) ab_eq (nomark _) (se_bin op_mod ab_mod (se_ix (fun _ _ => rfl) (se_v 9) se_int) se_int) se_int)
    (ss_one (ss_set 6 nd (se_ix (fun _ _ => rfl) (se_v 7) (se_bin op_mod ab_mod (se_bin op_fdivA ab_fdiv (se_ix (fun _ _ => rfl) (se_v 9) se_int) se_int) (se_callB call_len ab_len rfl T.b_len bt_len (sa_cons (se_v 7) sa_nil))))))
    ss_nil)
    (ss_one (ss_expr (se_ml PySem.F.slot_list_append PySem.F.type_list_append mt_append ab_app (se_v 7) (sa_cons (se_v 6) sa_nil)))))))))
    (ss_one (ss_ret (se_fz (se_bin op_addA (ab_add false) (se_v 7) (se_sl false (se_v 7) so_no (so_so se_int))))))))))))
theorem ok_law_turns (T : Txt K mg) : FnA P w K mg base 3 "_law_turns" s_law_turns ["_law_spot_here", "_law_one", "_law_other"] F_law_turns :=
  fn_priv (N := N_law_turns) (k := 2) (B := B_law_turns) sc_law_turns fun f cdv A outer s H E hr tk po => by
    have nd := sc_law_turns.nd
    exact (ss_cons (ss_set 3 nd (se_call tk ((ok_law_quarter T).p T.h_law_quarter) (hr.mono (by decide)) rfl (sa_cons (se_v 0) (sa_cons (se_v 1) sa_nil)) (aLen_cons (aLen_cons aLen_nil))))
    (ss_cons (ss_set 4 nd (se_call tk ((ok_law_quarter T).p T.h_law_quarter) (hr.mono (by decide)) rfl (sa_cons (se_v 0) (sa_cons (se_v 2) sa_nil)) (aLen_cons (aLen_cons aLen_nil))))
    (ss_cons (ss_if (sw_st (sw_or (st_cmp (op_eqA hr.units) ab_eq (nomark _) (se_v 3) se_int) (sw_or1 (st_cmp (op_eqA hr.units) ab_eq (nomark _) (se_v 4) se_int))))
    (ss_one (ss_ret se_non))
    ss_nil)
    (ss_cons (ss_set 5 nd (se_bin op_mod ab_mod (se_bin op_sub ab_sub (se_v 4) (se_v 3)) se_int))
    (ss_cons (ss_set 6 nd (se_call tk ((ok_law_side T).p T.h_law_side) (hr.mono (by decide)) rfl (sa_cons (se_v 1) (sa_cons (se_v 2) (sa_cons (se_v 0) sa_nil))) (aLen_cons (aLen_cons (aLen_cons aLen_nil)))))
    (ss_cons (ss_if (sw_st (sw_and (st_cmp (op_eqA hr.units) ab_eq (nomark _) (se_v 5) se_int) (sw_and1 (st_cmp (op_eqA hr.units) ab_eq (nomark _) (se_v 6) se_int))))
    (ss_one (ss_ret se_non))
    ss_nil)
    (ss_cons (ss_if (sw_st (sw_or (st_cmp (op_eqA hr.units) ab_eq (nomark _) (se_v 5) se_int) (sw_or1 (sw_st (sw_and (st_cmp (op_eqA hr.units) ab_eq (nomark _) (se_v 5) se_int) (sw_and1 (st_cmp op_lt (ab_cmp _) (nomark _) (se_v 6) se_int)))))))
    (ss_one (ss_ret (se_bin op_sub ab_sub (se_v 5) se_int)))
    ss_nil)
    (ss_one (ss_ret (se_v 5))))))))))
theorem ok_law_spot (T : Txt K mg) : FnA P w K mg base 3 "_law_spot" s_law_spot ["_law_script", "_law_k", "_law_way_here"] F_law_spot :=
  fn_priv (N := N_law_spot) (k := 2) (B := B_law_spot) sc_law_spot fun f cdv A outer s H E hr tk po => by
    have nd := sc_law_spot.nd
    exact (ss_cons (ss_set 3 nd (se_call tk ((ok_law_row T).p T.h_law_row) (hr.mono (by decide)) rfl (sa_cons (se_call tk ((ok_law_cell T).p T.h_law_cell) (hr.mono (by decide)) rfl (sa_cons (se_v 0) (sa_cons (se_v 1) sa_nil)) (aLen_cons (aLen_cons aLen_nil))) (sa_cons (se_bin op_pow ab_pow se_int se_int) (sa_cons se_int sa_nil))) (aLen_cons (aLen_cons (aLen_cons aLen_nil)))))
    (ss_cons (ss_if (st_cmp (op_eqA hr.units) ab_eq (nomark _) (se_bin op_mod ab_mod (se_ix (fun _ _ => rfl) (se_v 3) se_int) se_int) se_int)
    (ss_one (ss_ret (se_call tk ((ok_law_place T).p T.h_law_place) (hr.mono (by decide)) rfl (sa_cons (se_sl false (se_v 3) (so_so se_int) (so_so se_int)) (sa_cons se_int sa_nil)) (aLen_cons (aLen_cons aLen_nil)))))
    ss_nil)
    (ss_cons (ss_set 4 nd (se_call tk ((ok_law_moved T).p T.h_law_moved) (hr.mono (by decide)) rfl (sa_cons (se_ix (fun _ _ => rfl) (se_v 2) (se_bin op_mod ab_mod (se_ix (fun _ _ => rfl) (se_v 3) se_int) (se_callB call_len ab_len rfl T.b_len bt_len (sa_cons (se_v 2) sa_nil)))) (sa_cons (se_bin op_mod ab_mod (se_ix (fun _ _ => rfl) (se_v 3) se_int) se_int) (sa_cons (se_bin op_mod ab_mod (se_ix (fun _ _ => rfl) (se_v 3) se_int) se_int) sa_nil))) (aLen_cons (aLen_cons (aLen_cons aLen_nil)))))
    (ss_one (ss_ret (se_call tk ((ok_law_moved T).p T.h_law_moved) (hr.mono (by decide)) rfl (sa_cons (se_v 4) (sa_cons (se_bin op_mod ab_mod (se_ix (fun _ _ => rfl) (se_v 3) se_int) se_int) (sa_cons (se_bin op_mod ab_mod (se_ix (fun _ _ => rfl) (se_v 3) se_int) se_int) sa_nil))) (aLen_cons (aLen_cons (aLen_cons aLen_nil)))))))))
theorem ok_is_on (T : Txt K mg) : FnA P w K mg base 4 "is_on" s_is_on ["one", "other", "place"] F_is_on :=
  fn_priv (N := N_is_on) (k := 3) (B := B_is_on) sc_is_on fun f cdv A outer s H E hr tk po => by
    have nd := sc_is_on.nd
    exact (ss_cons (ss_if (st_cmp (op_neA hr.units) ab_ne (nomark _) (se_call tk ((ok_side_of T).p T.h_side_of) (hr.mono (by decide)) rfl (sa_cons (se_v 0) (sa_cons (se_v 1) (sa_cons (se_v 2) sa_nil))) (aLen_cons (aLen_cons (aLen_cons aLen_nil)))) se_int)
    (ss_one (ss_ret se_bl))
    ss_nil)
    (ss_one (ss_ret (se_and (se_call tk ((ok_is_within T).p T.h_is_within) (hr.mono (by decide)) rfl (sa_cons (se_ix (fun _ _ => rfl) (se_v 0) se_int) (sa_cons (se_ix (fun _ _ => rfl) (se_v 2) se_int) (sa_cons (se_ix (fun _ _ => rfl) (se_v 1) se_int) sa_nil))) (aLen_cons (aLen_cons (aLen_cons aLen_nil)))) (se_one (se_call tk ((ok_is_within T).p T.h_is_within) (hr.mono (by decide)) rfl (sa_cons (se_ix (fun _ _ => rfl) (se_v 0) se_int) (sa_cons (se_ix (fun _ _ => rfl) (se_v 2) se_int) (sa_cons (se_ix (fun _ _ => rfl) (se_v 1) se_int) sa_nil))) (aLen_cons (aLen_cons (aLen_cons aLen_nil)))))))))
theorem ok_passing (T : Txt K mg) : FnA P w K mg base 4 "passing" s_passing ["one", "other", "place"] F_passing :=
  fn_priv (N := N_passing) (k := 3) (B := B_passing) sc_passing fun f cdv A outer s H E hr tk po => by
    have nd := sc_passing.nd
    exact (ss_cons (ss_if (sw_st (sw_and (st_not (st_truth (se_call tk ((ok_is_below T).p T.h_is_below) (hr.mono (by decide)) rfl (sa_cons (se_ix (fun _ _ => rfl) (se_v 2) se_int) (sa_cons (se_ix (fun _ _ => rfl) (se_v 0) se_int) sa_nil)) (aLen_cons (aLen_cons aLen_nil))))) (sw_and1 (st_truth (se_call tk ((ok_is_below T).p T.h_is_below) (hr.mono (by decide)) rfl (sa_cons (se_ix (fun _ _ => rfl) (se_v 2) se_int) (sa_cons (se_ix (fun _ _ => rfl) (se_v 1) se_int) sa_nil)) (aLen_cons (aLen_cons aLen_nil)))))))
    (ss_one (ss_ret (se_callTy call_int1 ab_intOf rfl T.b_int bt_int (sa_cons (se_cmp op_gt (ab_cmp _) (nomark _) (se_call tk ((ok_side_of T).p T.h_side_of) (hr.mono (by decide)) rfl (sa_cons (se_v 0) (sa_cons (se_v 1) (sa_cons (se_v 2) sa_nil))) (aLen_cons (aLen_cons (aLen_cons aLen_nil)))) se_int) sa_nil))))
    ss_nil)
    (ss_cons (ss_if (sw_st (sw_and (st_not (st_truth (se_call tk ((ok_is_below T).p T.h_is_below) (hr.mono (by decide)) rfl (sa_cons (se_ix (fun _ _ => rfl) (se_v 2) se_int) (sa_cons (se_ix (fun _ _ => rfl) (se_v 1) se_int) sa_nil)) (aLen_cons (aLen_cons aLen_nil))))) (sw_and1 (st_truth (se_call tk ((ok_is_below T).p T.h_is_below) (hr.mono (by decide)) rfl (sa_cons (se_ix (fun _ _ => rfl) (se_v 2) se_int) (sa_cons (se_ix (fun _ _ => rfl) (se_v 0) se_int) sa_nil)) (aLen_cons (aLen_cons aLen_nil)))))))
    (ss_one (ss_ret (se_bin op_sub ab_sub se_int (se_callTy call_int1 ab_intOf rfl T.b_int bt_int (sa_cons (se_cmp op_lt (ab_cmp _) (nomark _) (se_call tk ((ok_side_of T).p T.h_side_of) (hr.mono (by decide)) rfl (sa_cons (se_v 0) (sa_cons (se_v 1) (sa_cons (se_v 2) sa_nil))) (aLen_cons (aLen_cons (aLen_cons aLen_nil)))) se_int) sa_nil)))))
    ss_nil)
    (ss_one (ss_ret se_int))))
theorem ok_law_rounds (T : Txt K mg) : FnA P w K mg base 4 "_law_rounds" s_law_rounds ["_law_way_here", "_law_spot_here"] F_law_rounds :=
  fn_priv (N := N_law_rounds) (k := 3) (B := B_law_rounds) sc_law_rounds fun f cdv A outer s H E hr tk po => by
    have nd := sc_law_rounds.nd
    exact (ss_cons (ss_set 2 nd se_int)
    (ss_cons (ss_if (st_cmp (op_eqA hr.units) ab_eq (nomark _) (se_ix (fun _ _ => rfl) (se_v 0) se_int) (se_v 1))
    (ss_one (ss_ret se_non))
    ss_nil)
    (ss_cons (ss_for po rfl (si_range1 rfl T.b_range (sa_cons (se_bin op_sub ab_sub (se_callB call_len ab_len rfl T.b_len bt_len (sa_cons (se_v 0) sa_nil)) se_int) sa_nil)) (sg_name 3 nd)
    (ss_cons (ss_set 4 nd (se_call tk ((ok_law_turns T).p T.h_law_turns) (hr.mono (by decide)) rfl (sa_cons (se_v 1) (sa_cons (se_ix (fun _ _ => rfl) (se_v 0) (se_v 3)) (sa_cons (se_ix (fun _ _ => rfl) (se_v 0) (se_bin op_addA (ab_add false) (se_v 3) se_int)) sa_nil))) (aLen_cons (aLen_cons (aLen_cons aLen_nil)))))
    (ss_cons (ss_if (st_cmp op_isN ab_isN (nomark _) (se_v 4) se_non)
    (ss_one (ss_ret se_non))
    ss_nil)
    (ss_one (ss_set 2 nd (se_bin op_addA (ab_add false) (se_v 2) (se_v 4)))))))
    (ss_one (ss_ret (se_bin op_fdivA ab_fdiv (se_v 2) se_int))))))
theorem ok_rounds_of (T : Txt K mg) : FnA P w K mg base 5 "rounds_of" s_rounds_of ["way", "place"] F_rounds_of :=
  fn_priv (N := N_rounds_of) (k := 4) (B := B_rounds_of) sc_rounds_of fun f cdv A outer s H E hr tk po => by
    have nd := sc_rounds_of.nd
    exact (ss_cons (ss_set 2 nd se_int)
    (ss_cons (ss_for po rfl (si_zip rfl T.b_zip (sa_cons (se_sl false (se_v 0) so_no (so_so (se_neg se_int))) (sa_cons (se_sl false (se_v 0) (so_so se_int) so_no) sa_nil))) (sg_tup rfl (sgs_cons (sg_name 3 nd) (sgs_cons (sg_name 4 nd) sgs_nil)))
    (ss_cons (ss_if (st_truth (se_call tk ((ok_is_on T).p T.h_is_on) (hr.mono (by decide)) rfl (sa_cons (se_v 3) (sa_cons (se_v 4) (sa_cons (se_v 1) sa_nil))) (aLen_cons (aLen_cons (aLen_cons aLen_nil)))))
    (ss_one (ss_ret se_non))
    ss_nil)
    (ss_one (ss_set 2 nd (se_bin op_addA (ab_add false) (se_v 2) (se_call tk ((ok_passing T).p T.h_passing) (hr.mono (by decide)) rfl (sa_cons (se_v 3) (sa_cons (se_v 4) (sa_cons (se_v 1) sa_nil))) (aLen_cons (aLen_cons (aLen_cons aLen_nil)))))))))
    (ss_cons (ss_if (sw_st (sw_and (st_cmp (op_eqA hr.units) ab_eq (nomark _) (se_callB call_len ab_len rfl T.b_len bt_len (sa_cons (se_v 0) sa_nil)) se_int) (sw_and1 (st_cmp (op_eqA hr.units) ab_eq (nomark _) (se_ix (fun _ _ => rfl) (se_v 0) se_int) (se_v 1)))))
    (ss_one (ss_ret se_non))
    ss_nil)
    (ss_one (ss_ret (se_v 2))))))
theorem ok_law (T : Txt K mg) : FnA P w K mg base 6 "law" s_law ["_law_script"] F_law :=
  fn_priv (N := N_law) (k := 5) (B := B_law) sc_law fun f cdv A outer s H E hr tk po => by
    have nd := sc_law.nd
    exact (ss_cons (ss_set 1 nd (se_call tk ((ok_law_way T).p T.h_law_way) (hr.mono (by decide)) rfl (sa_cons (se_v 0) (sa_cons se_int (sa_cons se_int sa_nil))) (aLen_cons (aLen_cons (aLen_cons aLen_nil)))))
    (ss_cons (ss_setLc false 2 (sw_true rfl rfl rfl (by decide +kernel)) [("_law_k", 8)] rfl nd rfl (by decide) (si_range1 rfl T.b_range (sa_cons (se_callB (call_max2 rfl) (ab_i2 _) rfl T.b_max bt_max (sa_cons se_int (sa_cons (se_callB (call_min2 rfl) (ab_i2 _) rfl T.b_min bt_min (sa_cons se_int (sa_cons (se_callB call_len ab_len rfl T.b_len bt_len (sa_cons (se_v 0) sa_nil)) sa_nil))) sa_nil))) sa_nil)) (blkOk_by (N := N_law) (sc := defScope s_law) (own := [("_law_k", 8)]) (by decide +kernel)) (fun _ _ _ _ _ => (sg_name 8 nd)) (fun _ _ _ _ _ => sts_nil) (fun _ _ _ _ _ => (se_call takes0 ((ok_law_spot T).p T.h_law_spot) (hr.mono (by decide)) rfl (sa_cons (se_v 0) (sa_cons (se_v 8) (sa_cons (se_v 1) sa_nil))) (aLen_cons (aLen_cons (aLen_cons aLen_nil))))))
    (ss_cons (ss_for po rfl (si_seq (se_bin op_addA (ab_add false) (se_v 2) (se_v 1))) (sg_name 3 nd)
    (ss_cons (ss_set 4 nd (se_callTy (gh_call call_list_of) (ab_list false) rfl T.b_list bt_list (sa_cons (se_v 1) sa_nil)))
    (ss_cons (ss_set 5 nd (se_call tk ((ok_rounds_of T).p T.h_rounds_of) (hr.mono (by decide)) rfl (sa_cons (se_v 4) (sa_cons (se_v 3) sa_nil)) (aLen_cons (aLen_cons aLen_nil))))
    (ss_cons (ss_if (st_cmp (op_neA hr.units) ab_ne (nomark _) (se_v 4) (se_v 1))
    (ss_one (ss_ret se_bl))
    ss_nil)
    (ss_cons (ss_set 6 nd (se_call tk ((ok_law_rounds T).p T.h_law_rounds) (hr.mono (by decide)) rfl (sa_cons (se_v 1) (sa_cons (se_v 3) sa_nil)) (aLen_cons (aLen_cons aLen_nil))))
    (ss_cons (ss_if (sw_st (sw_or (st_cmp (op_neA hr.units) ab_ne (nomark _) (se_v 5) (se_v 6)) (sw_or1 (sw_st (sw_and (st_cmp op_notN ab_notN (nomark _) (se_v 5) se_non) (sw_and1 (st_not (st_truth (se_call tk ((ok_law_int T).p T.h_law_int) (hr.mono (by decide)) rfl (sa_cons (se_v 5) sa_nil) (aLen_cons aLen_nil))))))))))
    (ss_one (ss_ret se_bl))
    ss_nil)
    (ss_cons (ss_set 7 nd (se_call tk ((ok_rounds_of T).p T.h_rounds_of) (hr.mono (by decide)) rfl (sa_cons (se_revL false rfl rfl T.b_list rfl T.b_reversed (se_v 1)) (sa_cons (se_v 3) sa_nil)) (aLen_cons (aLen_cons aLen_nil))))
    (ss_one (ss_if (sw_st (sw_or (sw_st (sw_and (st_cmp op_isN ab_isN (nomark _) (se_v 6) se_non) (sw_and1 (st_cmp op_notN ab_notN (nomark _) (se_v 7) se_non)))) (sw_or1 (sw_st (sw_and (st_cmp op_notN ab_notN (nomark _) (se_v 6) se_non) (sw_and1 (st_cmp (op_neA hr.units) ab_ne (nomark _) (se_v 7) (se_bin op_sub ab_sub se_int (se_v 6)))))))))
    (ss_one (ss_ret se_bl))
    ss_nil)))))))))
    (ss_cons (ss_if (sw_st (sw_or (st_cmp op_notN ab_notN (nomark _) (se_call tk ((ok_rounds_of T).p T.h_rounds_of) (hr.mono (by decide)) rfl (sa_cons (se_sl false (se_v 1) so_no (so_so se_int)) (sa_cons (se_ix (fun _ _ => rfl) (se_v 1) se_int) sa_nil)) (aLen_cons (aLen_cons aLen_nil))) se_non) (sw_or1 (st_cmp (op_neA hr.units) ab_ne (nomark _) (se_call tk ((ok_rounds_of T).p T.h_rounds_of) (hr.mono (by decide)) rfl (sa_cons (se_sl false (se_v 1) so_no (so_so se_int)) (sa_cons (se_tup (sa_cons (se_tup (sa_cons se_int (sa_cons se_int sa_nil))) (sa_cons (se_tup (sa_cons se_int (sa_cons se_int sa_nil))) sa_nil))) sa_nil)) (aLen_cons (aLen_cons aLen_nil))) se_int))))
    (ss_one (ss_ret se_bl))
    ss_nil)
    (ss_one (ss_ret (se_cmp (op_eqA hr.units) ab_eq (nomark _) (se_call tk ((ok_rounds_of T).p T.h_rounds_of) (hr.mono (by decide)) rfl (sa_cons (se_v 1) (sa_cons (se_tup (sa_cons (se_tup (sa_cons (se_bin op_pow ab_pow se_int se_int) (sa_cons se_int sa_nil))) (sa_cons (se_tup (sa_cons se_int (sa_cons se_int sa_nil))) sa_nil))) sa_nil)) (aLen_cons (aLen_cons aLen_nil))) se_int)))))))
end
end Lw

namespace Lw
open PySem L2 Wk
theorem cell_ev' (ns : List Int) (hl : ns.length ≤ 63) (k : Int) (h0 : 0 ≤ k) (h1 : k < 1000) : ∃ r, F_law_cell [.list (ns.map .int), .int k] = .ok (.int r) := cell_ev ns k h0 (by omega) (by omega)
theorem isInt_ev (i : Int) : F_law_int [.int i] = .ok (.bool true) := by
  unfold F_law_int B_law_int
  simp [pfOf_ap, isTy]
theorem lmoved_ev (p : P4) (h s : Int) (h0 : 0 ≤ h) (h1 : h < 8) : F_law_moved [p.e, .int h, .int s] = .ok (mv h s p).e := by
  unfold F_law_moved B_law_moved P4.e mv
  rw [pfOf_ap]
  rcases heads h0 h1 with z | z | z | z | z | z | z | z <;> subst z <;> simp [xa, xb, ya, yb] <;> omega
theorem way_ev' (ns : List Int) (hl : ns.length ≤ 63) : ∃ (q : P4) (r : List P4), F_law_way [.list (ns.map .int), .int 0, .int 20] = .ok (.list ((q :: (r ++ [q])).map P4.e)) ∧ q = ⟨0, 0, 0, 0⟩ ∧ 4 ≤ r.length ∧ r.length ≤ 20 ∧ ∀ p ∈ q :: (r ++ [q]), p.bd 20000 ∧ p.par := by
  obtain ⟨c, ec⟩ := cell_ev' ns hl 0 (by decide) (by decide)
  obtain ⟨hd, eh, hd0, hdb⟩ := heads_at c
  obtain ⟨far, ef, f0, f1⟩ := fars_at (c / 4)
  generalize hcnt : (if (if (ns.length : Int) - 1 < 20 then (ns.length : Int) - 1 else 20) > 4 then (if (ns.length : Int) - 1 < 20 then (ns.length : Int) - 1 else 20) else 4) = cnt
  have hc4 : 4 ≤ cnt ∧ cnt ≤ 20 := by rw [← hcnt]; split <;> split <;> omega
  have r1 : rngOk 1 = true := rng_of (by decide) (by decide)
  have r2 : rngOk (1 + cnt) = true := rng_of (by omega) (by omega)
  obtain ⟨env', h', e, here, r, y8, y9, y10, e1, e2, e3, e4, e5⟩ := forGo_inv (t := gN 8) (b := L_law_way_0) (us := iRange cnt.toNat 1)
    (fun i env h => ∃ (here : P4) (r : List P4) (y8 y9 y10 : Option U), env = [some (.d (.list (ns.map .int))), some (.d (.int 0)), some (.d (.int 20)), some (.d (.int c)), some (.d (.list (hd.map .int))), some (.d (.int far)), some (.d here.e), some (.ref 0), y8, y9, y10] ∧
      h = [.lst ((⟨0, 0, 0, 0⟩ :: r).map P4.e)] ∧ r.length = i ∧ (here.bd (1000 * i) ∧ here.par) ∧ ∀ p ∈ (⟨0, 0, 0, 0⟩ : P4) :: r, p.bd (1000 * i) ∧ p.par) 0
    (env := [some (.d (.list (ns.map .int))), some (.d (.int 0)), some (.d (.int 20)), some (.d (.int c)), some (.d (.list (hd.map .int))), some (.d (.int far)), some (.d (P4.e ⟨0, 0, 0, 0⟩)), some (.ref 0), none, none, none]) (h := [.lst [P4.e ⟨0, 0, 0, 0⟩]])
    ⟨⟨0, 0, 0, 0⟩, [], none, none, none, rfl, rfl, rfl, by simp [P4.bd, P4.par], by simp [P4.bd, P4.par]⟩ (fun i u env h eu hI => by
      obtain ⟨here, r, y8, y9, y10, rfl, rfl, e3, e4, e5⟩ := hI
      obtain ⟨hi, rfl⟩ := iRange_get eu
      obtain ⟨cc, ecc⟩ := cell_ev' ns hl (1 + i) (by omega) (by omega)
      obtain ⟨row, er, lr, hr⟩ := row_ev cc 1000000 3 (by decide) (by decide) (by decide)
      have er' : F_law_row [.int cc, .int 1000000, .int 3] = .ok (.list (row.map .int)) := er
      obtain ⟨x0, x1, x2, rfl⟩ := three lr
      simp only [List.map_cons, List.map_nil] at er'
      obtain ⟨hh, eh', hh0, hh1⟩ := pick hd0 hdb x0
      have em := lmoved_ev here hh (x1 % (far + 1)) hh0 hh1
      have s0 := Int.emod_nonneg x1 (show far + 1 ≠ 0 by omega)
      have s1 := Int.emod_lt_of_pos x1 (show 0 < far + 1 by omega)
      have hf1 : 0 < far + 1 := by omega
      have bm : (mv hh (x1 % (far + 1)) here).bd (1000 * ((0 + i + 1 : Nat) : Int)) := (mv_bd (m := 1000) hh0 hh1 e4.1 (by omega) (by omega)).mono (by omega)
      have pm : (mv hh (x1 % (far + 1)) here).par := mv_par' _ hh0 hh1 e4.2
      have hft : fits (r.length + 1 + 1) = true := fits_of (by omega)
      have mono : ∀ p ∈ (⟨0, 0, 0, 0⟩ : P4) :: r, p.bd (1000 * ((0 + i + 1 : Nat) : Int)) ∧ p.par := fun p hp => ⟨(e5 p hp).1.mono (by omega), (e5 p hp).2⟩
      by_cases hz : x2 % 9 = 1
      · obtain ⟨pl, ep, hpl⟩ := atI_in (xs := (⟨0, 0, 0, 0⟩ : P4) :: r) (i := x2 / 9 % (((⟨0, 0, 0, 0⟩ : P4) :: r).length : Int)) (Int.emod_nonneg _ (by rw [List.length_cons]; omega)) (Int.emod_lt_of_pos _ (by rw [List.length_cons]; omega))
        have ep' : atI (((⟨0, 0, 0, 0⟩ : P4) :: r).map P4.e) (x2 / 9 % ((r.length : Int) + 1)) = some pl.e := by
          rw [atI_map]
          rw [List.length_cons] at ep
          rw [show ((r.length : Int) + 1) = ((r.length + 1 : Nat) : Int) by omega, ep]
          rfl
        simp only [List.map_cons] at ep'
        have hr0 : (0 : Int) < (r.length : Int) + 1 := by omega
        refine ⟨_, [some (.d (.list (ns.map .int))), some (.d (.int 0)), some (.d (.int 20)), some (.d (.int c)), some (.d (.list (hd.map .int))), some (.d (.int far)), some (.d pl.e), some (.ref 0), some (.d (.int (1 + i))), some (.d (.list [.int x0, .int x1, .int x2])), some (.d (.int hh))], [.lst (((⟨0, 0, 0, 0⟩ : P4) :: (r ++ [pl])).map P4.e)], rfl, ?_, pl, r ++ [pl], _, _, _, rfl, rfl, by simp [e3], mono pl hpl, fun p hp => ?_⟩
        · unfold L_law_way_0
          simp [ecc, ev_pow6, er', hd0, eh', em, hf1, hz, ixR, lenR, ep', hft, hr0]
        · simp only [List.mem_cons, List.mem_append, List.not_mem_nil, or_false] at hp
          rcases hp with z | z | z
          · exact mono p (by simp [z])
          · exact mono p (by simp [z])
          · rw [z]; exact mono pl hpl
      · refine ⟨_, [some (.d (.list (ns.map .int))), some (.d (.int 0)), some (.d (.int 20)), some (.d (.int c)), some (.d (.list (hd.map .int))), some (.d (.int far)), some (.d (mv hh (x1 % (far + 1)) here).e), some (.ref 0), some (.d (.int (1 + i))), some (.d (.list [.int x0, .int x1, .int x2])), some (.d (.int hh))], [.lst (((⟨0, 0, 0, 0⟩ : P4) :: (r ++ [mv hh (x1 % (far + 1)) here])).map P4.e)], rfl, ?_, mv hh (x1 % (far + 1)) here, r ++ [mv hh (x1 % (far + 1)) here], _, _, _, rfl, rfl, by simp [e3], ⟨bm, pm⟩, fun p hp => ?_⟩
        · unfold L_law_way_0
          simp [ecc, ev_pow6, er', hd0, eh', em, hf1, hz, hft]
        · simp only [List.mem_cons, List.mem_append, List.not_mem_nil, or_false] at hp
          rcases hp with z | z | z
          · exact mono p (by simp [z])
          · exact mono p (by simp [z])
          · rw [z]; exact ⟨bm, pm⟩)
  subst e1 e2
  rw [iRange_len] at e3 e5
  have hlen : r.length = cnt.toNat := by omega
  refine ⟨⟨0, 0, 0, 0⟩, r, ?_, rfl, by omega, by omega, fun p hp => ?_⟩
  · have hw : F_law_way [.list (ns.map .int), .int 0, .int 20] = .ok (.list (((⟨0, 0, 0, 0⟩ : P4) :: r).map P4.e ++ [P4.e ⟨0, 0, 0, 0⟩])) := by
      unfold F_law_way B_law_way
      rw [pfOf_ap]
      have ee : (1 + cnt - 1).toNat = cnt.toNat := by omega
      have ct : cutD (((⟨0, 0, 0, 0⟩ : P4) :: r).map P4.e) none (some 1) = [P4.e ⟨0, 0, 0, 0⟩] := by
        rw [List.map_cons]
        unfold cutD
        simp [HT.sIx]
      have e' := e
      simp only [P4.e] at e' ct
      simp only [List.map_cons, P4.e] at e' ct
      simp [ec, eh, ef, hcnt, r1, r2, ee, P4.e, e', slR, ct]
      rw [addRL _ _ (by simp; omega)]
      simp
    rw [hw]
    simp
  · have q := e5 p (by
      simp only [List.mem_cons, List.mem_append, List.not_mem_nil, or_false] at hp ⊢
      rcases hp with z | z | z
      · exact .inl z
      · exact .inr z
      · exact .inl z)
    exact ⟨q.1.mono (by omega), q.2⟩
def cr1 (p q : P4) : Int := 2 * p.a * q.c + p.b * q.d - (2 * q.a * p.c + q.b * p.d)
def cr2 (p q : P4) : Int := 2 * (p.a * q.d + p.b * q.c) - 2 * (q.a * p.d + q.b * p.c)
theorem sm {n : Int} {x : Int} (h : -n ≤ x ∧ x ≤ n) (hn : n < 2 ^ 60) : x.natAbs < 2 ^ 64 := by omega
theorem times_ev (a b c d : Int) (h1 : a.natAbs < 2 ^ 64) (h2 : b.natAbs < 2 ^ 64) (h3 : c.natAbs < 2 ^ 64) : F_twice_times [.tuple [.int a, .int b], .tuple [.int c, .int d]] = .ok (.tuple [.int (2 * a * c + b * d), .int (2 * (a * d + b * c))]) := by
  unfold F_twice_times B_twice_times
  rw [pfOf_ap]
  simp [h1, h2, h3]
theorem across_ev {n : Int} (hn : n < 2 ^ 60) {p q : P4} (hp : p.bd n) (hq : q.bd n) : F_twice_across [p.e, q.e] = .ok (.tuple [.int (cr1 p q), .int (cr2 p q)]) := by
  unfold F_twice_across B_twice_across P4.e
  rw [pfOf_ap]
  unfold P4.bd at hp hq
  have e1 := times_ev p.a p.b q.c q.d (sm hp.1 hn) (sm hp.2.1 hn) (sm hq.2.2.1 hn)
  have e2 := times_ev q.a q.b p.c p.d (sm hq.1 hn) (sm hq.2.1 hn) (sm hp.2.2.1 hn)
  have e3 : ∀ a b c d, F_minus [.tuple [.int a, .int b], .tuple [.int c, .int d]] = .ok (.tuple [.int (a - c), .int (b - d)]) := minus_ev
  simp [e1, e2, e3, cr1, cr2]
theorem sign_ev (a b : Int) (ha : a.natAbs < 2 ^ 63) (hb : b.natAbs < 2 ^ 63) : F_sign_of [.tuple [.int a, .int b]] = .ok (.int (sgn a b)) := by
  have m1 : mulOk (2 * a) a = true := mulOk_of (.inr (by omega))
  have m2 : mulOk b b = true := mulOk_of (.inr (by omega))
  unfold F_sign_of B_sign_of sgn
  rw [pfOf_ap]
  by_cases h1 : 0 ≤ a <;> by_cases h2 : 0 ≤ b <;> by_cases h3 : a ≤ 0 <;> by_cases h4 : b ≤ 0 <;> by_cases h5 : b * b < 2 * a * a <;> by_cases h6 : 0 < a + b <;> by_cases h7 : a < 0 <;> by_cases h8 : b < 0 <;> simp [h1, h2, h3, h4, h5, h6, h7, h8, m1, m2] <;> first | done | (exfalso; omega)
theorem pminus_ev (a b c d : Int) : F_minus [.tuple [.int a, .int b], .tuple [.int c, .int d]] = .ok (.tuple [.int (a - c), .int (b - d)]) := minus_ev a b c d
def blw (a b c d : Int) : Bool := decide (sgn (a - c) (b - d) < 0)
theorem below_ev (a b c d : Int) (h1 : (a - c).natAbs < 2 ^ 63) (h2 : (b - d).natAbs < 2 ^ 63) : F_is_below [.tuple [.int a, .int b], .tuple [.int c, .int d]] = .ok (.bool (blw a b c d)) := by
  unfold F_is_below B_is_below
  rw [pfOf_ap]
  simp [pminus_ev, sign_ev _ _ h1 h2, blw]
def sub4 (p q : P4) : P4 := ⟨p.a - q.a, p.b - q.b, p.c - q.c, p.d - q.d⟩
theorem apart_ev (p q : P4) : F_apart [p.e, q.e] = .ok (sub4 p q).e := by
  unfold F_apart B_apart P4.e sub4
  rw [pfOf_ap]
  simp [pminus_ev]
theorem sub_bd {n : Int} {p q : P4} (hp : p.bd n) (hq : q.bd n) : (sub4 p q).bd (2 * n) := by
  unfold P4.bd sub4 at *
  dsimp only
  omega
theorem mul_bd {x y m : Int} (hx : -m ≤ x ∧ x ≤ m) (hy : -m ≤ y ∧ y ≤ m) : -(m * m) ≤ x * y ∧ x * y ≤ m * m := by
  have h : (x * y).natAbs ≤ m.toNat * m.toNat := by
    rw [Int.natAbs_mul]
    exact Nat.mul_le_mul (by omega) (by omega)
  have e : ((m.toNat * m.toNat : Nat) : Int) = m * m := by
    rw [Int.natCast_mul, Int.toNat_of_nonneg (by omega)]
  omega
theorem cr_bd {m : Int} {p q : P4} (hp : p.bd m) (hq : q.bd m) (hm : m ≤ 2 ^ 27) : (cr1 p q).natAbs < 2 ^ 60 ∧ (cr2 p q).natAbs < 2 ^ 60 := by
  have hm0 : 0 ≤ m := by unfold P4.bd at hp; omega
  have h0 : m * m ≤ 2 ^ 27 * 2 ^ 27 := Int.mul_le_mul hm hm hm0 (by decide)
  unfold P4.bd at hp hq
  have b1 := mul_bd hp.1 hq.2.2.1
  have b2 := mul_bd hp.2.1 hq.2.2.2
  have b3 := mul_bd hq.1 hp.2.2.1
  have b4 := mul_bd hq.2.1 hp.2.2.2
  have b5 := mul_bd hp.1 hq.2.2.2
  have b6 := mul_bd hp.2.1 hq.2.2.1
  have b7 := mul_bd hq.1 hp.2.2.2
  have b8 := mul_bd hq.2.1 hp.2.2.1
  unfold cr1 cr2
  rw [Int.mul_assoc 2 p.a q.c, Int.mul_assoc 2 q.a p.c]
  omega
def sde (o t p : P4) : Int := sgn (cr1 (sub4 t o) (sub4 p o)) (cr2 (sub4 t o) (sub4 p o))
def inw (a b x y c d : Int) : Bool := if blw c d a b then !blw x y c d && !blw a b x y else !blw x y a b && !blw c d x y
def onS (p o t : P4) : Bool := if sde o t p ≠ 0 then false else inw o.a o.b p.a p.b t.a t.b && inw o.c o.d p.c p.d t.c t.d
def pas (p o t : P4) : Int := if !blw p.c p.d o.c o.d && blw p.c p.d t.c t.d then (if 0 < sde o t p then 1 else 0) else if !blw p.c p.d t.c t.d && blw p.c p.d o.c o.d then 0 - (if sde o t p < 0 then 1 else 0) else 0
section
variable {n : Int} (hn : n ≤ 2 ^ 26) {o t p : P4} (ho : o.bd n) (ht : t.bd n) (hp : p.bd n)
theorem side_ev (hn : n ≤ 2 ^ 26) (ho : o.bd n) (ht : t.bd n) (hp : p.bd n) : F_side_of [o.e, t.e, p.e] = .ok (.int (sde o t p)) := by
  unfold F_side_of B_side_of
  rw [pfOf_ap]
  have b := cr_bd (sub_bd ht ho) (sub_bd hp ho) (by omega)
  have e1 := across_ev (n := 2 * n) (by omega) (sub_bd ht ho) (sub_bd hp ho)
  have e2 := sign_ev _ _ (Nat.lt_of_lt_of_le b.1 (by decide)) (Nat.lt_of_lt_of_le b.2 (by decide))
  simp [apart_ev, e1, e2, sde]
theorem within_ev {a b x y c d : Int} (hn : n ≤ 2 ^ 26) (ha : -n ≤ a ∧ a ≤ n) (hb : -n ≤ b ∧ b ≤ n) (hx : -n ≤ x ∧ x ≤ n) (hy : -n ≤ y ∧ y ≤ n) (hc : -n ≤ c ∧ c ≤ n) (hd : -n ≤ d ∧ d ≤ n) :
    F_is_within [.tuple [.int a, .int b], .tuple [.int x, .int y], .tuple [.int c, .int d]] = .ok (.bool (inw a b x y c d)) := by
  have e1 := below_ev c d a b (by omega) (by omega)
  have e2 := below_ev x y c d (by omega) (by omega)
  have e3 := below_ev a b x y (by omega) (by omega)
  have e4 := below_ev x y a b (by omega) (by omega)
  have e5 := below_ev c d x y (by omega) (by omega)
  unfold F_is_within B_is_within inw
  rw [pfOf_ap]
  cases h1 : blw c d a b <;> cases h2 : blw x y c d <;> cases h3 : blw a b x y <;> cases h4 : blw x y a b <;> cases h5 : blw c d x y <;> simp [e1, e2, e3, e4, e5, h1, h2, h3, h4, h5]
theorem isOn_ev (hn : n ≤ 2 ^ 26) (ho : o.bd n) (ht : t.bd n) (hp : p.bd n) : F_is_on [o.e, t.e, p.e] = .ok (.bool (onS p o t)) := by
  have e1 := side_ev hn ho ht hp
  have ho' := ho
  have ht' := ht
  have hp' := hp
  unfold P4.bd at ho' ht' hp'
  have e2 := within_ev hn ho'.1 ho'.2.1 hp'.1 hp'.2.1 ht'.1 ht'.2.1
  have e3 := within_ev hn ho'.2.2.1 ho'.2.2.2 hp'.2.2.1 hp'.2.2.2 ht'.2.2.1 ht'.2.2.2
  unfold F_is_on B_is_on onS
  rw [pfOf_ap]
  unfold P4.e at *
  by_cases h1 : sde o t p = 0 <;> cases h2 : inw o.a o.b p.a p.b t.a t.b <;> simp [e1, e2, e3, h1, h2]
theorem pass_ev (hn : n ≤ 2 ^ 26) (ho : o.bd n) (ht : t.bd n) (hp : p.bd n) : F_passing [o.e, t.e, p.e] = .ok (.int (pas p o t)) := by
  have e1 := side_ev hn ho ht hp
  have ho' := ho
  have ht' := ht
  have hp' := hp
  unfold P4.bd at ho' ht' hp'
  have e2 := below_ev p.c p.d o.c o.d (by omega) (by omega)
  have e3 := below_ev p.c p.d t.c t.d (by omega) (by omega)
  unfold F_passing B_passing pas
  rw [pfOf_ap]
  unfold P4.e at *
  cases h2 : blw p.c p.d o.c o.d <;> cases h3 : blw p.c p.d t.c t.d <;> simp [e1, e2, e3, h2, h3]
end
def anyP {α : Type} (f : α → α → Bool) : List α → Bool
  | p :: q :: r => f p q || anyP f (q :: r)
  | _ => false
theorem anyP_app {α : Type} (f : α → α → Bool) (x : α) (m : List α) : ∀ l : List α, anyP f (l ++ x :: m) = (anyP f (l ++ [x]) || anyP f (x :: m))
  | [] => by simp [anyP]
  | [p] => by simp [anyP]
  | p :: q :: r => by
    have ih := anyP_app f x m (q :: r)
    simp only [List.cons_append] at ih ⊢
    rw [anyP, anyP, ih, Bool.or_assoc]
theorem rounds_loop {n : Int} (hn : n ≤ 2 ^ 26) {p : P4} (hp : p.bd n) (wy : U) : ∀ (l : List P4) (x : Int) (y3 y4 : Option U), (∀ z ∈ l, z.bd n) →
    (anyP (onS p) l = true ∧ forGo (gTup' 2 (gCons' (gN 3) (gCons' (gN 4) gNil'))) L_rounds_of_0 (((pairs l).map fun z => (z.1.e, z.2.e)).map prU) [some wy, some (.d p.e), some (.d (.int x)), y3, y4] [] = .ret (.d .none) []) ∨
    (anyP (onS p) l = false ∧ ∃ y3' y4', forGo (gTup' 2 (gCons' (gN 3) (gCons' (gN 4) gNil'))) L_rounds_of_0 (((pairs l).map fun z => (z.1.e, z.2.e)).map prU) [some wy, some (.d p.e), some (.d (.int x)), y3, y4] [] = .next [some wy, some (.d p.e), some (.d (.int (x + sumP (pas p) l))), y3', y4'] [])
  | [], x, y3, y4, _ => .inr ⟨rfl, y3, y4, by simp [pairs, sumP]⟩
  | [a], x, y3, y4, _ => .inr ⟨rfl, y3, y4, by simp [pairs, sumP]⟩
  | a :: b :: r, x, y3, y4, hb => by
    have ha := hb a (by simp)
    have hb' := hb b (by simp)
    have e1 := isOn_ev hn ha hb' hp
    have e2 := pass_ev hn ha hb' hp
    rw [pairs, List.map_cons, List.map_cons, ev_forC]
    simp only [prU, ev_gT, ev_itT, List.map_cons, List.map_nil, List.length_cons, List.length_nil, ev_gCons, ev_gN, ev_gNil, List.set_cons_succ, List.set_cons_zero, if_true, Nat.zero_add]
    cases h : onS p a b with
    | true =>
      refine .inl ⟨by simp [anyP, h], ?_⟩
      have el : L_rounds_of_0 [some wy, some (.d p.e), some (.d (.int x)), some (.d a.e), some (.d b.e)] [] = .ret (.d .none) [] := by
        unfold L_rounds_of_0
        simp [e1, h]
      rw [el]
      rfl
    | false =>
      have el : L_rounds_of_0 [some wy, some (.d p.e), some (.d (.int x)), some (.d a.e), some (.d b.e)] [] = .next [some wy, some (.d p.e), some (.d (.int (x + pas p a b))), some (.d a.e), some (.d b.e)] [] := by
        unfold L_rounds_of_0
        simp [e1, e2, h]
      rw [el]
      simp only [SRes.seq_next]
      rcases rounds_loop hn hp wy (b :: r) (x + pas p a b) (some (.d a.e)) (some (.d b.e)) (fun z hz => hb z (List.mem_cons_of_mem _ hz)) with ⟨h1, h2⟩ | ⟨h1, y3', y4', h2⟩
      · exact .inl ⟨by simp [anyP, h1], h2⟩
      · exact .inr ⟨by simp [anyP, h, h1], y3', y4', by rw [h2, sumP, Int.add_assoc]⟩
def rnd (p : P4) (l : List P4) : D := if anyP (onS p) l then .none else .int (sumP (pas p) l)
theorem rounds_ev {n : Int} (hn : n ≤ 2 ^ 26) {p : P4} (hp : p.bd n) (l : List P4) (hl : l.length ≠ 1) (hb : ∀ z ∈ l, z.bd n) : F_rounds_of [.list (l.map P4.e), p.e] = .ok (rnd p l) := by
  unfold F_rounds_of B_rounds_of rnd
  rw [pfOf_ap]
  have hl' : ¬ (l.length : Int) = 1 := by omega
  rcases rounds_loop hn hp (.d (.list (l.map P4.e))) l 0 none none hb with ⟨h1, h2⟩ | ⟨h1, y3', y4', h2⟩
  · simp only [List.map_map] at h2
    simp [cut_front, cut_tail, zipD_pairs, pairs_map, -List.map_tail, h2, h1]
  · simp only [List.map_map, Int.zero_add] at h2
    simp [cut_front, cut_tail, zipD_pairs, pairs_map, -List.map_tail, h2, h1, hl', hl]
theorem place_ev (x0 x1 x2 x3 x4 far : Int) (hf : 0 < far) (hf2 : far < 2 ^ 60) : ∃ p : P4, F_law_place [.list [.int x0, .int x1, .int x2, .int x3, .int x4], .int far] = .ok p.e ∧ p.par ∧ p.bd (far + 1) := by
  have hp : 0 < 2 * far + 1 := by omega
  have b : ∀ x : Int, 0 ≤ x % (2 * far + 1) ∧ x % (2 * far + 1) < 2 * far + 1 := fun x => ⟨Int.emod_nonneg _ (by omega), Int.emod_lt_of_pos _ hp⟩
  have b0 := b x0
  have b1 := b x1
  have b2 := b x2
  have b3 := b x3
  unfold F_law_place B_law_place P4.par P4.bd
  rw [pfOf_ap]
  by_cases hq : (x1 % (2 * far + 1) - far + (x3 % (2 * far + 1) - far)) % 2 = 1
  · refine ⟨⟨x0 % (2 * far + 1) - far, x1 % (2 * far + 1) - far, x2 % (2 * far + 1) - far, x3 % (2 * far + 1) - far + 1⟩, ?_, by dsimp only; omega, by dsimp only; omega⟩
    simp [K_law_place_0, wipeE, hp, hq, P4.e]
  · refine ⟨⟨x0 % (2 * far + 1) - far, x1 % (2 * far + 1) - far, x2 % (2 * far + 1) - far, x3 % (2 * far + 1) - far⟩, ?_, by dsimp only; omega, by dsimp only; omega⟩
    simp [K_law_place_0, wipeE, hp, hq, P4.e]
theorem eight {α : Type} {l : List α} (h : l.length = 8) : ∃ a b c d e f g i, l = [a, b, c, d, e, f, g, i] := by
  match l, h with
  | [a, b, c, d, e, f, g, i], _ => exact ⟨a, b, c, d, e, f, g, i, rfl⟩
theorem cut16 (a b c d e f g i : D) : cutD [a, b, c, d, e, f, g, i] (some 1) (some 6) = [b, c, d, e, f] := by rfl
theorem atI_5 {α : Type} (a b c d e f g i : α) : atI [a, b, c, d, e, f, g, i] 5 = some f := atI_nat (j := 5) rfl
theorem spot_ev (ns : List Int) (hl : ns.length ≤ 63) (k : Int) (h0 : 0 ≤ k) (h1 : k < 1000) {n : Int} (hn : 10 ≤ n) (W : List P4) (hW : 0 < W.length) (hb : ∀ z ∈ W, z.bd n ∧ z.par) : ∃ p : P4, F_law_spot [.list (ns.map .int), .int k, .list (W.map P4.e)] = .ok p.e ∧ p.par ∧ p.bd (n + 10) := by
  obtain ⟨c, ec⟩ := cell_ev' ns hl k h0 h1
  obtain ⟨row, er, lr, hr⟩ := row_ev c 1000000 8 (by decide) (by decide) (by decide)
  have er' : F_law_row [.int c, .int 1000000, .int 8] = .ok (.list (row.map .int)) := er
  obtain ⟨x0, x1, x2, x3, x4, x5, x6, x7, rfl⟩ := eight lr
  simp only [List.map_cons, List.map_nil] at er'
  unfold F_law_spot B_law_spot
  rw [pfOf_ap]
  by_cases h3 : x0 % 3 = 0
  · obtain ⟨p, e, pp, pb⟩ := place_ev x1 x2 x3 x4 x5 4 (by decide) (by decide)
    refine ⟨p, ?_, pp, pb.mono (by omega)⟩
    simp [ec, er', ev_pow6, h3, cut16, e]
  · have i0 := Int.emod_nonneg x1 (show (W.length : Int) ≠ 0 by omega)
    have i1 := Int.emod_lt_of_pos x1 (show (0 : Int) < W.length by omega)
    obtain ⟨z, ez, hz⟩ := atI_in (xs := W) i0 i1
    have ez' : atI (W.map P4.e) (x1 % (W.length : Int)) = some z.e := by rw [atI_map, ez]; rfl
    have a0 := Int.emod_nonneg x2 (show (8 : Int) ≠ 0 by decide)
    have a1 := Int.emod_lt_of_pos x2 (show (0 : Int) < 8 by decide)
    have b0 := Int.emod_nonneg x4 (show (8 : Int) ≠ 0 by decide)
    have b1 := Int.emod_lt_of_pos x4 (show (0 : Int) < 8 by decide)
    have e1 := lmoved_ev z (x2 % 8) (x3 % 4) a0 a1
    have e2 := lmoved_ev (mv (x2 % 8) (x3 % 4) z) (x4 % 8) (x5 % 3) b0 b1
    refine ⟨mv (x4 % 8) (x5 % 3) (mv (x2 % 8) (x3 % 4) z), ?_, mv_par' _ b0 b1 (mv_par' _ a0 a1 (hb z hz).2), (mv_bd (m := 4) b0 b1 (mv_bd (m := 4) a0 a1 (hb z hz).1 (by omega) (by omega)) (by omega) (by omega)).mono (by omega)⟩
    simp [ec, er', ev_pow6, h3, ez', hW, e1, atI_5, e2]
theorem lminus_ev (a b c d : Int) : F_law_minus [.tuple [.int a, .int b], .tuple [.int c, .int d]] = .ok (.tuple [.int (a - c), .int (b - d)]) := minus_ev a b c d
theorem double_ev (a b c d : Int) (h1 : a.natAbs < 2 ^ 64) (h2 : b.natAbs < 2 ^ 64) (h3 : c.natAbs < 2 ^ 64) : F_law_double [.tuple [.int a, .int b], .tuple [.int c, .int d]] = .ok (.tuple [.int (2 * a * c + b * d), .int (2 * (a * d + b * c))]) := by
  unfold F_law_double B_law_double
  rw [pfOf_ap]
  simp [h1, h2, h3]
theorem lsg_ev (a b : Int) (ha : a.natAbs < 2 ^ 63) (hb : b.natAbs < 2 ^ 63) : F_law_sign [.tuple [.int a, .int b]] = .ok (.int (sgn a b)) := by
  rw [sgn_lsg]
  have m1 : mulOk (2 * a) a = true := mulOk_of (.inr (by omega))
  have m2 : mulOk b b = true := mulOk_of (.inr (by omega))
  have m3 : mulOk a b = true := mulOk_of (.inr (by omega))
  unfold F_law_sign B_law_sign lsg
  rw [pfOf_ap]
  by_cases h1 : 0 ≤ a * b <;> by_cases h2 : 0 < a <;> simp [h1, h2, m1, m2, m3]
theorem lside_ev {n : Int} (hn : n ≤ 2 ^ 26) {o t p : P4} (ho : o.bd n) (ht : t.bd n) (hp : p.bd n) : F_law_side [o.e, t.e, p.e] = .ok (.int (sde o t p)) := by
  have b := cr_bd (sub_bd ht ho) (sub_bd hp ho) (by omega)
  have b1 := sub_bd ht ho
  have b2 := sub_bd hp ho
  have e1 := double_ev (t.a - o.a) (t.b - o.b) (p.c - o.c) (p.d - o.d) (by unfold P4.bd sub4 at b1; dsimp only at b1; omega) (by unfold P4.bd sub4 at b1; dsimp only at b1; omega) (by unfold P4.bd sub4 at b2; dsimp only at b2; omega)
  have e2 := double_ev (p.a - o.a) (p.b - o.b) (t.c - o.c) (t.d - o.d) (by unfold P4.bd sub4 at b2; dsimp only at b2; omega) (by unfold P4.bd sub4 at b2; dsimp only at b2; omega) (by unfold P4.bd sub4 at b1; dsimp only at b1; omega)
  have e3 := lsg_ev _ _ (Nat.lt_of_lt_of_le b.1 (by decide)) (Nat.lt_of_lt_of_le b.2 (by decide))
  unfold cr1 cr2 sub4 at e3
  dsimp only at e3
  unfold F_law_side B_law_side P4.e sde cr1 cr2 sub4
  rw [pfOf_ap]
  simp [lminus_ev, e1, e2, e3]
/-- the quarter, by the signs -/
def qt (x y : Int) : Int := if 0 < x ∧ 0 ≤ y then 0 else if x ≤ 0 ∧ 0 < y then 1 else if x < 0 ∧ y ≤ 0 then 2 else if 0 ≤ x ∧ y < 0 then 3 else 4
def sx (p z : P4) : Int := sgn (z.a - p.a) (z.b - p.b)
def sy (p z : P4) : Int := sgn (z.c - p.c) (z.d - p.d)
theorem quarter_ev {n : Int} (hn : n ≤ 2 ^ 26) {p z : P4} (hp : p.bd n) (hz : z.bd n) : F_law_quarter [p.e, z.e] = .ok (.int (qt (sx p z) (sy p z))) := by
  unfold P4.bd at hp hz
  have e1 := lsg_ev (z.a - p.a) (z.b - p.b) (by omega) (by omega)
  have e2 := lsg_ev (z.c - p.c) (z.d - p.d) (by omega) (by omega)
  unfold F_law_quarter B_law_quarter P4.e qt sx sy
  rw [pfOf_ap]
  rcases sgn_three (z.a - p.a) (z.b - p.b) with h | h | h <;> rcases sgn_three (z.c - p.c) (z.d - p.d) with k | k | k <;> rw [h] at e1 <;> rw [k] at e2 <;> simp [lminus_ev, e1, e2, h, k]
/-- turns, by the signs -/
def trn (x1 y1 x2 y2 c : Int) : Option Int := if qt x1 y1 = 4 ∨ qt x2 y2 = 4 then none else
  if (qt x2 y2 - qt x1 y1) % 4 = 2 ∧ c = 0 then none else
  if (qt x2 y2 - qt x1 y1) % 4 = 3 ∨ (qt x2 y2 - qt x1 y1) % 4 = 2 ∧ c < 0 then some ((qt x2 y2 - qt x1 y1) % 4 - 4) else some ((qt x2 y2 - qt x1 y1) % 4)
def optD : Option Int → D
  | none => .none
  | some i => .int i
def tr (p o t : P4) : Option Int := trn (sx p o) (sy p o) (sx p t) (sy p t) (sde o t p)
theorem turns_ev {n : Int} (hn : n ≤ 2 ^ 26) {o t p : P4} (ho : o.bd n) (ht : t.bd n) (hp : p.bd n) : F_law_turns [p.e, o.e, t.e] = .ok (optD (tr p o t)) := by
  have e1 := quarter_ev hn hp ho
  have e2 := quarter_ev hn hp ht
  have e3 := lside_ev hn ho ht hp
  unfold F_law_turns B_law_turns tr trn
  rw [pfOf_ap]
  generalize qt (sx p o) (sy p o) = q1 at *
  generalize qt (sx p t) (sy p t) = q2 at *
  generalize sde o t p = c at *
  by_cases h1 : q1 = 4
  · simp [e1, e2, h1, optD]
  · by_cases h2 : q2 = 4
    · simp [e1, e2, h1, h2, optD]
    · by_cases h3 : (q2 - q1) % 4 = 2
      · by_cases h4 : c = 0
        · simp [e1, e2, e3, h1, h2, h3, h4, optD]
        · by_cases h5 : c < 0 <;> simp [e1, e2, e3, h1, h2, h3, h4, h5, optD]
      · by_cases h4 : (q2 - q1) % 4 = 3 <;> simp [e1, e2, e3, h1, h2, h3, h4, optD]
/-! ### the signs of an edge -/
def on5 (x1 y1 x2 y2 c : Int) : Bool := decide (c = 0) && decide (x1 * x2 ≤ 0) && decide (y1 * y2 ≤ 0)
def ps5 (x1 y1 x2 y2 c : Int) : Int := if y1 ≤ 0 ∧ 0 < y2 then (if 0 < c then 1 else 0) else if y2 ≤ 0 ∧ 0 < y1 then 0 - (if c < 0 then 1 else 0) else 0
def ph (x y : Int) : Int := if 0 < x ∧ y = 0 then 4 else qt x y
def fit (x1 y1 x2 y2 c : Int) : Bool := (decide (x2 * y1 < x1 * y2) && decide (c = 1)) || (decide (x1 * y2 < x2 * y1) && decide (c = -1)) || (decide (x1 * y2 = x2 * y1) && (decide (x1 * y2 ≠ 0) || decide (c = 0)))
def sgs : List Int := [-1, 0, 1]
theorem edge_all : sgs.all (fun x1 => sgs.all fun y1 => sgs.all fun x2 => sgs.all fun y2 => sgs.all fun c => !fit x1 y1 x2 y2 c || (match trn x1 y1 x2 y2 c with
  | none => on5 x1 y1 x2 y2 c
  | some i => !on5 x1 y1 x2 y2 c && decide (i = 4 * ps5 x1 y1 x2 y2 c + (ph x2 y2 - ph x1 y1)))) = true := by decide +kernel
theorem far_all : sgs.all (fun y1 => sgs.all fun y2 => sgs.all fun c => !fit (-1) y1 (-1) y2 c || (!on5 (-1) y1 (-1) y2 c && decide (ps5 (-1) y1 (-1) y2 c = 0))) = true := by decide +kernel
theorem in_sgs (a b : Int) : sgn a b ∈ sgs := by
  rcases sgn_three a b with h | h | h <;> rw [h] <;> decide
theorem blw_y (a b c d : Int) : blw a b c d = decide (0 < sgn (c - a) (d - b)) := by
  have h := sgn_neg (c - a) (d - b)
  rw [show 0 - (c - a) = a - c by omega, show 0 - (d - b) = b - d by omega] at h
  unfold blw
  rw [h]
  by_cases z : 0 < sgn (c - a) (d - b)
  · rw [decide_eq_true z, decide_eq_true (by omega)]
  · rw [decide_eq_false z, decide_eq_false (by omega)]
theorem inw_s (a b x y c d : Int) : inw a b x y c d = decide (sgn (a - x) (b - y) * sgn (c - x) (d - y) ≤ 0) := by
  have e1 : blw x y c d = decide (0 < sgn (c - x) (d - y)) := blw_y x y c d
  have e2 : blw x y a b = decide (0 < sgn (a - x) (b - y)) := blw_y x y a b
  have e3 : blw a b x y = decide (sgn (a - x) (b - y) < 0) := rfl
  have e4 : blw c d x y = decide (sgn (c - x) (d - y) < 0) := rfl
  have e5 : blw c d a b = decide (sgn (c - a) (d - b) < 0) := rfl
  have g1 : sgn (a - x) (b - y) < sgn (c - x) (d - y) → sgn (c - a) (d - b) = 1 := fun h => by
    have := sgn_gt h
    rw [show c - x - (a - x) = c - a by omega, show d - y - (b - y) = d - b by omega] at this
    exact this
  have g2 : sgn (c - x) (d - y) < sgn (a - x) (b - y) → sgn (c - a) (d - b) = -1 := fun h => by
    have := sgn_lt h
    rw [show c - x - (a - x) = c - a by omega, show d - y - (b - y) = d - b by omega] at this
    exact this
  unfold inw
  rw [e1, e2, e3, e4, e5]
  rcases sgn_three (a - x) (b - y) with h | h | h <;> rcases sgn_three (c - x) (d - y) with k | k | k <;> rw [h, k] at g1 g2 <;> rw [h, k] <;> by_cases z : sgn (c - a) (d - b) < 0 <;> simp [z] <;> omega
theorem sde_sgn (o t p : P4) : fit (sx p o) (sy p o) (sx p t) (sy p t) (sde o t p) = true := by
  have h1 := sgn_mul (o.a - p.a) (o.b - p.b) (t.c - p.c) (t.d - p.d)
  have h2 := sgn_mul (t.a - p.a) (t.b - p.b) (o.c - p.c) (o.d - p.d)
  have e : sde o t p = sgn (m1 (o.a - p.a) (o.b - p.b) (t.c - p.c) (t.d - p.d) - m1 (t.a - p.a) (t.b - p.b) (o.c - p.c) (o.d - p.d)) (m2 (o.a - p.a) (o.b - p.b) (t.c - p.c) (t.d - p.d) - m2 (t.a - p.a) (t.b - p.b) (o.c - p.c) (o.d - p.d)) := by
    unfold sde cr1 cr2 sub4 m1 m2
    congr 1 <;> grind
  have l := fun h => sgn_lt (a := m1 (o.a - p.a) (o.b - p.b) (t.c - p.c) (t.d - p.d)) (b := m2 (o.a - p.a) (o.b - p.b) (t.c - p.c) (t.d - p.d)) (c := m1 (t.a - p.a) (t.b - p.b) (o.c - p.c) (o.d - p.d)) (d := m2 (t.a - p.a) (t.b - p.b) (o.c - p.c) (o.d - p.d)) h
  have g := fun h => sgn_gt (a := m1 (o.a - p.a) (o.b - p.b) (t.c - p.c) (t.d - p.d)) (b := m2 (o.a - p.a) (o.b - p.b) (t.c - p.c) (t.d - p.d)) (c := m1 (t.a - p.a) (t.b - p.b) (o.c - p.c) (o.d - p.d)) (d := m2 (t.a - p.a) (t.b - p.b) (o.c - p.c) (o.d - p.d)) h
  have z := fun h h' => sgn_eq0 (a := m1 (o.a - p.a) (o.b - p.b) (t.c - p.c) (t.d - p.d)) (b := m2 (o.a - p.a) (o.b - p.b) (t.c - p.c) (t.d - p.d)) (c := m1 (t.a - p.a) (t.b - p.b) (o.c - p.c) (o.d - p.d)) (d := m2 (t.a - p.a) (t.b - p.b) (o.c - p.c) (o.d - p.d)) h h'
  rw [h1, h2, ← e] at l g z
  unfold fit
  change (sx p o * sy p t < sx p t * sy p o → sde o t p = -1) at l
  change (sx p t * sy p o < sx p o * sy p t → sde o t p = 1) at g
  change (sx p o * sy p t = 0 → sx p t * sy p o = 0 → sde o t p = 0) at z
  generalize sx p o * sy p t = u at *
  generalize sx p t * sy p o = v at *
  generalize sde o t p = c at *
  rcases Int.lt_trichotomy u v with h | h | h
  · simp [h, l h]
  · subst h
    by_cases hu : u = 0
    · simp [z hu hu]
    · simp [hu]
  · simp [h, g h]
theorem on_s (p o t : P4) : onS p o t = on5 (sx p o) (sy p o) (sx p t) (sy p t) (sde o t p) := by
  unfold onS on5
  rw [inw_s, inw_s]
  by_cases h : sde o t p = 0 <;> simp [h, sx, sy] <;> rfl
theorem pas_s (p o t : P4) : pas p o t = ps5 (sx p o) (sy p o) (sx p t) (sy p t) (sde o t p) := by
  unfold pas ps5
  rw [blw_y, blw_y]
  have e1 : sgn (o.c - p.c) (o.d - p.d) = sy p o := rfl
  have e2 : sgn (t.c - p.c) (t.d - p.d) = sy p t := rfl
  rw [e1, e2]
  by_cases h1 : 0 < sy p o <;> by_cases h2 : 0 < sy p t <;> simp [h1, h2] <;> omega
theorem edge (p o t : P4) : (tr p o t = none ∧ onS p o t = true) ∨ (onS p o t = false ∧ tr p o t = some (4 * pas p o t + (ph (sx p t) (sy p t) - ph (sx p o) (sy p o)))) := by
  have a := edge_all
  simp only [List.all_eq_true] at a
  have b := a _ (in_sgs (o.a - p.a) (o.b - p.b)) _ (in_sgs (o.c - p.c) (o.d - p.d)) _ (in_sgs (t.a - p.a) (t.b - p.b)) _ (in_sgs (t.c - p.c) (t.d - p.d)) _ (in_sgs _ _ : sde o t p ∈ sgs)
  have f := sde_sgn o t p
  change (!fit (sx p o) (sy p o) (sx p t) (sy p t) (sde o t p) || (match trn (sx p o) (sy p o) (sx p t) (sy p t) (sde o t p) with
    | none => on5 (sx p o) (sy p o) (sx p t) (sy p t) (sde o t p)
    | some i => !on5 (sx p o) (sy p o) (sx p t) (sy p t) (sde o t p) && decide (i = 4 * ps5 (sx p o) (sy p o) (sx p t) (sy p t) (sde o t p) + (ph (sx p t) (sy p t) - ph (sx p o) (sy p o))))) = true at b
  rw [f] at b
  rw [on_s, pas_s]
  unfold tr
  revert b
  cases trn (sx p o) (sy p o) (sx p t) (sy p t) (sde o t p) with
  | none => intro b; exact .inl ⟨rfl, by simpa using b⟩
  | some i =>
    intro b
    simp at b
    exact .inr ⟨b.1, by rw [b.2]⟩
theorem far_edge (p o t : P4) (h1 : sx p o = -1) (h2 : sx p t = -1) : onS p o t = false ∧ pas p o t = 0 := by
  have a := far_all
  simp only [List.all_eq_true] at a
  have b := a _ (in_sgs (o.c - p.c) (o.d - p.d)) _ (in_sgs (t.c - p.c) (t.d - p.d)) _ (in_sgs _ _ : sde o t p ∈ sgs)
  have f := sde_sgn o t p
  rw [on_s, pas_s]
  rw [h1, h2] at f ⊢
  change (!fit (-1) (sy p o) (-1) (sy p t) (sde o t p) || (!on5 (-1) (sy p o) (-1) (sy p t) (sde o t p) && decide (ps5 (-1) (sy p o) (-1) (sy p t) (sde o t p) = 0))) = true at b
  rw [f] at b
  simpa using b
theorem sde_rev (p o t : P4) : sde t o p = - sde o t p := by
  unfold sde
  rw [← sgn_ng]
  unfold cr1 cr2 sub4
  congr 1 <;> grind
theorem pas_rev (p o t : P4) : pas p t o = - pas p o t := by
  rw [pas_s, pas_s, sde_rev]
  unfold ps5
  generalize sde o t p = c
  by_cases h1 : 0 < sy p o <;> by_cases h2 : 0 < sy p t <;> by_cases h3 : 0 < c <;> by_cases h4 : c < 0 <;> simp [h1, h2, h3, h4] <;> omega
theorem on_rev (p o t : P4) : onS p t o = onS p o t := by
  rw [on_s, on_s, sde_rev]
  unfold on5
  rw [Int.mul_comm (sx p t), Int.mul_comm (sy p t)]
  generalize sde o t p = c
  by_cases h : c = 0
  · simp [h]
  · simp [h, show ¬ -c = 0 by omega]
theorem anyP_congr {α : Type} {f g : α → α → Bool} (h : ∀ p q, f p q = g p q) : ∀ l : List α, anyP f l = anyP g l
  | [] => rfl
  | [p] => rfl
  | p :: q :: r => by
    have ih := anyP_congr h (q :: r)
    rw [anyP, anyP, ih, h]
theorem anyP_rev {α : Type} (f : α → α → Bool) : ∀ l : List α, anyP f l.reverse = anyP (fun p q => f q p) l
  | [] => rfl
  | [p] => rfl
  | p :: q :: r => by
    have ih := anyP_rev f (q :: r)
    have e := anyP_app f q [p] r.reverse
    rw [List.reverse_cons, List.reverse_cons, List.append_assoc, List.singleton_append, e, anyP, ← List.reverse_cons, ih]
    simp [anyP, Bool.or_comm]
/-! ### the law's own rounds -/
def sumT (p : P4) : List P4 → Option Int
  | o :: t :: r => match tr p o t with
    | none => none
    | some i => (sumT p (t :: r)).map (i + ·)
  | _ => some 0
theorem sumT_eq (p : P4) : ∀ (l : List P4) (o t : P4), sumT p (o :: (l ++ [t])) = if anyP (onS p) (o :: (l ++ [t])) then none else some (4 * sumP (pas p) (o :: (l ++ [t])) + (ph (sx p t) (sy p t) - ph (sx p o) (sy p o)))
  | [], o, t => by
    simp only [List.nil_append]
    rw [sumT, anyP, sumP]
    rcases edge p o t with ⟨h1, h2⟩ | ⟨h1, h2⟩
    · simp [h1, h2]
    · simp [h1, h2, sumT, anyP, sumP]
  | x :: l, o, t => by
    have ih := sumT_eq p l x t
    simp only [List.cons_append] at ih ⊢
    rw [sumT, anyP, sumP, ih]
    rcases edge p o x with ⟨h1, h2⟩ | ⟨h1, h2⟩
    · simp [h1, h2]
    · rw [h1, h2]
      simp only [Bool.false_or]
      cases anyP (onS p) (x :: (l ++ [t])) with
      | true => simp
      | false =>
        simp only [Option.map_some, Bool.false_eq_true, if_false]
        congr 1
        omega
theorem lrounds_loop {n : Int} (hn : n ≤ 2 ^ 26) {p : P4} (hp : p.bd n) (W : List P4) (hb : ∀ z ∈ W, z.bd n) (w : U) (hw : w = .d (.list (W.map P4.e))) : ∀ (m i : Nat) (x : Int) (y3 y4 : Option U), i + m + 1 = W.length →
    ∃ y3' y4', forGo (gN 3) L_law_rounds_0 ((List.range' i m).map fun j => U.d (.int (0 + (j : Nat) : Int))) [some w, some (.d p.e), some (.d (.int x)), y3, y4] [] = (match sumT p (W.drop i) with
      | none => .ret (.d .none) []
      | some s => .next [some w, some (.d p.e), some (.d (.int (x + s))), y3', y4'] [])
  | 0, i, x, y3, y4, hl => by
    have e : W.drop i = [W[i]] := by
      rw [List.drop_eq_getElem_cons (show i < W.length by omega), List.drop_of_length_le (by omega)]
    refine ⟨y3, y4, ?_⟩
    rw [e]
    simp [sumT]
  | m + 1, i, x, y3, y4, hl => by
    have hi : i < W.length := by omega
    have hi2 : i + 1 < W.length := by omega
    have e1 : W.drop (i + 1) = W[i + 1] :: W.drop (i + 1 + 1) := List.drop_eq_getElem_cons hi2
    have e : W.drop i = W[i] :: W[i + 1] :: W.drop (i + 1 + 1) := by rw [List.drop_eq_getElem_cons hi, e1]
    have a1 : atI (W.map P4.e) (i : Int) = some (W[i]).e := atI_nat (by simp [List.getElem?_eq_getElem hi])
    have a2 : atI (W.map P4.e) ((i : Int) + 1) = some (W[i + 1]).e := by
      have : atI (W.map P4.e) (((i + 1 : Nat)) : Int) = some (W[i + 1]).e := atI_nat (by simp [List.getElem?_eq_getElem hi2])
      exact this
    have ev := turns_ev hn (hb W[i] (List.getElem_mem _)) (hb W[i + 1] (List.getElem_mem _)) hp
    rw [List.range'_succ, List.map_cons, ev_forC, e, sumT]
    subst hw
    simp only [ev_gN, List.set_cons_succ, List.set_cons_zero]
    cases hT : tr p W[i] W[i + 1] with
    | none =>
      rw [hT] at ev
      refine ⟨none, none, ?_⟩
      have el : L_law_rounds_0 [some (.d (.list (W.map P4.e))), some (.d p.e), some (.d (.int x)), some (.d (.int (0 + (i : Int)))), y4] [] = .ret (.d .none) [] := by
        unfold L_law_rounds_0
        simp [a1, a2, ev, optD, opIsN, isN]
      rw [el]
      rfl
    | some t =>
      rw [hT] at ev
      obtain ⟨y3', y4', ih⟩ := lrounds_loop hn hp W hb (.d (.list (W.map P4.e))) rfl m (i + 1) (x + t) (some (.d (.int (0 + (i : Int))))) (some (.d (.int t))) (by omega)
      refine ⟨y3', y4', ?_⟩
      have el : L_law_rounds_0 [some (.d (.list (W.map P4.e))), some (.d p.e), some (.d (.int x)), some (.d (.int (0 + (i : Int)))), y4] [] = .next [some (.d (.list (W.map P4.e))), some (.d p.e), some (.d (.int (x + t))), some (.d (.int (0 + (i : Int)))), some (.d (.int t))] [] := by
        unfold L_law_rounds_0
        simp [a1, a2, ev, optD, opIsN, isN]
      rw [el]
      simp only [SRes.seq_next]
      rw [ih, e1]
      cases sumT p (W[i + 1] :: W.drop (i + 1 + 1)) with
      | none => rfl
      | some s => simp only [Option.map_some, Int.add_assoc]
theorem eqv_P (p q : P4) : PyData.eqv p.e q.e = ask (p = q) := by
  unfold P4.e
  simp only [PyData.eqv, PyData.eqvAll]
  rw [Bool.eq_iff_iff, ask_iff]
  rcases p with ⟨a, b, c, d⟩
  rcases q with ⟨a', b', c', d'⟩
  simp [P4.mk.injEq]
  constructor
  · rintro ⟨⟨h1, h2⟩, h3, h4⟩; exact ⟨h1, h2, h3, h4⟩
  · rintro ⟨h1, h2, h3, h4⟩; exact ⟨⟨h1, h2⟩, h3, h4⟩
theorem ask_f {p : Prop} (h : ¬ p) : ask p = false := by
  cases e : ask p with
  | false => rfl
  | true => exact absurd (ask_iff.mp e) h
theorem ev_eqPQ (n : Bool) (p q : P4) (h : Sto) : opEqB n (.d p.e) (.d q.e) h = .ok (.d (.bool (xor n (ask (p = q))))) h := by
  rw [ev_eqD n h p.ns p.shaped q.shaped, eqv_P]
theorem lrounds_ev {n : Int} (hn : n ≤ 2 ^ 26) {p : P4} (hp : p.bd n) (q : P4) (r : List P4) (hr : 1 ≤ r.length) (hl : r.length ≤ 1000) (hb : ∀ z ∈ q :: (r ++ [q]), z.bd n) : F_law_rounds [.list ((q :: (r ++ [q])).map P4.e), p.e] = .ok (rnd p (q :: (r ++ [q]))) := by
  obtain ⟨x, r', rfl⟩ : ∃ x r', r = x :: r' := by
    cases r with
    | nil => simp at hr
    | cons x r' => exact ⟨x, r', rfl⟩
  have hfirst : q = p → anyP (onS p) (q :: (x :: r' ++ [q])) = true := fun h => by
    rw [List.cons_append, anyP]
    have : onS p q x = true := by
      rcases edge p q x with ⟨_, h2⟩ | ⟨_, h2⟩
      · exact h2
      · have hx : sx p q = 0 := by unfold sx; rw [h]; simp; rfl
        have hy : sy p q = 0 := by unfold sy; rw [h]; simp; rfl
        unfold tr trn at h2
        rw [hx, hy] at h2
        have : qt 0 0 = 4 := by decide
        rw [this] at h2
        simp at h2
    rw [this]
    rfl
  generalize hW : q :: (x :: r' ++ [q]) = W at *
  have hlW : W.length = r'.length + 3 := by rw [← hW]; simp
  obtain ⟨y3', y4', e⟩ := lrounds_loop hn hp W hb (.d (.list (W.map P4.e))) rfl (W.length - 1) 0 0 none none (by omega)
  have es : sumT p W = if anyP (onS p) W then none else some (4 * sumP (pas p) W) := by
    rw [← hW, sumT_eq p (x :: r') q q, Int.sub_self, Int.add_zero]
  rw [List.drop_zero, es] at e
  have hr1 : rngOk ((W.length : Int) - 1) = true := rng_of (by simp at hl; omega) (by simp at hl; omega)
  have hi : iRange ((W.length : Int) - 1).toNat 0 = (List.range' 0 (W.length - 1)).map fun j => U.d (.int (0 + (j : Nat) : Int)) := by
    unfold iRange
    rw [List.range_eq_range', show ((W.length : Int) - 1).toNat = W.length - 1 by omega]
  have h0 : atI (W.map P4.e) 0 = some q.e := by rw [← hW, List.map_cons]; exact atI_0 _ _
  rw [← hi] at e
  have ee : ((W.length : Int) - 1).toNat = W.length - 1 := by omega
  rw [ee] at e
  unfold F_law_rounds B_law_rounds rnd
  rw [pfOf_ap]
  by_cases hq : q = p
  · simp [h0, ev_eqPQ, ask_t hq, hfirst hq]
  · cases ha : anyP (onS p) W with
    | true =>
      simp only [ha, if_true] at e
      simp [h0, ev_eqPQ, ask_f hq, hr1, e]
    | false =>
      simp only [ha, Bool.false_eq_true, if_false] at e
      simp [h0, ev_eqPQ, ask_f hq, hr1, e]
theorem ne_nn (h : Sto) : opEqB true (.d .none) (.d .none) h = .ok (.d (.bool false)) h := (rfl)
theorem ne_0 (h : Sto) : opEqB true (.d .none) (.d (.int 0)) h = .ok (.d (.bool true)) h := (rfl)
theorem shapedAll : ∀ l : List P4, PyData.canLayAll0 (l.map P4.e) = true
  | [] => by simp [PyData.canLayAll0]
  | p :: r => by simp [PyData.canLayAll0, shapedAll r, P4.e, PyData.canLay0]
theorem depthAllP : ∀ l : List P4, PyData.depthAll (l.map P4.e) ≤ 2
  | [] => by simp [PyData.depthAll]
  | p :: r => by
    have := depthAllP r
    simp [PyData.depthAll, P4.e, PyData.depth] at *
    omega
theorem shapedL (l : List P4) : SeqAt.shaped (.list (l.map P4.e)) = true := by
  have h := depthAllP l
  show (PyData.canLay0 (.list (l.map P4.e)) && decide (PyData.depth (.list (l.map P4.e)) ≤ 64)) = true
  rw [Bool.and_eq_true]
  refine ⟨by simp only [PyData.canLay0]; exact shapedAll l, decide_eq_true ?_⟩
  simp only [PyData.depth]
  omega
theorem eqL (n : Bool) (l : List P4) (h : Sto) : opEqB n (.d (.list (l.map P4.e))) (.d (.list (l.map P4.e))) h = .ok (.d (.bool (!n))) h := ev_eqS n h (fun s z => nomatch z) (shapedL l)
theorem body_ev {n : Int} (hn : n ≤ 2 ^ 26) (p : P4) (hp : p.bd n) (q : P4) (r : List P4) (hr : 1 ≤ r.length) (hl : r.length ≤ 1000) (hb : ∀ z ∈ q :: (r ++ [q]), z.bd n) (e0 e2 e4 e5 e6 e7 e8 : Option U) :
    ∃ e4' e5' e6' e7', L_law_1 [e0, some (.d (.list ((q :: (r ++ [q])).map P4.e))), e2, some (.d p.e), e4, e5, e6, e7, e8] [] = .next [e0, some (.d (.list ((q :: (r ++ [q])).map P4.e))), e2, some (.d p.e), e4', e5', e6', e7', e8] [] := by
  have r1 := rounds_ev hn hp (q :: (r ++ [q])) (by simp) hb
  have r2 := lrounds_ev hn hp q r hr hl hb
  have r3 := rounds_ev hn hp (q :: (r ++ [q])).reverse (by simp) (fun z hz => hb z (List.mem_reverse.mp hz))
  have eqw := fun n h => eqL n (q :: (r ++ [q])) h
  unfold rnd at r1 r2 r3
  rw [anyP_rev, sumP_rev, anyP_congr (on_rev p), sumP_congr (pas_rev p), sumP_neg, List.map_reverse] at r3
  generalize q :: (r ++ [q]) = W at *
  have hfl : fList false [.d (.list (W.map P4.e))] [] = .ok (.d (.list (W.map P4.e))) [] := rfl
  generalize W.map P4.e = WL at *
  unfold L_law_1
  cases h1 : anyP (onS p) W <;> simp [h1] at r1 r2 r3 <;> simp [hfl, r1, r2, r3, eqw, opIsN, isN, isInt_ev, ne_nn]
theorem one_ev (p q : P4) : F_rounds_of [.list [q.e], p.e] = .ok (if ask (q = p) then .none else .int 0) := by
  unfold F_rounds_of B_rounds_of
  rw [pfOf_ap]
  cases h : ask (q = p) <;> simp [cut_front, cut_tail, zipD, ev_eqPQ, h]
theorem sumP_0 {α : Type} {f : α → α → Int} : ∀ l : List α, (∀ p ∈ l, ∀ q ∈ l, f p q = 0) → sumP f l = 0
  | [], _ => rfl
  | [p], _ => rfl
  | p :: q :: r, h => by rw [sumP, h p (by simp) q (by simp), sumP_0 (q :: r) fun a ha b hb => h a (List.mem_cons_of_mem _ ha) b (List.mem_cons_of_mem _ hb)]; rfl
theorem anyP_0 {α : Type} {f : α → α → Bool} : ∀ l : List α, (∀ p ∈ l, ∀ q ∈ l, f p q = false) → anyP f l = false
  | [], _ => rfl
  | [p], _ => rfl
  | p :: q :: r, h => by rw [anyP, h p (by simp) q (by simp), anyP_0 (q :: r) fun a ha b hb => h a (List.mem_cons_of_mem _ ha) b (List.mem_cons_of_mem _ hb)]; rfl
theorem west {p : P4} (hp : p.bd 20000) : sx ⟨1000000, 0, 3, 0⟩ p = -1 := by
  unfold sx
  dsimp only
  rw [sgn_mone, pos_def]
  unfold P4.bd at hp
  by_cases hb : 0 ≤ -(p.b - 0)
  · exact .inl ⟨by omega, hb, by omega⟩
  · refine .inr (.inl ⟨by omega, by omega, ?_⟩)
    have h1 : (-(p.b - 0)) * (-(p.b - 0)) < (-(p.a - 1000000)) * (-(p.a - 1000000)) := sq_of_abs (by omega) (by omega)
    have h2 := sq_nonneg (-(p.a - 1000000))
    omega
theorem law_true : ∀ ns : List Int, ns.length ≤ 63 → (∀ z ∈ ns, PySem.Builtin.Int.intBits z ≤ 1048576) → F_law [.list (ns.map .int)] = .ok (.bool true) := by
  intro ns hl _
  obtain ⟨q, r, ew, hq, r4, r20, hb⟩ := way_ev' ns hl
  have hlen : (q :: (r ++ [q])).length = r.length + 2 := by simp
  -- the spots
  generalize hcnt : (if (if (ns.length : Int) < 12 then (ns.length : Int) else 12) > 6 then (if (ns.length : Int) < 12 then (ns.length : Int) else 12) else 6) = cnt
  have hc6 : 6 ≤ cnt ∧ cnt ≤ 12 := by rw [← hcnt]; split <;> split <;> omega
  have hrg : rngOk cnt = true := rng_of (by omega) (by omega)
  have hsp : ∀ j : Nat, ∃ p : P4, j < 1000 → (F_law_spot [.list (ns.map .int), .int j, .list ((q :: (r ++ [q])).map P4.e)] = .ok p.e ∧ p.bd 20010) := fun j => by
    by_cases hj : j < 1000
    · obtain ⟨p, h1, _, h2⟩ := spot_ev ns hl j (by omega) (by omega) (n := 20000) (by decide) (q :: (r ++ [q])) (by omega) hb
      exact ⟨p, fun _ => ⟨h1, h2⟩⟩
    · exact ⟨q, fun z => absurd z hj⟩
  obtain ⟨sp, hsp⟩ := Classical.axiomOfChoice hsp
  have lc2 : ∀ e2 e3 e4 e5 e6 e7 e8 : Option U, lcGo (gN 8) cYes K_law_0 [some (.d (.list (ns.map .int))), some (.d (.list ((q :: (r ++ [q])).map P4.e))), e2, e3, e4, e5, e6, e7, e8] (iRange cnt.toNat 0) [] [] = .ok (((List.range cnt.toNat).map sp).map P4.e) [] := fun e2 e3 e4 e5 e6 e7 e8 => by
    have := lcGo_mapF (t := gN 8) (e := K_law_0) (env := [some (.d (.list (ns.map .int))), some (.d (.list ((q :: (r ++ [q])).map P4.e))), e2, e3, e4, e5, e6, e7, e8]) (h := []) (fun j : Nat => U.d (.int (0 + (j : Int)))) (fun j => (sp j).e) (List.range cnt.toNat) [] (fun j hj => ⟨_, rfl, by
      have hj' : j < 1000 := by
        have := List.mem_range.mp hj
        omega
      have e := (hsp j hj').1
      generalize (q :: (r ++ [q])).map P4.e = WL at e ⊢
      unfold K_law_0
      simp [e]⟩) (by simp; omega)
    rw [List.nil_append] at this
    rw [List.map_map]
    exact this
  have hspb : ∀ p ∈ (List.range cnt.toNat).map sp, p.bd 20010 := fun p hp => by
    obtain ⟨j, h1, rfl⟩ := List.mem_map.mp hp
    have := List.mem_range.mp h1
    exact (hsp j (by omega)).2
  have hspl : ((List.range cnt.toNat).map sp).length ≤ 12 := by simp; omega
  generalize (List.range cnt.toNat).map sp = SP at lc2 hspb hspl
  have loop : ∀ (l : List P4), (∀ p ∈ l, p.bd 20010) → ∀ (e0 e2 e3 e4 e5 e6 e7 e8 : Option U), ∃ e3' e4' e5' e6' e7', forGo (gN 3) L_law_1 ((l.map P4.e).map .d) [e0, some (.d (.list ((q :: (r ++ [q])).map P4.e))), e2, e3, e4, e5, e6, e7, e8] [] = .next [e0, some (.d (.list ((q :: (r ++ [q])).map P4.e))), e2, e3', e4', e5', e6', e7', e8] [] := by
    intro l hlb
    induction l with
    | nil => intro e0 e2 e3 e4 e5 e6 e7 e8; exact ⟨e3, e4, e5, e6, e7, rfl⟩
    | cons p l ih =>
      intro e0 e2 e3 e4 e5 e6 e7 e8
      obtain ⟨e4', e5', e6', e7', eb⟩ := body_ev (n := 20010) (by decide) p (hlb p List.mem_cons_self) q r (by omega) (by omega) (fun z hz => (hb z hz).1.mono (by decide)) e0 e2 e4 e5 e6 e7 e8
      obtain ⟨f3, f4, f5, f6, f7, ef⟩ := ih (fun z hz => hlb z (List.mem_cons_of_mem _ hz)) e0 e2 (some (.d p.e)) e4' e5' e6' e7' e8
      refine ⟨f3, f4, f5, f6, f7, ?_⟩
      rw [List.map_cons, List.map_cons, ev_forC]
      simp only [ev_gN, List.set_cons_succ, List.set_cons_zero]
      rw [eb]
      exact ef
  obtain ⟨f3, f4, f5, f6, f7, ef⟩ := loop (SP ++ (q :: (r ++ [q]))) (fun p hp => by
    rcases List.mem_append.mp hp with z | z
    · exact hspb p z
    · exact (hb p z).1.mono (by decide)) (some (.d (.list (ns.map .int)))) (some (.d (.list (SP.map P4.e)))) none none none none none none
  rw [List.map_append] at ef
  have add := fun h => addLL (SP.map P4.e) ((q :: (r ++ [q])).map P4.e) h (by simp; omega)
  have c1 : cutD ((q :: (r ++ [q])).map P4.e) none (some 1) = [q.e] := cut_to ((q :: (r ++ [q])).map P4.e) 1 (by simp)
  have a0 : atI ((q :: (r ++ [q])).map P4.e) 0 = some q.e := by rw [List.map_cons]; exact atI_0 _ _
  have far : F_rounds_of [.list ((q :: (r ++ [q])).map P4.e), P4.e ⟨1000000, 0, 3, 0⟩] = .ok (.int 0) := by
    rw [rounds_ev (n := 1000000) (by decide) (by unfold P4.bd; decide) (q :: (r ++ [q])) (by simp) (fun z hz => (hb z hz).1.mono (by decide))]
    unfold rnd
    have w : ∀ a ∈ q :: (r ++ [q]), ∀ b ∈ q :: (r ++ [q]), onS ⟨1000000, 0, 3, 0⟩ a b = false ∧ pas ⟨1000000, 0, 3, 0⟩ a b = 0 := fun a ha b hb' => far_edge _ a b (west (hb a ha).1) (west (hb b hb').1)
    rw [anyP_0 _ (fun a ha b hb' => (w a ha b hb').1), sumP_0 _ (fun a ha b hb' => (w a ha b hb').2)]
    rfl
  have o1 := one_ev q q
  rw [ask_t rfl] at o1
  have o2 := one_ev ⟨1, 1, 0, 1⟩ q
  rw [ask_f (by rw [hq]; intro z; cases z)] at o2
  unfold P4.e at o2 far
  simp only [if_true] at o1
  have e2' : F_rounds_of [.list [q.e], .tuple [.tuple [.int 1, .int 1], .tuple [.int 0, .int 1]]] = .ok (.int 0) := o2
  have far' : F_rounds_of [.list ((q :: (r ++ [q])).map P4.e), .tuple [.tuple [.int 1000000, .int 0], .tuple [.int 3, .int 0]]] = .ok (.int 0) := far
  generalize (q :: (r ++ [q])).map P4.e = WL at *
  generalize SP.map P4.e = SL at *
  unfold F_law B_law
  rw [pfOf_ap]
  simp only [List.map_append] at ef
  simp [ew, hcnt, hrg, wipeE, lc2, add, ef, c1, a0, o1, e2', far', opIsN, isN, ev_pow6]
end Lw

open PySem PySem.W PyProof.Rows in
set_option maxHeartbeats 0 in
theorem PySem.Challenge.cw_turtlehouse_k42_rounds_holds : PySem.Challenge.rw_turtlehouse_k42_rounds.Holds := by
  w_on; o_law; k_head; (case hw => w_witness2)
  k_fill
  refine Wk.end_of (l := PySem.Challenge.rw_turtlehouse_k42_rounds) (n := 63) (k := 6) (x := "_law_script") (st := Lw.s_law) (F := Lw.F_law) rfl (by decide) rfl ⟨rfl, by decide, by decide⟩ (fun w h Y => PySem.W.kIn_of Y) ?F Lw.law_true
  case F =>
    intro w mg h KX G
    refine (fun (T : Lw.Txt _ mg) => ⟨T.h_law, fun base => Lw.ok_law T⟩) ?T
    case T =>
      refine' ⟨Wk.has_mk KX G (fun _ _ _ _ _ _ us hl => match us, hl with | [_], _ => rfl) ?a0 ?l0 ?c0 ?k0,
        Wk.has_mk KX G (fun _ _ _ _ _ _ us hl => match us, hl with | [_, _], _ => rfl) ?a1 ?l1 ?c1 ?k1,
        Wk.has_mk KX G (fun _ _ _ _ _ _ us hl => match us, hl with | [_, _], _ => rfl) ?a2 ?l2 ?c2 ?k2,
        Wk.has_mk KX G (fun _ _ _ _ _ _ us hl => match us, hl with | [_, _], _ => rfl) ?a3 ?l3 ?c3 ?k3,
        Wk.has_mk KX G (fun _ _ _ _ _ _ us hl => match us, hl with | [_, _], _ => rfl) ?a4 ?l4 ?c4 ?k4,
        Wk.has_mk KX G (fun _ _ _ _ _ _ us hl => match us, hl with | [_], _ => rfl) ?a5 ?l5 ?c5 ?k5,
        Wk.has_mk KX G (fun _ _ _ _ _ _ us hl => match us, hl with | [_], _ => rfl) ?a6 ?l6 ?c6 ?k6,
        Wk.has_mk KX G (fun _ _ _ _ _ _ us hl => match us, hl with | [_, _, _], _ => rfl) ?a7 ?l7 ?c7 ?k7,
        Wk.has_mk KX G (fun _ _ _ _ _ _ us hl => match us, hl with | [_, _], _ => rfl) ?a8 ?l8 ?c8 ?k8,
        Wk.has_mk KX G (fun _ _ _ _ _ _ us hl => match us, hl with | [_, _], _ => rfl) ?a9 ?l9 ?c9 ?k9,
        Wk.has_mk KX G (fun _ _ _ _ _ _ us hl => match us, hl with | [_, _], _ => rfl) ?a10 ?l10 ?c10 ?k10,
        Wk.has_mk KX G (fun _ _ _ _ _ _ us hl => match us, hl with | [_, _], _ => rfl) ?a11 ?l11 ?c11 ?k11,
        Wk.has_mk KX G (fun _ _ _ _ _ _ us hl => match us, hl with | [_, _], _ => rfl) ?a12 ?l12 ?c12 ?k12,
        Wk.has_mk KX G (fun _ _ _ _ _ _ us hl => match us, hl with | [_, _], _ => rfl) ?a13 ?l13 ?c13 ?k13,
        Wk.has_mk KX G (fun _ _ _ _ _ _ us hl => match us, hl with | [_, _, _], _ => rfl) ?a14 ?l14 ?c14 ?k14,
        Wk.has_mk KX G (fun _ _ _ _ _ _ us hl => match us, hl with | [_, _, _], _ => rfl) ?a15 ?l15 ?c15 ?k15,
        Wk.has_mk KX G (fun _ _ _ _ _ _ us hl => match us, hl with | [_, _], _ => rfl) ?a16 ?l16 ?c16 ?k16,
        Wk.has_mk KX G (fun _ _ _ _ _ _ us hl => match us, hl with | [_, _, _], _ => rfl) ?a17 ?l17 ?c17 ?k17,
        Wk.has_mk KX G (fun _ _ _ _ _ _ us hl => match us, hl with | [_, _, _], _ => rfl) ?a18 ?l18 ?c18 ?k18,
        Wk.has_mk KX G (fun _ _ _ _ _ _ us hl => match us, hl with | [_, _, _], _ => rfl) ?a19 ?l19 ?c19 ?k19,
        Wk.has_mk KX G (fun _ _ _ _ _ _ us hl => match us, hl with | [_, _, _], _ => rfl) ?a20 ?l20 ?c20 ?k20,
        Wk.has_mk KX G (fun _ _ _ _ _ _ us hl => match us, hl with | [_, _, _], _ => rfl) ?a21 ?l21 ?c21 ?k21,
        Wk.has_mk KX G (fun _ _ _ _ _ _ us hl => match us, hl with | [_, _, _], _ => rfl) ?a22 ?l22 ?c22 ?k22,
        Wk.has_mk KX G (fun _ _ _ _ _ _ us hl => match us, hl with | [_, _, _], _ => rfl) ?a23 ?l23 ?c23 ?k23,
        Wk.has_mk KX G (fun _ _ _ _ _ _ us hl => match us, hl with | [_, _], _ => rfl) ?a24 ?l24 ?c24 ?k24,
        Wk.has_mk KX G (fun _ _ _ _ _ _ us hl => match us, hl with | [_, _], _ => rfl) ?a25 ?l25 ?c25 ?k25,
        Wk.has_mk KX G (fun _ _ _ _ _ _ us hl => match us, hl with | [_], _ => rfl) ?a26 ?l26 ?c26 ?k26,
        PySem.W.mg_none_of KX G ?z0,
        PySem.W.mg_none_of KX G ?z1,
        PySem.W.mg_none_of KX G ?z2,
        PySem.W.mg_none_of KX G ?z3,
        PySem.W.mg_none_of KX G ?z4,
        PySem.W.mg_none_of KX G ?z5,
        PySem.W.mg_none_of KX G ?z6,
        PySem.W.mg_none_of KX G ?z7,
        PySem.W.mg_none_of KX G ?z8,
        PySem.W.mg_none_of KX G ?z9⟩
      (case a0 => k_is); (case l0 => k_is); (case c0 => k_is); (case k0 => k_is)
      (case a1 => k_is); (case l1 => k_is); (case c1 => k_is); (case k1 => k_is)
      (case a2 => k_is); (case l2 => k_is); (case c2 => k_is); (case k2 => k_is)
      (case a3 => k_is); (case l3 => k_is); (case c3 => k_is); (case k3 => k_is)
      (case a4 => k_is); (case l4 => k_is); (case c4 => k_is); (case k4 => k_is)
      (case a5 => k_is); (case l5 => k_is); (case c5 => k_is); (case k5 => k_is)
      (case a6 => k_is); (case l6 => k_is); (case c6 => k_is); (case k6 => k_is)
      (case a7 => k_is); (case l7 => k_is); (case c7 => k_is); (case k7 => k_is)
      (case a8 => k_is); (case l8 => k_is); (case c8 => k_is); (case k8 => k_is)
      (case a9 => k_is); (case l9 => k_is); (case c9 => k_is); (case k9 => k_is)
      (case a10 => k_is); (case l10 => k_is); (case c10 => k_is); (case k10 => k_is)
      (case a11 => k_is); (case l11 => k_is); (case c11 => k_is); (case k11 => k_is)
      (case a12 => k_is); (case l12 => k_is); (case c12 => k_is); (case k12 => k_is)
      (case a13 => k_is); (case l13 => k_is); (case c13 => k_is); (case k13 => k_is)
      (case a14 => k_is); (case l14 => k_is); (case c14 => k_is); (case k14 => k_is)
      (case a15 => k_is); (case l15 => k_is); (case c15 => k_is); (case k15 => k_is)
      (case a16 => k_is); (case l16 => k_is); (case c16 => k_is); (case k16 => k_is)
      (case a17 => k_is); (case l17 => k_is); (case c17 => k_is); (case k17 => k_is)
      (case a18 => k_is); (case l18 => k_is); (case c18 => k_is); (case k18 => k_is)
      (case a19 => k_is); (case l19 => k_is); (case c19 => k_is); (case k19 => k_is)
      (case a20 => k_is); (case l20 => k_is); (case c20 => k_is); (case k20 => k_is)
      (case a21 => k_is); (case l21 => k_is); (case c21 => k_is); (case k21 => k_is)
      (case a22 => k_is); (case l22 => k_is); (case c22 => k_is); (case k22 => k_is)
      (case a23 => k_is); (case l23 => k_is); (case c23 => k_is); (case k23 => k_is)
      (case a24 => k_is); (case l24 => k_is); (case c24 => k_is); (case k24 => k_is)
      (case a25 => k_is); (case l25 => k_is); (case c25 => k_is); (case k25 => k_is)
      (case a26 => k_is); (case l26 => k_is); (case c26 => k_is); (case k26 => k_is)
      (case z0 => k_is)
      (case z1 => k_is)
      (case z2 => k_is)
      (case z3 => k_is)
      (case z4 => k_is)
      (case z5 => k_is)
      (case z6 => k_is)
      (case z7 => k_is)
      (case z8 => k_is)
      (case z9 => k_is)


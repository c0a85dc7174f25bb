import PyProof.Rows.All
import Wide.All
import OpenK.AllK
import Wide.FinOn
import HandS.ForMost
import HandS.ForExc
import HandS.TryMany
import HandS.Wide
import HandS.EndBits
import HandS.NoneIn
import HandS.IsInst
import HandS.Flow
import KE.KeyNested
import HandS.TupAny
import HandS.TupMul
import HandS.Style
import HandS.Text
import HandS.Rev
import HandS.Zip
import HandS.Deep
import HandS.Steps
import PyProof.ListRange
import HandS.ExcOwn
import KE.KAssignIn
import PyProof.ExcBaseAll.ValueError
import KE.RegKTryMore
import KE.GoesRaise
import HandS.Flt
import HandS.ExcIs
import HandS.DictTup
import PySem.Challenge.RW_turtlehouse_k56_changes_refused
set_option Elab.async false
set_option linter.all false
set_option maxRecDepth 100000
/-! T1: plain data, an abstract state, readings by functions. -/
namespace Wk
open PySem PySem.Spec PyProof.Rows L2

abbrev D := PyData

/-- a value of a frame: data that never changes, a thing of the frame's own store, a tuple with such things -/
inductive U where
  | d (x : D)
  | ref (n : Nat)
  | tup (us : List U)
  | exn (a : Addr)

/-- a thing of the store -/
inductive Ob where
  | lst (xs : List D)
  | frz (xs : List D)
  | ins (c : Str) (fs : List (Str × U))
  | dct (kvs : List (Key × U))
  | lsu (us : List U)
  | fzu (us : List U)
  | dtp (kvs : List (NestedKey × U))
  | fdt (kvs : List (NestedKey × U))

abbrev Sto := List Ob
inductive Res (α : Type) where
  | ok (x : α) (h : Sto)
  | exc (c : Str) (h : Sto)
  | stuck
def Res.bind {α β : Type} (r : Res α) (k : α → Sto → Res β) : Res β := match r with
  | .ok x h => k x h
  | .exc c h => .exc c h
  | .stuck => .stuck
@[simp] theorem Res.bind_ok {α β : Type} (x : α) (h : Sto) (k : α → Sto → Res β) : (Res.ok x h).bind k = k x h := (rfl)
@[simp] theorem Res.bind_exc {α β : Type} (c : Str) (h : Sto) (k : α → Sto → Res β) : (Res.exc c h).bind k = .exc c h := (rfl)
@[simp] theorem Res.bind_stuck {α β : Type} (k : α → Sto → Res β) : (Res.stuck : Res α).bind k = .stuck := (rfl)
abbrev Env' := List (Option U)
abbrev Ev := Env' → Sto → Res U
abbrev Eb := Env' → Sto → Res Bool
abbrev Ea := Env' → Sto → Res (List U)
/-- a statement's end -/
inductive SRes where
  | next (env : Env') (h : Sto)
  | ret (u : U) (h : Sto)
  | exc (c : Str) (env : Env') (h : Sto)
  | stuck
abbrev Es := Env' → Sto → SRes

/-! ### how they lie in the heap -/
/-- a list that can't be written any more -/
def FzL (K : PySem.W.Frag) (H : Hp) (a : Addr) (xs : List V) : Prop :=
  (∃ o, H a = some (.frz o (.lst xs))) ∨
    ∃ (o : Obj) (its : Array Value) (n : Nat), K.lookup a = some o ∧ o.cls = .type "list" ∧ o.dict = none ∧ o.data = .seq its n ∧ its.size ≤ sizeLine ∧ Vals xs its.toList
theorem FzL.sq {K : PySem.W.Frag} {H : Hp} {a : Addr} {xs : List V} (h : FzL K H a xs) : SqL K H a xs := by
  rcases h with ⟨o, h⟩ | h
  · exact .inl (.inr ⟨o, h⟩)
  · exact .inr h
mutual
inductive RD (K : PySem.W.Frag) (H : Hp) : V → D → Prop
  | non : RD K H .non .none
  | bl (b : Bool) : RD K H (.bl b) (.bool b)
  | int (i : Int) : RD K H (.int i) (.int i)
  | str (x : Str) : RD K H (.str x) (.str x)
  | lst {a : Addr} {xs : List V} {ds : List D} : FzL K H a xs → RDs K H xs ds → RD K H (.ref a) (.list ds)
  | tup {a : Addr} {xs : List V} {ds : List D} : SqT K H a xs → RDs K H xs ds → RD K H (.ref a) (.tuple ds)
inductive RDs (K : PySem.W.Frag) (H : Hp) : List V → List D → Prop
  | nil : RDs K H [] []
  | cons {v : V} {vs : List V} {d : D} {ds : List D} : RD K H v d → RDs K H vs ds → RDs K H (v :: vs) (d :: ds)
end
mutual
inductive RU (K : PySem.W.Frag) (H : Hp) (m : List Addr) : V → U → Prop
  | d {v : V} {x : D} : RD K H v x → RU K H m v (.d x)
  | ref {n : Nat} {a : Addr} : m[n]? = some a → RU K H m (.ref a) (.ref n)
  | tup {a : Addr} {vs : List V} {us : List U} : SqT K H a vs → RUs K H m vs us → RU K H m (.ref a) (.tup us)
  | exn (a : Addr) : RU K H m (.ref a) (.exn a)
inductive RUs (K : PySem.W.Frag) (H : Hp) (m : List Addr) : List V → List U → Prop
  | nil : RUs K H m [] []
  | cons {v : V} {vs : List V} {u : U} {us : List U} : RU K H m v u → RUs K H m vs us → RUs K H m (v :: vs) (u :: us)
end

/-- what never changes stays -/
structure Kp (H H' : Hp) : Prop where
  tup : ∀ a xs, H a = some (.tup xs) → H' a = some (.tup xs)
  frz : ∀ a o u, H a = some (.frz o u) → H' a = some (.frz o u)
theorem Kp.refl (H : Hp) : Kp H H := ⟨fun _ _ h => h, fun _ _ _ h => h⟩
theorem Kp.trans {H H1 H2 : Hp} (a : Kp H H1) (b : Kp H1 H2) : Kp H H2 := ⟨fun c xs h => b.tup c xs (a.tup c xs h), fun c o u h => b.frz c o u (a.frz c o u h)⟩
theorem Kp.same {H H' : Hp} (s : Same H H') : Kp H H' := ⟨fun a _ h => s a _ h, fun a _ _ h => s a _ h⟩
theorem Kp.sqT {K : PySem.W.Frag} {H H' : Hp} {a : Addr} {xs : List V} (k : Kp H H') (h : SqT K H a xs) : SqT K H' a xs := by
  rcases h with (h | ⟨o, h⟩) | h
  · exact .inl (.inl (k.tup _ _ h))
  · exact .inl (.inr ⟨o, k.frz _ _ _ h⟩)
  · exact .inr h
theorem Kp.fzL {K : PySem.W.Frag} {H H' : Hp} {a : Addr} {xs : List V} (k : Kp H H') (h : FzL K H a xs) : FzL K H' a xs := by
  rcases h with ⟨o, h⟩ | h
  · exact .inl ⟨o, k.frz _ _ _ h⟩
  · exact .inr h
mutual
theorem RD.kp {K : PySem.W.Frag} {H H' : Hp} (k : Kp H H') : ∀ (d : D) (v : V), RD K H v d → RD K H' v d
  | .none, _, h => by cases h; exact .non
  | .bool b, _, h => by cases h; exact .bl b
  | .int i, _, h => by cases h; exact .int i
  | .str x, _, h => by cases h; exact .str x
  | .list ds, _, h => by
    cases h with
    | lst a b => exact .lst (k.fzL a) (RDs.kp k ds _ b)
  | .tuple ds, _, h => by
    cases h with
    | tup a b => exact .tup (k.sqT a) (RDs.kp k ds _ b)
  | .dict _, _, h => by cases h
theorem RDs.kp {K : PySem.W.Frag} {H H' : Hp} (k : Kp H H') : ∀ (ds : List D) (vs : List V), RDs K H vs ds → RDs K H' vs ds
  | [], _, h => by cases h; exact .nil
  | d :: ds, _, h => by
    cases h with
    | cons a b => exact .cons (RD.kp k d _ a) (RDs.kp k ds _ b)
end
mutual
theorem RU.kp {K : PySem.W.Frag} {H H' : Hp} {m m' : List Addr} (k : Kp H H') (pre : ∃ e, m' = m ++ e) : ∀ (u : U) (v : V), RU K H m v u → RU K H' m' v u
  | .d x, _, h => by
    cases h with
    | d a => exact .d (RD.kp k x _ a)
  | .ref n, _, h => by
    cases h with
    | ref a =>
      obtain ⟨e, rfl⟩ := pre
      exact .ref (by rw [List.getElem?_append_left (List.getElem?_eq_some_iff.mp a).1]; exact a)
  | .tup us, _, h => by
    cases h with
    | tup a b => exact .tup (k.sqT a) (RUs.kp k pre us _ b)
  | .exn a, _, h => by
    cases h
    exact .exn a
theorem RUs.kp {K : PySem.W.Frag} {H H' : Hp} {m m' : List Addr} (k : Kp H H') (pre : ∃ e, m' = m ++ e) : ∀ (us : List U) (vs : List V), RUs K H m vs us → RUs K H' m' vs us
  | [], _, h => by cases h; exact .nil
  | u :: us, _, h => by
    cases h with
    | cons a b => exact .cons (RU.kp k pre u _ a) (RUs.kp k pre us _ b)
end

/-- the state grows: things of the store may change, new ones come; all else stays -/
structure Gr (H : Hp) (m : List Addr) (H' : Hp) (m' : List Addr) : Prop where
  pre : ∃ e, m' = m ++ e
  keep : ∀ a o, H a = some o → a ∉ m → H' a = some o
  fresh : ∀ a, a ∈ m' → a ∉ m → H a = none
  kp : Kp H H'
theorem Gr.refl (H : Hp) (m : List Addr) : Gr H m H m := ⟨⟨[], by simp⟩, fun _ _ h _ => h, fun _ h n => absurd h n, Kp.refl H⟩
theorem Gr.trans {H H1 H2 : Hp} {m m1 m2 : List Addr} (a : Gr H m H1 m1) (b : Gr H1 m1 H2 m2) : Gr H m H2 m2 where
  pre := by
    obtain ⟨e, rfl⟩ := a.pre
    obtain ⟨f, rfl⟩ := b.pre
    exact ⟨e ++ f, by rw [List.append_assoc]⟩
  keep := fun c o h n => b.keep c o (a.keep c o h n) fun hm => by
    have z := a.fresh c hm n
    rw [h] at z
    cases z
  fresh := fun c hm n => by
    by_cases h1 : c ∈ m1
    · exact a.fresh c h1 n
    · have z := b.fresh c hm h1
      cases q : H c with
      | none => rfl
      | some o =>
        rw [a.keep c o q n] at z
        cases z
  kp := a.kp.trans b.kp
theorem Gr.same {H H' : Hp} {m : List Addr} (g : Gr H [] H' m) : Same H H' := fun a o h => g.keep a o h (by simp)

/-! ### the store -/
def RF (K : PySem.W.Frag) (H : Hp) (m : List Addr) : List (Str × V) → List (Str × U) → Prop := Paired fun p q => p.1 = q.1 ∧ RU K H m p.2 q.2
def RK (K : PySem.W.Frag) (H : Hp) (m : List Addr) : List (Key × V) → List (Key × U) → Prop := Paired fun p q => p.1 = q.1 ∧ RU K H m p.2 q.2
/-! dicts whose keys are tuples of ints and of such tuples -/
mutual
def pureK : NestedKey → Bool
  | .num _ => true
  | .tup ks => pureKs ks
  | .none => false
  | .text _ => false
def pureKs : List NestedKey → Bool
  | [] => true
  | k :: ks => pureK k && pureKs ks
end
mutual
def hK : NestedKey → Int
  | .num i => hashInt i
  | .tup ks => reduceHash (Builtin.Tuple.tupleHashOf (hKs ks))
  | .none => 0
  | .text _ => 0
def hKs : List NestedKey → List Int
  | [] => []
  | k :: ks => hK k :: hKs ks
end
mutual
theorem hK_hash (w : World) : ∀ k : NestedKey, pureK k = true → k.hash w = hK k
  | .num i, _ => by rw [NestedKey.hash, hK]
  | .tup ks, h => by rw [pureK] at h; rw [NestedKey.hash, hK, hKs_hash w ks h]
  | .none, h => by rw [pureK] at h; cases h
  | .text _, h => by rw [pureK] at h; cases h
theorem hKs_hash (w : World) : ∀ ks : List NestedKey, pureKs ks = true → NestedKey.hashes w ks = hKs ks
  | [], _ => by rw [NestedKey.hashes, hKs]
  | k :: ks, h => by
    rw [pureKs, Bool.and_eq_true] at h
    rw [NestedKey.hashes, hKs, hK_hash w k h.1, hKs_hash w ks h.2]
end
abbrev XS := List (NestedKey × Addr × Value)
def eK (x : NestedKey × Addr × Value) : DictEntry := ⟨hK x.1, .ref x.2.1, x.2.2⟩
def DNo (a : Addr) (xs : XS) : HO := .ext fun h => ∃ o es ep, h.get? a = some o ∧ o.ExactDict ∧ o.data = .dict es ep ∧ es.toList = xs.map eK
structure DN (K : PySem.W.Frag) (H : Hp) (m : List Addr) (a : Addr) (xs : XS) (kvs : List (NestedKey × U)) : Prop where
  sys : (a == sysModules) = false
  nd : (xs.map (·.1)).Nodup
  sz : xs.length ≤ sizeLine
  p : Paired (fun x kv => x.1 = kv.1 ∧ (pureK x.1 = true ∧ x.1.depth ≤ 8) ∧ RD K H (.ref x.2.1) x.1.data ∧ ∃ v, RU K H m v kv.2 ∧ RelV v x.2.2) xs kvs
def RO (K : PySem.W.Frag) (mg : Str → Option Value) (H : Hp) (m : List Addr) (a : Addr) : Ob → Prop
  | .lst xs => ∃ vs, H a = some (.lst vs) ∧ RDs K H vs xs
  | .frz xs => ∃ o vs, H a = some (.frz o (.lst vs)) ∧ RDs K H vs xs
  | .ins c fs => ∃ C dx gs, mg c = some (.ref C) ∧ H a = some (.ins C dx gs) ∧ RF K H m gs fs
  | .dct kvs => ∃ gs, H a = some (.dK gs) ∧ RK K H m gs kvs
  | .lsu us => ∃ vs, H a = some (.lst vs) ∧ RUs K H m vs us
  | .fzu us => ∃ o vs, H a = some (.frz o (.lst vs)) ∧ RUs K H m vs us
  | .dtp kvs => ∃ xs, H a = some (DNo a xs) ∧ DN K H m a xs kvs
  | .fdt kvs => ∃ o xs, H a = some (.frz o (DNo a xs)) ∧ DN K H m a xs kvs
structure Sta (K : PySem.W.Frag) (mg : Str → Option Value) (H : Hp) (m : List Addr) (h : Sto) : Prop where
  nd : m.Nodup
  len : m.length = h.length
  obj : ∀ (i : Nat) a o, m[i]? = some a → h[i]? = some o → RO K mg H m a o
section
variable {K : PySem.W.Frag} {mg : Str → Option Value} {H H' : Hp} {m m' : List Addr} {h h' : Sto} {a : Addr} {o : Ob}
theorem paired_imp {α β : Type} {F G : α → β → Prop} (f : ∀ a b, F a b → G a b) : ∀ {l : List α} {r : List β}, Paired F l r → Paired G l r
  | _, _, .nil => .nil
  | _, _, .cons p q => .cons (f _ _ p) (paired_imp f q)
theorem DN.kp {xs : XS} {kvs : List (NestedKey × U)} (d : DN K H m a xs kvs) (k : Kp H H') (pre : ∃ e, m' = m ++ e) : DN K H' m' a xs kvs :=
  ⟨d.sys, d.nd, d.sz, paired_imp (fun p q z => ⟨z.1, z.2.1, RD.kp k _ _ z.2.2.1, z.2.2.2.imp fun v hv => ⟨RU.kp k pre _ _ hv.1, hv.2⟩⟩) d.p⟩
theorem RO.mono (r : RO K mg H m a o) (e : H' a = H a) (k : Kp H H') (pre : ∃ e, m' = m ++ e) : RO K mg H' m' a o := by
  cases o with
  | lst xs => obtain ⟨vs, h1, h2⟩ := r; exact ⟨vs, e.trans h1, RDs.kp k _ _ h2⟩
  | frz xs => obtain ⟨o, vs, h1, h2⟩ := r; exact ⟨o, vs, e.trans h1, RDs.kp k _ _ h2⟩
  | ins c fs => obtain ⟨C, dx, gs, h0, h1, h2⟩ := r; exact ⟨C, dx, gs, h0, e.trans h1, paired_imp (fun p q z => ⟨z.1, RU.kp k pre _ _ z.2⟩) h2⟩
  | dct kvs => obtain ⟨gs, h1, h2⟩ := r; exact ⟨gs, e.trans h1, paired_imp (fun p q z => ⟨z.1, RU.kp k pre _ _ z.2⟩) h2⟩
  | lsu us => obtain ⟨vs, h1, h2⟩ := r; exact ⟨vs, e.trans h1, RUs.kp k pre _ _ h2⟩
  | fzu us => obtain ⟨o, vs, h1, h2⟩ := r; exact ⟨o, vs, e.trans h1, RUs.kp k pre _ _ h2⟩
  | dtp kvs => obtain ⟨xs, h1, h2⟩ := r; exact ⟨xs, e.trans h1, h2.kp k pre⟩
  | fdt kvs => obtain ⟨o, xs, h1, h2⟩ := r; exact ⟨o, xs, e.trans h1, h2.kp k pre⟩
theorem RO.has (r : RO K mg H m a o) : ∃ x, H a = some x := by
  cases o with
  | lst xs => obtain ⟨vs, h1, _⟩ := r; exact ⟨_, h1⟩
  | frz xs => obtain ⟨o, vs, h1, _⟩ := r; exact ⟨_, h1⟩
  | ins c fs => obtain ⟨C, dx, gs, _, h1, _⟩ := r; exact ⟨_, h1⟩
  | dct kvs => obtain ⟨gs, h1, _⟩ := r; exact ⟨_, h1⟩
  | lsu us => obtain ⟨vs, h1, _⟩ := r; exact ⟨_, h1⟩
  | fzu us => obtain ⟨o, vs, h1, _⟩ := r; exact ⟨_, h1⟩
  | dtp kvs => obtain ⟨xs, h1, _⟩ := r; exact ⟨_, h1⟩
  | fdt kvs => obtain ⟨o, xs, h1, _⟩ := r; exact ⟨_, h1⟩
theorem Sta.at_ (s : Sta K mg H m h) {i : Nat} (e : m[i]? = some a) : ∃ o, h[i]? = some o ∧ RO K mg H m a o := by
  have hi := (List.getElem?_eq_some_iff.mp e).1
  have hi' : i < h.length := by rw [← s.len]; exact hi
  exact ⟨h[i], List.getElem?_eq_getElem hi', s.obj i a _ e (List.getElem?_eq_getElem hi')⟩
theorem Sta.addr (s : Sta K mg H m h) {i : Nat} (e : h[i]? = some o) : ∃ a, m[i]? = some a ∧ RO K mg H m a o := by
  have hi := (List.getElem?_eq_some_iff.mp e).1
  have hi' : i < m.length := by rw [s.len]; exact hi
  exact ⟨m[i], List.getElem?_eq_getElem hi', s.obj i _ o (List.getElem?_eq_getElem hi') e⟩
theorem Sta.has (s : Sta K mg H m h) (hm : a ∈ m) : ∃ x, H a = some x := by
  obtain ⟨i, hi⟩ := List.mem_iff_getElem?.mp hm
  obtain ⟨o, _, r⟩ := s.at_ hi
  exact r.has
theorem Sta.new (s : Sta K mg H m h) (n : H a = none) : a ∉ m := fun hm => by
  obtain ⟨x, q⟩ := s.has hm
  rw [n] at q
  cases q
theorem Sta.nil : Sta K mg H [] [] := ⟨List.nodup_nil, rfl, fun i a o h => by simp at h⟩
/-- nothing of the store is touched -/
theorem Sta.same (s : Sta K mg H m h) (e : ∀ b x, H b = some x → H' b = some x) : Sta K mg H' m h :=
  ⟨s.nd, s.len, fun i b o h1 h2 => by
    have r := s.obj i b o h1 h2
    obtain ⟨x, q⟩ := r.has
    exact r.mono ((e b x q).trans q.symm) ⟨fun c _ z => e c _ z, fun c _ _ z => e c _ z⟩ ⟨[], by simp⟩⟩
theorem Gr.of_same (s : Same H H') (m : List Addr) : Gr H m H' m := ⟨⟨[], by simp⟩, fun b x q _ => s b x q, fun _ z n => absurd z n, Kp.same s⟩
/-- a new thing that the store does not know -/
theorem Same.lay {x : HO} (n : H a = none) : Same H (upd H a x) := fun b o e => by
  rw [upd_ne (ne_of_none e n)]
  exact e
theorem mut_kp {x y : HO} (hx : H a = .some x) (mu : Mut (.some x)) : Kp H (upd H a y) :=
  ⟨fun b xs q => by rw [upd_ne (fun z => by subst z; rw [hx] at q; cases q; exact mu)]; exact q,
   fun b o u q => by rw [upd_ne (fun z => by subst z; rw [hx] at q; cases q; exact mu)]; exact q⟩
/-- a thing of the store is written -/
theorem Gr.write {x y : HO} (hm : a ∈ m) (hx : H a = .some x) (mu : Mut (.some x)) : Gr H m (upd H a y) m :=
  ⟨⟨[], by simp⟩, fun b o q n => by rw [upd_ne (fun z => n (by rw [z]; exact hm))]; exact q, fun _ z n => absurd z n, mut_kp hx mu⟩
theorem Sta.write {i : Nat} {x y : HO} {o' : Ob} (s : Sta K mg H m h) (e : m[i]? = .some a) (hx : H a = .some x) (mu : Mut (.some x)) (r : RO K mg (upd H a y) m a o') : Sta K mg (upd H a y) m (h.set i o') := by
  have hi := (List.getElem?_eq_some_iff.mp e).1
  refine ⟨s.nd, by rw [List.length_set]; exact s.len, fun j b ob h1 h2 => ?_⟩
  by_cases hj : i = j
  · subst hj
    rw [e] at h1
    cases h1
    rw [List.getElem?_set_self (by rw [← s.len]; exact hi)] at h2
    cases h2
    exact r
  · rw [List.getElem?_set_ne hj] at h2
    have nb : b ≠ a := fun z => by
      subst z
      exact hj (nd_ix s.nd e h1)
    exact (s.obj j b ob h1 h2).mono (upd_ne nb) (mut_kp hx mu) ⟨[], by simp⟩
/-- a new thing comes into the store -/
theorem Gr.push {x : HO} (n : H a = none) : Gr H m (upd H a x) (m ++ [a]) :=
  ⟨⟨[a], rfl⟩, fun b o q _ => Same.lay n b o q, fun b hb nb => by
    rcases List.mem_append.mp hb with z | z
    · exact absurd z nb
    · rw [List.mem_singleton.mp z]; exact n, Kp.same (Same.lay n)⟩
theorem Sta.push {x : HO} {o' : Ob} (s : Sta K mg H m h) (n : H a = none) (r : RO K mg (upd H a x) (m ++ [a]) a o') : Sta K mg (upd H a x) (m ++ [a]) (h ++ [o']) := by
  have na := s.new n
  refine ⟨List.nodup_append.mpr ⟨s.nd, by simp, fun b hb c hc z => by rw [List.mem_singleton.mp hc] at z; rw [z] at hb; exact na hb⟩, by simp [s.len], fun j b ob h1 h2 => ?_⟩
  by_cases hj : j < m.length
  · rw [List.getElem?_append_left hj] at h1
    rw [List.getElem?_append_left (by rw [← s.len]; exact hj)] at h2
    have hb : b ∈ m := List.mem_of_getElem? h1
    exact (s.obj j b ob h1 h2).mono (upd_ne fun z => na (z ▸ hb)) (Kp.same (Same.lay n)) ⟨[a], rfl⟩
  · rw [List.getElem?_append_right (by omega)] at h1
    rw [List.getElem?_append_right (by rw [← s.len]; omega)] at h2
    have e1 : j - m.length = 0 := by
      have := (List.getElem?_eq_some_iff.mp h1).1
      simpa using this
    have e2 : j - h.length = 0 := by rw [← s.len]; exact e1
    rw [e1] at h1
    rw [e2] at h2
    simp at h1 h2
    rw [← h1, ← h2]
    exact r
end

/-! ### the slots -/
def Sl (K : PySem.W.Frag) (H : Hp) (m : List Addr) (σ : L2.St) (env : Env') : Prop := σ.length = env.length ∧ ∀ (i : Nat) u, env[i]? = some (some u) → ∃ v, σ[i]? = some (some v) ∧ RU K H m v u
section
variable {K : PySem.W.Frag} {mg : Str → Option Value} {H H' : Hp} {m m' : List Addr} {σ : L2.St} {env : Env'}
theorem Sl.gr (s : Sl K H m σ env) (g : Gr H m H' m') : Sl K H' m' σ env := ⟨s.1, fun i u e => by
  obtain ⟨v, h1, h2⟩ := s.2 i u e
  exact ⟨v, h1, RU.kp g.kp g.pre _ _ h2⟩⟩
theorem Sl.set (s : Sl K H m σ env) {v : V} {u : U} (r : RU K H m v u) (i : Nat) : Sl K H m (σ.set i (some v)) (env.set i (some u)) := by
  refine ⟨by simp [s.1], fun j w e => ?_⟩
  by_cases hj : i = j
  · subst hj
    by_cases hi : i < env.length
    · rw [List.getElem?_set_self hi] at e
      cases e
      exact ⟨v, by rw [List.getElem?_set_self (by rw [s.1]; exact hi)], r⟩
    · rw [List.getElem?_eq_none (by simpa using hi)] at e
      cases e
  · rw [List.getElem?_set_ne hj] at e
    obtain ⟨v', h1, h2⟩ := s.2 j w e
    exact ⟨v', by rw [List.getElem?_set_ne hj]; exact h1, h2⟩
end

/-! ### readings by functions -/
/-- an exception of the class c is what is wished -/
def ExW (X : Cx) (W : WX) (c : Str) (σ : L2.St) (H : Hp) : Prop := ∀ C, X.mg c = some (.ref C) → W (.ref C) none σ H
def Out {α β : Type} (X : Cx) (W : WX) (rl : Hp → List Addr → β → α → Prop) (σ : L2.St) (H : Hp) (m : List Addr) (r : Res α) (Q : β → Hp → Prop) : Prop := match r with
  | .ok a h' => ∀ b H' m', Gr H m H' m' → Sta X.K X.mg H' m' h' → rl H' m' b a → Q b H'
  | .exc c h' => ∀ H' m', Gr H m H' m' → Sta X.K X.mg H' m' h' → ExW X W c σ H'
  | .stuck => False
def rd {α β : Type} (X : Cx) (W : WX) (rl : Hp → List Addr → β → α → Prop) (f : Env' → Sto → Res α) (σ : L2.St) (H : Hp) (Q : β → Hp → Prop) : Prop :=
  ∃ env m h, Sta X.K X.mg H m h ∧ Sl X.K H m σ env ∧ Out X W rl σ H m (f env h) Q
def rlU (K : PySem.W.Frag) : Hp → List Addr → V → U → Prop := fun H m v u => RU K H m v u
def rlB : Hp → List Addr → Bool → Bool → Prop := fun _ _ b c => b = c
def rlA (K : PySem.W.Frag) : Hp → List Addr → List V → List U → Prop := fun H m vs us => RUs K H m vs us
structure SE (X : Cx) (W : WX) (e : Expr) (f : Ev) : Prop where
  pe : PE X e (rd X W (rlU X.K) f)
structure ST (X : Cx) (W : WX) (e : Expr) (f : Eb) : Prop where
  pt : PT X e (rd X W rlB f)
structure SW (X : Cx) (W : WX) (e : Expr) (f : Eb) : Prop where
  pw : PW X e (rd X W rlB f)
structure SA (X : Cx) (W : WX) (es : List Expr) (f : Ea) : Prop where
  pa : PA X es (rd X W (rlA X.K) f)
section
variable {α β γ δ : Type} {X : Cx} {W : WX} {rl : Hp → List Addr → β → α → Prop} {rl2 : Hp → List Addr → δ → γ → Prop} {σ : L2.St} {H H1 : Hp} {m m1 : List Addr} {h : Sto} {env : Env'} {r : Res α} {Q : β → Hp → Prop}
theorem Out.gr (o : Out X W rl σ H m r Q) (g : Gr H m H1 m1) : Out X W rl σ H1 m1 r Q := by
  cases r with
  | ok a h' => exact fun b H' m' g' => o b H' m' (g.trans g')
  | exc c h' => exact fun H' m' g' => o H' m' (g.trans g')
  | stuck => exact o
/-- the next part of a computation -/
theorem rd_of {f : Env' → Sto → Res γ} {k : γ → Sto → Res α} {Q' : δ → Hp → Prop} (sta : Sta X.K X.mg H m h) (sl : Sl X.K H m σ env) (out : Out X W rl σ H m ((f env h).bind k) Q)
    (nx : ∀ a h1 b H1 m1, Gr H m H1 m1 → Sta X.K X.mg H1 m1 h1 → rl2 H1 m1 b a → Out X W rl σ H1 m1 (k a h1) Q → Q' b H1) : rd X W rl2 f σ H Q' := by
  refine ⟨env, m, h, sta, sl, ?_⟩
  generalize f env h = q at out
  cases q with
  | ok a h1 => exact fun b H1 m1 g s r => nx a h1 b H1 m1 g s r (Out.gr out g)
  | exc c h1 => exact out
  | stuck => exact out
theorem Out.ok {a : α} {b : β} {h' : Sto} (o : Out X W rl σ H m (.ok a h') Q) {H' : Hp} {m' : List Addr} (g : Gr H m H' m') (s : Sta X.K X.mg H' m' h') (r : rl H' m' b a) : Q b H' := o b H' m' g s r
theorem Out.here {a : α} {b : β} {h' : Sto} (o : Out X W rl σ H m (.ok a h') Q) (s : Sta X.K X.mg H m h') (r : rl H m b a) : Q b H := o b H m (Gr.refl H m) s r
end
theorem pe_imp {X : Cx} {e : Expr} {t t' : TE} (h : PE X e t) (i : ∀ σ H Q, t' σ H Q → t σ H Q) : PE X e t' := ⟨fun pins s σ H Q I q => h.run pins s σ H Q I (i σ H Q q)⟩
theorem pt_imp {X : Cx} {e : Expr} {t t' : TT} (h : PT X e t) (i : ∀ σ H Q, t' σ H Q → t σ H Q) : PT X e t' := ⟨fun pins s σ H Q I q => h.run pins s σ H Q I (i σ H Q q)⟩
theorem pw_imp {X : Cx} {e : Expr} {t t' : TT} (h : PW X e t) (i : ∀ σ H Q, t' σ H Q → t σ H Q) : PW X e t' := ⟨fun wh pins s σ H Q I q => h.run wh pins s σ H Q I (i σ H Q q)⟩
theorem pa_imp {X : Cx} {es : List Expr} {t t' : TA} (h : PA X es t) (i : ∀ σ H Q, t' σ H Q → t σ H Q) : PA X es t' := ⟨fun p pins s σ H Q I q => h.run p pins s σ H Q I (i σ H Q q)⟩
theorem ps_imp {X : Cx} {st : Stmt} {t t' : TS} (h : PS X st t) (i : ∀ D σ H, t' D σ H → t D σ H) : PS X st t' := ⟨fun pins s σ H D I q => h.run pins s σ H D I (i D σ H q)⟩
theorem pss_imp {X : Cx} {st : List Stmt} {t t' : TS} (h : PSs X st t) (i : ∀ D σ H, t' D σ H → t D σ H) : PSs X st t' := ⟨fun pins s σ H D I q => h.run pins s σ H D I (i D σ H q)⟩

/-! ### freezing, unseen by the program -/
structure Fz (S : List Addr) (H H' : Hp) : Prop where
  alt : ∀ a, H' a = H a ∨ (a ∈ S ∧ ∃ o vs, H a = some (.lst vs) ∧ H' a = some (.frz o (.lst vs)))
  did : ∀ a ∈ S, ∀ vs, H a = some (.lst vs) → ∃ o, H' a = some (.frz o (.lst vs))
theorem inv_fz {X : Cx} {pins : List (Addr × Obj)} {σ : L2.St} {s : Shared} : ∀ (S : List Addr) {H : Hp}, L2.Inv X pins σ H s → ∃ H', Fz S H H' ∧ L2.Inv X pins σ H' s
  | [], H, I => ⟨H, ⟨fun _ => .inl rfl, fun _ z => nomatch z⟩, I⟩
  | a :: S, H, I => by
    obtain ⟨H1, f1, I1⟩ := inv_fz S I
    by_cases hl : ∃ vs, H1 a = some (.lst vs)
    · obtain ⟨vs, hl⟩ := hl
      obtain ⟨od, I2⟩ := I1.lock hl trivial
      refine ⟨_, ⟨fun b => ?_, fun b hb ws hb2 => ?_⟩, I2⟩
      · by_cases hb : b = a
        · subst hb
          rcases f1.alt b with z | ⟨_, o, ws, _, z⟩
          · exact .inr ⟨List.mem_cons_self, od, vs, z.symm.trans hl, upd_same⟩
          · rw [hl] at z; cases z
        · rw [upd_ne hb]
          rcases f1.alt b with z | ⟨h1, h2⟩
          · exact .inl z
          · exact .inr ⟨List.mem_cons_of_mem _ h1, h2⟩
      · by_cases hb : b = a
        · subst hb
          rcases f1.alt b with z | ⟨_, o, ws', _, z⟩
          · rw [hl, hb2] at z
            cases z
            exact ⟨od, upd_same⟩
          · rw [hl] at z; cases z
        · rw [upd_ne hb]
          rename_i hb'
          rcases List.mem_cons.mp hb' with z | z
          · exact absurd z hb
          · exact f1.did b z ws hb2
    · refine ⟨H1, ⟨fun b => ?_, fun b hb ws hb2 => ?_⟩, I1⟩
      · rcases f1.alt b with z | ⟨h1, h2⟩
        · exact .inl z
        · exact .inr ⟨List.mem_cons_of_mem _ h1, h2⟩
      · rcases List.mem_cons.mp hb with z | z
        · subst z
          rcases f1.alt b with z | ⟨_, o, ws', q, z⟩
          · exact absurd ⟨ws, z.trans hb2⟩ hl
          · rw [hb2] at q
            cases q
            exact ⟨o, z⟩
        · exact f1.did b z ws hb2
def gh (Q : VK) : VK := fun v H => ∃ S, ∀ H', Fz S H H' → Q v H'
theorem pe_gh {X : Cx} {e : Expr} {t : TE} (h : PE X e t) : PE X e (fun σ H Q => t σ H (gh Q)) := by
  refine ⟨fun pins s σ H Q I q => thn (h.run pins s σ H _ I q) fun u s1 ⟨v, H1, I1, r, S, q1⟩ => ?_⟩
  obtain ⟨H2, f, I2⟩ := inv_fz S I1
  exact ⟨v, H2, I2, r, q1 H2 f⟩
theorem gh.no {Q : VK} {v : V} {H : Hp} (q : Q v H) : gh Q v H := ⟨[], fun H' f => by
  have e : H' = H := funext fun a => by
    rcases f.alt a with z | ⟨z, _⟩
    · exact z
    · cases z
  rw [e]; exact q⟩
theorem Fz.kp {S : List Addr} {H H' : Hp} (f : Fz S H H') : Kp H H' := by
  refine ⟨fun a xs h => ?_, fun a o u h => ?_⟩
  · rcases f.alt a with z | ⟨_, o, vs, q, _⟩
    · exact z.trans h
    · rw [h] at q; cases q
  · rcases f.alt a with z | ⟨_, o', vs, q, _⟩
    · exact z.trans h
    · rw [h] at q; cases q
end Wk

/-! T2: expressions. -/
namespace Wk
open PySem PySem.Spec PyProof.Rows L2

/-! ### lists of data -/
section
variable {K : PySem.W.Frag} {H : Hp} {m : List Addr}
theorem RDs.len : ∀ {ds : List D} {vs : List V}, RDs K H vs ds → vs.length = ds.length
  | [], _, h => by cases h; rfl
  | _ :: _, _, h => by cases h with | cons a b => rw [List.length_cons, List.length_cons, RDs.len b]
theorem RDs.get : ∀ {ds : List D} {vs : List V} {i : Nat} {d : D}, RDs K H vs ds → ds[i]? = some d → ∃ v, vs[i]? = some v ∧ RD K H v d
  | [], _, _, _, h, e => by simp at e
  | _ :: _, _, 0, _, h, e => by
    cases h with
    | cons a b => simp at e; subst e; exact ⟨_, rfl, a⟩
  | _ :: _, _, i + 1, _, h, e => by
    cases h with
    | cons a b =>
      obtain ⟨v, h1, h2⟩ := RDs.get (i := i) b (by simpa using e)
      exact ⟨v, by simpa using h1, h2⟩
theorem RDs.app : ∀ {ds es : List D} {vs ws : List V}, RDs K H vs ds → RDs K H ws es → RDs K H (vs ++ ws) (ds ++ es)
  | [], _, _, _, h, q => by cases h; exact q
  | _ :: _, _, _, _, h, q => by cases h with | cons a b => exact .cons a (RDs.app b q)
theorem RDs.one {v : V} {d : D} (h : RD K H v d) : RDs K H [v] [d] := .cons h .nil
theorem RDs.take : ∀ (n : Nat) {ds : List D} {vs : List V}, RDs K H vs ds → RDs K H (vs.take n) (ds.take n)
  | 0, _, _, _ => by simp; exact .nil
  | _ + 1, [], _, h => by cases h; exact .nil
  | n + 1, _ :: _, _, h => by cases h with | cons a b => exact .cons a (RDs.take n b)
theorem RDs.drop : ∀ (n : Nat) {ds : List D} {vs : List V}, RDs K H vs ds → RDs K H (vs.drop n) (ds.drop n)
  | 0, _, _, h => by simpa using h
  | _ + 1, [], _, h => by cases h; exact .nil
  | n + 1, _ :: _, _, h => by cases h with | cons a b => exact RDs.drop n b
theorem RDs.set {v : V} {d : D} (r : RD K H v d) : ∀ (n : Nat) {ds : List D} {vs : List V}, RDs K H vs ds → RDs K H (vs.set n v) (ds.set n d)
  | _, [], _, h => by cases h; exact .nil
  | 0, _ :: _, _, h => by cases h with | cons a b => exact .cons r b
  | n + 1, _ :: _, _, h => by cases h with | cons a b => exact .cons a (RDs.set r n b)
theorem RDs.rep {ds : List D} {vs : List V} (h : RDs K H vs ds) : ∀ n : Nat, RDs K H (List.replicate n vs).flatten (List.replicate n ds).flatten
  | 0 => by simp; exact .nil
  | n + 1 => by
    rw [List.replicate_succ, List.replicate_succ, List.flatten_cons, List.flatten_cons]
    exact h.app (RDs.rep h n)
theorem RDs.dropLast {ds : List D} {vs : List V} (h : RDs K H vs ds) : RDs K H vs.dropLast ds.dropLast := by
  rw [List.dropLast_eq_take, List.dropLast_eq_take, h.len]
  exact h.take _
theorem RDs.rev : ∀ {ds : List D} {vs : List V}, RDs K H vs ds → RDs K H vs.reverse ds.reverse
  | [], _, h => by cases h; exact .nil
  | _ :: _, _, h => by
    cases h with
    | cons a b =>
      rw [List.reverse_cons, List.reverse_cons]
      exact (RDs.rev b).app (.one a)
theorem RDs.ints : ∀ {ns : List Int}, RDs K H (ns.map V.int) (ns.map PyData.int)
  | [] => .nil
  | n :: r => .cons (.int n) RDs.ints
theorem RDs.ints' : ∀ {ns : List Int} {vs : List V}, RDs K H vs (ns.map PyData.int) → vs = ns.map V.int
  | [], _, h => by cases h; rfl
  | n :: r, _, h => by
    cases h with
    | cons a b => cases a; rw [RDs.ints' b]; rfl
theorem RUs.len : ∀ {us : List U} {vs : List V}, RUs K H m vs us → vs.length = us.length
  | [], _, h => by cases h; rfl
  | _ :: _, _, h => by cases h with | cons a b => rw [List.length_cons, List.length_cons, RUs.len b]
theorem RUs.get : ∀ {us : List U} {vs : List V} {i : Nat} {u : U}, RUs K H m vs us → us[i]? = some u → ∃ v, vs[i]? = some v ∧ RU K H m v u
  | [], _, _, _, h, e => by simp at e
  | _ :: _, _, 0, _, h, e => by
    cases h with
    | cons a b => simp at e; subst e; exact ⟨_, rfl, a⟩
  | _ :: _, _, i + 1, _, h, e => by
    cases h with
    | cons a b =>
      obtain ⟨v, h1, h2⟩ := RUs.get (i := i) b (by simpa using e)
      exact ⟨v, by simpa using h1, h2⟩
theorem RU.rd {v : V} {x : D} (h : RU K H m v (.d x)) : RD K H v x := by cases h; assumption
end
mutual
theorem RD.dp {K : PySem.W.Frag} {H : Hp} : ∀ (d : D) (v : V), RD K H v d → Dp K H v d
  | .none, _, h => by cases h; exact .non
  | .bool b, _, h => by cases h; exact .bl b
  | .int i, _, h => by cases h; exact .int i
  | .str x, _, h => by cases h; exact .str x
  | .list ds, _, h => by
    cases h with
    | lst a b => exact .lst a.sq (RDs.dp ds _ b)
  | .tuple ds, _, h => by
    cases h with
    | tup a b => exact .tup a (RDs.dp ds _ b)
  | .dict _, _, h => by cases h
theorem RDs.dp {K : PySem.W.Frag} {H : Hp} : ∀ (ds : List D) (vs : List V), RDs K H vs ds → DpAll K H vs ds
  | [], _, h => by cases h; exact .nil
  | d :: ds, _, h => by
    cases h with
    | cons a b => exact .cons (RD.dp d _ a) (RDs.dp ds _ b)
end

/-! ### what a value is -/
def intOf : U → Option Int
  | .d (.int i) => some i
  | _ => none
def boolOf : U → Option Bool
  | .d (.bool b) => some b
  | _ => none
def strOf : U → Option Str
  | .d (.str x) => some x
  | _ => none
def tupOf : U → Option (List D)
  | .d (.tuple xs) => some xs
  | _ => none
def listOf (h : Sto) : U → Option (List D)
  | .d (.list xs) => some xs
  | .ref n => match h[n]? with
    | some (.lst xs) => some xs
    | some (.frz xs) => some xs
    | _ => none
  | _ => none
section
variable {K : PySem.W.Frag} {mg : Str → Option Value} {H : Hp} {m : List Addr} {h : Sto} {v : V} {u : U}
theorem intOf_v {i : Int} (e : intOf u = some i) (r : RU K H m v u) : v = .int i := by
  unfold intOf at e
  split at e
  · cases e; cases r.rd; rfl
  · cases e
theorem boolOf_v {b : Bool} (e : boolOf u = some b) (r : RU K H m v u) : v = .bl b := by
  unfold boolOf at e
  split at e
  · cases e; cases r.rd; rfl
  · cases e
theorem strOf_v {x : Str} (e : strOf u = some x) (r : RU K H m v u) : v = .str x := by
  unfold strOf at e
  split at e
  · cases e; cases r.rd; rfl
  · cases e
theorem tupOf_v {xs : List D} (e : tupOf u = some xs) (r : RU K H m v u) : ∃ a vs, v = .ref a ∧ SqT K H a vs ∧ RDs K H vs xs := by
  unfold tupOf at e
  split at e
  · cases e
    cases r.rd with
    | tup p q => exact ⟨_, _, rfl, p, q⟩
  · cases e
theorem listOf_v {xs : List D} (s : Sta K mg H m h) (e : listOf h u = some xs) (r : RU K H m v u) : ∃ a vs, v = .ref a ∧ SqL K H a vs ∧ RDs K H vs xs := by
  unfold listOf at e
  split at e
  · cases e
    cases r.rd with
    | lst p q => exact ⟨_, _, rfl, p.sq, q⟩
  · cases r with
    | ref hm =>
      split at e
      · rename_i o ho
        cases e
        obtain ⟨vs, h1, h2⟩ := s.obj _ _ _ hm ho
        exact ⟨_, vs, rfl, .inl (.inl h1), h2⟩
      · rename_i o ho
        cases e
        obtain ⟨o, vs, h1, h2⟩ := s.obj _ _ _ hm ho
        exact ⟨_, vs, rfl, .inl (.inr ⟨o, h1⟩), h2⟩
      · cases e
  · cases e
end

/-! ### a new list: of the store, or frozen at once -/
def mkL (b : Bool) (xs : List D) (h : Sto) : Res U := match b with
  | true => .ok (.ref h.length) (h ++ [.lst xs])
  | false => .ok (.d (.list xs)) h
theorem mkL_ok {X : Cx} {W : WX} {σ : L2.St} {H : Hp} {m : List Addr} {h : Sto} {b : Bool} {xs : List D} {vs : List V} {p : Addr} {Q : VK} (s : Sta X.K X.mg H m h) (n : H p = none) (r : RDs X.K H vs xs) (out : Out X W (rlU X.K) σ H m (mkL b xs h) Q) :
    gh Q (.ref p) (upd H p (.lst vs)) := by
  have r' : RDs X.K (upd H p (.lst vs)) vs xs := RDs.kp (Kp.same (Same.lay n)) _ _ r
  cases b with
  | true =>
    refine gh.no (Out.ok (b := V.ref p) out (Gr.push n) (s.push n ⟨vs, upd_same, r'⟩) ?_)
    exact .ref (by rw [← s.len]; simp)
  | false =>
    refine ⟨[p], fun H2 f => ?_⟩
    have sm : Same H H2 := fun a x q => by
      have na := ne_of_none q n
      rcases f.alt a with z | ⟨z, _⟩
      · rw [z, upd_ne na]; exact q
      · exact absurd (List.mem_singleton.mp z) na
    obtain ⟨o, ho⟩ := f.did p List.mem_cons_self vs upd_same
    exact Out.ok (b := V.ref p) out (Gr.of_same sm m) (s.same sm) (.d (.lst (.inl ⟨o, ho⟩) (RDs.kp f.kp _ _ r')))
theorem fzs_of {H : Hp} {p : Addr} {o : HO} {Q : VK} {v : V} (q : Q v (upd H p o)) : gh Q v (upd H p o) := gh.no q

/-! ### two-place operations -/
def eBin (F : U → U → Sto → Res U) (f g : Ev) : Ev := fun env h => (f env h).bind fun u h1 => (g env h1).bind fun w h2 => F u w h2
def eUn (F : U → Sto → Res U) (f : Ev) : Ev := fun env h => (f env h).bind F
def Ab2 (X : Cx) (W : WX) (F : U → U → Sto → Res U) (r : R2) : Prop := ∀ (σ : L2.St) (H : Hp) (m : List Addr) (h : Sto) (x y : V) (u w : U) (Q : VK), Sta X.K X.mg H m h → RU X.K H m x u → RU X.K H m y w → Out X W (rlU X.K) σ H m (F u w h) Q → r x y H Q
def tB (r : Res U) : Res Bool := r.bind fun u h => match boolOf u with
  | some b => .ok b h
  | none => .stuck
def tBin (F : U → U → Sto → Res U) (f g : Ev) : Eb := fun env h => tB (eBin F f g env h)
theorem gh_op {X : Cx} {f : Value → Value → Sem Value} {r : R2} (h : OpR X f r) : OpR X f (fun x y H Q => r x y H (gh Q)) := by
  intro pins s σ H x y v u Q I rx ry q
  refine thn (h pins s σ H x y v u _ I rx ry q) fun z s1 ⟨zv, H1, I1, rz, S, q1⟩ => ?_
  obtain ⟨H2, f2, I2⟩ := inv_fz S I1
  exact ⟨zv, H2, I2, rz, q1 H2 f2⟩
section
variable {X : Cx} {W : WX} {a b c : Expr} {f g : Ev} {pos : Pos} {F : U → U → Sto → Res U} {r : R2}
theorem out_bool {σ : L2.St} {H : Hp} {m : List Addr} {q : Res U} {Q : Bool → Hp → Prop} (o : Out X W rlB σ H m (tB q) Q) : Out X W (rlU X.K) σ H m q (fun z H' => ∃ k, z = .bl k ∧ Q k H') := by
  cases q with
  | ok u h =>
    intro v H' m' g s r
    have o' : Out X W rlB σ H m (match boolOf u with | some b => Res.ok b h | none => Res.stuck) Q := o
    cases e : boolOf u with
    | none => rw [e] at o'; exact o'.elim
    | some k =>
      rw [e] at o'
      exact ⟨k, boolOf_v e r, o' k H' m' g s rfl⟩
  | exc c h => exact o
  | stuck => exact o
theorem se_bin {op : Operator} (ho : OpR X (binaryOp op) r) (ab : Ab2 X W F r) (ha : SE X W a f) (hb : SE X W b g) : SE X W (.BinOp a op b pos) (eBin F f g) :=
  ⟨pe_imp (pe_op ho ha.pe hb.pe) fun σ H Q ⟨env, m, h, sta, sl, out⟩ => rd_of sta sl out fun u h1 x H1 m1 g1 s1 r1 out1 => rd_of s1 (sl.gr g1) out1 fun w h2 y H2 m2 g2 s2 r2 out2 =>
    ab σ H2 m2 h2 x y u w Q s2 (RU.kp g2.kp g2.pre _ _ r1) r2 out2⟩
theorem se_cmp {op : CmpOp} (ho : OpR X (compareOp op) r) (ab : Ab2 X W F r) (hm : behindInMarks op b = false) (ha : SE X W a f) (hb : SE X W b g) : SE X W (.Compare a [op] [b] pos) (eBin F f g) :=
  ⟨pe_imp (pe_cmpR ho ha.pe hb.pe hm) fun σ H Q ⟨env, m, h, sta, sl, out⟩ => rd_of sta sl out fun u h1 x H1 m1 g1 s1 r1 out1 => rd_of s1 (sl.gr g1) out1 fun w h2 y H2 m2 g2 s2 r2 out2 =>
    ab σ H2 m2 h2 x y u w Q s2 (RU.kp g2.kp g2.pre _ _ r1) r2 out2⟩
theorem bind_assoc {α β γ : Type} (q : Res α) (k : α → Sto → Res β) (l : β → Sto → Res γ) : (q.bind k).bind l = q.bind fun x h => (k x h).bind l := by cases q <;> rfl
theorem st_cmp {op : CmpOp} (ho : OpR X (compareOp op) r) (ab : Ab2 X W F r) (hm : behindInMarks op b = false) (ha : SE X W a f) (hb : SE X W b g) : ST X W (.Compare a [op] [b] pos) (tBin F f g) :=
  ⟨pt_imp (pt_cmpR ho ha.pe hb.pe hm) fun σ H Q ⟨env, m, h, sta, sl, out⟩ => by
    have out' : Out X W rlB σ H m ((f env h).bind fun u h1 => (g env h1).bind fun w h2 => tB (F u w h2)) Q := by
      have e : tBin F f g env h = ((f env h).bind fun u h1 => (g env h1).bind fun w h2 => tB (F u w h2)) := by
        unfold tBin tB eBin
        rw [bind_assoc]
        congr 1
        funext u h1
        rw [bind_assoc]
      rw [e] at out
      exact out
    exact rd_of sta sl out' fun u h1 x H1 m1 g1 s1 r1 out1 => rd_of s1 (sl.gr g1) out1 fun w h2 y H2 m2 g2 s2 r2 out2 => ab σ H2 m2 h2 x y u w _ s2 (RU.kp g2.kp g2.pre _ _ r1) r2 (out_bool out2)⟩
/-- a op b op' c -/
def eChain (F G : U → U → Sto → Res U) (f g k : Ev) : Ev := fun env h => (f env h).bind fun u h1 => (g env h1).bind fun w h2 => (tB (F u w h2)).bind fun b h3 => match b with
  | true => (k env h3).bind fun z h4 => G w z h4
  | false => .ok (.d (.bool false)) h3
def tChain (F G : U → U → Sto → Res U) (f g k : Ev) : Eb := fun env h => tB (eChain F G f g k env h)
theorem se_chain {op op' : CmpOp} {G : U → U → Sto → Res U} {r' : R2} {k : Ev} (ho : OpR X (compareOp op) r) (ho' : OpR X (compareOp op') r') (ab : Ab2 X W F r) (ab' : Ab2 X W G r') (ha : SE X W a f) (hb : SE X W b g) (hc : SE X W c k)
    (hm : lastMarks [op, op'] [b, c] = false := by with_unfolding_all rfl) : SE X W (.Compare a [op, op'] [b, c] pos) (eChain F G f g k) :=
  ⟨pe_imp (pe_chain ho ho' ha.pe hb.pe hc.pe hm) fun σ H Q ⟨env, m, h, sta, sl, out⟩ => rd_of sta sl out fun u h1 x H1 m1 g1 s1 r1 out1 => rd_of s1 (sl.gr g1) out1 fun w h2 y H2 m2 g2 s2 r2 out2 => by
    have rx := RU.kp g2.kp g2.pre _ _ r1
    have sl2 := (sl.gr g1).gr g2
    refine ab σ H2 m2 h2 x y u w _ s2 rx r2 ?_
    -- the first answer
    revert out2
    generalize F u w h2 = q
    intro out2
    cases q with
    | stuck => exact out2
    | exc c h3 => exact out2
    | ok z h3 =>
      intro zv H3 m3 g3 s3 rz
      have out3 : Out X W (rlU X.K) σ H2 m2 ((match boolOf z with | some b => Res.ok b h3 | none => Res.stuck).bind fun b h3 => match b with | true => (k env h3).bind fun z h4 => G w z h4 | false => .ok (.d (.bool false)) h3) Q := out2
      cases e : boolOf z with
      | none => rw [e] at out3; exact out3.elim
      | some b =>
        rw [e] at out3
        refine ⟨b, boolOf_v e rz, ?_⟩
        have out4 := Out.gr out3 g3
        cases b with
        | false =>
          rw [if_neg Bool.false_ne_true]
          exact Out.here (b := V.bl false) out4 s3 (.d (.bl false))
        | true =>
          rw [if_pos rfl]
          refine rd_of s3 (sl2.gr g3) out4 fun z2 h4 y2 H4 m4 g4 s4 r4 out5 => ?_
          exact ab' σ H4 m4 h4 y y2 w z2 Q s4 (RU.kp (g3.trans g4).kp (g3.trans g4).pre _ _ r2) r4 out5⟩
end

/-! ### the operators -/
/-- a test that nobody evaluates by itself -/
noncomputable def ask (p : Prop) : Bool := @decide p (Classical.propDecidable p)
theorem ask_iff {p : Prop} : ask p = true ↔ p := @decide_eq_true_iff p (Classical.propDecidable p)
theorem ask_t {p : Prop} (h : p) : ask p = true := ask_iff.mpr h
noncomputable def fits (n : Nat) : Bool := ask (n ≤ sizeLine)
noncomputable def mulOk (i j : Int) : Bool := ask (i.natAbs < 2 ^ 64 ∨ j.natAbs < 2 ^ 64 ∨ (i.natAbs < 2 ^ 400000 ∧ j.natAbs < 2 ^ 400000))
noncomputable def opAdd (b : Bool) (u w : U) (h : Sto) : Res U :=
  match intOf u, intOf w with
  | some i, some j => .ok (.d (.int (i + j))) h
  | _, _ => match tupOf u, tupOf w with
    | some xs, some ys => if fits (xs.length + ys.length) then .ok (.d (.tuple (xs ++ ys))) h else .stuck
    | _, _ => match strOf u, strOf w with
      | some x, some y => if fits (x.length + y.length) then .ok (.d (.str (x ++ y))) h else .stuck
      | _, _ => match listOf h u, listOf h w with
        | some xs, some ys => if fits (xs.length + ys.length) then mkL b (xs ++ ys) h else .stuck
        | _, _ => .stuck
def opSub (u w : U) (h : Sto) : Res U := match intOf u, intOf w with
  | some i, some j => .ok (.d (.int (i - j))) h
  | _, _ => .stuck
noncomputable def opMul (u w : U) (h : Sto) : Res U := match intOf u, intOf w with
  | some i, some j => if mulOk i j then .ok (.d (.int (i * j))) h else .stuck
  | _, _ => .stuck
noncomputable def divOk (j : Int) : Bool := ask (0 < j ∧ j.natAbs < 2 ^ 8000)
noncomputable def opFdiv (u w : U) (h : Sto) : Res U := match intOf u, intOf w with
  | some i, some j => if divOk j then .ok (.d (.int (i / j))) h else .stuck
  | _, _ => .stuck
def opMod (u w : U) (h : Sto) : Res U := match intOf u, intOf w with
  | some i, some j => if 0 < j then .ok (.d (.int (i % j))) h else .stuck
  | _, _ => .stuck
noncomputable def opPow (u w : U) (h : Sto) : Res U := match intOf u, intOf w with
  | some i, some j => if ask (0 ≤ j ∧ j ≤ 1000000 ∧ i.natAbs < 2 ^ 64) then .ok (.d (.int (i ^ j.toNat))) h else .stuck
  | _, _ => .stuck
def opNeg (u : U) (h : Sto) : Res U := match intOf u with
  | some i => .ok (.d (.int (-i))) h
  | _ => .stuck
def opI (p : Int → Int → Bool) (u w : U) (h : Sto) : Res U := match intOf u, intOf w with
  | some i, some j => .ok (.d (.bool (p i j))) h
  | _, _ => .stuck
abbrev opLt := opI fun i j => decide (i < j)
abbrev opLe := opI fun i j => decide (i ≤ j)
abbrev opGt := opI fun i j => decide (j < i)
abbrev opGe := opI fun i j => decide (j ≤ i)
/-- the list + list of any kind -/
def rCatL (K : PySem.W.Frag) : R2 := fun x y H Q => ∃ l b xs zs, x = .ref l ∧ y = .ref b ∧ SqL K H l xs ∧ SqL K H b zs ∧ xs.length + zs.length ≤ sizeLine ∧ ∀ p, H p = none → Q (.ref p) (upd H p (.lst (xs ++ zs)))
section
variable {X : Cx} {W : WX}
theorem plainL_get {h : Heap} {l : Addr} {its : Array Value} (p : PlainL h l its) : ∃ o n, h.get? l = some o ∧ o.cls = .type "list" ∧ o.dict = none ∧ o.data = .seq its n := p
theorem mulOk_ok {i j : Int} (h : mulOk i j = true) : IntMulOk i j := by
  have h := ask_iff.mp h
  rcases h with h | h | ⟨h1, h2⟩
  · exact CMul.ok (.inl (by omega))
  · exact CMul.ok (.inr (by omega))
  · exact CMulW.ok (wide_mul h1 h2 (by decide) (by decide) (by decide))
theorem op_mulA : OpR X (binaryOp .Mult) (rI (fun i j => mulOk i j = true) fun i j => .int (i * j)) := L2.opI fun _ _ _ _ _ _ _ hc q => mul_int q (mulOk_ok hc)
theorem op_fdivA : OpR X (binaryOp .FloorDiv) (rI (fun _ j => divOk j = true) fun i j => .int (i / j)) := by
  intro pins s σ H x y v u Q I rx ry h
  obtain ⟨i, j, e1, e2, hc, q⟩ := h
  have hc := ask_iff.mp hc
  exact op_fdivW pins s σ H x y v u Q I rx ry ⟨i, j, e1, e2, wide_div hc.1 hc.2 (by decide) (by decide), q⟩
theorem ab_int {F : U → U → Sto → Res U} {C : Int → Int → Prop} {g : Int → Int → V} {gd : Int → Int → D} (hF : ∀ u w h, F u w h = .stuck ∨ ∃ i j, intOf u = some i ∧ intOf w = some j ∧ (F u w h = .stuck ∨ (C i j ∧ F u w h = .ok (.d (gd i j)) h)))
    (hg : ∀ (K : PySem.W.Frag) (H : Hp) i j, RD K H (g i j) (gd i j)) : Ab2 X W F (rI C g) := by
  intro σ H m h x y u w Q s ru rw out
  rcases hF u w h with e | ⟨i, j, e1, e2, e | ⟨hc, e⟩⟩
  · rw [e] at out; exact out.elim
  · rw [e] at out; exact out.elim
  · rw [e] at out
    exact ⟨i, j, intOf_v e1 ru, intOf_v e2 rw, hc, Out.here out s (.d (hg _ _ i j))⟩
theorem ab_int0 {F : U → U → Sto → Res U} {g : Int → Int → V} {gd : Int → Int → D} (hF : ∀ u w h, F u w h = .stuck ∨ ∃ i j, intOf u = some i ∧ intOf w = some j ∧ F u w h = .ok (.d (gd i j)) h)
    (hg : ∀ (K : PySem.W.Frag) (H : Hp) i j, RD K H (g i j) (gd i j)) : Ab2 X W F (rI0 g) := by
  intro σ H m h x y u w Q s ru rw out
  rcases hF u w h with e | ⟨i, j, e1, e2, e⟩
  · rw [e] at out; exact out.elim
  · rw [e] at out
    exact ⟨i, j, intOf_v e1 ru, intOf_v e2 rw, Out.here out s (.d (hg _ _ i j))⟩
theorem ab_sub : Ab2 X W opSub (rI0 fun i j => .int (i - j)) := ab_int0 (gd := fun i j => .int (i - j)) (fun u w h => by
  unfold opSub
  split
  · exact .inr ⟨_, _, by assumption, by assumption, rfl⟩
  · exact .inl rfl) fun _ _ _ _ => .int _
theorem ab_cmp (p : Int → Int → Bool) : Ab2 X W (opI p) (rI0 fun i j => .bl (p i j)) := ab_int0 (gd := fun i j => .bool (p i j)) (fun u w h => by
  unfold opI
  split
  · exact .inr ⟨_, _, by assumption, by assumption, rfl⟩
  · exact .inl rfl) fun _ _ _ _ => .bl _
theorem ab_mul : Ab2 X W opMul (rI (fun i j => mulOk i j = true) fun i j => .int (i * j)) := ab_int (gd := fun i j => .int (i * j)) (fun u w h => by
  unfold opMul
  split
  · refine .inr ⟨_, _, by assumption, by assumption, ?_⟩
    split
    · exact .inr ⟨by assumption, rfl⟩
    · exact .inl rfl
  · exact .inl rfl) fun _ _ _ _ => .int _
theorem ab_fdiv : Ab2 X W opFdiv (rI (fun _ j => divOk j = true) fun i j => .int (i / j)) := ab_int (gd := fun i j => .int (i / j)) (fun u w h => by
  unfold opFdiv
  split
  · refine .inr ⟨_, _, by assumption, by assumption, ?_⟩
    split
    · exact .inr ⟨by assumption, rfl⟩
    · exact .inl rfl
  · exact .inl rfl) fun _ _ _ _ => .int _
theorem ab_mod : Ab2 X W opMod (rI (fun _ j => 0 < j) fun i j => .int (i % j)) := ab_int (gd := fun i j => .int (i % j)) (fun u w h => by
  unfold opMod
  split
  · refine .inr ⟨_, _, by assumption, by assumption, ?_⟩
    split
    · exact .inr ⟨by assumption, rfl⟩
    · exact .inl rfl
  · exact .inl rfl) fun _ _ _ _ => .int _
theorem ab_pow : Ab2 X W opPow (rI CPow fun i j => .int (i ^ j.toNat)) := ab_int (gd := fun i j => .int (i ^ j.toNat)) (fun u w h => by
  unfold opPow
  split
  · refine .inr ⟨_, _, by assumption, by assumption, ?_⟩
    split
    · rename_i hz
      exact .inr ⟨ask_iff.mp hz, rfl⟩
    · exact .inl rfl
  · exact .inl rfl) fun _ _ _ _ => .int _
theorem op_catL : OpR X (binaryOp .Add) (rCatL X.K) := by
  intro pins s σ H x y v u Q I rx ry h
  obtain ⟨l, b, xs, zs, rfl, rfl, hH, hB, hz, q⟩ := h
  cases rx
  cases ry
  obtain ⟨its, r, ⟨o, n, e, c1, c2, c3⟩, z⟩ := I.list hH
  obtain ⟨its2, r2, ⟨o2, n2, e2, d1, d2, d3⟩, z2⟩ := I.list hB
  obtain ⟨oc, od, odt, osl⟩ := o
  obtain ⟨oc2, od2, odt2, osl2⟩ := o2
  simp only at c1 c2 c3 d1 d2 d3
  subst c1 c2 c3 d1 d2 d3
  have h1 := r.length
  have h2 := r2.length
  have ea : its.toArray ++ its2.toArray = (its ++ its2).toArray := by simp
  refine concat_meets ⟨_, e, rfl⟩ ⟨_, e2, rfl⟩ noFill_list_add seq_list_add PySem.F.slot_list_add PySem.F.entry_list_add (PySem.F.args_list_add_2 _ _) (list_addW l b its.toArray its2.toArray n n2 none none osl osl2 (by rw [List.size_toArray, List.size_toArray]; omega)) ⟨e, e2, ?_⟩
  rw [ea]
  exact ⟨.ref _, _, I.lnew (t' := s.toks) (r.append r2) (by rw [List.length_append]; omega), rfl, q _ I.fresh⟩
/-- a + b of ints, tuples, texts, lists -/
def rAddA (K : PySem.W.Frag) : R2 := fun x y H Q => rI0 (fun i j => .int (i + j)) x y H Q ∨ rCatA K x y H Q ∨ (∃ i j, x = .str i ∧ y = .str j ∧ i.length + j.length ≤ sizeLine ∧ Q (.str (i ++ j)) H) ∨ rCatL K x y H (gh Q)
theorem op_addA : OpR X (binaryOp .Add) (rAddA X.K) := op_add.or (op_catA.or (op_add_str.or (gh_op op_catL)))
theorem ab_add (b : Bool) : Ab2 X W (opAdd b) (rAddA X.K) := by
  intro σ H m h x y u w Q s ru rw out
  unfold opAdd at out
  split at out
  · rename_i i j e1 e2
    exact .inl ⟨i, j, intOf_v e1 ru, intOf_v e2 rw, Out.here out s (.d (.int _))⟩
  · split at out
    · rename_i xs ys e1 e2
      split at out
      · rename_i hz
        obtain ⟨p, vs, rfl, t1, d1⟩ := tupOf_v e1 ru
        obtain ⟨p', vs', rfl, t2, d2⟩ := tupOf_v e2 rw
        refine .inr (.inl ⟨p, p', vs, vs', rfl, rfl, t1, t2, by rw [d1.len, d2.len]; exact ask_iff.mp hz, fun e => ?_, fun e e' => ?_, fun e e' a na => ?_⟩)
        · subst e
          cases d1
          exact Out.here (b := V.ref p') out s (.d (.tup t2 d2))
        · subst e'
          cases d2
          rw [List.append_nil] at out
          exact Out.here (b := V.ref p) out s (.d (.tup t1 d1))
        · have sm : Same H (upd H a (.tup (vs ++ vs'))) := Same.lay na
          exact Out.ok (b := V.ref a) out (Gr.of_same sm m) (s.same sm) (.d (.tup (.inl (.inl upd_same)) (RDs.kp (Kp.same sm) _ _ (d1.app d2))))
      · exact out.elim
    · split at out
      · rename_i xs ys e1 e2
        split at out
        · rename_i hz
          exact .inr (.inr (.inl ⟨_, _, strOf_v e1 ru, strOf_v e2 rw, ask_iff.mp hz, Out.here out s (.d (.str _))⟩))
        · exact out.elim
      · split at out
        · rename_i xs ys e1 e2
          split at out
          · rename_i hz
            obtain ⟨p, vs, rfl, t1, d1⟩ := listOf_v s e1 ru
            obtain ⟨p', vs', rfl, t2, d2⟩ := listOf_v s e2 rw
            exact .inr (.inr (.inr ⟨p, p', vs, vs', rfl, rfl, t1, t2, by rw [d1.len, d2.len]; exact ask_iff.mp hz, fun a na => mkL_ok s na (d1.app d2) out⟩))
          · exact out.elim
        · exact out.elim

/-! ### == and != -/
mutual
def dataOf (h : Sto) : U → Option D
  | .d x => some x
  | .ref n => (listOf h (.ref n)).map .list
  | .tup us => (datasOf h us).map .tuple
  | .exn _ => none
def datasOf (h : Sto) : List U → Option (List D)
  | [] => some []
  | u :: us => match dataOf h u, datasOf h us with
    | some x, some xs => some (x :: xs)
    | _, _ => none
end
mutual
theorem dataOf_v {K : PySem.W.Frag} {mg : Str → Option Value} {H : Hp} {m : List Addr} {h : Sto} (s : Sta K mg H m h) : ∀ (u : U) (v : V) (d : D), dataOf h u = some d → RU K H m v u → Dp K H v d
  | .d x, v, d, e, r => by
    rw [dataOf] at e
    cases e
    exact RD.dp _ _ r.rd
  | .ref n, v, d, e, r => by
    rw [dataOf] at e
    cases q : listOf h (.ref n) with
    | none => rw [q] at e; cases e
    | some xs =>
      rw [q] at e
      cases e
      obtain ⟨a, vs, rfl, h1, h2⟩ := listOf_v s q r
      exact .lst h1 (RDs.dp _ _ h2)
  | .tup us, v, d, e, r => by
    rw [dataOf] at e
    cases q : datasOf h us with
    | none => rw [q] at e; cases e
    | some xs =>
      rw [q] at e
      cases e
      cases r with
      | tup t b => exact .tup t (datasOf_v s us _ xs q b)
  | .exn a, v, d, e, r => by
    rw [dataOf] at e
    cases e
theorem datasOf_v {K : PySem.W.Frag} {mg : Str → Option Value} {H : Hp} {m : List Addr} {h : Sto} (s : Sta K mg H m h) : ∀ (us : List U) (vs : List V) (ds : List D), datasOf h us = some ds → RUs K H m vs us → DpAll K H vs ds
  | [], vs, ds, e, r => by
    rw [datasOf] at e
    cases e
    cases r
    exact .nil
  | u :: us, vs, ds, e, r => by
    rw [datasOf] at e
    split at e
    · rename_i x xs e1 e2
      cases e
      cases r with
      | cons a b => exact .cons (dataOf_v s u _ x e1 a) (datasOf_v s us _ xs e2 b)
    · cases e
end
def opEqB (n : Bool) (u w : U) (h : Sto) : Res U := match strOf u, strOf w with
  | some x, some y => .ok (.d (.bool (xor n (decide (x = y))))) h
  | _, _ => match dataOf h u, dataOf h w with
    | some d, some e => if SeqAt.shaped d && SeqAt.shaped e then .ok (.d (.bool (xor n (PyData.eqv d e)))) h else .stuck
    | _, _ => .stuck
abbrev opEq := opEqB false
abbrev opNe := opEqB true
def rEqA (K : PySem.W.Frag) : R2 := fun x y H Q => rEq x y H Q ∨ rEqD K x y H Q
def rNeA (K : PySem.W.Frag) : R2 := fun x y H Q => rNe x y H Q ∨ rNeD K x y H Q
theorem op_eqA (hu : X.A.units + 64 < cLine) : OpR X (compareOp .Eq) (rEqA X.K) := op_eq.or (op_eqD hu)
theorem op_neA (hu : X.A.units + 64 < cLine) : OpR X (compareOp .NotEq) (rNeA X.K) := op_ne.or (op_neD hu)
theorem dec_strV {x y : Str} : decide (V.str x = V.str y) = decide (x = y) := by
  rw [Bool.eq_iff_iff]
  simp
theorem ab_eq : Ab2 X W opEq (rEqA X.K) := by
  intro σ H m h x y u w Q s ru rw out
  unfold opEq opEqB at out
  split at out
  · rename_i a b e1 e2
    refine .inl ?_
    rw [strOf_v e1 ru, strOf_v e2 rw]
    refine ⟨rfl, ?_⟩
    rw [dec_strV]
    exact Out.here (b := V.bl _) out s (.d (by rw [Bool.false_xor]; exact .bl _))
  · split at out
    · rename_i d e e1 e2
      split at out
      · rename_i hs
        rw [Bool.and_eq_true] at hs
        exact .inr ⟨d, e, dataOf_v s _ _ _ e1 ru, dataOf_v s _ _ _ e2 rw, hs.1, hs.2, Out.here (b := V.bl _) out s (.d (by rw [Bool.false_xor]; exact .bl _))⟩
      · exact out.elim
    · exact out.elim
theorem ab_ne : Ab2 X W opNe (rNeA X.K) := by
  intro σ H m h x y u w Q s ru rw out
  unfold opNe opEqB at out
  split at out
  · rename_i a b e1 e2
    refine .inl ?_
    rw [strOf_v e1 ru, strOf_v e2 rw]
    refine ⟨rfl, ?_⟩
    rw [dec_strV]
    exact Out.here (b := V.bl _) out s (.d (by rw [Bool.true_xor]; exact .bl _))
  · split at out
    · rename_i d e e1 e2
      split at out
      · rename_i hs
        rw [Bool.and_eq_true] at hs
        exact .inr ⟨d, e, dataOf_v s _ _ _ e1 ru, dataOf_v s _ _ _ e2 rw, hs.1, hs.2, Out.here (b := V.bl _) out s (.d (by rw [Bool.true_xor]; exact .bl _))⟩
      · exact out.elim
    · exact out.elim
/-- x is None, x is not None -/
def isN : U → Bool
  | .d .none => true
  | _ => false
def opIsN (n : Bool) (u w : U) (h : Sto) : Res U := match isN w with
  | true => .ok (.d (.bool (xor n (isN u)))) h
  | false => .stuck
theorem isN_v {K : PySem.W.Frag} {H : Hp} {m : List Addr} {v : V} {u : U} (r : RU K H m v u) : decide (v = .non) = isN u := by
  cases r with
  | d p => cases p <;> first | rfl | simp [isN]
  | ref p => simp [isN]
  | tup p q => simp [isN]
  | exn a => simp [isN]
theorem isN_non {K : PySem.W.Frag} {H : Hp} {m : List Addr} {v : V} {u : U} (r : RU K H m v u) (e : isN u = true) : v = .non := by
  have z := isN_v r
  rw [e] at z
  exact of_decide_eq_true z
theorem ab_isN : Ab2 X W (opIsN false) (fun x y H Q => y = .non ∧ Q (.bl (decide (x = .non))) H) := by
  intro σ H m h x y u w Q s ru rw out
  unfold opIsN at out
  split at out
  · rename_i e
    refine ⟨isN_non rw e, ?_⟩
    rw [isN_v ru]
    exact Out.here (b := V.bl _) out s (.d (by rw [Bool.false_xor]; exact .bl _))
  · exact out.elim
theorem ab_notN : Ab2 X W (opIsN true) (fun x y H Q => y = .non ∧ Q (.bl (!decide (x = .non))) H) := by
  intro σ H m h x y u w Q s ru rw out
  unfold opIsN at out
  split at out
  · rename_i e
    refine ⟨isN_non rw e, ?_⟩
    rw [isN_v ru]
    exact Out.here (b := V.bl _) out s (.d (by rw [Bool.true_xor]; exact .bl _))
  · exact out.elim
end

/-! ### names, constants -/
def eV (i : Nat) : Ev := fun env h => match env[i]? with
  | some (some u) => .ok u h
  | _ => .stuck
def eC (d : D) : Ev := fun _ h => .ok (.d d) h
section
variable {X : Cx} {W : WX} {a b c : Expr} {f g : Ev} {pos : Pos}
theorem se_v (i : Nat) {x : Str} (hN : X.N[i]? = some x := by rfl) (hv : Vis X.env.scope x := by first | exact Or.inl rfl | exact Or.inr (Or.inl rfl) | exact Or.inr (Or.inr rfl)) (hd : (x == ("__debug__" : Str)) = false := by decide)
    (hcd : (x == ("__classdict__" : Str)) = false := by decide) : SE X W (.Name x pos) (eV i) :=
  ⟨pe_imp (pv i hN hv hd hcd) fun σ H Q ⟨env, m, h, sta, sl, out⟩ => by
    unfold eV at out
    split at out
    · rename_i u e
      obtain ⟨v, h1, h2⟩ := sl.2 i u e
      exact ⟨v, h1, Out.here out sta h2⟩
    · exact out.elim⟩
theorem se_c {e : Expr} {v : V} {d : D} (h : PE X e (tC v)) (r : ∀ H, RD X.K H v d) : SE X W e (eC d) :=
  ⟨pe_imp h fun σ H Q ⟨env, m, h, sta, sl, out⟩ => Out.here (b := v) out sta (.d (r H))⟩
theorem se_int {i : Int} {j : Nat} : SE X W (.Constant (.int i) j pos) (eC (.int i)) := se_c pe_int fun _ => .int i
theorem se_bl {i : Bool} {j : Nat} : SE X W (.Constant (.bool i) j pos) (eC (.bool i)) := se_c pe_bl fun _ => .bl i
theorem se_non {j : Nat} : SE X W (.Constant .none j pos) (eC .none) := se_c pe_non fun _ => .non
theorem se_str {x : Str} {j : Nat} : SE X W (.Constant (.str x) j pos) (eC (.str x)) := se_c pe_str fun _ => .str x
/-- a constant of the module -/
theorem se_glob {x : Str} {v : V} {u : Value} {d : D} (hg : Gl X x) (hm : X.mg x = some u) (r : RelV v u) (hd : ∀ H, RD X.K H v d) (hx : (x == ("__debug__" : Str)) = false := by decide) : SE X W (.Name x pos) (eC d) :=
  se_c (pe_glob hg hm r hx) hd
theorem se_neg (ha : SE X W a f) : SE X W (.UnaryOp .USub a pos) (eUn opNeg f) :=
  ⟨pe_imp (pe_un un_neg ha.pe) fun σ H Q ⟨env, m, h, sta, sl, out⟩ => rd_of sta sl out fun u h1 x H1 m1 g1 s1 r1 out1 => by
    unfold opNeg at out1
    split at out1
    · rename_i i e
      exact ⟨i, intOf_v e r1, Out.here (b := V.int _) out1 s1 (.d (.int _))⟩
    · exact out1.elim⟩

/-! ### tests -/
def truthOf (h : Sto) (u : U) : Option Bool := match boolOf u with
  | some b => some b
  | none => match intOf u with
    | some i => some (i != 0)
    | none => match tupOf u with
      | some xs => some (!xs.isEmpty)
      | none => match listOf h u with
        | some xs => some (!xs.isEmpty)
        | none => none
def tTru (f : Ev) : Eb := fun env h => (f env h).bind fun u h1 => match truthOf h1 u with
  | some b => .ok b h1
  | none => .stuck
theorem isEmpty_rds {K : PySem.W.Frag} {H : Hp} {vs : List V} {ds : List D} (r : RDs K H vs ds) : (!ds.isEmpty) = !vs.isEmpty := by cases r <;> rfl
theorem st_truth (ha : SE X W a f) (he : ∀ whole, isTrue a X.env whole = (do let v ← whole; standAt a.pos; holding [v] (truthy v)) := by intro _; rfl) : ST X W a (tTru f) :=
  ⟨pt_imp (pt_truth ha.pe he) fun σ H Q ⟨env, m, h, sta, sl, out⟩ => rd_of sta sl out fun u h1 x H1 m1 g1 s1 r1 out1 => by
    have tr : ∀ k, truthOf h1 u = some k → TruV X.K x H1 k := fun k e => by
      unfold truthOf at e
      split at e
      · rename_i b eb
        cases e
        rw [boolOf_v eb r1]
        rfl
      · split at e
        · rename_i i eb
          cases e
          rw [intOf_v eb r1]
          rfl
        · split at e
          · rename_i xs eb
            cases e
            obtain ⟨p, vs, rfl, t1, d1⟩ := tupOf_v eb r1
            exact .inr (.inl ⟨vs, t1, isEmpty_rds d1⟩)
          · split at e
            · rename_i xs eb
              cases e
              obtain ⟨p, vs, rfl, t1, d1⟩ := listOf_v s1 eb r1
              exact .inl ⟨vs, t1, isEmpty_rds d1⟩
            · cases e
    cases e : truthOf h1 u with
    | none => rw [e] at out1; exact out1.elim
    | some k =>
      rw [e] at out1
      exact ⟨k, tr k e, Out.here (b := k) out1 s1 rfl⟩⟩
def bAnd (f g : Eb) : Eb := fun env h => (f env h).bind fun b h1 => match b with
  | true => g env h1
  | false => .ok false h1
def bOr (f g : Eb) : Eb := fun env h => (f env h).bind fun b h1 => match b with
  | true => .ok true h1
  | false => g env h1
def bNot (f : Eb) : Eb := fun env h => (f env h).bind fun b h1 => .ok (!b) h1
variable {p q : Eb} {rest : List Expr}
theorem sw_st {e : Expr} (h : SW X W e p) : ST X W e p := ⟨h.pw.pt⟩
theorem sw_and1 (ha : ST X W a p) : SW X W (.BoolOp .And [a] pos) p := ⟨pw_and1 ha.pt⟩
theorem sw_or1 (ha : ST X W a p) : SW X W (.BoolOp .Or [a] pos) p := ⟨pw_or1 ha.pt⟩
theorem rd_id {α β : Type} {rl : Hp → List Addr → β → α → Prop} {f : Env' → Sto → Res α} {σ : L2.St} {H : Hp} {m : List Addr} {h : Sto} {env : Env'} {Q : β → Hp → Prop} (sta : Sta X.K X.mg H m h) (sl : Sl X.K H m σ env) (out : Out X W rl σ H m (f env h) Q) : rd X W rl f σ H Q := ⟨env, m, h, sta, sl, out⟩
theorem sw_and (ha : ST X W a p) (hb : SW X W (.BoolOp .And (b :: rest) pos) q) : SW X W (.BoolOp .And (a :: b :: rest) pos) (bAnd p q) :=
  ⟨pw_imp (pw_and ha.pt hb.pw) fun σ H Q ⟨env, m, h, sta, sl, out⟩ => rd_of sta sl out fun u h1 x H1 m1 g1 s1 r1 out1 => by
    cases r1
    cases u with
    | true => rw [if_pos rfl]; exact rd_id s1 (sl.gr g1) out1
    | false => rw [if_neg Bool.false_ne_true]; exact Out.here (b := false) out1 s1 rfl⟩
theorem sw_or (ha : ST X W a p) (hb : SW X W (.BoolOp .Or (b :: rest) pos) q) : SW X W (.BoolOp .Or (a :: b :: rest) pos) (bOr p q) :=
  ⟨pw_imp (pw_or ha.pt hb.pw) fun σ H Q ⟨env, m, h, sta, sl, out⟩ => rd_of sta sl out fun u h1 x H1 m1 g1 s1 r1 out1 => by
    cases r1
    cases u with
    | true => rw [if_pos rfl]; exact Out.here (b := true) out1 s1 rfl
    | false => rw [if_neg Bool.false_ne_true]; exact rd_id s1 (sl.gr g1) out1⟩
theorem st_not (ha : ST X W a p) : ST X W (.UnaryOp .Not a pos) (bNot p) :=
  ⟨pt_imp (pt_not ha.pt) fun σ H Q ⟨env, m, h, sta, sl, out⟩ => rd_of sta sl out fun u h1 x H1 m1 g1 s1 r1 out1 => by
    cases r1
    exact Out.here (b := !u) out1 s1 rfl⟩
/-! .. as values -/
def eAnd (f g : Ev) : Ev := fun env h => (tB (f env h)).bind fun b h1 => match b with
  | true => g env h1
  | false => .ok (.d (.bool false)) h1
def eOr (f g : Ev) : Ev := fun env h => (tB (f env h)).bind fun b h1 => match b with
  | true => .ok (.d (.bool true)) h1
  | false => g env h1
def eNot (f : Ev) : Ev := fun env h => (tB (f env h)).bind fun b h1 => .ok (.d (.bool (!b))) h1
theorem rd_ofB {α β : Type} {rl : Hp → List Addr → β → α → Prop} {f : Ev} {k : Bool → Sto → Res α} {σ : L2.St} {H : Hp} {m : List Addr} {h : Sto} {env : Env'} {Q : β → Hp → Prop} {Q' : V → Hp → Prop} (sta : Sta X.K X.mg H m h) (sl : Sl X.K H m σ env)
    (out : Out X W rl σ H m ((tB (f env h)).bind k) Q) (nx : ∀ b h1 H1 m1, Gr H m H1 m1 → Sta X.K X.mg H1 m1 h1 → Out X W rl σ H1 m1 (k b h1) Q → Q' (.bl b) H1) : rd X W (rlU X.K) f σ H Q' := by
  unfold tB at out
  rw [bind_assoc] at out
  refine rd_of sta sl out fun u h1 x H1 m1 g1 s1 r1 out1 => ?_
  cases e : boolOf u with
  | none => rw [e] at out1; exact out1.elim
  | some b =>
    rw [e] at out1
    rw [boolOf_v e r1]
    exact nx b h1 H1 m1 g1 s1 out1
theorem se_one {op : BoolOp} (h : SE X W a f) : SE X W (.BoolOp op [a] pos) f := ⟨pe_one h.pe⟩
theorem se_and (ha : SE X W a f) (hb : SE X W (.BoolOp .And (b :: rest) pos) g) : SE X W (.BoolOp .And (a :: b :: rest) pos) (eAnd f g) :=
  ⟨pe_imp (pe_and ha.pe hb.pe) fun σ H Q ⟨env, m, h, sta, sl, out⟩ => rd_ofB sta sl out fun b h1 H1 m1 g1 s1 out1 => ⟨b, rfl, by
    cases b with
    | true => rw [if_pos rfl]; exact rd_id s1 (sl.gr g1) out1
    | false => rw [if_neg Bool.false_ne_true]; exact Out.here (b := V.bl false) out1 s1 (.d (.bl false))⟩⟩
theorem se_or (ha : SE X W a f) (hb : SE X W (.BoolOp .Or (b :: rest) pos) g) : SE X W (.BoolOp .Or (a :: b :: rest) pos) (eOr f g) :=
  ⟨pe_imp (pe_or ha.pe hb.pe) fun σ H Q ⟨env, m, h, sta, sl, out⟩ => rd_ofB sta sl out fun b h1 H1 m1 g1 s1 out1 => ⟨b, rfl, by
    cases b with
    | false => rw [if_neg Bool.false_ne_true]; exact rd_id s1 (sl.gr g1) out1
    | true => rw [if_pos rfl]; exact Out.here (b := V.bl true) out1 s1 (.d (.bl true))⟩⟩
theorem se_not (ha : SE X W a f) : SE X W (.UnaryOp .Not a pos) (eNot f) :=
  ⟨pe_imp (pe_not ha.pe) fun σ H Q ⟨env, m, h, sta, sl, out⟩ => rd_ofB sta sl out fun b h1 H1 m1 g1 s1 out1 => ⟨b, rfl, Out.here (b := V.bl (!b)) out1 s1 (.d (.bl _))⟩⟩

/-! ### arguments, displays -/
def aNil : Ea := fun _ h => .ok [] h
def aCons (f : Ev) (r : Ea) : Ea := fun env h => (f env h).bind fun u h1 => (r env h1).bind fun us h2 => .ok (u :: us) h2
theorem sa_nil : SA X W [] aNil := ⟨pa_imp pa_nil fun σ H Q ⟨env, m, h, sta, sl, out⟩ => Out.here (b := ([] : List V)) out sta .nil⟩
theorem sa_cons {e : Expr} {es : List Expr} {r : Ea} (ha : SE X W e f) (hr : SA X W es r) (hs : starEach (e :: es) X.env = (false, eval e X.env) :: starEach es X.env := by rfl) : SA X W (e :: es) (aCons f r) :=
  ⟨pa_imp (pa_cons ha.pe hr.pa hs) fun σ H Q ⟨env, m, h, sta, sl, out⟩ => rd_of sta sl out fun u h1 x H1 m1 g1 s1 r1 out1 => rd_of s1 (sl.gr g1) out1 fun us h2 xs H2 m2 g2 s2 r2 out2 =>
    Out.here (b := x :: xs) out2 s2 (.cons (RU.kp g2.kp g2.pre _ _ r1) r2)⟩
def allD : List U → Option (List D)
  | [] => some []
  | .d x :: r => match allD r with
    | some xs => some (x :: xs)
    | none => none
  | _ :: _ => none
theorem allD_v {K : PySem.W.Frag} {H : Hp} {m : List Addr} : ∀ {us : List U} {vs : List V} {ds : List D}, allD us = some ds → RUs K H m vs us → RDs K H vs ds
  | [], _, _, e, r => by cases e; cases r; exact .nil
  | .d x :: us, _, _, e, r => by
    unfold allD at e
    split at e
    · rename_i xs q
      cases e
      cases r with
      | cons a b => exact .cons a.rd (allD_v q b)
    · cases e
  | .ref _ :: _, _, _, e, _ => by cases e
  | .tup _ :: _, _, _, e, _ => by cases e
def eTup (r : Ea) : Ev := fun env h => (r env h).bind fun us h1 => if us.length ≤ 1000 then (match allD us with
  | some ds => .ok (.d (.tuple ds)) h1
  | none => .ok (.tup us) h1) else .stuck
theorem line1000 {n : Nat} (h : n ≤ 1000) : n ≤ sizeLine := by rw [sizeLine_eq]; omega
theorem se_tup {es : List Expr} {r : Ea} {x1 : Nat} (h : SA X W es r) : SE X W (.Tuple es x1 pos) (eTup r) :=
  ⟨pe_imp (pe_tup h.pa) fun σ H Q ⟨env, m, h, sta, sl, out⟩ => rd_of sta sl out fun us h1 xs H1 m1 g1 s1 r1 out1 => by
    split at out1
    · rename_i hz
      refine ⟨by rw [RUs.len r1]; exact line1000 hz, fun p np => ?_⟩
      have sm : Same H1 (upd H1 p (.tup xs)) := Same.lay np
      split at out1
      · rename_i ds e
        exact Out.ok (b := V.ref p) out1 (Gr.of_same sm m1) (s1.same sm) (.d (.tup (.inl (.inl upd_same)) (RDs.kp (Kp.same sm) _ _ (allD_v e r1))))
      · exact Out.ok (b := V.ref p) out1 (Gr.of_same sm m1) (s1.same sm) (.tup (.inl (.inl upd_same)) (RUs.kp (Kp.same sm) ⟨[], by simp⟩ _ _ r1))
    · exact out1.elim⟩
def eLst (b : Bool) (r : Ea) : Ev := fun env h => (r env h).bind fun us h1 => if us.length ≤ 1000 then (match allD us with
  | some ds => mkL b ds h1
  | none => .stuck) else .stuck
theorem se_lst (b : Bool) {es : List Expr} {r : Ea} (h : SA X W es r) : SE X W (.List es pos) (eLst b r) :=
  ⟨pe_imp (pe_gh (pe_lst h.pa)) fun σ H Q ⟨env, m, h, sta, sl, out⟩ => rd_of sta sl out fun us h1 xs H1 m1 g1 s1 r1 out1 => by
    split at out1
    · rename_i hz
      refine ⟨by rw [RUs.len r1]; exact line1000 hz, fun p np => ?_⟩
      split at out1
      · rename_i ds e
        exact mkL_ok s1 np (allD_v e r1) out1
      · exact out1.elim
    · exact out1.elim⟩

/-! ### a[i], a[i:j] -/
def opIx (u w : U) (h : Sto) : Res U := match intOf w with
  | none => .stuck
  | some i => match tupOf u with
    | some xs => (match atI xs i with | some x => .ok (.d x) h | none => .stuck)
    | none => match listOf h u with
      | some xs => (match atI xs i with | some x => .ok (.d x) h | none => .stuck)
      | none => match u with
        | .tup us => (match atI us i with | some x => .ok x h | none => .stuck)
        | _ => .stuck
theorem atI_rds {K : PySem.W.Frag} {H : Hp} {vs : List V} {ds : List D} {i : Int} {d : D} (r : RDs K H vs ds) (e : atI ds i = some d) : ∃ v, atI vs i = some v ∧ RD K H v d := by
  unfold atI at e ⊢
  rw [r.len]
  cases q : ixN ds.length i with
  | none => rw [q] at e; cases e
  | some j =>
    rw [q] at e
    exact r.get e
theorem atI_rus {K : PySem.W.Frag} {H : Hp} {m : List Addr} {vs : List V} {ds : List U} {i : Int} {d : U} (r : RUs K H m vs ds) (e : atI ds i = some d) : ∃ v, atI vs i = some v ∧ RU K H m v d := by
  unfold atI at e ⊢
  rw [r.len]
  cases q : ixN ds.length i with
  | none => rw [q] at e; cases e
  | some j =>
    rw [q] at e
    exact r.get e
theorem se_ix (hs : PlainIx b) (ha : SE X W a f) (hb : SE X W b g) : SE X W (.Subscript a b pos) (eBin opIx f g) :=
  ⟨pe_imp (pe_ix ix_seq ha.pe hb.pe hs) fun σ H Q ⟨env, m, h, sta, sl, out⟩ => rd_of sta sl out fun u h1 x H1 m1 g1 s1 r1 out1 => rd_of s1 (sl.gr g1) out1 fun w h2 y H2 m2 g2 s2 r2 out2 => by
    have ru := RU.kp g2.kp g2.pre _ _ r1
    unfold opIx at out2
    split at out2
    · exact out2.elim
    · rename_i i ei
      have ey := intOf_v ei r2
      split at out2
      · rename_i xs e
        obtain ⟨p, vs, rfl, t1, d1⟩ := tupOf_v e ru
        split at out2
        · rename_i d ed
          obtain ⟨v, h3, h4⟩ := atI_rds d1 ed
          exact .inr (.inl ⟨p, vs, i, v, rfl, ey, t1, h3, Out.here out2 s2 (.d h4)⟩)
        · exact out2.elim
      · split at out2
        · rename_i xs e
          obtain ⟨p, vs, rfl, t1, d1⟩ := listOf_v s2 e ru
          split at out2
          · rename_i d ed
            obtain ⟨v, h3, h4⟩ := atI_rds d1 ed
            exact .inl ⟨p, vs, i, v, rfl, ey, t1, h3, Out.here out2 s2 (.d h4)⟩
          · exact out2.elim
        · split at out2
          · split at out2
            · rename_i d ed
              cases ru with
              | tup t1 d1 =>
                obtain ⟨v, h3, h4⟩ := atI_rus d1 ed
                exact .inr (.inl ⟨_, _, i, v, rfl, ey, t1, h3, Out.here out2 s2 h4⟩)
            · exact out2.elim
          · exact out2.elim⟩
end
end Wk

/-! T3: freezing, calls, statements, loops, comprehensions, defs. -/
namespace Wk
open PySem PySem.Spec PyProof.Rows L2

/-! ### what is handed on is frozen -/
mutual
def refsOf : U → List Nat
  | .d _ => []
  | .ref n => [n]
  | .tup us => refsOfs us
  | .exn _ => []
def refsOfs : List U → List Nat
  | [] => []
  | u :: us => refsOf u ++ refsOfs us
end
def fzO : Ob → Ob
  | .lst xs => .frz xs
  | .lsu us => .fzu us
  | o => o
def fzH (ns : List Nat) (h : Sto) : Sto := h.mapIdx fun i o => if i ∈ ns then fzO o else o
def fzR (u : U) (h : Sto) : Res U := match u with
  | .d x => .ok (.d x) h
  | u => match dataOf h u with
    | some x => .ok (.d x) (fzH (refsOf u) h)
    | none => .stuck
def eFz (f : Ev) : Ev := fun env h => (f env h).bind fzR
section
variable {K : PySem.W.Frag} {mg : Str → Option Value} {H H' : Hp} {m : List Addr} {h : Sto}
def fzA (m : List Addr) (ns : List Nat) : List Addr := ns.filterMap fun n => m[n]?
theorem mem_fzA {ns : List Nat} {a : Addr} (hm : a ∈ fzA m ns) : ∃ i ∈ ns, m[i]? = some a := by
  obtain ⟨i, h1, h2⟩ := List.mem_filterMap.mp hm
  exact ⟨i, h1, h2⟩
theorem fzA_mem {ns : List Nat} {a : Addr} {i : Nat} (h1 : i ∈ ns) (h2 : m[i]? = some a) : a ∈ fzA m ns := List.mem_filterMap.mpr ⟨i, h1, h2⟩
theorem fz_gr {ns : List Nat} (f : Fz (fzA m ns) H H') : Gr H m H' m :=
  ⟨⟨[], by simp⟩, fun a o e n => by
    rcases f.alt a with z | ⟨z, _⟩
    · exact z.trans e
    · obtain ⟨i, _, q⟩ := mem_fzA z
      exact absurd (List.mem_of_getElem? q) n, fun _ z n => absurd z n, f.kp⟩
theorem fz_sta {ns : List Nat} (s : Sta K mg H m h) (f : Fz (fzA m ns) H H') : Sta K mg H' m (fzH ns h) := by
  refine ⟨s.nd, by unfold fzH; rw [List.length_mapIdx]; exact s.len, fun i a o h1 h2 => ?_⟩
  unfold fzH at h2
  rw [List.getElem?_mapIdx] at h2
  obtain ⟨o0, e0, r0⟩ := s.at_ h1
  rw [e0] at h2
  have e2 : (if i ∈ ns then fzO o0 else o0) = o := Option.some.inj h2
  have stay : H' a = H a → RO K mg H' m a o0 := fun e => r0.mono e f.kp ⟨[], by simp⟩
  have nfz : i ∉ ns → H' a = H a := fun hn => by
    rcases f.alt a with z | ⟨z, _⟩
    · exact z
    · obtain ⟨j, hj, q⟩ := mem_fzA z
      rw [nd_ix s.nd h1 q] at hn
      exact absurd hj hn
  by_cases hi : i ∈ ns
  · rw [if_pos hi] at e2
    subst e2
    cases o0 with
    | lst xs =>
      obtain ⟨vs, k1, k2⟩ := r0
      obtain ⟨o, k3⟩ := f.did a (fzA_mem hi h1) vs k1
      exact ⟨o, vs, k3, RDs.kp f.kp _ _ k2⟩
    | frz xs =>
      obtain ⟨o, vs, k1, k2⟩ := r0
      exact ⟨o, vs, f.kp.frz _ _ _ k1, RDs.kp f.kp _ _ k2⟩
    | ins c fs =>
      refine stay ?_
      rcases f.alt a with z | ⟨_, _, vs, q, _⟩
      · exact z
      · obtain ⟨C, dx, gs, _, k, _⟩ := r0
        rw [k] at q; cases q
    | dct kvs =>
      refine stay ?_
      rcases f.alt a with z | ⟨_, _, vs, q, _⟩
      · exact z
      · obtain ⟨gs, k, _⟩ := r0
        rw [k] at q; cases q
    | lsu us =>
      obtain ⟨vs, k1, k2⟩ := r0
      obtain ⟨o, k3⟩ := f.did a (fzA_mem hi h1) vs k1
      exact ⟨o, vs, k3, RUs.kp f.kp ⟨[], by simp⟩ _ _ k2⟩
    | fzu us =>
      obtain ⟨o, vs, k1, k2⟩ := r0
      exact ⟨o, vs, f.kp.frz _ _ _ k1, RUs.kp f.kp ⟨[], by simp⟩ _ _ k2⟩
    | dtp kvs =>
      refine stay ?_
      rcases f.alt a with z | ⟨_, _, vs, q, _⟩
      · exact z
      · obtain ⟨gs, k, _⟩ := r0
        rw [k] at q; cases q
    | fdt kvs =>
      refine stay ?_
      rcases f.alt a with z | ⟨_, _, vs, q, _⟩
      · exact z
      · obtain ⟨o, gs, k, _⟩ := r0
        rw [k] at q; cases q
  · rw [if_neg hi] at e2
    subst e2
    exact stay (nfz hi)
mutual
theorem fz_rd (s : Sta K mg H m h) {ns : List Nat} (f : Fz (fzA m ns) H H') : ∀ (u : U) (v : V) (d : D), (∀ n ∈ refsOf u, n ∈ ns) → dataOf h u = some d → RU K H m v u → RD K H' v d
  | .d x, v, d, _, e, r => by
    rw [dataOf] at e
    cases e
    exact RD.kp f.kp _ _ r.rd
  | .ref n, v, d, sub, e, r => by
    rw [dataOf] at e
    cases r with
    | ref hm =>
      rename_i a
      have hn : n ∈ ns := sub n (by rw [refsOf]; exact List.mem_singleton.mpr rfl)
      obtain ⟨o0, e0, r0⟩ := s.at_ hm
      unfold listOf at e
      simp only [e0] at e
      cases o0 with
      | lst xs =>
        cases e
        obtain ⟨vs, k1, k2⟩ := r0
        obtain ⟨o, k3⟩ := f.did a (fzA_mem hn hm) vs k1
        exact .lst (.inl ⟨o, k3⟩) (RDs.kp f.kp _ _ k2)
      | frz xs =>
        cases e
        obtain ⟨o, vs, k1, k2⟩ := r0
        exact .lst (.inl ⟨o, f.kp.frz _ _ _ k1⟩) (RDs.kp f.kp _ _ k2)
      | ins c fs => cases e
      | dct kvs => cases e
      | lsu us => cases e
      | fzu us => cases e
      | dtp kvs => cases e
      | fdt kvs => cases e
  | .tup us, v, d, sub, e, r => by
    rw [dataOf] at e
    cases q : datasOf h us with
    | none => rw [q] at e; cases e
    | some xs =>
      rw [q] at e
      cases e
      cases r with
      | tup t b => exact .tup (f.kp.sqT t) (fz_rds s f us _ xs (fun n hn => sub n (by rw [refsOf]; exact hn)) q b)
  | .exn a, v, d, sub, e, r => by
    rw [dataOf] at e
    cases e
theorem fz_rds (s : Sta K mg H m h) {ns : List Nat} (f : Fz (fzA m ns) H H') : ∀ (us : List U) (vs : List V) (ds : List D), (∀ n ∈ refsOfs us, n ∈ ns) → datasOf h us = some ds → RUs K H m vs us → RDs K H' vs ds
  | [], vs, ds, _, e, r => by
    rw [datasOf] at e
    cases e
    cases r
    exact .nil
  | u :: us, vs, ds, sub, e, r => by
    rw [datasOf] at e
    split at e
    · rename_i x xs e1 e2
      cases e
      cases r with
      | cons a b => exact .cons (fz_rd s f u _ x (fun n hn => sub n (by rw [refsOfs]; exact List.mem_append_left _ hn)) e1 a) (fz_rds s f us _ xs (fun n hn => sub n (by rw [refsOfs]; exact List.mem_append_right _ hn)) e2 b)
    · cases e
end
end
theorem fzR_ok {X : Cx} {W : WX} {σ : L2.St} {H : Hp} {m : List Addr} {h : Sto} {u : U} {v : V} {Q : VK} (s : Sta X.K X.mg H m h) (r : RU X.K H m v u) (out : Out X W (rlU X.K) σ H m (fzR u h) Q) : gh Q v H := by
  have gen : (∀ x, u ≠ .d x) → gh Q v H := fun nd => by
    have out' : Out X W (rlU X.K) σ H m (match dataOf h u with | some x => .ok (.d x) (fzH (refsOf u) h) | none => .stuck) Q := by
      cases u with
      | d x => exact absurd rfl (nd x)
      | ref n => exact out
      | tup us => exact out
      | exn a => exact out
    cases e : dataOf h u with
    | none => rw [e] at out'; exact out'.elim
    | some x =>
      rw [e] at out'
      exact ⟨fzA m (refsOf u), fun H' f => Out.ok out' (fz_gr f) (fz_sta s f) (.d (fz_rd s f u v x (fun _ hn => hn) e r))⟩
  cases u with
  | d x => exact gh.no (Out.here out s r)
  | ref n => exact gen fun x z => nomatch z
  | tup us => exact gen fun x z => nomatch z
  | exn a => exact gen fun x z => nomatch z
theorem se_fz {X : Cx} {W : WX} {e : Expr} {f : Ev} (h : SE X W e f) : SE X W e (eFz f) :=
  ⟨pe_imp (pe_gh h.pe) fun σ H Q ⟨env, m, h, sta, sl, out⟩ => rd_of sta sl out fun u h1 v H1 m1 g1 s1 r1 out1 => fzR_ok s1 r1 out1⟩

/-! ### defs that take data and give data -/
inductive PR where
  | ok (d : D)
  | exc (c : Str)
  | stuck
abbrev PF := List D → PR
def PR.res (r : PR) (h : Sto) : Res U := match r with
  | .ok d => .ok (.d d) h
  | .exc c => .exc c h
  | .stuck => .stuck
def spP (K : PySem.W.Frag) (mg : Str → Option Value) (n : Nat) (F : PF) : Sp := fun vs H Q E => ∃ ds, RDs K H vs ds ∧ vs.length = n ∧ match F ds with
  | .ok d => ∀ v H', Same H H' → RD K H' v d → Q v H'
  | .exc c => ∀ H', Same H H' → ∀ C, mg c = some (.ref C) → E (.ref C) none H'
  | .stuck => False
structure FnP (P : Program) (w : World) (K : PySem.W.Frag) (mg : Str → Option Value) (base : Heap) (k : Nat) (name : Str) (ps : List Str) (F : PF) : Prop where
  ex : ∃ f fd, mg name = some (.ref f) ∧ PySem.W.keepIn K (.ref f) = true ∧ Binds K fd ps [] ∧ FnOk P w K mg base (L2.CX P w) k f fd ps (spP K mg ps.length F)
theorem FnP.mono {P : Program} {w : World} {K : PySem.W.Frag} {mg : Str → Option Value} {base : Heap} {j k : Nat} {name : Str} {ps : List Str} {F : PF} (h : FnP P w K mg base j name ps F) (l : j ≤ k) : FnP P w K mg base k name ps F := by
  obtain ⟨f, fd, h1, h2, h3, h4⟩ := h.ex
  exact ⟨f, fd, h1, h2, h3, h4.mono l⟩
/-- how many arguments there are -/
def aLen (fa : Ea) (n : Nat) : Prop := ∀ us env h h', fa env h = .ok us h' → us.length = n
theorem aLen_nil : aLen aNil 0 := fun us env h h' e => by cases e; rfl
theorem aLen_cons {f : Ev} {r : Ea} {n : Nat} (hr : aLen r n) : aLen (aCons f r) (n + 1) := fun us env h h' e => by
  unfold aCons at e
  cases q : f env h with
  | stuck => rw [q] at e; cases e
  | exc c h1 => rw [q] at e; cases e
  | ok u h1 =>
    rw [q] at e
    rw [Res.bind_ok] at e
    cases q2 : r env h1 with
    | stuck => rw [q2] at e; cases e
    | exc c h2 => rw [q2] at e; cases e
    | ok us' h2 =>
      rw [q2] at e
      cases e
      rw [List.length_cons, hr us' env h1 _ q2]
/-- what the calls of a context let out is taken -/
def TakesC (X : Cx) (W : WX) : Prop := ∀ σ, PassesAt (L2.CX X.prog X.w) X σ (WE W σ)
theorem TakesC.c {X : Cx} {W : WX} (tk : TakesC X W) : TakesC X W := tk
theorem _root_.L2.Takes.c {X : Cx} {W : WX} (tk : Takes X W) : TakesC X W := fun σ => passAt tk σ
def eCall (F : PF) (fa : Ea) : Ev := fun env h => (fa env h).bind fun us h1 => match allD us with
  | some ds => (F ds).res h1
  | none => .stuck
section
variable {X : Cx} {W : WX} {k j : Nat} {x : Str} {p pos : Pos} {e : Expr} {es : List Expr} {ps : List Str} {F : PF} {fa : Ea}
theorem spP_of {σ : L2.St} {H : Hp} {m : List Addr} {h : Sto} {us : List U} {ds : List D} {vs : List V} {Q : VK} {n : Nat} (s : Sta X.K X.mg H m h) (r : RUs X.K H m vs us) (e : allD us = some ds) (hn : ds.length = n) (out : Out X W (rlU X.K) σ H m ((F ds).res h) Q) :
    spP X.K X.mg n F vs H Q (WE W σ) := by
  refine ⟨ds, allD_v e r, (allD_v e r).len.trans hn, ?_⟩
  generalize F ds = q at out
  cases q with
  | ok d => exact fun v H' sm rd => Out.ok (b := v) out (Gr.of_same sm m) (s.same sm) (.d rd)
  | exc c => exact fun H' sm C hC => (show ∀ H' m', Gr H m H' m' → Sta X.K X.mg H' m' h → ExW X W c σ H' from out) H' m (Gr.of_same sm m) (s.same sm) C hC
  | stuck => exact out
theorem se_call (tk : TakesC X W) (f : FnP X.prog X.w X.K X.mg X.base k x ps F) (hr : Room k X.A) (hg : Gl X x) (ha : SA X W (e :: es) fa) (hn : aLen fa ps.length)
    (hdb : (x == ("__debug__" : Str)) = false := by decide) (he : starEach (e :: es) X.env = (false, eval e X.env) :: starEach es X.env := by rfl) (hpl : (backTo pos (starEach es X.env)).any (·.1) = false := by rfl) :
    SE X W (.Call (.Name x p) (e :: es) [] pos) (eCall F fa) := by
  obtain ⟨fa', fd, h1, h2, h3, h4⟩ := f.ex
  refine ⟨pe_imp (pe_callS h4 hr hg h1 h2 h3 tk ha.pa hdb he hpl) fun σ H Q ⟨env, m, h, sta, sl, out⟩ => ?_⟩
  have hl := fun us => hn us env h
  refine ⟨env, m, h, sta, sl, ?_⟩
  unfold eCall at out
  generalize hq : fa env h = q at out
  cases q with
  | stuck => exact out
  | exc c h1 => exact out
  | ok us h1 =>
    intro vs H1 m1 g1 s1 r1
    have out1 : Out X W (rlU X.K) σ H1 m1 (match allD us with | some ds => (F ds).res h1 | none => .stuck) Q := Out.gr out g1
    cases ed : allD us with
    | none => rw [ed] at out1; exact out1.elim
    | some ds =>
      rw [ed] at out1
      exact spP_of s1 r1 ed (by rw [← (allD_v ed r1).len, RUs.len r1]; exact hl us h1 hq) out1
end

/-! ### built-in functions and types -/
def eB (F : List U → Sto → Res U) (fa : Ea) : Ev := fun env h => (fa env h).bind F
def AbC (X : Cx) (W : WX) (F : List U → Sto → Res U) (r : List V → Hp → VK → Prop) : Prop := ∀ (σ : L2.St) (H : Hp) (m : List Addr) (h : Sto) (xs : List V) (us : List U) (Q : VK), Sta X.K X.mg H m h → RUs X.K H m xs us → Out X W (rlU X.K) σ H m (F us h) Q → r xs H Q
theorem gh_call {X : Cx} {f : Value} {r : List V → Hp → VK → Prop} (h : CallR X f r) : CallR X f (fun xs H Q => r xs H (gh Q)) := by
  intro pins s σ H xs us Q I rx q
  refine thn (h pins s σ H xs us _ I rx q) fun z s1 ⟨zv, H1, I1, rz, S, q1⟩ => ?_
  obtain ⟨H2, f2, I2⟩ := inv_fz S I1
  exact ⟨zv, H2, I2, rz, q1 H2 f2⟩
section
variable {X : Cx} {W : WX} {x : Str} {p pos : Pos} {e : Expr} {es : List Expr} {fa : Ea} {id T : String} {r : List V → Hp → VK → Prop} {F : List U → Sto → Res U}
theorem se_callB (hc : CallR X (.builtin id) r) (ab : AbC X W F r) (hg : Gl X x) (hm : X.mg x = none) (hv : bootBuiltins x = some (.builtin id)) (ha : SA X W (e :: es) fa) (hn : x ≠ "__name__" := by decide) (hdb : (x == ("__debug__" : Str)) = false := by decide)
    (he : starEach (e :: es) X.env = (false, eval e X.env) :: starEach es X.env := by rfl) (hpl : (backTo pos (starEach es X.env)).any (·.1) = false := by rfl) : SE X W (.Call (.Name x p) (e :: es) [] pos) (eB F fa) :=
  ⟨pe_imp (pe_callB hc hg hm hv ha.pa hn hdb he hpl) fun σ H Q ⟨env, m, h, sta, sl, out⟩ => rd_of sta sl out fun us h1 xs H1 m1 g1 s1 r1 out1 => ab σ H1 m1 h1 xs us Q s1 r1 out1⟩
theorem se_callTy (hc : CallR X (.type T) r) (ab : AbC X W F r) (hg : Gl X x) (hm : X.mg x = none) (hv : bootBuiltins x = some (.type T)) (ha : SA X W (e :: es) fa) (hn : x ≠ "__name__" := by decide) (hdb : (x == ("__debug__" : Str)) = false := by decide)
    (he : starEach (e :: es) X.env = (false, eval e X.env) :: starEach es X.env := by rfl) (hpl : (backTo pos (starEach es X.env)).any (·.1) = false := by rfl) : SE X W (.Call (.Name x p) (e :: es) [] pos) (eB F fa) :=
  ⟨pe_imp (pe_callTy hc hg hm hv ha.pa hn hdb he hpl) fun σ H Q ⟨env, m, h, sta, sl, out⟩ => rd_of sta sl out fun us h1 xs H1 m1 g1 s1 r1 out1 => ab σ H1 m1 h1 xs us Q s1 r1 out1⟩
/-- len -/
noncomputable def lenOf (h : Sto) (u : U) : Option Nat := match tupOf u with
  | some xs => some xs.length
  | none => match listOf h u with
    | some xs => some xs.length
    | none => match strOf u with
      | some x => if fits x.length then some x.length else none
      | none => match u with
        | .tup us => some us.length
        | _ => none
noncomputable def fLen (us : List U) (h : Sto) : Res U := match us with
  | [u] => (match lenOf h u with
    | some n => .ok (.d (.int n)) h
    | none => .stuck)
  | _ => .stuck
theorem ab_len : AbC X W fLen (fun xs H Q => ∃ x n, xs = [x] ∧ LenV X.K x H n ∧ Q (.int n) H) := by
  intro σ H m h xs us Q s r out
  unfold fLen at out
  split at out
  · rename_i u
    cases r with
    | cons ru rn =>
      rename_i v vs
      cases rn
      split at out
      · rename_i n e
        refine ⟨v, n, rfl, ?_, Out.here (b := V.int n) out s (.d (.int _))⟩
        unfold lenOf at e
        split at e
        · rename_i ys ey
          cases e
          obtain ⟨p, ws, rfl, t1, d1⟩ := tupOf_v ey ru
          exact .inr ⟨ws, t1, d1.len.symm⟩
        · split at e
          · rename_i ys ey
            cases e
            obtain ⟨p, ws, rfl, t1, d1⟩ := listOf_v s ey ru
            exact .inl ⟨ws, t1, d1.len.symm⟩
          · split at e
            · rename_i y ey
              split at e
              · rename_i hz
                cases e
                rw [strOf_v ey ru]
                exact ⟨ask_iff.mp hz, rfl⟩
              · cases e
            · split at e
              · cases e
                cases ru with
                | tup t b => exact .inr ⟨_, t, (RUs.len b).symm⟩
              · cases e
      · exact out.elim
  · exact out.elim
/-- one int, two ints -/
def fI1 (g : Int → Int) (us : List U) (h : Sto) : Res U := match us with
  | [u] => (match intOf u with
    | some i => .ok (.d (.int (g i))) h
    | none => .stuck)
  | _ => .stuck
def fI2 (g : Int → Int → Int) (us : List U) (h : Sto) : Res U := match us with
  | [u, w] => (match intOf u, intOf w with
    | some i, some j => .ok (.d (.int (g i j))) h
    | _, _ => .stuck)
  | _ => .stuck
abbrev fAbs := fI1 fun i => if i < 0 then -i else i
abbrev fMax := fI2 fun i j => if j > i then j else i
abbrev fMin := fI2 fun i j => if j < i then j else i
theorem ab_i1 (g : Int → Int) : AbC X W (fI1 g) (fun xs H Q => ∃ i, xs = [.int i] ∧ Q (.int (g i)) H) := by
  intro σ H m h xs us Q s r out
  unfold fI1 at out
  split at out
  · cases r with
    | cons ru rn =>
      cases rn
      split at out
      · rename_i i e
        exact ⟨i, by rw [intOf_v e ru], Out.here (b := V.int _) out s (.d (.int _))⟩
      · exact out.elim
  · exact out.elim
theorem ab_i2 (g : Int → Int → Int) : AbC X W (fI2 g) (fun xs H Q => ∃ i j, xs = [.int i, .int j] ∧ Q (.int (g i j)) H) := by
  intro σ H m h xs us Q s r out
  unfold fI2 at out
  split at out
  · cases r with
    | cons ru rn =>
      cases rn with
      | cons rw rn =>
        cases rn
        split at out
        · rename_i i j e1 e2
          exact ⟨i, j, by rw [intOf_v e1 ru, intOf_v e2 rw], Out.here (b := V.int _) out s (.d (.int _))⟩
        · exact out.elim
  · exact out.elim
/-- int(x) -/
def fInt (us : List U) (h : Sto) : Res U := match us with
  | [u] => (match intOf u with
    | some i => .ok (.d (.int i)) h
    | none => match boolOf u with
      | some b => .ok (.d (.int (if b then 1 else 0))) h
      | none => .stuck)
  | _ => .stuck
theorem ab_intOf : AbC X W fInt (fun xs H Q => (∃ i, xs = [.int i] ∧ Q (.int i) H) ∨ ∃ k, xs = [.bl k] ∧ Q (.int (if k then 1 else 0)) H) := by
  intro σ H m h xs us Q s r out
  unfold fInt at out
  split at out
  · cases r with
    | cons ru rn =>
      cases rn
      split at out
      · rename_i i e
        exact .inl ⟨i, by rw [intOf_v e ru], Out.here (b := V.int _) out s (.d (.int _))⟩
      · split at out
        · rename_i b e
          exact .inr ⟨b, by rw [boolOf_v e ru], Out.here (b := V.int _) out s (.d (.int _))⟩
        · exact out.elim
  · exact out.elim
/-- list(x), tuple(x) -/
def seqOf (h : Sto) (u : U) : Option (List D) := match tupOf u with
  | some xs => some xs
  | none => listOf h u
def fList (b : Bool) (us : List U) (h : Sto) : Res U := match us with
  | [u] => (match seqOf h u with
    | some xs => mkL b xs h
    | none => .stuck)
  | _ => .stuck
def fTuple (us : List U) (h : Sto) : Res U := match us with
  | [u] => (match seqOf h u with
    | some xs => .ok (.d (.tuple xs)) h
    | none => .stuck)
  | _ => .stuck
theorem seqOf_v {K : PySem.W.Frag} {mg : Str → Option Value} {H : Hp} {m : List Addr} {h : Sto} {v : V} {u : U} {xs : List D} (s : Sta K mg H m h) (e : seqOf h u = some xs) (r : RU K H m v u) : ∃ a vs, v = .ref a ∧ (SqL K H a vs ∨ SqT K H a vs) ∧ RDs K H vs xs := by
  unfold seqOf at e
  split at e
  · rename_i ys ey
    cases e
    obtain ⟨p, ws, rfl, t1, d1⟩ := tupOf_v ey r
    exact ⟨p, ws, rfl, .inr t1, d1⟩
  · obtain ⟨p, ws, rfl, t1, d1⟩ := listOf_v s e r
    exact ⟨p, ws, rfl, .inl t1, d1⟩
theorem ab_list (b : Bool) : AbC X W (fList b) (fun xs H Q => ∃ p ys, xs = [.ref p] ∧ (SqL X.K H p ys ∨ SqT X.K H p ys) ∧ ∀ l, H l = none → gh Q (.ref l) (upd H l (.lst ys))) := by
  intro σ H m h xs us Q s r out
  unfold fList at out
  split at out
  · cases r with
    | cons ru rn =>
      cases rn
      split at out
      · rename_i ys e
        obtain ⟨p, ws, rfl, t1, d1⟩ := seqOf_v s e ru
        exact ⟨p, ws, rfl, t1, fun l nl => mkL_ok s nl d1 out⟩
      · exact out.elim
  · exact out.elim
theorem ab_tuple : AbC X W fTuple (fun xs H Q => ∃ p ys, xs = [.ref p] ∧ ((SqL X.K H p ys ∧ ∀ l, H l = none → Q (.ref l) (upd H l (.tup ys))) ∨ (SqT X.K H p ys ∧ Q (.ref p) H))) := by
  intro σ H m h xs us Q s r out
  unfold fTuple at out
  split at out
  · cases r with
    | cons ru rn =>
      cases rn
      split at out
      · rename_i ys e
        obtain ⟨p, ws, rfl, t1, d1⟩ := seqOf_v s e ru
        refine ⟨p, ws, rfl, ?_⟩
        rcases t1 with t1 | t1
        · exact .inl ⟨t1, fun l nl => by
            have sm : Same H (upd H l (.tup ws)) := Same.lay nl
            exact Out.ok (b := V.ref l) out (Gr.of_same sm m) (s.same sm) (.d (.tup (.inl (.inl upd_same)) (RDs.kp (Kp.same sm) _ _ d1)))⟩
        · exact .inr ⟨t1, Out.here (b := V.ref p) out s (.d (.tup t1 d1))⟩
      · exact out.elim
  · exact out.elim
end
/-! ### isinstance(x, T) -/
inductive Ty where | int | bool | str | tuple | list
def Ty.name : Ty → String
  | .int => "int" | .bool => "bool" | .str => "str" | .tuple => "tuple" | .list => "list"
def isTy (T : Ty) : D → Bool
  | .int _ => match T with | .int => true | _ => false
  | .bool _ => match T with | .int => true | .bool => true | _ => false
  | .str _ => match T with | .str => true | _ => false
  | .tuple _ => match T with | .tuple => true | _ => false
  | .list _ => match T with | .list => true | _ => false
  | _ => false
def isTyU (T : Ty) (h : Sto) : U → Option Bool
  | .d x => some (isTy T x)
  | .ref n => match listOf h (.ref n) with
    | some _ => some (match T with | .list => true | _ => false)
    | none => none
  | .tup _ => some (match T with | .tuple => true | _ => false)
  | .exn _ => none
def opIsi (T : Ty) (u : U) (h : Sto) : Res U := match isTyU T h u with
  | some b => .ok (.d (.bool b)) h
  | none => .stuck
theorem kt_non (T : Ty) : kitB "NoneType" T.name = some false := by cases T <;> decide +kernel
theorem kt_bl (T : Ty) : kitB "bool" T.name = some (match T with | .int => true | .bool => true | _ => false) := by cases T <;> decide +kernel
theorem kt_int (T : Ty) : kitB "int" T.name = some (match T with | .int => true | _ => false) := by cases T <;> decide +kernel
theorem kt_str (T : Ty) : kitB "str" T.name = some (match T with | .str => true | _ => false) := by cases T <;> decide +kernel
theorem kt_tup (T : Ty) : kitB "tuple" T.name = some (match T with | .tuple => true | _ => false) := by cases T <;> decide +kernel
theorem kt_lst (T : Ty) : kitB "list" T.name = some (match T with | .list => true | _ => false) := by cases T <;> decide +kernel
section
variable {X : Cx} {W : WX} {a : Expr} {f : Ev} {p p2 pos : Pos} {y : Str}
theorem isTy_v {K : PySem.W.Frag} {mg : Str → Option Value} {H : Hp} {m : List Addr} {h : Sto} {v : V} {u : U} {T : Ty} {b : Bool} (s : Sta K mg H m h) (e : isTyU T h u = some b) (r : RU K H m v u) : ∃ t, TyX K H v t ∧ PySem.W.kitOne K t (.type T.name) = some b := by
  cases r with
  | d rd =>
    cases e
    cases rd with
    | non => exact ⟨_, .base .non, kit_ty (kt_non T)⟩
    | bl i => exact ⟨_, .base (.bl _), kit_ty (kt_bl T)⟩
    | int i => exact ⟨_, .base (.int _), kit_ty (kt_int T)⟩
    | str i => exact ⟨_, .base (.str _), kit_ty (kt_str T)⟩
    | lst z _ =>
      rcases z with ⟨o, z⟩ | ⟨o, its, n, z1, z2, z3⟩
      · exact ⟨_, .base (.frz z), kit_ty (kt_lst T)⟩
      · exact ⟨_, .kList z1 z2, kit_ty (kt_lst T)⟩
    | tup z _ =>
      rcases z with (z | ⟨o, z⟩) | ⟨o, its, n, z1, z2, z3⟩
      · exact ⟨_, .base (.tup z), kit_ty (kt_tup T)⟩
      · exact ⟨_, .fTuple z, kit_ty (kt_tup T)⟩
      · exact ⟨_, .kTuple z1 z2, kit_ty (kt_tup T)⟩
  | ref hm =>
    obtain ⟨o0, e0, r0⟩ := s.at_ hm
    simp only [isTyU, listOf, e0] at e
    cases o0 with
    | lst xs =>
      cases e
      obtain ⟨vs, k1, _⟩ := r0
      exact ⟨_, .base (.lst k1), kit_ty (kt_lst T)⟩
    | frz xs =>
      cases e
      obtain ⟨o, vs, k1, _⟩ := r0
      exact ⟨_, .base (.frz k1), kit_ty (kt_lst T)⟩
    | ins c fs => cases e
    | dct kvs => cases e
    | lsu us => cases e
    | fzu us => cases e
    | dtp kvs => cases e
    | fdt kvs => cases e
  | tup z _ =>
    cases e
    rcases z with (z | ⟨o, z⟩) | ⟨o, its, n, z1, z2, z3⟩
    · exact ⟨_, .base (.tup z), kit_ty (kt_tup T)⟩
    · exact ⟨_, .fTuple z, kit_ty (kt_tup T)⟩
    · exact ⟨_, .kTuple z1 z2, kit_ty (kt_tup T)⟩
  | exn a => cases e
theorem se_isi (T : Ty) (hg : Gl X "isinstance") (hm : X.mg "isinstance" = none) (hg2 : Gl X y) (hm2 : X.mg y = none) (hv2 : bootBuiltins y = some (.type T.name)) (ha : SE X W a f) (hn2 : y ≠ "__name__" := by decide) (hd2 : (y == ("__debug__" : Str)) = false := by decide)
    (he : starEach [a, .Name y p2] X.env = (false, eval a X.env) :: starEach [.Name y p2] X.env := by rfl) (he2 : starEach [.Name y p2] X.env = (false, eval (.Name y p2) X.env) :: starEach [] X.env := by rfl)
    (hpl : (backTo pos (starEach [.Name y p2] X.env)).any (·.1) = false := by rfl) :
    SE X W (.Call (.Name "isinstance" p) [a, .Name y p2] [] pos) (eUn (opIsi T) f) :=
  ⟨pe_imp (pe_callB call_isi hg hm (by decide +kernel) (pa_cons ha.pe (pa_cons (pe_bltn (v := .ty T.name) hg2 hm2 hv2 rfl hn2 hd2) pa_nil he2) he) (by decide) (by decide) he hpl) fun σ H Q ⟨env, m, h, sta, sl, out⟩ => rd_of sta sl out fun u h1 x H1 m1 g1 s1 r1 out1 => by
    unfold opIsi at out1
    split at out1
    · rename_i b e
      obtain ⟨t, h2, h3⟩ := isTy_v s1 e r1
      exact ⟨x, .ty T.name, t, _, b, rfl, .ty _, h2, h3, Out.here (b := V.bl b) out1 s1 (.d (.bl b))⟩
    · exact out1.elim⟩
end
end Wk

/-! T4: statements, loops, comprehensions, defs. -/
namespace Wk
open PySem PySem.Spec PyProof.Rows L2

/-! ### statements -/
def OutS (X : Cx) (W : WX) (D : Ends) (H : Hp) (m : List Addr) : SRes → Prop
  | .next env' h' => ∀ σ' H' m', Gr H m H' m' → Sta X.K X.mg H' m' h' → Sl X.K H' m' σ' env' → D.nx σ' H'
  | .ret u h' => ∀ v H' m', Gr H m H' m' → Sta X.K X.mg H' m' h' → RU X.K H' m' v u → D.rt v H'
  | .exc c env' h' => ∀ σ' H' m', Gr H m H' m' → Sta X.K X.mg H' m' h' → Sl X.K H' m' σ' env' → ExW X W c σ' H'
  | .stuck => False
def rdS (X : Cx) (W : WX) (g : Es) : TS := fun D σ H => ∃ env m h, Sta X.K X.mg H m h ∧ Sl X.K H m σ env ∧ OutS X W D H m (g env h)
structure SS (X : Cx) (W : WX) (st : Stmt) (g : Es) : Prop where
  ps : PS X st (rdS X W g)
structure SSs (X : Cx) (W : WX) (st : List Stmt) (g : Es) : Prop where
  ps : PSs X st (rdS X W g)
theorem OutS.gr {X : Cx} {W : WX} {D : Ends} {H H1 : Hp} {m m1 : List Addr} {r : SRes} (o : OutS X W D H m r) (g : Gr H m H1 m1) : OutS X W D H1 m1 r := by
  cases r with
  | next env' h' => exact fun σ' H' m' g' => o σ' H' m' (g.trans g')
  | ret u h' => exact fun v H' m' g' => o v H' m' (g.trans g')
  | exc c env' h' => exact fun σ' H' m' g' => o σ' H' m' (g.trans g')
  | stuck => exact o
def SRes.seq (r : SRes) (k : Es) : SRes := match r with
  | .next env h => k env h
  | .ret u h => .ret u h
  | .exc c env h => .exc c env h
  | .stuck => .stuck
@[simp] theorem SRes.seq_next (env : Env') (h : Sto) (k : Es) : (SRes.next env h).seq k = k env h := (rfl)
@[simp] theorem SRes.seq_ret (u : U) (h : Sto) (k : Es) : (SRes.ret u h).seq k = .ret u h := (rfl)
@[simp] theorem SRes.seq_exc (c : Str) (env : Env') (h : Sto) (k : Es) : (SRes.exc c env h).seq k = .exc c env h := (rfl)
@[simp] theorem SRes.seq_stuck (k : Es) : (SRes.stuck).seq k = .stuck := (rfl)
def sNil : Es := fun env h => .next env h
def sSeq (a b : Es) : Es := fun env h => (a env h).seq b
/-- an expression, then a statement's end -/
def Res.then_ {α : Type} (r : Res α) (env : Env') (k : α → Sto → SRes) : SRes := match r with
  | .ok x h => k x h
  | .exc c h => .exc c env h
  | .stuck => .stuck
@[simp] theorem Res.then_ok {α : Type} (x : α) (h : Sto) (env : Env') (k : α → Sto → SRes) : (Res.ok x h).then_ env k = k x h := (rfl)
@[simp] theorem Res.then_exc {α : Type} (c : Str) (h : Sto) (env : Env') (k : α → Sto → SRes) : (Res.exc c h : Res α).then_ env k = .exc c env h := (rfl)
@[simp] theorem Res.then_stuck {α : Type} (env : Env') (k : α → Sto → SRes) : (Res.stuck : Res α).then_ env k = .stuck := (rfl)
section
variable {X : Cx} {W : WX} {D : Ends} {σ : L2.St} {H : Hp} {m : List Addr} {h : Sto} {env : Env'}
/-- the expression ahead of a statement's end -/
theorem rd_then {α β : Type} {rl : Hp → List Addr → β → α → Prop} {f : Env' → Sto → Res α} {k : α → Sto → SRes} {Q' : β → Hp → Prop} (sta : Sta X.K X.mg H m h) (sl : Sl X.K H m σ env) (out : OutS X W D H m ((f env h).then_ env k))
    (nx : ∀ a h1 b H1 m1, Gr H m H1 m1 → Sta X.K X.mg H1 m1 h1 → rl H1 m1 b a → OutS X W D H1 m1 (k a h1) → Q' b H1) : rd X W rl f σ H Q' := by
  refine ⟨env, m, h, sta, sl, ?_⟩
  generalize f env h = q at out
  cases q with
  | ok a h1 => exact fun b H1 m1 g s r => nx a h1 b H1 m1 g s r (OutS.gr out g)
  | exc c h1 => exact fun H1 m1 g s => (show ∀ σ' H' m', Gr H m H' m' → Sta X.K X.mg H' m' h1 → Sl X.K H' m' σ' env → ExW X W c σ' H' from out) σ H1 m1 g s (sl.gr g)
  | stuck => exact out
theorem ss_nil : SSs X W [] sNil := ⟨pss_imp pss_nil fun D σ H ⟨env, m, h, sta, sl, out⟩ => (show ∀ σ' H' m', Gr H m H' m' → Sta X.K X.mg H' m' h → Sl X.K H' m' σ' env → D.nx σ' H' from out) σ H m (Gr.refl H m) sta sl⟩
theorem seq_out {st : SRes} {g : Es} (out : OutS X W D H m (st.seq g)) : OutS X W { D with nx := rdS X W g D } H m st := by
  cases st with
  | next env' h' => exact fun σ' H' m' g' s' l' => ⟨env', m', h', s', l', OutS.gr out g'⟩
  | ret u h' => exact out
  | exc c env' h' => exact out
  | stuck => exact out
theorem ss_cons {st : Stmt} {rest : List Stmt} {f g : Es} (h1 : SS X W st f) (h2 : SSs X W rest g) : SSs X W (st :: rest) (sSeq f g) :=
  ⟨pss_imp (pss_cons h1.ps h2.ps) fun D σ H ⟨env, m, h, sta, sl, out⟩ => ⟨env, m, h, sta, sl, seq_out out⟩⟩
theorem ss_one {st : Stmt} {f : Es} (h1 : SS X W st f) : SSs X W [st] f := ⟨pss_one h1.ps⟩

variable {a b c e : Expr} {f g : Ev} {pos : Pos}
theorem ss_pass : SS X W (.Pass pos) sNil := ⟨ps_imp ps_pass fun D σ H ⟨env, m, h, sta, sl, out⟩ => (show ∀ σ' H' m', Gr H m H' m' → Sta X.K X.mg H' m' h → Sl X.K H' m' σ' env → D.nx σ' H' from out) σ H m (Gr.refl H m) sta sl⟩
def sExpr (f : Ev) : Es := fun env h => (f env h).then_ env fun _ h1 => .next env h1
theorem ss_expr (he : SE X W e f) (hs : swapsWith e none pos.line X.env = pure false := by rfl) : SS X W (.Expr e pos) (sExpr f) :=
  ⟨ps_imp (ps_expr he.pe hs) fun D σ H ⟨env, m, h, sta, sl, out⟩ => rd_then sta sl out fun u h1 v H1 m1 g1 s1 r1 out1 =>
    (show ∀ σ' H' m', Gr H1 m1 H' m' → Sta X.K X.mg H' m' h1 → Sl X.K H' m' σ' env → D.nx σ' H' from out1) σ H1 m1 (Gr.refl _ _) s1 (sl.gr g1)⟩
def sRet (f : Ev) : Es := fun env h => (f env h).then_ env fun u h1 => .ret u h1
theorem ss_ret (he : SE X W e f) : SS X W (.Return (some e) pos) (sRet f) :=
  ⟨ps_imp (ps_ret he.pe) fun D σ H ⟨env, m, h, sta, sl, out⟩ => rd_then sta sl out fun u h1 v H1 m1 g1 s1 r1 out1 =>
    (show ∀ v H' m', Gr H1 m1 H' m' → Sta X.K X.mg H' m' h1 → RU X.K H' m' v u → D.rt v H' from out1) v H1 m1 (Gr.refl _ _) s1 r1⟩
def sRetN : Es := fun env h => .ret (.d .none) h
theorem ss_retN : SS X W (.Return none pos) sRetN := ⟨ps_imp ps_retN fun D σ H ⟨env, m, h, sta, sl, out⟩ => (show ∀ v H' m', Gr H m H' m' → Sta X.K X.mg H' m' h → RU X.K H' m' v (.d .none) → D.rt v H' from out) .non H m (Gr.refl H m) sta (.d .non)⟩
def sIf (c : Eb) (f g : Es) : Es := fun env h => (c env h).then_ env fun b h1 => match b with
  | true => f env h1
  | false => g env h1
theorem ss_if {p : Eb} {s t : Es} {th el : List Stmt} (hc : ST X W c p) (ha : SSs X W th s) (hb : SSs X W el t) : SS X W (.If c th el pos) (sIf p s t) :=
  ⟨ps_imp (ps_if hc.pt ha.ps hb.ps) fun D σ H ⟨env, m, h, sta, sl, out⟩ => rd_then (rl := rlB) sta sl out fun u h1 v H1 m1 g1 s1 r1 out1 => by
    cases r1
    cases u with
    | true => rw [if_pos rfl]; exact ⟨env, m1, h1, s1, sl.gr g1, out1⟩
    | false => rw [if_neg Bool.false_ne_true]; exact ⟨env, m1, h1, s1, sl.gr g1, out1⟩⟩
def sSet (i : Nat) (f : Ev) : Es := fun env h => (f env h).then_ env fun u h1 => .next (env.set i (some u)) h1
theorem ss_set (i : Nat) {x : Str} {pos' : Pos} (hN : X.N.Nodup) (he : SE X W e f) (hi : X.N[i]? = some x := by rfl) (hx : Loc X.env.scope x := by first | exact Or.inl rfl | exact Or.inr rfl) (hs : swapsWith e (some (.Name x pos')) pos.line X.env = pure false := by rfl)
    (hf : X.fn x = true ∨ X.env.scope.names.lookup x = some .local := by first | exact .inl rfl | exact .inr rfl | assumption) : SS X W (.Assign [.Name x pos'] e pos) (sSet i f) :=
  ⟨ps_imp (ps_set hN hi hx he.pe hs hf) fun D σ H ⟨env, m, h, sta, sl, out⟩ => rd_then sta sl out fun u h1 v H1 m1 g1 s1 r1 out1 =>
    (show ∀ σ' H' m', Gr H1 m1 H' m' → Sta X.K X.mg H' m' h1 → Sl X.K H' m' σ' (env.set i (some u)) → D.nx σ' H' from out1) _ H1 m1 (Gr.refl _ _) s1 ((sl.gr g1).set r1 i)⟩
end

/-! ### targets -/
abbrev Tg := U → Env' → Sto → Option Env'
abbrev Tgs := List U → Env' → Sto → Option Env'
/-- only the slots of ix change -/
def Only' (ix : List Nat) (σ σ' : L2.St) : Prop := σ'.length = σ.length ∧ ∀ j, j ∉ ix → σ'[j]? = σ[j]?
theorem Only'.refl (ix : List Nat) (σ : L2.St) : Only' ix σ σ := ⟨rfl, fun _ _ => rfl⟩
theorem Only'.trans {ix : List Nat} {σ σ1 σ2 : L2.St} (a : Only' ix σ σ1) (b : Only' ix σ1 σ2) : Only' ix σ σ2 := ⟨b.1.trans a.1, fun j hj => (b.2 j hj).trans (a.2 j hj)⟩
theorem Only'.mono {ix iy : List Nat} {σ σ1 : L2.St} (a : Only' ix σ σ1) (h : ∀ j ∈ ix, j ∈ iy) : Only' iy σ σ1 := ⟨a.1, fun j hj => a.2 j fun z => hj (h j z)⟩
def rdG (X : Cx) (ix : List Nat) (t : Tg) : TG := fun v σ H Q => ∃ u env m h, Sta X.K X.mg H m h ∧ Sl X.K H m σ env ∧ RU X.K H m v u ∧ ∃ env', t u env h = some env' ∧ ∀ σ', Sl X.K H m σ' env' → Only' ix σ σ' → Q σ' H
def rdGs (X : Cx) (ix : List Nat) (t : Tgs) : TGs := fun vs σ H Q => ∃ us env m h, Sta X.K X.mg H m h ∧ Sl X.K H m σ env ∧ RUs X.K H m vs us ∧ ∃ env', t us env h = some env' ∧ ∀ σ', Sl X.K H m σ' env' → Only' ix σ σ' → Q σ' H
structure SG (X : Cx) (tg : Expr) (ix : List Nat) (t : Tg) : Prop where
  pg : PG X tg (rdG X ix t)
structure SGs (X : Cx) (tg : List Expr) (ix : List Nat) (t : Tgs) : Prop where
  pg : PGs X tg (rdGs X ix t)
theorem pg_imp {X : Cx} {e : Expr} {t t' : TG} (h : PG X e t) (i : ∀ v σ H Q, t' v σ H Q → t v σ H Q) : PG X e t' := ⟨fun pins s σ H v u Q I r q => h.run pins s σ H v u Q I r (i v σ H Q q)⟩
theorem pgs_imp {X : Cx} {e : List Expr} {t t' : TGs} (h : PGs X e t) (i : ∀ v σ H Q, t' v σ H Q → t v σ H Q) : PGs X e t' := ⟨fun pins s σ H v u Q I r q => h.run pins s σ H v u Q I r (i v σ H Q q)⟩
theorem pg_or {X : Cx} {e : Expr} {t t' : TG} (h : PG X e t) (h' : PG X e t') : PG X e (fun v σ H Q => t v σ H Q ∨ t' v σ H Q) := ⟨fun pins s σ H v u Q I r q => by
  rcases q with q | q
  · exact h.run pins s σ H v u Q I r q
  · exact h'.run pins s σ H v u Q I r q⟩
def gN (i : Nat) : Tg := fun u env _ => some (env.set i (some u))
def gNil' : Tgs := fun us env _ => match us with
  | [] => some env
  | _ => none
def gCons' (t : Tg) (r : Tgs) : Tgs := fun us env h => match us with
  | u :: us => (match t u env h with
    | some env1 => r us env1 h
    | none => none)
  | [] => none
def itemsOf (h : Sto) (u : U) : Option (List U) := match tupOf u with
  | some xs => some (xs.map .d)
  | none => match listOf h u with
    | some xs => some (xs.map .d)
    | none => match u with
      | .tup us => some us
      | _ => none
def gTup' (n : Nat) (r : Tgs) : Tg := fun u env h => match itemsOf h u with
  | some us => if us.length = n then r us env h else none
  | none => none
theorem RDs.rus {K : PySem.W.Frag} {H : Hp} {m : List Addr} : ∀ {ds : List D} {vs : List V}, RDs K H vs ds → RUs K H m vs (ds.map .d)
  | [], _, h => by cases h; exact .nil
  | _ :: _, _, h => by cases h with | cons a b => exact .cons (.d a) (RDs.rus b)
theorem itemsOf_v {K : PySem.W.Frag} {mg : Str → Option Value} {H : Hp} {m : List Addr} {h : Sto} {v : V} {u : U} {us : List U} (s : Sta K mg H m h) (e : itemsOf h u = some us) (r : RU K H m v u) : ∃ a vs, v = .ref a ∧ (SqT K H a vs ∨ SqL K H a vs) ∧ RUs K H m vs us := by
  unfold itemsOf at e
  split at e
  · rename_i ys ey
    cases e
    obtain ⟨p, ws, rfl, t1, d1⟩ := tupOf_v ey r
    exact ⟨p, ws, rfl, .inl t1, d1.rus⟩
  · split at e
    · rename_i ys ey
      cases e
      obtain ⟨p, ws, rfl, t1, d1⟩ := listOf_v s ey r
      exact ⟨p, ws, rfl, .inr t1, d1.rus⟩
    · split at e
      · cases e
        cases r with
        | tup t b => exact ⟨_, _, rfl, .inl t, b⟩
      · cases e
section
variable {X : Cx} {W : WX} {e : Expr} {es : List Expr} {pos : Pos} {f : Ev} {ix iy : List Nat} {t : Tg} {ts : Tgs}
theorem sg_name (i : Nat) {x : Str} (hN : X.N.Nodup) (hi : X.N[i]? = some x := by rfl) (hx : Loc X.env.scope x := by first | exact Or.inl rfl | exact Or.inr rfl) (hf : X.fn x = true ∨ X.env.scope.names.lookup x = some .local := by first | exact .inl rfl | exact .inr rfl | assumption) : SG X (.Name x pos) [i] (gN i) :=
  ⟨pg_imp (pg_name hN hi hx hf) fun v σ H Q ⟨u, env, m, h, sta, sl, r, env', e, q⟩ => by
    cases e
    exact q _ (sl.set r i) ⟨by simp, fun j hj => List.getElem?_set_ne fun z => hj (by rw [z]; exact List.mem_singleton.mpr rfl)⟩⟩
theorem sgs_nil : SGs X [] [] gNil' :=
  ⟨pgs_imp pgs_nil fun vs σ H Q ⟨us, env, m, h, sta, sl, r, env', e, q⟩ => by
    unfold gNil' at e
    split at e
    · cases e
      cases r
      exact ⟨rfl, q σ sl (Only'.refl _ _)⟩
    · cases e⟩
theorem sgs_cons (h1 : SG X e ix t) (h2 : SGs X es iy ts) (hs : (assignEach (e :: es) X.env).map (·.2) = assign e X.env :: (assignEach es X.env).map (·.2) := by rfl) : SGs X (e :: es) (ix ++ iy) (gCons' t ts) :=
  ⟨pgs_imp (pgs_cons h1.pg h2.pg hs) fun vs σ H Q ⟨us, env, m, h, sta, sl, r, env', e, q⟩ => by
    unfold gCons' at e
    split at e
    · rename_i us u us'
      split at e
      · rename_i env1 e1
        cases r with
        | cons ra rb =>
          exact ⟨_, _, rfl, u, env, m, h, sta, sl, ra, env1, e1, fun σ1 sl1 o1 => ⟨us', env1, m, h, sta, sl1, rb, env', e, fun σ2 sl2 o2 => q σ2 sl2 ((o1.mono fun j hj => List.mem_append_left _ hj).trans (o2.mono fun j hj => List.mem_append_right _ hj))⟩⟩
      · cases e
    · cases e⟩
theorem sg_tup {k n : Nat} (hc : X.calm = true) (h : SGs X es ix ts) (hn : (assignEach es X.env).length = n := by rfl) (hst : (assignEach es X.env).findIdx? (·.1) = none := by rfl) : SG X (.Tuple es k pos) ix (gTup' n ts) :=
  ⟨pg_imp (pg_or (pg_tup hc h.pg hn hst) (pg_unl hc h.pg hn hst)) fun v σ H Q ⟨u, env, m, hh, sta, sl, r, env', e, q⟩ => by
    unfold gTup' at e
    split at e
    · rename_i us eu
      split at e
      · rename_i hl
        obtain ⟨p, vs, rfl, t1, r1⟩ := itemsOf_v sta eu r
        have hvs : vs.length = n := (RUs.len r1).trans hl
        rcases t1 with t1 | t1
        · exact .inl ⟨p, vs, rfl, t1, hvs, us, env, m, hh, sta, sl, r1, env', e, q⟩
        · exact .inr ⟨p, vs, rfl, t1, hvs, us, env, m, hh, sta, sl, r1, env', e, q⟩
      · cases e
    · cases e⟩
/-- target = e -/
def sAsg (t : Tg) (f : Ev) : Es := fun env h => (f env h).then_ env fun u h1 => match t u env h1 with
  | some env' => .next env' h1
  | none => .stuck
theorem ss_asg {tg : Expr} (he : SE X W e f) (hg : SG X tg ix t) (hs : swapsWithSole [tg] e pos.line X.env = pure false := by rfl) (hw : swappedStores [tg] e X.env = pure none := by rfl)
    (h1 : (assignEach [tg] X.env).map (·.2) = [assign tg X.env] := by rfl) : SS X W (.Assign [tg] e pos) (sAsg t f) :=
  ⟨ps_imp (ps_asg he.pe hg.pg hs hw h1) fun D σ H ⟨env, m, h, sta, sl, out⟩ => rd_then sta sl out fun u h1 v H1 m1 g1 s1 r1 out1 => by
    split at out1
    · rename_i env' e'
      exact ⟨u, env, m1, h1, s1, sl.gr g1, r1, env', e', fun σ' sl' _ => (show ∀ σ' H' m', Gr H1 m1 H' m' → Sta X.K X.mg H' m' h1 → Sl X.K H' m' σ' env' → D.nx σ' H' from out1) σ' H1 m1 (Gr.refl _ _) s1 sl'⟩
    · exact out1.elim⟩
end

/-! ### loops -/
/-- J walks the things us, whatever comes -/
def Wlk (K : PySem.W.Frag) (J : It) (H : Hp) (m : List Addr) (us : List U) : Prop := ∀ H' m', Kp H H' → (∃ e, m' = m ++ e) →
  (∀ i, us.length ≤ i → J.stop i H') ∧ ∀ (i : Nat) u, us[i]? = some u → J.go i H' ∧ ∀ x H'', J.yld i H' x H'' → Same H' H'' ∧ RU K H'' m' x u
theorem Wlk.gr {K : PySem.W.Frag} {J : It} {H H1 : Hp} {m m1 : List Addr} {us : List U} (w : Wlk K J H m us) (k : Kp H H1) (p : ∃ e, m1 = m ++ e) : Wlk K J H1 m1 us := fun H' m' k' p' => w H' m' (k.trans k') (by
  obtain ⟨e, rfl⟩ := p
  obtain ⟨e', rfl⟩ := p'
  exact ⟨e ++ e', by rw [List.append_assoc]⟩)
def rlJ (K : PySem.W.Frag) : Hp → List Addr → It → List U → Prop := fun H m J us => Wlk K J H m us
structure SI (X : Cx) (W : WX) (tg iter : Expr) (f : Ea) : Prop where
  pi : PI X tg iter (rd X W (rlJ X.K) f)
theorem pi_imp {X : Cx} {tg e : Expr} {t t' : TI} (h : PI X tg e t) (i : ∀ σ H Q, t' σ H Q → t σ H Q) : PI X tg e t' := ⟨fun pins s σ H Q I q => h.run pins s σ H Q I (i σ H Q q)⟩
theorem pi_or {X : Cx} {tg e : Expr} {t t' : TI} (h : PI X tg e t) (h' : PI X tg e t') : PI X tg e (fun σ H Q => t σ H Q ∨ t' σ H Q) := ⟨fun pins s σ H Q I q => by
  rcases q with q | q
  · exact h.run pins s σ H Q I q
  · exact h'.run pins s σ H Q I q⟩
def iRange (n : Nat) (lo : Int) : List U := (List.range n).map fun (i : Nat) => .d (.int (lo + (i : Int)))
noncomputable def rngOk (i : Int) : Bool := ask (-(2 ^ 62) ≤ i ∧ i < 2 ^ 62)
noncomputable def iR1 (fa : Ea) : Ea := fun env h => (fa env h).bind fun us h1 => match us with
  | [u] => (match intOf u with
    | some j => if rngOk j then .ok (iRange j.toNat 0) h1 else .stuck
    | none => .stuck)
  | _ => .stuck
noncomputable def iR2 (fa : Ea) : Ea := fun env h => (fa env h).bind fun us h1 => match us with
  | [u, w] => (match intOf u, intOf w with
    | some i, some j => if rngOk i && rngOk j then .ok (iRange (j - i).toNat i) h1 else .stuck
    | _, _ => .stuck)
  | _ => .stuck
theorem wlk_range {K : PySem.W.Frag} {lo : Int} {n : Nat} {H : Hp} {m : List Addr} : Wlk K (Itr lo n) H m (iRange n lo) := fun H' m' _ _ => by
  have hl : (iRange n lo).length = n := by unfold iRange; simp
  refine ⟨fun i hi => by rw [hl] at hi; exact hi, fun i u e => ?_⟩
  have hi : i < n := by rw [← hl]; exact (List.getElem?_eq_some_iff.mp e).1
  refine ⟨hi, fun x H'' y => ?_⟩
  obtain ⟨rfl, rfl⟩ := y
  unfold iRange at e
  rw [List.getElem?_map, List.getElem?_range hi] at e
  cases e
  exact ⟨Same.refl _, .d (.int _)⟩
/-- a tuple or a frozen list, walked -/
def iSeq (f : Ev) : Ea := fun env h => (f env h).bind fun u h1 => match u with
  | .d (.tuple xs) => .ok (xs.map .d) h1
  | .d (.list xs) => .ok (xs.map .d) h1
  | .tup us => .ok us h1
  | _ => .stuck
section
variable {X : Cx} {W : WX} {tg a b l : Expr} {fa : Ea} {f : Ev} {p pos : Pos}
theorem si_range1 (hg : Gl X "range") (hm : X.mg "range" = none) (ha : SA X W [a] fa) (hs : starEach [a] X.env = [(false, eval a X.env)] := by rfl) : SI X W tg (.Call (.Name "range" p) [a] [] pos) (iR1 fa) :=
  ⟨pi_imp (pi_range1 hg hm ha.pa hs) fun σ H R ⟨env, m, h, sta, sl, out⟩ => rd_of sta sl out fun us h1 vs H1 m1 g1 s1 r1 out1 => by
    split at out1
    · split at out1
      · rename_i j e
        split at out1
        · rename_i hj
          have hj := ask_iff.mp hj
          cases r1 with
          | cons ra rb =>
            cases rb
            exact ⟨j, by rw [intOf_v e ra], hj.1, hj.2, Out.here (b := Itr 0 j.toNat) out1 s1 wlk_range⟩
        · exact out1.elim
      · exact out1.elim
    · exact out1.elim⟩
theorem si_range2 (hg : Gl X "range") (hm : X.mg "range" = none) (ha : SA X W [a, b] fa) (hs : starEach [a, b] X.env = [(false, eval a X.env), (false, eval b X.env)] := by rfl) (hs2 : starEach [b] X.env = [(false, eval b X.env)] := by rfl) : SI X W tg (.Call (.Name "range" p) [a, b] [] pos) (iR2 fa) :=
  ⟨pi_imp (pi_range2 hg hm ha.pa hs hs2) fun σ H R ⟨env, m, h, sta, sl, out⟩ => rd_of sta sl out fun us h1 vs H1 m1 g1 s1 r1 out1 => by
    split at out1
    · split at out1
      · rename_i i j e1 e2
        split at out1
        · rename_i hj
          have hj : (-(2 ^ 62) ≤ i ∧ i < 2 ^ 62) ∧ -(2 ^ 62) ≤ j ∧ j < 2 ^ 62 := ⟨ask_iff.mp (Bool.and_eq_true_iff.mp hj).1, ask_iff.mp (Bool.and_eq_true_iff.mp hj).2⟩
          cases r1 with
          | cons ra rb =>
            cases rb with
            | cons rb rc =>
              cases rc
              exact ⟨i, j, by rw [intOf_v e1 ra, intOf_v e2 rb], ⟨hj.1.1, hj.1.2, hj.2.1, hj.2.2⟩, Out.here (b := Itr i (j - i).toNat) out1 s1 wlk_range⟩
        · exact out1.elim
      · exact out1.elim
    · exact out1.elim⟩
theorem wlk_lst {K : PySem.W.Frag} {q : Addr} {vs : List V} {us : List U} {H : Hp} {m : List Addr} (t : FzL K H q vs) (r : RUs K H m vs us) : Wlk K (Itl K q) H m us := fun H' m' k pre => by
  have t' := (k.fzL t).sq
  refine ⟨fun i hi => ⟨vs, t', by rw [RUs.len r]; exact hi⟩, fun i u e => ?_⟩
  obtain ⟨v, e1, rv⟩ := RUs.get r e
  refine ⟨⟨vs, v, t', e1⟩, fun x H'' y => ?_⟩
  obtain ⟨rfl, y⟩ := y
  have e2 := y vs t'
  rw [e1] at e2
  cases e2
  exact ⟨Same.refl _, RU.kp k pre _ _ rv⟩
theorem wlk_tup' {K : PySem.W.Frag} {q : Addr} {vs : List V} {us : List U} {H : Hp} {m : List Addr} (t : SqT K H q vs) (r : RUs K H m vs us) : Wlk K (Itt K q) H m us := fun H' m' k pre => by
  have t' := k.sqT t
  refine ⟨fun i hi => ⟨vs, t', by rw [RUs.len r]; exact hi⟩, fun i u e => ?_⟩
  obtain ⟨v, e1, rv⟩ := RUs.get r e
  refine ⟨⟨vs, v, t', e1⟩, fun x H'' y => ?_⟩
  obtain ⟨rfl, y⟩ := y
  have e2 := y vs t'
  rw [e1] at e2
  cases e2
  exact ⟨Same.refl _, RU.kp k pre _ _ rv⟩
theorem si_seq (hl : SE X W l f) : SI X W tg l (iSeq f) :=
  ⟨pi_imp (pi_or (pi_tup hl.pe) (pi_list hl.pe)) fun σ H R ⟨env, m, h, sta, sl, out⟩ => by
    have key : ∀ (Q : VK), (∀ u h1 v H1 m1, Gr H m H1 m1 → Sta X.K X.mg H1 m1 h1 → RU X.K H1 m1 v u → Out X W (rlJ X.K) σ H1 m1 (match u with | .d (.tuple xs) => .ok (xs.map .d) h1 | .d (.list xs) => .ok (xs.map .d) h1 | .tup us => .ok us h1 | _ => .stuck) R → f env h = .ok u h1 → Q v H1) → rd X W (rlU X.K) f σ H Q := fun Q nx => by
      refine ⟨env, m, h, sta, sl, ?_⟩
      unfold iSeq at out
      generalize hq : f env h = q at out
      cases q with
      | ok u h1 => exact fun v H1 m1 g s r => nx u h1 v H1 m1 g s r (Out.gr out g) hq
      | exc c h1 => exact out
      | stuck => exact out
    by_cases hq : ∃ xs h1, f env h = .ok (.d (.list xs)) h1
    · obtain ⟨ys, h2, hq⟩ := hq
      refine .inr (key _ fun u h1 v H1 m1 g1 s1 r1 out1 e => ?_)
      rw [hq] at e
      cases e
      cases r1.rd with
      | lst t d => exact ⟨_, rfl, ⟨_, t.sq⟩, Out.here (b := Itl X.K _) out1 s1 (wlk_lst t d.rus)⟩
    · refine .inl (key _ fun u h1 v H1 m1 g1 s1 r1 out1 e => ?_)
      split at out1
      · cases r1.rd with
        | tup t d => exact ⟨_, rfl, ⟨_, t⟩, Out.here (b := Itt X.K _) out1 s1 (wlk_tup' t d.rus)⟩
      · exact absurd ⟨_, _, e⟩ hq
      · cases r1 with
        | tup t d => exact ⟨_, rfl, ⟨_, t⟩, Out.here (b := Itt X.K _) out1 s1 (wlk_tup' t d)⟩
      · exact out1.elim⟩
end
def forGo (t : Tg) (b : Es) : List U → Es
  | [], env, h => .next env h
  | u :: us, env, h => match t u env h with
    | some env1 => (b env1 h).seq (forGo t b us)
    | none => .stuck
def sFor (it : Ea) (t : Tg) (b : Es) : Es := fun env h => (it env h).then_ env fun us h1 => forGo t b us env h1
def whileGo (c : Eb) (b : Es) : Nat → Es
  | 0, _, _ => .stuck
  | n + 1, env, h => (c env h).then_ env fun k h1 => match k with
    | true => (b env h1).seq (whileGo c b n)
    | false => .next env h1
def sWhile (n : Nat) (c : Eb) (b : Es) : Es := whileGo c b n
section
variable {X : Cx} {W : WX} {tg iter c : Expr} {body : List Stmt} {it : Ea} {ix : List Nat} {t : Tg} {b : Es} {p : Eb} {pos : Pos}
theorem ss_for (hp : PassesOwn (model X.prog X.w) X.A X.env X.xe) (hc : X.calm = true) (hi : SI X W tg iter it) (hg : SG X tg ix t) (hb : SSs X W body b)
    (hs : ∀ x, foldedSetIterable iter X.env x = pure x := by intro _; rfl) : SS X W (.For tg iter body [] pos) (sFor it t b) :=
  ⟨ps_imp (ps_for hp hc hi.pi hg.pg hb.ps hs) fun D σ H ⟨env, m, h, sta, sl, out⟩ => rd_then sta sl out fun us h1 J H1 m1 g1 s1 w1 out1 => by
    refine ⟨fun i k σ' H' => k = us.length - i ∧ i ≤ us.length ∧ ∃ env m h, Sta X.K X.mg H' m h ∧ Sl X.K H' m σ' env ∧ Wlk X.K J H' m us ∧ OutS X W D H' m (forGo t b (us.drop i) env h), ⟨us.length, by simp, Nat.zero_le _, env, m1, h1, s1, sl.gr g1, w1, by simpa using out1⟩, ?_⟩
    rintro i k σ2 H2 ⟨rfl, hi2, env2, m2, h2, s2, l2, w2, o2⟩
    obtain ⟨wst, wgo⟩ := w2 H2 m2 (Kp.refl _) ⟨[], by simp⟩
    by_cases hlt : i < us.length
    · have eu : us[i]? = some us[i] := List.getElem?_eq_getElem hlt
      have ed : us.drop i = us[i] :: us.drop (i + 1) := List.drop_eq_getElem_cons hlt
      obtain ⟨go, gy⟩ := wgo i _ eu
      rw [ed] at o2
      have o3 : OutS X W D H2 m2 (match t us[i] env2 h2 with | some env1 => (b env1 h2).seq (forGo t b (us.drop (i + 1))) | none => .stuck) := o2
      cases et : t us[i] env2 h2 with
      | none => rw [et] at o3; exact o3.elim
      | some env3 =>
        rw [et] at o3
        refine .inr ⟨go, fun σ' H' => us.length - (i + 1) < us.length - i ∧ i + 1 ≤ us.length ∧ ∃ env m h, Sta X.K X.mg H' m h ∧ Sl X.K H' m σ' env ∧ Wlk X.K J H' m us ∧ OutS X W D H' m (forGo t b (us.drop (i + 1)) env h), fun σ' H' ⟨n1, n2, n3⟩ => ⟨us.length - (i + 1), n1, rfl, n2, n3⟩, fun x H3 y => ?_⟩
        obtain ⟨sm, rx⟩ := gy x H3 y
        have gg := Gr.of_same sm m2
        refine ⟨us[i], env2, m2, h2, s2.same sm, l2.gr gg, rx, env3, et, fun σ3 l3 _ => ⟨env3, m2, h2, s2.same sm, l3, ?_⟩⟩
        have o4 : OutS X W D H3 m2 ((b env3 h2).seq (forGo t b (us.drop (i + 1)))) := OutS.gr o3 gg
        revert o4
        generalize b env3 h2 = q
        intro o4
        cases q with
        | next env4 h4 => exact fun σ4 H4 m4 g4 s4 l4 => ⟨by omega, hlt, env4, m4, h4, s4, l4, w2.gr (gg.trans g4).kp (gg.trans g4).pre, OutS.gr o4 g4⟩
        | ret u h4 => exact o4
        | exc c env4 h4 => exact o4
        | stuck => exact o4
    · have e : i = us.length := by omega
      subst e
      rw [List.drop_length] at o2
      exact .inl ⟨wst _ (Nat.le_refl _), (show ∀ σ' H' m', Gr H2 m2 H' m' → Sta X.K X.mg H' m' h2 → Sl X.K H' m' σ' env2 → D.nx σ' H' from o2) σ2 H2 m2 (Gr.refl _ _) s2 l2⟩⟩
theorem ss_while (n : Nat) (hp : PassesOwn (model X.prog X.w) X.A X.env X.xe) (hc : ST X W c p) (hb : SSs X W body b) : SS X W (.While c body [] pos) (sWhile n p b) :=
  ⟨ps_imp (ps_while hp hc.pt hb.ps) fun D σ H ⟨env, m, h, sta, sl, out⟩ => by
    refine ⟨fun k σ' H' => ∃ env m h, Sta X.K X.mg H' m h ∧ Sl X.K H' m σ' env ∧ OutS X W D H' m (whileGo p b k env h), ⟨n, env, m, h, sta, sl, out⟩, ?_⟩
    rintro k σ2 H2 ⟨env2, m2, h2, s2, l2, o2⟩
    cases k with
    | zero => exact o2.elim
    | succ k =>
      refine rd_then (rl := rlB) s2 l2 o2 fun u h3 v H3 m3 g3 s3 r3 o3 => ?_
      cases r3
      cases u with
      | false =>
        rw [if_neg Bool.false_ne_true]
        exact (show ∀ σ' H' m', Gr H3 m3 H' m' → Sta X.K X.mg H' m' h3 → Sl X.K H' m' σ' env2 → D.nx σ' H' from o3) σ2 H3 m3 (Gr.refl _ _) s3 (l2.gr g3)
      | true =>
        rw [if_pos rfl]
        refine ⟨fun σ' H' => ∃ env m h, Sta X.K X.mg H' m h ∧ Sl X.K H' m σ' env ∧ OutS X W D H' m (whileGo p b k env h), fun σ' H' q => ⟨k, Nat.lt_succ_self _, q⟩, env2, m3, h3, s3, l2.gr g3, ?_⟩
        revert o3
        dsimp only
        generalize b env2 h3 = q
        intro o4
        cases q with
        | next env4 h4 => exact fun σ4 H4 m4 g4 s4 l4 => ⟨env4, m4, h4, s4, l4, OutS.gr o4 g4⟩
        | ret u h4 => exact o4
        | exc c env4 h4 => exact o4
        | stuck => exact o4⟩
end
end Wk

/-! T5: methods of lists, slices, comprehensions, defs, the end. -/
namespace Wk
open PySem PySem.Spec PyProof.Rows L2

/-! ### methods of lists -/
def eMl (F : U → List U → Sto → Res U) (f : Ev) (fa : Ea) : Ev := fun env h => (f env h).bind fun u h1 => match listOf h1 u with
  | some _ => (fa env h1).bind fun us h2 => F u us h2
  | none => .stuck
noncomputable def fApp (u : U) (us : List U) (h : Sto) : Res U := match u, us with
  | .ref n, [.d x] => (match h[n]? with
    | some (.lst xs) => if fits (xs.length + 1) then .ok (.d .none) (h.set n (.lst (xs ++ [x]))) else .stuck
    | _ => .stuck)
  | _, _ => .stuck
def fPop (u : U) (us : List U) (h : Sto) : Res U := match u, us with
  | .ref n, [] => (match h[n]? with
    | some (.lst xs) => (match xs[xs.length - 1]? with
      | some y => .ok (.d y) (h.set n (.lst xs.dropLast))
      | none => .stuck)
    | _ => .stuck)
  | _, _ => .stuck
def fClear (u : U) (us : List U) (h : Sto) : Res U := match u, us with
  | .ref n, [] => (match h[n]? with
    | some (.lst xs) => .ok (.d .none) (h.set n (.lst []))
    | _ => .stuck)
  | _, _ => .stuck
def AbM (X : Cx) (W : WX) (F : U → List U → Sto → Res U) (r : V → List V → Hp → VK → Prop) : Prop := ∀ (σ : L2.St) (H : Hp) (m : List Addr) (h : Sto) (x : V) (xs : List V) (u : U) (us : List U) (Q : VK), Sta X.K X.mg H m h → RU X.K H m x u → RUs X.K H m xs us → Out X W (rlU X.K) σ H m (F u us h) Q → r x xs H Q
section
variable {X : Cx} {W : WX} {o e : Expr} {es : List Expr} {f : Ev} {fa : Ea} {name : Str} {apos cpos : Pos} {id : String} {r : V → List V → Hp → VK → Prop} {F : U → List U → Sto → Res U}
theorem tyV_list {K : PySem.W.Frag} {H : Hp} {a : Addr} {vs : List V} (h : SqL K H a vs) : tyV K "list" (.ref a) H := Or.inl ⟨rfl, vs, h⟩
theorem se_ml (slot : Slot "list" name id) (hty : typeOf (.builtin id) = pure (.type "method_descriptor")) (hm : MtR X id r) (ab : AbM X W F r) (ho : SE X W o f) (ha : SA X W (e :: es) fa)
    (hbase : attributeBase o name X.env (eval o X.env) = eval o X.env := by rfl)
    (hfew : ((backTo cpos (starEach (e :: es) X.env)).all (fun x => !x.1) && (backToKw cpos (keywordEach [] X.env)).all (fun x => x.1.isSome)
      && decide ((e :: es).length + ([] : List Keyword).length + (if ([] : List Keyword).isEmpty then 0 else 1) < 30)) = true := by rfl)
    (hline : (apos.endLine == cpos.line) = true := by rfl) (hs : starEach (e :: es) X.env = (false, eval e X.env) :: starEach es X.env := by rfl) (hplain : (backTo cpos (starEach es X.env)).any (·.1) = false := by rfl) :
    SE X W (.Call (.Attribute o name apos) (e :: es) [] cpos) (eMl F f fa) :=
  ⟨pe_imp (pe_bm PySem.F.plainAttrs_list slot hty hm ho.pe ha.pa hbase hfew hline hs hplain) fun σ H Q ⟨env, m, h, sta, sl, out⟩ => rd_of sta sl out fun u h1 x H1 m1 g1 s1 r1 out1 => by
    split at out1
    · rename_i ys ey
      obtain ⟨p, ws, rfl, t1, d1⟩ := listOf_v s1 ey r1
      exact ⟨tyV_list t1, rd_of s1 (sl.gr g1) out1 fun us h2 xs H2 m2 g2 s2 r2 out2 => ab σ H2 m2 h2 _ xs u us Q s2 (RU.kp g2.kp g2.pre _ _ r1) r2 out2⟩
    · exact out1.elim⟩
theorem se_ml0 (slot : Slot "list" name id) (hty : typeOf (.builtin id) = pure (.type "method_descriptor")) (hm : MtR X id r) (ab : AbM X W F r) (ho : SE X W o f)
    (hbase : attributeBase o name X.env (eval o X.env) = eval o X.env := by rfl) (hline : (apos.endLine == cpos.line) = true := by rfl) : SE X W (.Call (.Attribute o name apos) [] [] cpos) (eMl F f aNil) :=
  ⟨pe_imp (pe_bm0 PySem.F.plainAttrs_list slot hty hm ho.pe hbase hline) fun σ H Q ⟨env, m, h, sta, sl, out⟩ => rd_of sta sl out fun u h1 x H1 m1 g1 s1 r1 out1 => by
    split at out1
    · rename_i ys ey
      obtain ⟨p, ws, rfl, t1, d1⟩ := listOf_v s1 ey r1
      exact ⟨tyV_list t1, ab σ H1 m1 h1 _ [] u [] Q s1 r1 .nil out1⟩
    · exact out1.elim⟩
theorem ab_app : AbM X W fApp rAppend := by
  intro σ H m h x xs u us Q s ru rus out
  unfold fApp at out
  split at out
  · split at out
    · rename_i n x h' ds ed
      split at out
      · rename_i hz
        cases ru with
        | ref hm =>
          rename_i a
          cases rus with
          | cons rx rn =>
            cases rn
            obtain ⟨vs, k1, k2⟩ := s.obj _ _ _ hm ed
            refine ⟨a, vs, _, rfl, rfl, k1, by rw [k2.len]; exact ask_iff.mp hz, ?_⟩
            refine Out.ok (b := V.non) out (Gr.write (List.mem_of_getElem? hm) k1 trivial) (s.write hm k1 trivial ⟨_, upd_same, ?_⟩) (.d .non)
            exact (RDs.kp (mut_kp k1 trivial) _ _ k2).app (.one (RD.kp (mut_kp k1 trivial) _ _ rx.rd))
      · exact out.elim
    · exact out.elim
  · exact out.elim
theorem ab_pop : AbM X W fPop rPop := by
  intro σ H m h x xs u us Q s ru rus out
  unfold fPop at out
  split at out
  · split at out
    · rename_i n h' ds ed
      split at out
      · rename_i y ey
        cases ru with
        | ref hm =>
          rename_i a
          cases rus
          obtain ⟨vs, k1, k2⟩ := s.obj _ _ _ hm ed
          obtain ⟨v, e1, e2⟩ := k2.get ey
          have kp := mut_kp (y := HO.lst vs.dropLast) k1 trivial
          refine ⟨a, vs, v, rfl, rfl, k1, by rw [k2.len]; exact e1, ?_⟩
          exact Out.ok (b := v) out (Gr.write (List.mem_of_getElem? hm) k1 trivial) (s.write hm k1 trivial ⟨_, upd_same, (RDs.kp kp _ _ k2).dropLast⟩) (.d (RD.kp kp _ _ e2))
      · exact out.elim
    · exact out.elim
  · exact out.elim
theorem ab_clear : AbM X W fClear rClear := by
  intro σ H m h x xs u us Q s ru rus out
  unfold fClear at out
  split at out
  · split at out
    · rename_i n h' ds ed
      cases ru with
      | ref hm =>
        rename_i a
        cases rus
        obtain ⟨vs, k1, k2⟩ := s.obj _ _ _ hm ed
        exact ⟨a, vs, rfl, rfl, k1, Out.ok (b := V.non) out (Gr.write (List.mem_of_getElem? hm) k1 trivial) (s.write hm k1 trivial ⟨_, upd_same, .nil⟩) (.d .non)⟩
    · exact out.elim
  · exact out.elim
end

/-! ### a[i] = e, a a list of the store -/
def setIx (u w z : U) (h : Sto) : Option Sto := match u, intOf w, z with
  | .ref n, some i, .d x => (match h[n]? with
    | some (.lst xs) => (match ixN xs.length i with
      | some j => some (h.set n (.lst (xs.set j x)))
      | none => none)
    | _ => none)
  | _, _, _ => none
def sSetIx (f o i : Ev) : Es := fun env h => (f env h).then_ env fun z h1 => (o env h1).then_ env fun u h2 => (i env h2).then_ env fun w h3 => match setIx u w z h3 with
  | some h4 => .next env h4
  | none => .stuck
section
variable {X : Cx} {W : WX} {o i e : Expr} {f fo fi : Ev} {pos p2 : Pos}
theorem ss_setIx (he : SE X W e f) (ho : SE X W o fo) (hi : SE X W i fi) (hs : swapsWithSole [.Subscript o i p2] e pos.line X.env = pure false := by rfl) (hw : swappedStores [.Subscript o i p2] e X.env = pure none := by rfl)
    (h1 : (assignEach [.Subscript o i p2] X.env).map (·.2) = [assign (.Subscript o i p2) X.env] := by rfl)
    (ha : ∀ v, assign (.Subscript o i p2) X.env v = (do
      let ov ← holding [v] (eval o X.env)
      let iv ← holding [v, ov] (eval i X.env)
      standAt p2
      holding [v, ov, iv] (setItem ov iv v)
      release [v, ov, iv] []) := by intro _; rfl) : SS X W (.Assign [.Subscript o i p2] e pos) (sSetIx f fo fi) :=
  ⟨ps_imp (ps_asg he.pe (pg_sub ho.pe hi.pe set_list ha) hs hw h1) fun D σ H ⟨env, m, h, sta, sl, out⟩ => rd_then sta sl out fun z h1 vz H1 m1 g1 s1 r1 out1 =>
    rd_then s1 (sl.gr g1) out1 fun u h2 vu H2 m2 g2 s2 r2 out2 => rd_then s2 ((sl.gr g1).gr g2) out2 fun w h3 vw H3 m3 g3 s3 r3 out3 => by
      have rz := RU.kp (g2.trans g3).kp (g2.trans g3).pre _ _ r1
      have ru := RU.kp g3.kp g3.pre _ _ r2
      cases eq : setIx u w z h3 with
      | none => rw [eq] at out3; exact out3.elim
      | some h4 =>
        rw [eq] at out3
        unfold setIx at eq
        split at eq
        · rename_i n i' x ei
          split at eq
          · rename_i xs ex
            split at eq
            · rename_i j ej
              cases eq
              cases ru with
              | ref hm =>
                rename_i a
                obtain ⟨vs, k1, k2⟩ := s3.obj _ _ _ hm ex
                have kp := mut_kp (y := HO.lst (vs.set j vz)) k1 trivial
                refine ⟨a, vs, i', j, rfl, intOf_v ei r3, k1, by rw [k2.len]; exact ej, ?_⟩
                exact (show ∀ σ' H' m', Gr H3 m3 H' m' → Sta X.K X.mg H' m' _ → Sl X.K H' m' σ' env → D.nx σ' H' from out3) σ _ m3 (Gr.write (List.mem_of_getElem? hm) k1 trivial)
                  (s3.write hm k1 trivial ⟨_, upd_same, RDs.set (RD.kp kp _ _ rz.rd) j (RDs.kp kp _ _ k2)⟩) ((((sl.gr g1).gr g2).gr g3).gr (Gr.write (List.mem_of_getElem? hm) k1 trivial))
            · cases eq
          · cases eq
        · cases eq⟩
end

/-! ### slices -/
def cutD {α : Type} (xs : List α) (lo hi : Option Int) : List α := (xs.drop (HT.sIx xs.length 0 lo)).take (HT.sIx xs.length xs.length hi - HT.sIx xs.length 0 lo)
abbrev Eo := Env' → Sto → Res (Option Int)
def oNo : Eo := fun _ h => .ok none h
def oSo (f : Ev) : Eo := fun env h => (f env h).bind fun u h1 => match intOf u with
  | some i => .ok (some i) h1
  | none => .stuck
def rlO : Hp → List Addr → Option Int → Option Int → Prop := fun _ _ b c => b = c
structure SO (X : Cx) (W : WX) (e : Option Expr) (f : Eo) : Prop where
  po : PO X e (rd X W rlO f)
noncomputable def opSl (b : Bool) (u : U) (lo hi : Option Int) (h : Sto) : Res U := match tupOf u with
  | some xs => .ok (.d (.tuple (cutD xs lo hi))) h
  | none => match listOf h u with
    | some xs => mkL b (cutD xs lo hi) h
    | none => match strOf u with
      | some z => if fits z.length then .ok (.d (.str (cutS z lo hi))) h else .stuck
      | none => .stuck
noncomputable def eSl (b : Bool) (f : Ev) (lo hi : Eo) : Ev := fun env h => (f env h).bind fun u h1 => (lo env h1).bind fun l h2 => (hi env h2).bind fun r h3 => opSl b u l r h3
theorem gh_sl {X : Cx} {r : V → Option Int → Option Int → Hp → VK → Prop} {e : Expr} {te : TE} {tl th : TO} (h : PE X e (tSl r te tl th)) : PE X e (tSl (fun x lo hi H Q => r x lo hi H (gh Q)) te tl th) := pe_gh h
section
variable {X : Cx} {W : WX} {e : Expr} {lo hi : Option Expr} {f : Ev} {l r : Eo} {pos p2 : Pos}
theorem po_imp {e : Option Expr} {t t' : TO} (h : PO X e t) (i : ∀ σ H Q, t' σ H Q → t σ H Q) : PO X e t' := ⟨fun pins s σ H Q I q => h.run pins s σ H Q I (i σ H Q q)⟩
theorem so_no : SO X W none oNo := ⟨po_imp po_none fun σ H Q ⟨env, m, h, sta, sl, out⟩ => Out.here (b := (none : Option Int)) out sta rfl⟩
theorem so_so (h : SE X W e f) : SO X W (some e) (oSo f) := ⟨po_imp (po_some h.pe) fun σ H Q ⟨env, m, h, sta, sl, out⟩ => rd_of sta sl out fun u h1 x H1 m1 g1 s1 r1 out1 => by
  split at out1
  · rename_i i ei
    exact ⟨i, intOf_v ei r1, Out.here (b := some i) out1 s1 rfl⟩
  · exact out1.elim⟩
theorem RDs.cut {K : PySem.W.Frag} {H : Hp} {vs : List V} {ds : List D} (h : RDs K H vs ds) (lo hi : Option Int) : RDs K H (cutV vs lo hi) (cutD ds lo hi) := by
  unfold cutV cutD
  rw [h.len]
  exact (h.drop _).take _
theorem se_sl (b : Bool) (he : SE X W e f) (hl : SO X W lo l) (hu : SO X W hi r) : SE X W (.Subscript e (.Slice lo hi none p2) pos) (eSl b f l r) :=
  ⟨pe_imp (pe_gh (pe_slice (sl_tupA.or (sl_list.or sl_str)) he.pe hl.po hu.po)) fun σ H Q ⟨env, m, h, sta, sl, out⟩ => rd_of sta sl out fun u h1 x H1 m1 g1 s1 r1 out1 =>
    rd_of (rl2 := rlO) s1 (sl.gr g1) out1 fun i1 h2 i2 H2 m2 g2 s2 r2 out2 => rd_of (rl2 := rlO) s2 ((sl.gr g1).gr g2) out2 fun j1 h3 j2 H3 m3 g3 s3 r3 out3 => by
      cases r2
      cases r3
      have ru := RU.kp (g2.trans g3).kp (g2.trans g3).pre _ _ r1
      unfold opSl at out3
      split at out3
      · rename_i xs ex
        obtain ⟨p, vs, rfl, t1, d1⟩ := tupOf_v ex ru
        refine .inl ⟨p, vs, rfl, t1, fun hw => ?_, fun hw q nq => ?_⟩
        · have e1 : cutD xs i1 j1 = xs := by
            unfold cutD
            rw [← d1.len, hw.1, hw.2]
            simp [d1.len]
          rw [e1] at out3
          exact gh.no (Out.here (b := V.ref p) out3 s3 (.d (.tup t1 d1)))
        · have sm : Same H3 (upd H3 q (.tup (cutV vs i1 j1))) := Same.lay nq
          exact gh.no (Out.ok (b := V.ref q) out3 (Gr.of_same sm m3) (s3.same sm) (.d (.tup (.inl (.inl upd_same)) (RDs.kp (Kp.same sm) _ _ (d1.cut _ _)))))
      · split at out3
        · rename_i xs ex
          obtain ⟨p, vs, rfl, t1, d1⟩ := listOf_v s3 ex ru
          exact .inr (.inl ⟨p, vs, rfl, t1, fun q nq => mkL_ok s3 nq (d1.cut _ _) out3⟩)
        · split at out3
          · rename_i z ez
            split at out3
            · rename_i hz
              exact .inr (.inr ⟨z, strOf_v ez ru, ask_iff.mp hz, gh.no (Out.here (b := V.str _) out3 s3 (.d (.str _)))⟩)
            · exact out3.elim
          · exact out3.elim⟩
end

/-! ### comprehensions -/
def wipeE (env : Env') : List Nat → Env'
  | [] => env
  | v :: vs => (wipeE env vs).set v none
noncomputable def lcGo (t : Tg) (c : Eb) (e : Ev) (env : Env') : List U → List D → Sto → Res (List D)
  | [], acc, h => .ok acc h
  | u :: us, acc, h => match t u env h with
    | some env1 => (c env1 h).bind fun k h1 => (match k with
      | true => (e env1 h1).bind fun w h2 => (match w with
        | .d x => if fits (acc.length + 1) then lcGo t c e env us (acc ++ [x]) h2 else .stuck
        | _ => .stuck)
      | false => lcGo t c e env us acc h1)
    | none => .stuck
def Res.noExc {α : Type} (r : Res α) : Res α := match r with
  | .ok x h => .ok x h
  | _ => .stuck
noncomputable def eLc (b : Bool) (vs : List Nat) (it : Ea) (t : Tg) (c : Eb) (e : Ev) : Ev := fun env h => (it env h).bind fun us h1 => (lcGo t c e (wipeE env vs) us [] h1).noExc.bind fun xs h2 => mkL b xs h2
def cYes : Eb := fun _ h => .ok true h
abbrev W0 : WX := fun _ _ _ _ => False
structure STs (X : Cx) (W : WX) (ifs : List Expr) (c : Eb) : Prop where
  pt : PTs X ifs (rd X W rlB c)
section
variable {K : PySem.W.Frag} {mg : Str → Option Value} {H H' : Hp} {m : List Addr} {h : Sto} {σ : L2.St} {env : Env'}
theorem Sl.wipe (s : Sl K H m σ env) : ∀ vs : List Nat, Sl K H m (wipe σ vs) (wipeE env vs)
  | [] => s
  | v :: vs => by
    have ih := Sl.wipe s vs
    unfold L2.wipe wipeE
    refine ⟨by simp [ih.1], fun j w e => ?_⟩
    by_cases hj : v = j
    · subst hj
      by_cases hv : v < (wipeE env vs).length
      · rw [List.getElem?_set_self hv] at e; cases e
      · rw [List.getElem?_eq_none (by simpa using hv)] at e; cases e
    · rw [List.getElem?_set_ne hj] at e
      obtain ⟨x, h1, h2⟩ := ih.2 j w e
      exact ⟨x, by rw [List.getElem?_set_ne hj]; exact h1, h2⟩
theorem wipe_at (σ : L2.St) : ∀ (vs : List Nat) (j : Nat), j ∈ vs → j < σ.length → (wipe σ vs)[j]? = some none
  | v :: vs, j, hj, hl => by
    unfold wipe
    by_cases e : v = j
    · subst e
      rw [List.getElem?_set_self (by rw [wipe_length]; exact hl)]
    · rw [List.getElem?_set_ne e]
      rcases List.mem_cons.mp hj with z | z
      · exact absurd z.symm e
      · exact wipe_at σ vs j z hl
theorem wipe_only {ix vs : List Nat} {σ σ' : L2.St} (o : Only' ix (wipe σ vs) σ') (sub : ∀ j ∈ ix, j ∈ vs) : wipe σ' vs = wipe σ vs := by
  have hl : σ'.length = σ.length := by rw [o.1, wipe_length]
  refine List.ext_getElem? fun j => ?_
  by_cases hj : j ∈ vs
  · by_cases hlt : j < σ.length
    · rw [wipe_at σ' vs j hj (by rw [hl]; exact hlt), wipe_at σ vs j hj hlt]
    · rw [List.getElem?_eq_none (by rw [wipe_length, hl]; omega), List.getElem?_eq_none (by rw [wipe_length]; omega)]
  · rw [wipe_out hj, o.2 j fun z => hj (sub j z)]
/-- a list that was made meanwhile -/
theorem mkL_ok2 {X : Cx} {W : WX} {σ : L2.St} {H0 H : Hp} {m0 m : List Addr} {h : Sto} {b : Bool} {xs : List D} {vs : List V} {p : Addr} {Q : VK} (g : Gr H0 m0 H m) (s : Sta X.K X.mg H m h) (n0 : H0 p = none) (n : p ∉ m) (hp : H p = some (.lst vs)) (r : RDs X.K H vs xs) (out : Out X W (rlU X.K) σ H0 m0 (mkL b xs h) Q) :
    gh Q (.ref p) H := by
  cases b with
  | true =>
    refine gh.no (Out.ok (b := V.ref p) (m' := m ++ [p]) out ⟨?_, fun a o e na => g.keep a o e na, fun a ha na => ?_, g.kp⟩ ⟨List.nodup_append.mpr ⟨s.nd, by simp, fun b hb c hc z => by rw [List.mem_singleton.mp hc] at z; rw [z] at hb; exact n hb⟩, by simp [s.len], fun j b ob h1 h2 => ?_⟩ ?_)
    · obtain ⟨e, rfl⟩ := g.pre
      exact ⟨e ++ [p], by rw [List.append_assoc]⟩
    · rcases List.mem_append.mp ha with z | z
      · exact g.fresh a z na
      · rw [List.mem_singleton.mp z]; exact n0
    · by_cases hj : j < m.length
      · rw [List.getElem?_append_left hj] at h1
        rw [List.getElem?_append_left (by rw [← s.len]; exact hj)] at h2
        exact (s.obj j b ob h1 h2).mono rfl (Kp.refl _) ⟨[p], rfl⟩
      · rw [List.getElem?_append_right (by omega)] at h1
        rw [List.getElem?_append_right (by rw [← s.len]; omega)] at h2
        have e1 : j - m.length = 0 := by
          have := (List.getElem?_eq_some_iff.mp h1).1
          simpa using this
        have e2 : j - h.length = 0 := by rw [← s.len]; exact e1
        rw [e1] at h1
        rw [e2] at h2
        simp at h1 h2
        rw [← h1, ← h2]
        exact ⟨vs, hp, r⟩
    · exact .ref (by rw [← s.len]; simp)
  | false =>
    refine ⟨[p], fun H2 f => ?_⟩
    have hm : ∀ a, a ≠ p → H2 a = H a := fun a na => by
      rcases f.alt a with z | ⟨z, _⟩
      · exact z
      · exact absurd (List.mem_singleton.mp z) na
    obtain ⟨o, ho⟩ := f.did p List.mem_cons_self vs hp
    refine Out.ok (b := V.ref p) (m' := m) out ⟨g.pre, fun a x q na => ?_, g.fresh, g.kp.trans f.kp⟩ ⟨s.nd, s.len, fun i a ob h1 h2 => ?_⟩ (.d (.lst (.inl ⟨o, ho⟩) (RDs.kp f.kp _ _ r)))
    · rw [hm a (ne_of_none q n0)]
      exact g.keep a x q na
    · exact (s.obj i a ob h1 h2).mono (hm a fun z => n (z ▸ List.mem_of_getElem? h1)) f.kp ⟨[], by simp⟩
end
section
variable {X : Cx} {W : WX} {elt tg iter : Expr} {ifs : List Expr} {scope : Scope} {own : List (Str × Nat)} {pos : Pos} {it : Ea} {ix : List Nat} {t : Tg} {c : Eb} {e : Ev}
theorem sts_nil : STs X W [] cYes := ⟨by
  refine ⟨fun pins s σ H Q I q => pts_nil.run pins s σ H Q I ?_⟩
  obtain ⟨env, m, h, sta, sl, out⟩ := q
  exact Out.here (b := true) out sta rfl⟩
theorem sts_one {a : Expr} (h : ST X W a c) : STs X W [a] c := ⟨pts_one h.pt⟩
theorem lc_rd {σ : L2.St} {H : Hp} {Q : VK} {b : Bool} (sub : ∀ j ∈ ix, j ∈ own.map (·.2)) (q : rd X W (rlU X.K) (eLc b (own.map (·.2)) it t c e) σ H Q) :
    tLc (rd X W (rlJ X.K) it) (rdG X ix t) (rd X W0 rlB c) (rd X W0 (rlU X.K) e) (own.map (·.2)) σ H (gh Q) := by
  obtain ⟨env, m, h, sta, sl, out⟩ := q
  refine rd_of sta sl out fun us h1 J H1 m1 g1 s1 w1 out1 => fun D nD => ?_
  refine ⟨fun i k H' => k = us.length - i ∧ i ≤ us.length ∧ ∃ m' h' acc vacc, Gr H1 m1 H' m' ∧ Sta X.K X.mg H' m' h' ∧ H' D = some (.lst vacc) ∧ D ∉ m' ∧ RDs X.K H' vacc acc ∧
    Out X W (rlU X.K) σ H1 m1 ((lcGo t c e (wipeE env (own.map (·.2))) (us.drop i) acc h').noExc.bind fun xs h2 => mkL b xs h2) Q,
    ⟨us.length, by simp, Nat.zero_le _, m1, h1, [], [], Gr.of_same (Same.lay nD) m1, s1.same (Same.lay nD), upd_same, s1.new nD, .nil, by simpa using out1⟩, ?_⟩
  rintro i k H2 ⟨rfl, hi2, m2, h2, acc, vacc, g2, s2, hD, nDm, racc, o2⟩
  obtain ⟨wst, wgo⟩ := w1 H2 m2 g2.kp g2.pre
  by_cases hlt : i < us.length
  · have eu : us[i]? = some us[i] := List.getElem?_eq_getElem hlt
    have ed : us.drop i = us[i] :: us.drop (i + 1) := List.drop_eq_getElem_cons hlt
    obtain ⟨go, gy⟩ := wgo i _ eu
    rw [ed] at o2
    unfold lcGo at o2
    cases et : t us[i] (wipeE env (own.map (·.2))) h2 with
    | none => rw [et] at o2; exact o2.elim
    | some env3 =>
      rw [et] at o2
      dsimp only at o2
      refine .inr ⟨go, fun H' => us.length - (i + 1) < us.length - i ∧ i + 1 ≤ us.length ∧ ∃ m' h' acc vacc, Gr H1 m1 H' m' ∧ Sta X.K X.mg H' m' h' ∧ H' D = some (.lst vacc) ∧ D ∉ m' ∧ RDs X.K H' vacc acc ∧
        Out X W (rlU X.K) σ H1 m1 ((lcGo t c e (wipeE env (own.map (·.2))) (us.drop (i + 1)) acc h').noExc.bind fun xs h2 => mkL b xs h2) Q, fun H' ⟨n1, n2, n3⟩ => ⟨us.length - (i + 1), n1, rfl, n2, n3⟩, fun x H3 y => ?_⟩
      obtain ⟨sm, rx⟩ := gy x H3 y
      have gg := Gr.of_same sm m2
      have g3 := g2.trans gg
      have s3 := s2.same sm
      have hD3 : H3 D = some (.lst vacc) := sm _ _ hD
      have racc3 := RDs.kp gg.kp _ _ racc
      refine ⟨us[i], wipeE env (own.map (·.2)), m2, h2, s3, ((sl.gr g1).gr g3).wipe _, rx, env3, et, fun σ3 l3 only => ⟨wipe_only only sub, ?_⟩⟩
      refine ⟨env3, m2, h2, s3, l3, ?_⟩
      -- the test
      generalize hc : c env3 h2 = q at o2
      cases q with
      | stuck => exact o2.elim
      | exc c1 h4 => exact o2.elim
      | ok kb h4 =>
        intro b4 H4 m4 g4 s4 r4
        cases r4
        have keepD : ∀ {Ha : Hp} {ma : List Addr} {Hb : Hp} {mb : List Addr}, Gr Ha ma Hb mb → Ha D = some (.lst vacc) → D ∉ ma → Hb D = some (.lst vacc) ∧ D ∉ mb := fun {Ha ma Hb mb} g hd nd => ⟨g.keep _ _ hd nd, fun z => by
          have q := g.fresh D z nd
          rw [hd] at q
          cases q⟩
        obtain ⟨hD4, nD4⟩ := keepD g4 hD3 nDm
        cases kb with
        | false =>
          rw [if_neg Bool.false_ne_true]
          exact ⟨by omega, hlt, m4, h4, acc, vacc, g3.trans g4, s4, hD4, nD4, RDs.kp g4.kp _ _ racc3, o2⟩
        | true =>
          rw [if_pos rfl]
          refine ⟨env3, m4, h4, s4, l3.gr g4, ?_⟩
          have o3 : Out X W (rlU X.K) σ H1 m1 (Res.bind (Res.noExc ((e env3 h4).bind fun w h2 => match w with | .d x => if fits (acc.length + 1) then lcGo t c e (wipeE env (own.map (·.2))) (us.drop (i + 1)) (acc ++ [x]) h2 else .stuck | _ => .stuck)) fun xs h2 => mkL b xs h2) Q := o2
          generalize he : e env3 h4 = q at o3
          cases q with
          | stuck => exact o3.elim
          | exc c1 h5 => exact o3.elim
          | ok w h5 =>
            intro y H5 m5 g5 s5 r5
            obtain ⟨hD5, nD5⟩ := keepD g5 hD4 nD4
            rw [Res.bind_ok] at o3
            cases w with
            | ref n => exact o3.elim
            | tup us => exact o3.elim
            | exn a => exact o3.elim
            | d dx =>
              dsimp only at o3
              split at o3
              · rename_i hz
                have racc5 := RDs.kp (g4.trans g5).kp _ _ racc3
                refine ⟨vacc, hD5, by rw [racc5.len]; exact ask_iff.mp hz, by omega, hlt, m5, h5, acc ++ [dx], vacc ++ [y], ?_, ?_, upd_same, nD5, ?_, o3⟩
                · have gA := (g3.trans g4).trans g5
                  refine ⟨gA.pre, fun a o q na => ?_, gA.fresh, ⟨fun a xs q => ?_, fun a o u q => ?_⟩⟩
                  · rw [upd_ne (ne_of_none q nD)]; exact gA.keep a o q na
                  · rw [upd_ne (ne_of_none q nD)]; exact gA.kp.tup a xs q
                  · rw [upd_ne (ne_of_none q nD)]; exact gA.kp.frz a o u q
                · exact ⟨s5.nd, s5.len, fun j a ob k1 k2 => (s5.obj j a ob k1 k2).mono (upd_ne fun z => nD5 (z ▸ List.mem_of_getElem? k1)) (mut_kp hD5 trivial) ⟨[], by simp⟩⟩
                · have kp := mut_kp (y := HO.lst (vacc ++ [y])) hD5 trivial
                  exact (RDs.kp kp _ _ racc5).app (.one (RD.kp kp _ _ r5.rd))
              · exact o3.elim
  · have e' : i = us.length := by omega
    subst e'
    rw [List.drop_length] at o2
    exact .inl ⟨wst _ (Nat.le_refl _), mkL_ok2 g2 s2 nD nDm hD racc o2⟩
theorem se_lc (b : Bool) {vs : List Nat} (own : List (Str × Nat)) (hc : X.calm = true) (hN : X.N.Nodup) (hv : own.map (·.2) = vs) (sub : ∀ j ∈ ix, j ∈ vs) (hi : SI X W tg iter it) (ok : BlkOk X.N X.env.scope scope own)
    (hg : ∀ (s : Shared) (H : Hp) (C : Addr) (cl : List (Str × Addr)) (fp : List Addr), SG (X.blk s H scope (compEnvC scope cl C X.env) fp) tg ix t)
    (ht : ∀ (s : Shared) (H : Hp) (C : Addr) (cl : List (Str × Addr)) (fp : List Addr), STs (X.blk s H scope (compEnvC scope cl C X.env) fp) W0 ifs c)
    (he : ∀ (s : Shared) (H : Hp) (C : Addr) (cl : List (Str × Addr)) (fp : List Addr), SE (X.blk s H scope (compEnvC scope cl C X.env) fp) W0 elt e) (hs : ∀ x, foldedSetIterable iter X.env x = pure x := by intro _; rfl) :
    SE X W (.ListComp elt [⟨tg, iter, ifs, 0⟩] scope pos) (eLc b vs it t c e) := by
  subst hv
  exact ⟨pe_imp (pe_gh (pe_lc hc hN hi.pi ok (fun s H C cl fp => (hg s H C cl fp).pg) (fun s H C cl fp => (ht s H C cl fp).pt) (fun s H C cl fp => (he s H C cl fp).pe) hs)) fun σ H Q q => lc_rd sub q⟩
theorem ps_gh {X : Cx} {st : Stmt} {t : TS} (h : PS X st t) : PS X st (fun D σ H => t { D with nx := fun σ' H1 => ∃ S, ∀ H2, Fz S H1 H2 → D.nx σ' H2 } σ H) := by
  refine ⟨fun pins s σ H D I q => thn (h.run pins s σ H _ I q) fun fl s1 z => ?_⟩
  cases fl with
  | next =>
    obtain ⟨σ', H1, I1, S, q1⟩ := z
    obtain ⟨H2, f, I2⟩ := inv_fz S I1
    exact ⟨σ', H2, I2, q1 H2 f⟩
  | brk => exact z
  | cont => exact z
  | ret u => exact z
/-- name = [..] -/
theorem ss_setLc (b : Bool) (i : Nat) {vs : List Nat} {y : Str} {py spos : Pos} (hsw : swapsWith (.ListComp elt [⟨tg, iter, ifs, 0⟩] scope pos) (some (.Name y py)) spos.line X.env = pure true) (own : List (Str × Nat)) (hc : X.calm = true) (hN : X.N.Nodup) (hv : own.map (·.2) = vs) (sub : ∀ j ∈ ix, j ∈ vs) (hi : SI X W tg iter it) (ok : BlkOk X.N X.env.scope scope own)
    (hg : ∀ (s : Shared) (H : Hp) (C : Addr) (cl : List (Str × Addr)) (fp : List Addr), SG (X.blk s H scope (compEnvC scope cl C X.env) fp) tg ix t)
    (ht : ∀ (s : Shared) (H : Hp) (C : Addr) (cl : List (Str × Addr)) (fp : List Addr), STs (X.blk s H scope (compEnvC scope cl C X.env) fp) W0 ifs c)
    (he : ∀ (s : Shared) (H : Hp) (C : Addr) (cl : List (Str × Addr)) (fp : List Addr), SE (X.blk s H scope (compEnvC scope cl C X.env) fp) W0 elt e)
    (hy : X.N[i]? = some y := by rfl) (hyl : X.env.scope.names.lookup y = some .local := by rfl) (hs : ∀ x, foldedSetIterable iter X.env x = pure x := by intro _; rfl) :
    SS X W (.Assign [.Name y py] (.ListComp elt [⟨tg, iter, ifs, 0⟩] scope pos) spos) (sSet i (eLc b vs it t c e)) := by
  subst hv
  exact ⟨ps_imp (ps_gh (ps_setLc hc hN hy hyl hsw hi.pi ok (fun s H C cl fp => (hg s H C cl fp).pg) (fun s H C cl fp => (ht s H C cl fp).pt) (fun s H C cl fp => (he s H C cl fp).pe) hs)) fun D σ H ⟨env, m, h, sta, sl, out⟩ => by
    have q : rd X W (rlU X.K) (eLc b (own.map (·.2)) it t c e) σ H (fun v H1 => D.nx (σ.set i (some v)) H1) := rd_then sta sl out fun u h1 v H1 m1 g1 s1 r1 out1 =>
      (show ∀ σ' H' m', Gr H1 m1 H' m' → Sta X.K X.mg H' m' h1 → Sl X.K H' m' σ' (env.set i (some u)) → D.nx σ' H' from out1) _ H1 m1 (Gr.refl _ _) s1 ((sl.gr g1).set r1 i)
    exact lc_rd sub q⟩
end
end Wk

/-! T6: defs, the end. -/
namespace Wk
open PySem PySem.Spec PyProof.Rows L2

def fuel : Nat := 100000000000000000000000
theorem bt_len : bootBuiltins "len" = some (.builtin "len") := by decide +kernel
theorem bt_abs : bootBuiltins "abs" = some (.builtin "abs") := by decide +kernel
theorem bt_max : bootBuiltins "max" = some (.builtin "max") := by decide +kernel
theorem bt_min : bootBuiltins "min" = some (.builtin "min") := by decide +kernel
theorem bt_int : bootBuiltins "int" = some (.type "int") := by decide +kernel
theorem bt_bool : bootBuiltins "bool" = some (.type "bool") := by decide +kernel
theorem bt_str : bootBuiltins "str" = some (.type "str") := by decide +kernel
theorem bt_tuple : bootBuiltins "tuple" = some (.type "tuple") := by decide +kernel
theorem bt_list : bootBuiltins "list" = some (.type "list") := by decide +kernel

structure Has (K : PySem.W.Frag) (mg : Str → Option Value) (name : Str) (st : Stmt) (ps : List Str) : Prop where
  ex : ∃ f fd, mg name = some (.ref f) ∧ Fun K name name st f fd ∧ ∀ us : List Value, us.length = ps.length → bindArgs fd ⟨us, []⟩ = pure (ps.zip us)
theorem has_mk {K : PySem.W.Frag} {h : Heap} {mg : Str → Option Value} {x : Str} {st : Stmt} {ps : List Str} {f : Addr} {oc : Value} {od an : Option Addr} {osl : Array (Option Value)} {kV doc pm cdv ct : Value} (X : K.In h) (G : h.Ns mainGlobals mg)
    (hb : ∀ (kV doc pm : Value) (an : Option Addr) (cdv ct : Value) (us : List Value), us.length = ps.length → bindArgs (PySem.W.fnOf x x (defArgs st) (defBody st) (defScope st) .none kV doc pm an cdv ct) ⟨us, []⟩ = pure (ps.zip us))
    (a : PySem.W.nsIn K mainGlobals x = some (some (.ref f))) (l : K.lookup f = some ⟨oc, od, .func (PySem.W.fnOf x x (defArgs st) (defBody st) (defScope st) .none kV doc pm an cdv ct), osl⟩) (c : PySem.W.codeIn K cdv x = true) (k : PySem.W.keepIn K (.ref f) = true) : Has K mg x st ps :=
  ⟨f, _, PySem.W.mg_of X G a, fun_mk l c k, hb _ _ _ _ _ _⟩
/-! a constant of the module, looked up in the written part -/
mutual
def rdB (K : PySem.W.Frag) : Nat → Value → D → Bool
  | 0, _, _ => false
  | _ + 1, .none, .none => true
  | _ + 1, .bool b, .bool c => b == c
  | _ + 1, .int i _, .int j => decide (i = j)
  | _ + 1, .str x _, .str y => decide (x = y)
  | n + 1, .ref a, .tuple ds => match K.lookup a with
    | some o => (match o.data with
      | .seq its _ => decide (o.cls = .type "tuple") && decide (its.size ≤ 1000) && rdBs K n its.toList ds
      | _ => false)
    | none => false
  | _ + 1, _, _ => false
def rdBs (K : PySem.W.Frag) : Nat → List Value → List D → Bool
  | 0, _, _ => false
  | _ + 1, [], [] => true
  | n + 1, u :: us, d :: ds => rdB K n u d && rdBs K n us ds
  | _ + 1, _, _ => false
end
mutual
theorem rdB_ok {K : PySem.W.Frag} : ∀ (n : Nat) (u : Value) (d : D), rdB K n u d = true → ∃ v, RelV v u ∧ ∀ H, RD K H v d
  | 0, _, _, e => by rw [rdB] at e; cases e
  | n + 1, u, d, e => by
    unfold rdB at e
    split at e
    · rename_i h; cases h
    · exact ⟨.non, rfl, fun _ => .non⟩
    · have z := beq_iff_eq.mp e
      subst z
      exact ⟨.bl _, rfl, fun _ => .bl _⟩
    · have z := of_decide_eq_true e
      subst z
      exact ⟨.int _, ⟨_, rfl⟩, fun _ => .int _⟩
    · have z := of_decide_eq_true e
      subst z
      exact ⟨.str _, ⟨_, rfl⟩, fun _ => .str _⟩
    · rename_i m a ds hm
      cases hm
      split at e
      · rename_i o ho
        split at e
        · rename_i its k hd
          simp only [Bool.and_eq_true, decide_eq_true_eq] at e
          obtain ⟨vs, rv, rd⟩ := rdBs_ok n its.toList ds e.2
          exact ⟨.ref a, rfl, fun H => .tup (.inr ⟨o, its, k, ho, e.1.1, hd, line1000 e.1.2, rv⟩) (rd H)⟩
        · cases e
      · cases e
    · cases e
theorem rdBs_ok {K : PySem.W.Frag} : ∀ (n : Nat) (us : List Value) (ds : List D), rdBs K n us ds = true → ∃ vs, Vals vs us ∧ ∀ H, RDs K H vs ds
  | 0, _, _, e => by rw [rdBs] at e; cases e
  | n + 1, us, ds, e => by
    unfold rdBs at e
    split at e
    · rename_i h; cases h
    · exact ⟨[], .nil, fun _ => .nil⟩
    · rename_i m u us d ds hm
      cases hm
      rw [Bool.and_eq_true] at e
      obtain ⟨v, r1, d1⟩ := rdB_ok n u d e.1
      obtain ⟨vs, r2, d2⟩ := rdBs_ok n us ds e.2
      exact ⟨v :: vs, .cons r1 r2, fun H => .cons (d1 H) (d2 H)⟩
    · cases e
end
theorem const_mk {K : PySem.W.Frag} {h : Heap} {mg : Str → Option Value} {x : Str} {u : Value} {d : D} (KX : K.In h) (G : h.Ns mainGlobals mg) (a : PySem.W.nsIn K mainGlobals x = some (some u)) (b : rdB K 30 u d = true)
    (hx : (x == ("__debug__" : Str)) = false := by decide) : ∀ {X : Cx} {W : WX} {pos : Pos}, X.K = K → X.mg = mg → Gl X x → SE X W (.Name x pos) (eC d) := by
  intro X W pos eK em hg
  subst eK em
  obtain ⟨v, r, rd⟩ := rdB_ok _ _ _ b
  exact se_glob hg (PySem.W.mg_of KX G a) r rd hx
/-- the def keeps its data function, wherever it stands -/
def FnA (P : Program) (w : World) (K : PySem.W.Frag) (mg : Str → Option Value) (base : Heap) (k : Nat) (x : Str) (st : Stmt) (ps : List Str) (F : PF) : Prop :=
  ∀ f fd, Fun K x x st f fd → FnOk P w K mg base (L2.CX P w) k f fd ps (spP K mg ps.length F)
theorem FnA.p {P : Program} {w : World} {K : PySem.W.Frag} {mg : Str → Option Value} {base : Heap} {k : Nat} {x : Str} {st : Stmt} {ps : List Str} {F : PF} (h : FnA P w K mg base k x st ps F) (hs : Has K mg x st ps) : FnP P w K mg base k x ps F := by
  obtain ⟨f, fd, h1, h2, h3⟩ := hs.ex
  exact ⟨f, fd, h1, h2.kp, Binds.all h3, h f fd h2⟩

/-- a def's data function, by its body -/
def pfOf (n : Nat) (B : Es) : PF := fun ds => match B (ds.map (fun d => some (.d d)) ++ List.replicate (n - ds.length) none) [] with
  | .ret (.d d) _ => .ok d
  | .next _ _ => .ok .none
  | .exc c _ _ => .exc c
  | _ => .stuck
theorem sl_start {K : PySem.W.Frag} {H : Hp} {N : List Str} {vs : List V} {ds : List D} (r : RDs K H vs ds) : Sl K H [] (L2.start N vs) (ds.map (fun d => some (.d d)) ++ List.replicate (N.length - ds.length) none) := by
  unfold L2.start
  refine ⟨by simp [r.len], fun i u e => ?_⟩
  by_cases hi : i < ds.length
  · rw [List.getElem?_append_left (by simpa using hi), List.getElem?_map, List.getElem?_eq_getElem hi] at e
    cases e
    obtain ⟨v, h1, h2⟩ := r.get (List.getElem?_eq_getElem hi)
    exact ⟨v, by rw [List.getElem?_append_left (by rw [List.length_map, r.len]; exact hi), List.getElem?_map, h1]; rfl, .d h2⟩
  · rw [List.getElem?_append_right (by simpa using hi), List.getElem?_replicate] at e
    split at e <;> cases e
section
variable {P : Program} {w : World} {K : PySem.W.Frag} {mg : Str → Option Value} {base : Heap}
abbrev WD (E : XK) : WX := fun cls d _ H => E cls d H
/-- THE RULE for a def that takes data and gives data -/
theorem fn_priv {x : Str} {st : Stmt} {N ps : List Str} {k : Nat} {B : Es} (S : FnScope N ps (defScope st))
    (body : ∀ (f : Addr) (cdv : Value) (A : Around) (outer : List Env) (s : Shared) (H : Hp) (E : XK), Room k (A.deeper (envOfC x (defScope st) s.heap.objs.size f cdv)) →
      Takes (cxOf (L2.CX P w) P w K mg base N x (defScope st) f cdv A outer s H E) (WD E) →
      PassesOwn (model P w) (A.deeper (envOfC x (defScope st) s.heap.objs.size f cdv)) (envOfC x (defScope st) s.heap.objs.size f cdv) (cxOf (L2.CX P w) P w K mg base N x (defScope st) f cdv A outer s H E).xe →
      SSs (cxOf (L2.CX P w) P w K mg base N x (defScope st) f cdv A outer s H E) (WD E) (defBody st) B) :
    FnA P w K mg base (k + 1) x st ps (pfOf N.length B) := by
  intro f fd h2
  refine h2.okX S (fun vs H Q E h => ?_) fun cdv A outer s H vs Q E hr h => ?_
  · obtain ⟨ds, _, e, _⟩ := h
    exact e
  · obtain ⟨ds, r, e, q⟩ := h
    refine ⟨_, (body f cdv A outer s H E hr (takes_of rfl rfl rfl rfl) (passes_of rfl)).ps, _, [], [], Sta.nil, sl_start r, ?_⟩
    unfold pfOf at q
    generalize B (ds.map (fun d => some (.d d)) ++ List.replicate (N.length - ds.length) none) [] = z at q
    cases z with
    | next env' h' => exact fun σ' H' m' g s' l => (show ∀ v H', Same H H' → RD K H' v .none → Q v H' from q) .non H' g.same .non
    | ret u h' =>
      cases u with
      | d d => exact fun v H' m' g s' r' => (show ∀ v H', Same H H' → RD K H' v d → Q v H' from q) v H' g.same r'.rd
      | ref n => exact q.elim
      | tup us => exact q.elim
      | exn a => exact q.elim
    | exc c env' h' => exact fun σ' H' m' g s' l C hC => (show ∀ H', Same H H' → ∀ C, mg c = some (.ref C) → E (.ref C) none H' from q) H' g.same C hC
    | stuck => exact q
end

theorem only_frz {K : PySem.W.Frag} {H : Hp} {a : Addr} {vs : List V} (o : Only H) (h : SqL K H a vs) : FzL K H a vs := by
  rcases h with (h | ⟨ob, h⟩) | h
  · rcases o a with z | ⟨ob, xs, z⟩
    · rw [h] at z; cases z
    · rw [h] at z; cases z
  · exact .inl ⟨ob, h⟩
  · exact .inr h
theorem end_of {l : PySem.W.OpenLaw} {n k : Nat} {q : Program} {loose : List Str} {XP : (Str → Option Value) → Heap → Prop} {YP : World → Heap → Prop} {d : DefRec} {K : Params → PySem.W.Frag} {x : Str} {st : Stmt} {F : PF}
    (hn : l.most = some n) (hn2 : n ≤ sizeLine) (hdf : d.params.defaults = []) (hr : Room k callerA)
    (hY : ∀ (w : World) (h : Heap), YP w h → (K w.params).In h)
    (hF : ∀ (w : World) (mg : Str → Option Value) (h : Heap), (K w.params).In h → h.Ns mainGlobals mg → Has (K w.params) mg d.name st [x] ∧ ∀ base : Heap, FnA l.prog w (K w.params) mg base k d.name st [x] F)
    (law : ∀ ns : List Int, ns.length ≤ n → (∀ z ∈ ns, Builtin.Int.intBits z ≤ 1048576) → F [.list (ns.map .int)] = .ok (.bool true)) :
    PySem.W.WalkO q loose XP YP l.row.toRowW d [] (fun f vs => PySem.call f vs) := by
  have tk : ∀ (w : World) (H : Hp) (s : Shared) (e : Value) (s' : Shared), L2.CX l.prog w [] H s (fun _ _ _ => False) e s' → False := fun w H s e s' z => by
    obtain ⟨_, _, _, _, _, _, _, _, _, _, _, _, z⟩ := z
    exact z
  refine Att.attach_callB hn hdf fun w s₀ s₁ mg mb fa o pm cd doc a vs ns G Y ho hd hcd hmg hobj hints hlen hbits hg => ?_
  have KX := hY w _ Y
  obtain ⟨hs, hA⟩ := hF w mg _ KX G.T.g
  obtain ⟨f, fd, h1, h2, h3⟩ := hs.ex
  rw [hmg] at h1
  cases h1
  exact law_call KX G.T.g G.T.b G.T.builtins G.T.nolimit hg hobj hints (Nat.le_trans hlen hn2) hr (sp := spP (K w.params) mg 1 F) (fun base _ _ => hA base fa fd h2) (fun s u => .of_eq (h3 [u] rfl))
    (fun H hO hS => ⟨[.list (ns.map .int)], .cons (.lst (only_frz hO hS) RDs.ints) .nil, rfl, by
      rw [law ns hlen hbits]
      intro v H' _ r
      cases r
      rfl⟩) fun H e s' => tk w H s₁ e s'
end Wk

/-! T7: how the functions come out. -/
namespace Wk
open PySem L2

section
variable {α : Type} {f g k : Ev} {fa : Ea} {p q : Eb} {s t : Es} {env : Env'} {h : Sto} {u w : U}
@[simp] theorem ev_C (d : D) : eC d env h = .ok (.d d) h := (rfl)
@[simp] theorem ev_V (i : Nat) : eV i env h = match env[i]? with | some (some u) => .ok u h | _ => .stuck := (rfl)
@[simp] theorem ev_Bin (F : U → U → Sto → Res U) : eBin F f g env h = (f env h).bind fun u h1 => (g env h1).bind fun w h2 => F u w h2 := (rfl)
@[simp] theorem ev_Un (F : U → Sto → Res U) : eUn F f env h = (f env h).bind F := (rfl)
@[simp] theorem ev_B (F : List U → Sto → Res U) : eB F fa env h = (fa env h).bind F := (rfl)
@[simp] theorem ev_aNil : aNil env h = .ok [] h := (rfl)
@[simp] theorem ev_aCons : aCons f fa env h = (f env h).bind fun u h1 => (fa env h1).bind fun us h2 => .ok (u :: us) h2 := (rfl)
@[simp] theorem ev_tBin (F : U → U → Sto → Res U) : tBin F f g env h = tB (eBin F f g env h) := (rfl)
@[simp] theorem ev_tBb (b : Bool) : tB (.ok (.d (.bool b)) h) = .ok b h := (rfl)
@[simp] theorem ev_tBs : tB .stuck = .stuck := (rfl)
@[simp] theorem ev_tBe (c : Str) : tB (.exc c h) = .exc c h := (rfl)
@[simp] theorem ev_tTru : tTru f env h = (f env h).bind fun u h1 => match truthOf h1 u with | some b => .ok b h1 | none => .stuck := (rfl)
@[simp] theorem ev_truB (b : Bool) : truthOf h (.d (.bool b)) = some b := (rfl)
@[simp] theorem ev_bAnd : bAnd p q env h = (p env h).bind fun b h1 => match b with | true => q env h1 | false => .ok false h1 := (rfl)
@[simp] theorem ev_bOr : bOr p q env h = (p env h).bind fun b h1 => match b with | true => .ok true h1 | false => q env h1 := (rfl)
@[simp] theorem ev_bNot : bNot p env h = (p env h).bind fun b h1 => .ok (!b) h1 := (rfl)
@[simp] theorem ev_eAnd : eAnd f g env h = (tB (f env h)).bind fun b h1 => match b with | true => g env h1 | false => .ok (.d (.bool false)) h1 := (rfl)
@[simp] theorem ev_eOr : eOr f g env h = (tB (f env h)).bind fun b h1 => match b with | true => .ok (.d (.bool true)) h1 | false => g env h1 := (rfl)
@[simp] theorem ev_eNot : eNot f env h = (tB (f env h)).bind fun b h1 => .ok (.d (.bool (!b))) h1 := (rfl)
@[simp] theorem ev_Fz : eFz f env h = (f env h).bind fzR := (rfl)
@[simp] theorem ev_fzd (d : D) : fzR (.d d) h = .ok (.d d) h := (rfl)
@[simp] theorem ev_Tup : eTup fa env h = (fa env h).bind fun us h1 => if us.length ≤ 1000 then (match allD us with | some ds => .ok (.d (.tuple ds)) h1 | none => .ok (.tup us) h1) else .stuck := (rfl)
@[simp] theorem ev_Lst (b : Bool) : eLst b fa env h = (fa env h).bind fun us h1 => if us.length ≤ 1000 then (match allD us with | some ds => mkL b ds h1 | none => .stuck) else .stuck := (rfl)
@[simp] theorem ev_mkT (xs : List D) : mkL true xs h = .ok (.ref h.length) (h ++ [.lst xs]) := (rfl)
@[simp] theorem ev_mkF (xs : List D) : mkL false xs h = .ok (.d (.list xs)) h := (rfl)
@[simp] theorem ev_allN : allD [] = some [] := (rfl)
@[simp] theorem ev_allC (x : D) (r : List U) : allD (.d x :: r) = match allD r with | some xs => some (x :: xs) | none => none := (rfl)
@[simp] theorem ev_Call (F : PF) : eCall F fa env h = (fa env h).bind fun us h1 => match allD us with | some ds => (F ds).res h1 | none => .stuck := (rfl)
@[simp] theorem ev_resK (d : D) : (PR.ok d).res h = .ok (.d d) h := (rfl)
@[simp] theorem ev_resE (c : Str) : (PR.exc c).res h = .exc c h := (rfl)
@[simp] theorem ev_resS : (PR.stuck).res h = .stuck := (rfl)
-- statements
@[simp] theorem ev_Nil : sNil env h = .next env h := (rfl)
@[simp] theorem ev_Seq : sSeq s t env h = (s env h).seq t := (rfl)
@[simp] theorem ev_If : sIf p s t env h = (p env h).then_ env fun b h1 => match b with | true => s env h1 | false => t env h1 := (rfl)
@[simp] theorem ev_Set (i : Nat) : sSet i f env h = (f env h).then_ env fun u h1 => .next (env.set i (some u)) h1 := (rfl)
@[simp] theorem ev_Ret : sRet f env h = (f env h).then_ env fun u h1 => .ret u h1 := (rfl)
@[simp] theorem ev_Expr : sExpr f env h = (f env h).then_ env fun _ h1 => .next env h1 := (rfl)
@[simp] theorem ev_Asg (g : Tg) : sAsg g f env h = (f env h).then_ env fun u h1 => match g u env h1 with | some env' => .next env' h1 | none => .stuck := (rfl)
@[simp] theorem ev_gN (i : Nat) : gN i u env h = some (env.set i (some u)) := (rfl)
@[simp] theorem ev_gT (n : Nat) (r : Tgs) : gTup' n r u env h = match itemsOf h u with | some us => if us.length = n then r us env h else none | none => none := (rfl)
@[simp] theorem ev_gNil : gNil' [] env h = some env := (rfl)
@[simp] theorem ev_gCons (g : Tg) (r : Tgs) (us : List U) : gCons' g r (u :: us) env h = match g u env h with | some env1 => r us env1 h | none => none := (rfl)
@[simp] theorem ev_itT (xs : List D) : itemsOf h (.d (.tuple xs)) = some (xs.map .d) := (rfl)
@[simp] theorem ev_itL (xs : List D) : itemsOf h (.d (.list xs)) = some (xs.map .d) := (rfl)
-- operators
@[simp] theorem ev_add (b : Bool) (i j : Int) : opAdd b (.d (.int i)) (.d (.int j)) h = .ok (.d (.int (i + j))) h := (rfl)
@[simp] theorem ev_sub (i j : Int) : opSub (.d (.int i)) (.d (.int j)) h = .ok (.d (.int (i - j))) h := (rfl)
@[simp] theorem ev_mul (i j : Int) : opMul (.d (.int i)) (.d (.int j)) h = if mulOk i j then .ok (.d (.int (i * j))) h else .stuck := (rfl)
@[simp] theorem ev_fdiv (i j : Int) : opFdiv (.d (.int i)) (.d (.int j)) h = if divOk j then .ok (.d (.int (i / j))) h else .stuck := (rfl)
@[simp] theorem ev_mod (i j : Int) : opMod (.d (.int i)) (.d (.int j)) h = if 0 < j then .ok (.d (.int (i % j))) h else .stuck := (rfl)
theorem ev_pow (i j : Int) (h0 : 0 ≤ j) (h1 : j ≤ 1000000) (h2 : i.natAbs < 2 ^ 64) : opPow (.d (.int i)) (.d (.int j)) h = .ok (.d (.int (i ^ j.toNat))) h := if_pos (ask_t ⟨h0, h1, h2⟩)
@[simp] theorem ev_neg (i : Int) : opNeg (.d (.int i)) h = .ok (.d (.int (-i))) h := (rfl)
@[simp] theorem ev_cmp (c : Int → Int → Bool) (i j : Int) : opI c (.d (.int i)) (.d (.int j)) h = .ok (.d (.bool (c i j))) h := (rfl)
@[simp] theorem ev_int (i : Int) : fInt [.d (.int i)] h = .ok (.d (.int i)) h := (rfl)
@[simp] theorem ev_intB (b : Bool) : fInt [.d (.bool b)] h = .ok (.d (.int (if b then 1 else 0))) h := (rfl)
@[simp] theorem ev_i1 (g : Int → Int) (i : Int) : fI1 g [.d (.int i)] h = .ok (.d (.int (g i))) h := (rfl)
@[simp] theorem ev_i2 (g : Int → Int → Int) (i j : Int) : fI2 g [.d (.int i), .d (.int j)] h = .ok (.d (.int (g i j))) h := (rfl)
@[simp] theorem ev_lenL (xs : List D) : fLen [.d (.list xs)] h = .ok (.d (.int xs.length)) h := (rfl)
@[simp] theorem ev_lenT (xs : List D) : fLen [.d (.tuple xs)] h = .ok (.d (.int xs.length)) h := (rfl)
@[simp] theorem ev_ixT (xs : List D) (i : Int) : opIx (.d (.tuple xs)) (.d (.int i)) h = match atI xs i with | some x => .ok (.d x) h | none => .stuck := (rfl)
@[simp] theorem ev_ixL (xs : List D) (i : Int) : opIx (.d (.list xs)) (.d (.int i)) h = match atI xs i with | some x => .ok (.d x) h | none => .stuck := (rfl)
@[simp] theorem ev_isi (T : Ty) (d : D) : opIsi T (.d d) h = .ok (.d (.bool (isTy T d))) h := (rfl)
end
theorem mulOk_of {i j : Int} (h : i.natAbs < 2 ^ 64 ∨ j.natAbs < 2 ^ 64) : mulOk i j = true := ask_t (h.elim .inl fun z => .inr (.inl z))
theorem mulOk_big {i j : Int} (h1 : i.natAbs < 2 ^ 400000) (h2 : j.natAbs < 2 ^ 400000) : mulOk i j = true := ask_t (.inr (.inr ⟨h1, h2⟩))
theorem divOk_of {j : Int} (h1 : 0 < j) (h2 : j.natAbs < 2 ^ 8000) : divOk j = true := ask_t ⟨h1, h2⟩
theorem fits_of {n : Nat} (h : n ≤ 16777216) : fits n = true := ask_t (by rw [sizeLine_eq]; exact h)
theorem pfOf_ap (n : Nat) (B : Es) (ds : List D) : pfOf n B ds = match B (ds.map (fun d => some (.d d)) ++ List.replicate (n - ds.length) none) [] with
  | .ret (.d d) _ => .ok d
  | .next _ _ => .ok .none
  | .exc c _ _ => .exc c
  | _ => .stuck := (rfl)
@[simp] theorem mulOk_r {i j : Int} (h : j.natAbs < 2 ^ 64) : mulOk i j = true := mulOk_of (.inr h)
@[simp] theorem mulOk_l {i j : Int} (h : i.natAbs < 2 ^ 64) : mulOk i j = true := mulOk_of (.inl h)
theorem natAbs_mod {x m : Int} (h : 0 < m) (h' : m ≤ 2 ^ 64) : (x % m).natAbs < 2 ^ 64 := by
  have h1 := Int.emod_nonneg x (show m ≠ 0 by omega)
  have h2 := Int.emod_lt_of_pos x h
  omega
@[simp] theorem mulOk_ml {x m j : Int} (h : 0 < m) (h' : m ≤ 2 ^ 64) : mulOk (x % m) j = true := mulOk_of (.inl (natAbs_mod h h'))
@[simp] theorem mulOk_mr {x m j : Int} (h : 0 < m) (h' : m ≤ 2 ^ 64) : mulOk j (x % m) = true := mulOk_of (.inr (natAbs_mod h h'))
@[simp] theorem divOk_s {j : Int} (h : 0 < j) (h' : j.natAbs < 2 ^ 64) : divOk j = true := divOk_of h (Nat.lt_of_lt_of_le h' (Nat.pow_le_pow_right (by decide) (by decide)))

/-! ### loops -/
theorem forGo_nil (t : Tg) (b : Es) (env : Env') (h : Sto) : forGo t b [] env h = .next env h := rfl
theorem forGo_cons (t : Tg) (b : Es) (u : U) (us : List U) (env : Env') (h : Sto) : forGo t b (u :: us) env h = match t u env h with | some env1 => (b env1 h).seq (forGo t b us) | none => .stuck := rfl
/-- each turn goes on, and keeps I -/
theorem forGo_inv {t : Tg} {b : Es} : ∀ {us : List U} (I : Nat → Env' → Sto → Prop) (k : Nat) {env : Env'} {h : Sto}, I k env h →
    (∀ (i : Nat) u env h, us[i]? = some u → I (k + i) env h → ∃ env1 env2 h2, t u env h = some env1 ∧ b env1 h = .next env2 h2 ∧ I (k + i + 1) env2 h2) → ∃ env' h', forGo t b us env h = .next env' h' ∧ I (k + us.length) env' h'
  | [], I, k, env, h, h0, _ => ⟨env, h, rfl, h0⟩
  | u :: us, I, k, env, h, h0, st => by
    obtain ⟨env1, env2, h2, e1, e2, h3⟩ := st 0 u env h rfl h0
    obtain ⟨env', h', e3, h4⟩ := forGo_inv (us := us) I (k + 1) h3 (fun i v env h e hi => by
      have q := st (i + 1) v env h (by simpa using e) (by rw [← Nat.add_assoc, Nat.add_right_comm]; exact hi)
      rw [← Nat.add_assoc, Nat.add_right_comm k i 1] at q
      exact q)
    refine ⟨env', h', ?_, ?_⟩
    · rw [forGo_cons, e1]
      show (b env1 h).seq (forGo t b us) = _
      rw [e2]
      exact e3
    · rw [List.length_cons, Nat.add_comm us.length 1, ← Nat.add_assoc]
      exact h4
theorem iRange_get {n : Nat} {lo : Int} {i : Nat} {u : U} (e : (iRange n lo)[i]? = some u) : i < n ∧ u = .d (.int (lo + i)) := by
  unfold iRange at e
  rw [List.getElem?_map] at e
  cases q : (List.range n)[i]? with
  | none => rw [q] at e; cases e
  | some j =>
    rw [q] at e
    have hi := (List.getElem?_eq_some_iff.mp q).1
    rw [List.length_range] at hi
    rw [List.getElem?_range hi] at q
    cases q
    cases e
    exact ⟨hi, rfl⟩
theorem iRange_len (n : Nat) (lo : Int) : (iRange n lo).length = n := by unfold iRange; simp
/-- a while by a number that falls -/
theorem whileGo_ix {c : Eb} {b : Es} (I : Nat → Env' → Sto → Prop) (st : ∀ m env h, I m env h → ∃ k h1, c env h = .ok k h1 ∧ (k = true → ∃ m' env2 h2, m' < m ∧ b env h1 = .next env2 h2 ∧ I m' env2 h2)) :
    ∀ (n m : Nat) (env : Env') (h : Sto), I m env h → m < n → ∃ m' env' h' h1, whileGo c b n env h = .next env' h1 ∧ I m' env' h' ∧ c env' h' = .ok false h1
  | 0, _, _, _, _, hm => absurd hm (Nat.not_lt_zero _)
  | n + 1, m, env, h, hi, hm => by
    obtain ⟨k, h1, e1, hk⟩ := st m env h hi
    cases k with
    | false => exact ⟨m, env, h, h1, by unfold whileGo; rw [e1]; rfl, hi, e1⟩
    | true =>
      obtain ⟨m2, env2, h2, lt, e2, i2⟩ := hk rfl
      obtain ⟨m', env', h', h3, e3, i3, e4⟩ := whileGo_ix I st n m2 env2 h2 i2 (by omega)
      exact ⟨m', env', h', h3, by unfold whileGo; rw [e1]; simp only [Res.then_ok]; rw [e2]; exact e3, i3, e4⟩
@[simp] theorem ev_While (n : Nat) (c : Eb) (b : Es) (env : Env') (h : Sto) : sWhile n c b env h = whileGo c b n env h := (rfl)
theorem lcGo_nil (t : Tg) (c : Eb) (e : Ev) (env : Env') (acc : List D) (h : Sto) : lcGo t c e env [] acc h = .ok acc h := rfl
/-- a comprehension without a test, whose items are f of the place -/
theorem lcGo_map {t : Tg} {e : Ev} {env : Env'} {h : Sto} : ∀ {us : List U} (f : U → D) (acc : List D), (∀ u ∈ us, ∃ env1, t u env h = some env1 ∧ e env1 h = .ok (.d (f u)) h) → acc.length + us.length ≤ 16777216 → lcGo t cYes e env us acc h = .ok (acc ++ us.map f) h
  | [], f, acc, _, _ => by rw [lcGo_nil, List.map_nil, List.append_nil]
  | u :: us, f, acc, H, hl => by
    obtain ⟨env1, e1, e2⟩ := H u List.mem_cons_self
    rw [List.length_cons] at hl
    have ih := lcGo_map (t := t) (e := e) (env := env) (h := h) (us := us) f (acc ++ [f u]) (fun v hv => H v (List.mem_cons_of_mem _ hv)) (by rw [List.length_append, List.length_singleton]; omega)
    unfold lcGo
    simp only [e1, cYes, Res.bind_ok, e2]
    rw [if_pos (fits_of (by omega)), ih]
    simp
end Wk

/-! LB: the helpers that every law has: a cell of the script, mixed numbers, a row of digits. -/
namespace Wk
open PySem L2
@[simp] theorem ev_For (it : Ea) (t : Tg) (b : Es) (env : Env') (h : Sto) : sFor it t b env h = (it env h).then_ env fun us h1 => forGo t b us env h1 := (rfl)
@[simp] theorem ev_iR1 (fa : Ea) (env : Env') (h : Sto) : iR1 fa env h = (fa env h).bind fun us h1 => match us with | [u] => (match intOf u with | some j => if rngOk j then .ok (iRange j.toNat 0) h1 else .stuck | none => .stuck) | _ => .stuck := (rfl)
@[simp] theorem ev_iR2 (fa : Ea) (env : Env') (h : Sto) : iR2 fa env h = (fa env h).bind fun us h1 => match us with | [u, w] => (match intOf u, intOf w with | some i, some j => if rngOk i && rngOk j then .ok (iRange (j - i).toNat i) h1 else .stuck | _, _ => .stuck) | _ => .stuck := (rfl)
@[simp] theorem ev_intOf (i : Int) : intOf (.d (.int i)) = some i := (rfl)
@[simp] theorem ev_Lc (b : Bool) (vs : List Nat) (it : Ea) (t : Tg) (c : Eb) (e : Ev) (env : Env') (h : Sto) : eLc b vs it t c e env h = (it env h).bind fun us h1 => (lcGo t c e (wipeE env vs) us [] h1).noExc.bind fun xs h2 => mkL b xs h2 := (rfl)
@[simp] theorem ev_noExc {α : Type} (x : α) (h : Sto) : (Res.ok x h).noExc = .ok x h := (rfl)
@[simp] theorem ev_Ml (F : U → List U → Sto → Res U) (f : Ev) (fa : Ea) (env : Env') (h : Sto) : eMl F f fa env h = (f env h).bind fun u h1 => match listOf h1 u with | some _ => (fa env h1).bind fun us h2 => F u us h2 | none => .stuck := (rfl)
@[simp] theorem ev_fzr (n : Nat) (h : Sto) : fzR (.ref n) h = match dataOf h (.ref n) with | some x => .ok (.d x) (fzH (refsOf (.ref n)) h) | none => .stuck := (rfl)
@[simp] theorem ev_dat (n : Nat) (h : Sto) : dataOf h (.ref n) = (listOf h (.ref n)).map .list := by rw [dataOf]
@[simp] theorem ev_lstR (n : Nat) (h : Sto) : listOf h (.ref n) = match h[n]? with | some (.lst xs) => some xs | some (.frz xs) => some xs | _ => none := (rfl)
@[simp] theorem ev_lstD (xs : List D) (h : Sto) : listOf h (.d (.list xs)) = some xs := (rfl)
@[simp] theorem ev_app (n : Nat) (x : D) (h : Sto) : fApp (.ref n) [.d x] h = match h[n]? with | some (.lst xs) => if fits (xs.length + 1) then .ok (.d .none) (h.set n (.lst (xs ++ [x]))) else .stuck | _ => .stuck := (rfl)
theorem shaped_int (i : Int) : SeqAt.shaped (.int i) = true := (rfl)
theorem eqv_int (i j : Int) : PyData.eqv (.int i) (.int j) = decide (i = j) := by
  rw [PyData.eqv]
  exact (Bool.beq_eq_decide_eq i j)
@[simp] theorem ev_eqI (n : Bool) (i j : Int) (h : Sto) : opEqB n (.d (.int i)) (.d (.int j)) h = .ok (.d (.bool (xor n (decide (i = j))))) h := by
  unfold opEqB
  simp only [strOf, dataOf, shaped_int, Bool.and_self, if_true, eqv_int]
theorem rng_of {i : Int} (h1 : -1000000000000 ≤ i) (h2 : i ≤ 1000000000000) : rngOk i = true := ask_t ⟨by omega, by omega⟩
theorem atI_map {α β : Type} (f : α → β) (xs : List α) (i : Int) : atI (xs.map f) i = (atI xs i).map f := by
  unfold atI
  rw [List.length_map]
  cases ixN xs.length i with
  | none => rfl
  | some j => simp
theorem atI_in {α : Type} {xs : List α} {i : Int} (h0 : 0 ≤ i) (h1 : i < xs.length) : ∃ x, atI xs i = some x ∧ x ∈ xs := by
  have hj : i.toNat < xs.length := by omega
  refine ⟨xs[i.toNat], ?_, List.getElem_mem hj⟩
  have q : atI xs ((i.toNat : Nat) : Int) = some xs[i.toNat] := atI_nat (List.getElem?_eq_getElem hj)
  have e : ((i.toNat : Nat) : Int) = i := by omega
  rw [e] at q
  exact q

noncomputable def B_cell : Es := (sSeq (sIf (tBin opLt (eV 1) (eB fLen (aCons (eV 0) aNil)))
    (sRet (eBin opIx (eV 0) (eV 1)))
    sNil)
    (sSeq (sSet 2 (eBin (opAdd false) (eBin opMul (eBin opMul (eV 1) (eV 1)) (eC (.int 7919))) (eC (.int 104729))))
    (sSeq (sIf (tBin opGt (eB fLen (aCons (eV 0) aNil)) (eC (.int 0)))
    (sSet 2 (eBin (opAdd false) (eV 2) (eBin opMul (eBin opMod (eBin opIx (eV 0) (eBin opMod (eBin opMul (eV 1) (eC (.int 7))) (eB fLen (aCons (eV 0) aNil)))) (eBin opPow (eC (.int 10)) (eC (.int 40)))) (eBin (opAdd false) (eC (.int 48271)) (eV 1)))))
    sNil)
    (sRet (eBin opMod (eBin opMul (eV 2) (eV 2)) (eC (.int 2305843009213693951)))))))
noncomputable def B_mixed : Es := (sSeq (sSet 2 (eBin opMod (eBin (opAdd false) (eBin (opAdd false) (eV 0) (eBin opMul (eBin opMul (eV 1) (eV 1)) (eC (.int 40503)))) (eC (.int 12345))) (eC (.int 2305843009213693951))))
    (sSeq (sSet 2 (eBin opMod (eBin opMul (eV 2) (eV 2)) (eC (.int 2305843009213693951))))
    (sSeq (sSet 2 (eBin opMod (eBin opMul (eBin (opAdd false) (eBin (opAdd false) (eV 2) (eBin opMul (eV 1) (eC (.int 7919)))) (eC (.int 1))) (eC (.int 48271))) (eC (.int 2305843009213693951))))
    (sRet (eBin opFdiv (eBin opMod (eBin opMul (eV 2) (eV 2)) (eC (.int 2305843009213693951))) (eC (.int 1024)))))))
noncomputable def B_row : Es := (sSeq (sSet 3 (eLst true aNil))
    (sSeq (sSet 4 (eV 0))
    (sSeq (sFor (iR1 (aCons (eV 2) aNil)) (gN 5)
    (sSeq (sExpr (eMl fApp (eV 3) (aCons (eBin opMod (eV 4) (eV 1)) aNil)))
    (sSet 4 (eBin opFdiv (eV 4) (eV 1)))))
    (sSeq (sIf (tBin opGt (eV 4) (eC (.int 0)))
    (sRet (eFz (eV 3)))
    sNil)
    (sRet (eLc false [5] (iR1 (aCons (eV 2) aNil)) (gN 5) cYes (eBin opMod (eCall (pfOf 3 B_mixed) (aCons (eV 0) (aCons (eV 5) aNil))) (eV 1))))))))

theorem mixed_ev (c k : Int) (h0 : 0 ≤ k) (h1 : k < 1000000) : ∃ r, pfOf 3 B_mixed [.int c, .int k] = .ok (.int r) ∧ 0 ≤ r := by
  have m1 : mulOk k k = true := mulOk_of (.inl (by omega))
  simp [pfOf_ap, B_mixed, m1]
  exact Int.ediv_nonneg (Int.emod_nonneg _ (by decide)) (by decide)
theorem ev_pow40 (h : Sto) : opPow (.d (.int 10)) (.d (.int 40)) h = .ok (.d (.int 10000000000000000000000000000000000000000)) h := by
  rw [ev_pow _ _ (by decide) (by decide) (by decide)]
  rfl
theorem cell_ev (ns : List Int) (k : Int) (h0 : 0 ≤ k) (h1 : k < 1000000) (hl : ns.length < 1000000) : ∃ r, pfOf 3 B_cell [.list (ns.map .int), .int k] = .ok (.int r) := by
  have m1 : mulOk k k = true := mulOk_of (.inl (by omega))
  have m3 : mulOk (k * k * 7919 + 104729) (k * k * 7919 + 104729) = true := by
    have hk : k * k ≤ 1000000 * 1000000 := Int.mul_le_mul (by omega) (by omega) h0 (by decide)
    have hk0 : 0 ≤ k * k := Int.mul_nonneg h0 h0
    exact mulOk_of (.inl (by omega))
  by_cases hk : k < ns.length
  · obtain ⟨x, e, _⟩ := atI_in h0 hk
    simp [pfOf_ap, B_cell, hk, atI_map, e]
  · by_cases hz : ns.length = 0
    · simp [pfOf_ap, B_cell, hz, m1, m3, show ¬ k < 0 by omega]
    · have hp : (0 : Int) < ns.length := by omega
      obtain ⟨x, e, _⟩ := atI_in (xs := ns) (i := k * 7 % ns.length) (Int.emod_nonneg _ (by omega)) (Int.emod_lt_of_pos _ hp)
      have hp' : 0 < ns.length := by omega
      have m4 : mulOk (x % 10000000000000000000000000000000000000000) (48271 + k) = true := mulOk_of (.inr (by omega))
      have m5 : mulOk (k * k * 7919 + 104729 + x % 10000000000000000000000000000000000000000 * (48271 + k)) (k * k * 7919 + 104729 + x % 10000000000000000000000000000000000000000 * (48271 + k)) = true := by
        have hk : k * k ≤ 1000000 * 1000000 := Int.mul_le_mul (by omega) (by omega) h0 (by decide)
        have hk0 : 0 ≤ k * k := Int.mul_nonneg h0 h0
        have hy := Int.emod_nonneg x (show (10000000000000000000000000000000000000000 : Int) ≠ 0 by decide)
        have hy2 := Int.emod_lt_of_pos x (show (0 : Int) < 10000000000000000000000000000000000000000 by decide)
        have hp2 : x % 10000000000000000000000000000000000000000 * (48271 + k) ≤ 10000000000000000000000000000000000000000 * 2000000 := Int.mul_le_mul (by omega) (by omega) (by omega) (by decide)
        have hp0 : 0 ≤ x % 10000000000000000000000000000000000000000 * (48271 + k) := Int.mul_nonneg hy (by omega)
        have hb : (k * k * 7919 + 104729 + x % 10000000000000000000000000000000000000000 * (48271 + k)).natAbs < 2 ^ 200 := by omega
        have hc : (2 : Nat) ^ 200 ≤ 2 ^ 400000 := Nat.pow_le_pow_right (by decide) (by decide)
        exact mulOk_big (Nat.lt_of_lt_of_le hb hc) (Nat.lt_of_lt_of_le hb hc)
      simp [pfOf_ap, B_cell, hk, hp', m1, ev_pow40, atI_map, e, m4, m5]
theorem row_ev (c most : Int) (n : Nat) (hm : 0 < most) (hm2 : most < 2 ^ 64) (hn : n ≤ 1000) : ∃ l : List Int, pfOf 6 B_row [.int c, .int most, .int n] = .ok (.list (l.map .int)) ∧ l.length = n ∧ ∀ x ∈ l, 0 ≤ x ∧ x < most := by
  have hr : rngOk (n : Int) = true := rng_of (by omega) (by omega)
  have hd : divOk most = true := divOk_s hm (by omega)
  obtain ⟨env', h', e, l, rest, k5, e1, e2, e3, e4⟩ := forGo_inv (t := gN 5) (b := sSeq (sExpr (eMl fApp (eV 3) (aCons (eBin opMod (eV 4) (eV 1)) aNil))) (sSet 4 (eBin opFdiv (eV 4) (eV 1)))) (us := iRange n 0)
    (fun i env h => ∃ (l : List Int) (rest : Int) (k5 : Option U), env = [some (.d (.int c)), some (.d (.int most)), some (.d (.int n)), some (.ref 0), some (.d (.int rest)), k5] ∧ h = [.lst (l.map .int)] ∧ l.length = i ∧ ∀ x ∈ l, 0 ≤ x ∧ x < most) 0
    (env := [some (.d (.int c)), some (.d (.int most)), some (.d (.int n)), some (.ref 0), some (.d (.int c)), none]) (h := [.lst []]) ⟨[], c, none, rfl, rfl, rfl, by simp⟩ (fun i u env h eu hI => by
      obtain ⟨l, rest, k5, rfl, rfl, e3, e4⟩ := hI
      obtain ⟨hi, rfl⟩ := iRange_get eu
      refine ⟨_, [some (.d (.int c)), some (.d (.int most)), some (.d (.int n)), some (.ref 0), some (.d (.int (rest / most))), some (.d (.int (0 + i)))], [.lst ((l ++ [rest % most]).map .int)], rfl, ?_, l ++ [rest % most], rest / most, _, rfl, rfl, by simp [e3], fun x hx => ?_⟩
      · simp [hm, hd, fits_of (show l.length + 1 ≤ 16777216 by omega)]
      · rcases List.mem_append.mp hx with z | z
        · exact e4 x z
        · rw [List.mem_singleton.mp z]
          exact ⟨Int.emod_nonneg _ (by omega), Int.emod_lt_of_pos _ hm⟩)
  subst e1 e2
  rw [iRange_len] at e3
  by_cases hrest : 0 < rest
  · refine ⟨l, ?_, by omega, e4⟩
    simp [pfOf_ap, B_row, hr, e, hrest]
  · have hmix : ∀ k : Nat, ∃ r, k < 1000000 → pfOf 3 B_mixed [.int c, .int k] = .ok (.int r) := fun k => by
      by_cases hk : k < 1000000
      · obtain ⟨r, h1, _⟩ := mixed_ev c k (by omega) (by omega)
        exact ⟨r, fun _ => h1⟩
      · exact ⟨0, fun z => absurd z hk⟩
    obtain ⟨mx, hmx⟩ := Classical.axiomOfChoice hmix
    refine ⟨(List.range n).map fun k => mx k % most, ?_, by simp, fun x hx => ?_⟩
    · have lc := lcGo_map (t := gN 5) (e := eBin opMod (eCall (pfOf 3 B_mixed) (aCons (eV 0) (aCons (eV 5) aNil))) (eV 1)) (env := [some (.d (.int c)), some (.d (.int most)), some (.d (.int n)), some (.ref 0), some (.d (.int rest)), none]) (h := [.lst (l.map .int)])
        (us := iRange n 0) (fun u => .int (mx ((intOf u).getD 0).toNat % most)) [] (fun u hu => by
          obtain ⟨i, hi⟩ := List.mem_iff_getElem?.mp hu
          obtain ⟨hi, rfl⟩ := iRange_get hi
          have hq : pfOf 3 B_mixed [.int c, .int (i : Int)] = .ok (.int (mx i)) := hmx i (by omega)
          refine ⟨_, rfl, ?_⟩
          simp [hq, hm]) (by rw [iRange_len]; simp; omega)
      have em : (iRange n 0).map (fun u => PyData.int (mx ((intOf u).getD 0).toNat % most)) = ((List.range n).map fun k => mx k % most).map .int := by
        unfold iRange
        rw [List.map_map, List.map_map]
        refine List.map_congr_left fun k _ => ?_
        simp
      rw [List.nil_append, em] at lc
      simp only [List.map_map] at lc
      simp [pfOf_ap, B_row, hr, e, hrest, wipeE, lc]
    · obtain ⟨k, _, rfl⟩ := List.mem_map.mp hx
      exact ⟨Int.emod_nonneg _ (by omega), Int.emod_lt_of_pos _ hm⟩
@[simp] theorem ev_Sl (b : Bool) (f : Ev) (lo hi : Eo) (env : Env') (h : Sto) : eSl b f lo hi env h = (f env h).bind fun u h1 => (lo env h1).bind fun l h2 => (hi env h2).bind fun r h3 => opSl b u l r h3 := (rfl)
@[simp] theorem ev_oNo (env : Env') (h : Sto) : oNo env h = .ok none h := (rfl)
@[simp] theorem ev_oSo (f : Ev) (env : Env') (h : Sto) : oSo f env h = (f env h).bind fun u h1 => match intOf u with | some i => .ok (some i) h1 | none => .stuck := (rfl)
@[simp] theorem ev_slL (b : Bool) (xs : List D) (lo hi : Option Int) (h : Sto) : opSl b (.d (.list xs)) lo hi h = mkL b (cutD xs lo hi) h := (rfl)
@[simp] theorem ev_slT (b : Bool) (xs : List D) (lo hi : Option Int) (h : Sto) : opSl b (.d (.tuple xs)) lo hi h = .ok (.d (.tuple (cutD xs lo hi))) h := (rfl)
end Wk

/-! FL: the floor: numbers, places, steps. -/
namespace Wk
open PySem L2
@[simp] theorem ev_lcN (t : Tg) (c : Eb) (e : Ev) (env : Env') (acc : List D) (h : Sto) : lcGo t c e env [] acc h = .ok acc h := (rfl)
@[simp] theorem ev_lcC (t : Tg) (c : Eb) (e : Ev) (env : Env') (u : U) (us : List U) (acc : List D) (h : Sto) : lcGo t c e env (u :: us) acc h = match t u env h with
    | some env1 => (c env1 h).bind fun k h1 => (match k with
      | true => (e env1 h1).bind fun w h2 => (match w with
        | .d x => if fits (acc.length + 1) then lcGo t c e env us (acc ++ [x]) h2 else .stuck
        | _ => .stuck)
      | false => lcGo t c e env us acc h1)
    | none => .stuck := (rfl)
@[simp] theorem ev_yes (env : Env') (h : Sto) : cYes env h = .ok true h := (rfl)
@[simp] theorem fits_s {n : Nat} (h : n ≤ 16777216) : fits n = true := fits_of h
@[simp] theorem ev_iSeq (f : Ev) (env : Env') (h : Sto) : iSeq f env h = (f env h).bind fun u h1 => match u with
  | .d (.tuple xs) => .ok (xs.map .d) h1
  | .d (.list xs) => .ok (xs.map .d) h1
  | .tup us => .ok us h1
  | _ => .stuck := (rfl)
@[simp] theorem ev_forN (t : Tg) (b : Es) (env : Env') (h : Sto) : forGo t b [] env h = .next env h := (rfl)
@[simp] theorem ev_forC (t : Tg) (b : Es) (u : U) (us : List U) (env : Env') (h : Sto) : forGo t b (u :: us) env h = match t u env h with | some env1 => (b env1 h).seq (forGo t b us) | none => .stuck := (rfl)
@[simp] theorem atI_0 {α : Type} (x : α) (r : List α) : atI (x :: r) 0 = some x := by
  have := atI_nat (xs := x :: r) (j := 0) (v := x) rfl
  exact this
@[simp] theorem atI_1 {α : Type} (x y : α) (r : List α) : atI (x :: y :: r) 1 = some y := by
  have := atI_nat (xs := x :: y :: r) (j := 1) (v := y) rfl
  exact this
@[simp] theorem atI_2 {α : Type} (x y z : α) (r : List α) : atI (x :: y :: z :: r) 2 = some z := by
  have := atI_nat (xs := x :: y :: z :: r) (j := 2) (v := z) rfl
  exact this
@[simp] theorem atI_3 {α : Type} (x y z w : α) (r : List α) : atI (x :: y :: z :: w :: r) 3 = some w := by
  have := atI_nat (xs := x :: y :: z :: w :: r) (j := 3) (v := w) rfl
  exact this
@[simp] theorem atI_4 {α : Type} (x y z w v : α) (r : List α) : atI (x :: y :: z :: w :: v :: r) 4 = some v := by
  have := atI_nat (xs := x :: y :: z :: w :: v :: r) (j := 4) (v := v) rfl
  exact this
/-- == of data that are no texts -/
theorem ev_eqD {x y : D} (n : Bool) (h : Sto) (nx : ∀ s, x ≠ .str s) (sx : SeqAt.shaped x = true) (sy : SeqAt.shaped y = true) : opEqB n (.d x) (.d y) h = .ok (.d (.bool (xor n (PyData.eqv x y)))) h := by
  have e : strOf (.d x) = none := by
    cases x with
    | str s => exact absurd rfl (nx s)
    | _ => rfl
  unfold opEqB
  rw [e]
  simp only [dataOf, sx, sy, Bool.and_self, if_true]
theorem ev_eqS {x : D} (n : Bool) (h : Sto) (nx : ∀ s, x ≠ .str s) (sx : SeqAt.shaped x = true) : opEqB n (.d x) (.d x) h = .ok (.d (.bool (!n))) h := by
  rw [ev_eqD n h nx sx sx, SeqAt.eqv_refl _ (SeqAt.canLay_of_shaped sx), Bool.xor_true]

/-- a place -/
structure P4 where
  a : Int
  b : Int
  c : Int
  d : Int
def P4.e (p : P4) : D := .tuple [.tuple [.int p.a, .int p.b], .tuple [.int p.c, .int p.d]]
theorem P4.shaped (p : P4) : SeqAt.shaped p.e = true := (rfl)
theorem P4.ns (p : P4) : ∀ s, p.e ≠ .str s := fun s z => nomatch z
@[simp] theorem ev_eqP (n : Bool) (p : P4) (h : Sto) : opEqB n (.d p.e) (.d p.e) h = .ok (.d (.bool (!n))) h := ev_eqS n h p.ns p.shaped
/-- the ways of the eight headings -/
def xa (h : Int) : Int := if h = 0 then 1 else if h = 4 then -1 else 0
def xb (h : Int) : Int := if h = 1 ∨ h = 7 then 1 else if h = 3 ∨ h = 5 then -1 else 0
def ya (h : Int) : Int := if h = 2 then 1 else if h = 6 then -1 else 0
def yb (h : Int) : Int := if h = 1 ∨ h = 3 then 1 else if h = 5 ∨ h = 7 then -1 else 0
def mv (h s : Int) (p : P4) : P4 := ⟨p.a + s * xa h, p.b + s * xb h, p.c + s * ya h, p.d + s * yb h⟩

def c_EAST : D := (.tuple [(.int 1), (.int 1), (.int 0), (.int (-1)), (.int (-1)), (.int (-1)), (.int 0), (.int 1)])
noncomputable def B_plus : Es := (sRet (eTup (aCons (eBin (opAdd false) (eBin opIx (eV 0) (eC (.int 0))) (eBin opIx (eV 1) (eC (.int 0)))) (aCons (eBin (opAdd false) (eBin opIx (eV 0) (eC (.int 1))) (eBin opIx (eV 1) (eC (.int 1)))) aNil))))
noncomputable def B_way_of : Es := (sSeq (sSet 2 (eBin opMul (eV 1) (eBin opIx (eC c_EAST) (eV 0))))
    (sSeq (sSet 3 (eBin opMul (eV 1) (eBin opIx (eC c_EAST) (eBin opMod (eBin (opAdd false) (eV 0) (eC (.int 6))) (eC (.int 8))))))
    (sSeq (sIf (tBin opEq (eBin opMod (eV 0) (eC (.int 2))) (eC (.int 0)))
    (sRet (eTup (aCons (eTup (aCons (eV 2) (aCons (eC (.int 0)) aNil))) (aCons (eTup (aCons (eV 3) (aCons (eC (.int 0)) aNil))) aNil))))
    sNil)
    (sRet (eTup (aCons (eTup (aCons (eC (.int 0)) (aCons (eV 2) aNil))) (aCons (eTup (aCons (eC (.int 0)) (aCons (eV 3) aNil))) aNil)))))))
noncomputable def B_moved : Es := (sSeq (sAsg (gTup' 2 (gCons' (gN 3) (gCons' (gN 4) gNil'))) (eCall (pfOf 4 B_way_of) (aCons (eV 1) (aCons (eV 2) aNil))))
    (sRet (eTup (aCons (eCall (pfOf 2 B_plus) (aCons (eBin opIx (eV 0) (eC (.int 0))) (aCons (eV 3) aNil))) (aCons (eCall (pfOf 2 B_plus) (aCons (eBin opIx (eV 0) (eC (.int 1))) (aCons (eV 4) aNil))) aNil)))))
theorem plus_ev (a b c d : Int) : pfOf 2 B_plus [.tuple [.int a, .int b], .tuple [.int c, .int d]] = .ok (.tuple [.int (a + c), .int (b + d)]) := by
  unfold B_plus
  simp [pfOf_ap]
theorem heads {h : Int} (h0 : 0 ≤ h) (h1 : h < 8) : h = 0 ∨ h = 1 ∨ h = 2 ∨ h = 3 ∨ h = 4 ∨ h = 5 ∨ h = 6 ∨ h = 7 := by omega
theorem east_at {h : Int} (h0 : 0 ≤ h) (h1 : h < 8) : ∃ x : Int, atI [PyData.int 1, .int 1, .int 0, .int (-1), .int (-1), .int (-1), .int 0, .int 1] h = some (.int x) ∧ x.natAbs ≤ 1 := by
  rcases heads h0 h1 with z | z | z | z | z | z | z | z <;> subst z <;> exact ⟨_, rfl, by decide⟩
theorem way_ev (h s : Int) (h0 : 0 ≤ h) (h1 : h < 8) : pfOf 4 B_way_of [.int h, .int s] = .ok (.tuple [.tuple [.int (s * xa h), .int (s * xb h)], .tuple [.int (s * ya h), .int (s * yb h)]]) := by
  have ix : ∀ (j : Nat) (x : D), [PyData.int 1, .int 1, .int 0, .int (-1), .int (-1), .int (-1), .int 0, .int 1][j]? = some x → atI [PyData.int 1, .int 1, .int 0, .int (-1), .int (-1), .int (-1), .int 0, .int 1] (j : Int) = some x := fun j x e => atI_nat e
  have i0 := ix 0 _ rfl
  have i1 := ix 1 _ rfl
  have i2 := ix 2 _ rfl
  have i3 := ix 3 _ rfl
  have i4 := ix 4 _ rfl
  have i5 := ix 5 _ rfl
  have i6 := ix 6 _ rfl
  have i7 := ix 7 _ rfl
  simp only [Int.ofNat_eq_natCast, Int.cast_ofNat_Int] at i0 i1 i2 i3 i4 i5 i6 i7
  unfold B_way_of c_EAST
  rcases heads h0 h1 with z | z | z | z | z | z | z | z <;> subst z <;> simp [pfOf_ap, i5, i6, i7, xa, xb, ya, yb]
theorem moved_ev (p : P4) (h s : Int) (h0 : 0 ≤ h) (h1 : h < 8) : pfOf 5 B_moved [p.e, .int h, .int s] = .ok (mv h s p).e := by
  rw [pfOf_ap]
  unfold B_moved P4.e mv
  simp [way_ev h s h0 h1, plus_ev]
theorem mv_zero (h : Int) (p : P4) : mv h 0 p = p := by
  unfold mv
  simp
theorem mv_mv (h s t : Int) (p : P4) : mv h t (mv h s p) = mv h (s + t) p := by
  unfold mv
  simp only [P4.mk.injEq]
  refine ⟨?_, ?_, ?_, ?_⟩ <;> grind
theorem mv_opp {h : Int} (s : Int) (p : P4) (h0 : 0 ≤ h) (h1 : h < 8) : mv ((h + 4) % 8) s p = mv h (-s) p := by
  unfold mv
  rcases heads h0 h1 with z | z | z | z | z | z | z | z <;> subst z <;> simp [xa, xb, ya, yb]
theorem mv_par {h : Int} (s : Int) (p : P4) (h0 : 0 ≤ h) (h1 : h < 8) : ((mv h s p).b + (mv h s p).d) % 2 = (p.b + p.d) % 2 := by
  unfold mv
  rcases heads h0 h1 with z | z | z | z | z | z | z | z <;> subst z <;> simp [xb, yb] <;> omega
theorem ev_pow6 (h : Sto) : opPow (.d (.int 10)) (.d (.int 6)) h = .ok (.d (.int 1000000)) h := by
  rw [ev_pow _ _ (by decide) (by decide) (by decide)]
  rfl
theorem two_at {α : Type} (a b : α) (x : Int) : ∃ y, atI [a, b] (x % 2) = some y ∧ (y = a ∨ y = b) := by
  have h : x % 2 = 0 ∨ x % 2 = 1 := by omega
  rcases h with z | z <;> rw [z]
  · exact ⟨a, atI_0 _ _, .inl rfl⟩
  · exact ⟨b, atI_1 _ _ _, .inr rfl⟩
/-! ### turned and mirrored -/
def rot (p : P4) : P4 := ⟨(p.b - p.d) / 2, p.a - p.c, (p.b + p.d) / 2, p.a + p.c⟩
def rotN : Nat → P4 → P4
  | 0, p => p
  | n + 1, p => rot (rotN n p)
def mir (p : P4) : P4 := ⟨p.a, p.b, -p.c, -p.d⟩
noncomputable def B_minus : Es := (sRet (eTup (aCons (eBin opSub (eBin opIx (eV 0) (eC (.int 0))) (eBin opIx (eV 1) (eC (.int 0)))) (aCons (eBin opSub (eBin opIx (eV 0) (eC (.int 1))) (eBin opIx (eV 1) (eC (.int 1)))) aNil))))
noncomputable def B_halved : Es := (sRet (eTup (aCons (eBin opFdiv (eBin opIx (eV 0) (eC (.int 1))) (eC (.int 2))) (aCons (eBin opIx (eV 0) (eC (.int 0))) aNil))))
noncomputable def B_mirrored_place : Es := (sRet (eTup (aCons (eBin opIx (eV 0) (eC (.int 0))) (aCons (eTup (aCons (eBin opSub (eC (.int 0)) (eBin opIx (eBin opIx (eV 0) (eC (.int 1))) (eC (.int 0)))) (aCons (eBin opSub (eC (.int 0)) (eBin opIx (eBin opIx (eV 0) (eC (.int 1))) (eC (.int 1)))) aNil))) aNil))))
noncomputable def L_turned_place_0 : Es := (sSeq (sAsg (gTup' 2 (gCons' (gN 3) (gCons' (gN 4) gNil'))) (eV 0))
    (sSet 0 (eTup (aCons (eCall (pfOf 1 B_halved) (aCons (eCall (pfOf 2 B_minus) (aCons (eV 3) (aCons (eV 4) aNil))) aNil)) (aCons (eCall (pfOf 1 B_halved) (aCons (eCall (pfOf 2 B_plus) (aCons (eV 3) (aCons (eV 4) aNil))) aNil)) aNil)))))
noncomputable def B_turned_place : Es := (sSeq (sFor (iR1 (aCons (eBin opMod (eV 1) (eC (.int 8))) aNil)) (gN 2) L_turned_place_0)
    (sRet (eV 0)))
theorem minus_ev (a b c d : Int) : pfOf 2 B_minus [.tuple [.int a, .int b], .tuple [.int c, .int d]] = .ok (.tuple [.int (a - c), .int (b - d)]) := by
  unfold B_minus
  simp [pfOf_ap]
theorem halved_ev (a b : Int) : pfOf 1 B_halved [.tuple [.int a, .int b]] = .ok (.tuple [.int (b / 2), .int a]) := by
  unfold B_halved
  simp [pfOf_ap]
theorem mirrored_ev (p : P4) : pfOf 1 B_mirrored_place [p.e] = .ok (mir p).e := by
  unfold B_mirrored_place P4.e mir
  simp [pfOf_ap]
theorem turned_ev (p : P4) (k : Int) : pfOf 5 B_turned_place [p.e, .int k] = .ok (rotN (k % 8).toNat p).e := by
  have h0 := Int.emod_nonneg k (show (8 : Int) ≠ 0 by decide)
  have h1 := Int.emod_lt_of_pos k (show (0 : Int) < 8 by decide)
  have hr : rngOk (k % 8) = true := rng_of (by omega) (by omega)
  obtain ⟨env', h', e, y2, y3, y4, rfl, rfl⟩ := forGo_inv (t := gN 2) (b := L_turned_place_0) (us := iRange (k % 8).toNat 0)
    (fun i env h => ∃ (y2 y3 y4 : Option U), env = [some (.d (rotN i p).e), some (.d (.int k)), y2, y3, y4] ∧ h = []) 0
    (env := [some (.d p.e), some (.d (.int k)), none, none, none]) (h := []) ⟨none, none, none, rfl, rfl⟩ (fun i u env h eu hI => by
      obtain ⟨y2, y3, y4, rfl, rfl⟩ := hI
      obtain ⟨hi, rfl⟩ := iRange_get eu
      refine ⟨_, [some (.d (rotN (0 + i + 1) p).e), some (.d (.int k)), some (.d (.int (0 + i))), some (.d (.tuple [.int (rotN (0 + i) p).a, .int (rotN (0 + i) p).b])), some (.d (.tuple [.int (rotN (0 + i) p).c, .int (rotN (0 + i) p).d]))], [], rfl, ?_, _, _, _, rfl, rfl⟩
      unfold L_turned_place_0
      simp [P4.e, minus_ev, plus_ev, halved_ev, rotN, rot])
  rw [pfOf_ap]
  unfold B_turned_place
  rw [iRange_len] at e
  simp [hr, e]
def P4.par (p : P4) : Prop := (p.b + p.d) % 2 = 0
theorem rot_par (p : P4) : (rot p).par := by
  unfold P4.par rot
  dsimp only
  omega
theorem rotN_par {p : P4} (h : p.par) : ∀ n, (rotN n p).par
  | 0 => h
  | n + 1 => rot_par _
theorem mir_par {p : P4} (h : p.par) : (mir p).par := by
  unfold P4.par mir at *
  dsimp only
  omega
theorem mv_par' {h : Int} (s : Int) {p : P4} (h0 : 0 ≤ h) (h1 : h < 8) (q : p.par) : (mv h s p).par := by
  unfold P4.par at *
  rw [mv_par s p h0 h1]
  exact q
theorem mir_mir (p : P4) : mir (mir p) = p := by
  unfold mir
  simp
theorem rot_mv {h : Int} (s : Int) {p : P4} (h0 : 0 ≤ h) (h1 : h < 8) : rot (mv h s p) = mv ((h + 1) % 8) s (rot p) := by
  unfold rot mv
  simp only [P4.mk.injEq]
  rcases heads h0 h1 with z | z | z | z | z | z | z | z <;> subst z <;> simp [xa, xb, ya, yb] <;> omega
theorem rotN_mv {h : Int} (s : Int) {p : P4} (h0 : 0 ≤ h) (h1 : h < 8) : ∀ n : Nat, rotN n (mv h s p) = mv ((h + n) % 8) s (rotN n p)
  | 0 => by
    show mv h s p = mv ((h + 0) % 8) s p
    rw [Int.add_zero, Int.emod_eq_of_lt h0 h1]
  | n + 1 => by
    show rot (rotN n (mv h s p)) = mv _ s (rot (rotN n p))
    rw [rotN_mv s h0 h1 n, rot_mv s (Int.emod_nonneg _ (by decide)) (Int.emod_lt_of_pos _ (by decide))]
    congr 1
    omega
theorem mir_mv {h : Int} (s : Int) {p : P4} (h0 : 0 ≤ h) (h1 : h < 8) : mir (mv h s p) = mv ((8 - h) % 8) s (mir p) := by
  unfold mir mv
  simp only [P4.mk.injEq]
  rcases heads h0 h1 with z | z | z | z | z | z | z | z <;> subst z <;> simp [xa, xb, ya, yb] <;> omega
/-- back by one eighth -/
def tor (p : P4) : P4 := ⟨(p.b + p.d) / 2, p.a + p.c, (p.d - p.b) / 2, p.c - p.a⟩
theorem tor_rot {p : P4} (h : p.par) : tor (rot p) = p := by
  unfold P4.par at h
  unfold tor rot
  rcases p with ⟨a, b, c, d⟩
  simp only [P4.mk.injEq] at *
  omega
theorem rot_mir {p : P4} (h : p.par) : rot (mir (rot p)) = mir p := by
  unfold P4.par at h
  unfold mir rot
  rcases p with ⟨a, b, c, d⟩
  simp only [P4.mk.injEq] at *
  omega
theorem rotN_add (p : P4) (m : Nat) : ∀ n, rotN (n + m) p = rotN n (rotN m p)
  | 0 => by rw [Nat.zero_add]; rfl
  | n + 1 => by
    rw [Nat.add_right_comm]
    show rot (rotN (n + m) p) = rot (rotN n (rotN m p))
    rw [rotN_add p m n]
theorem rotN_mir {p : P4} (h : p.par) : ∀ n, rotN n (mir (rotN n p)) = mir p
  | 0 => rfl
  | n + 1 => by
    rw [rotN_add (mir (rotN (n + 1) p)) 1 n]
    show rotN n (rot (mir (rot (rotN n p)))) = mir p
    rw [rot_mir (rotN_par h n), rotN_mir h n]
theorem rot8 {p : P4} (h : p.par) : rotN 8 p = p := by
  unfold P4.par at h
  rcases p with ⟨a, b, c, d⟩
  simp only [rotN, rot, P4.mk.injEq] at *
  omega
theorem rotN_back {p : P4} (h : p.par) {n : Nat} (hn : n ≤ 8) : rotN (8 - n) (mir p) = mir (rotN n p) := by
  have e := rotN_mir (rotN_par h n) (8 - n)
  have q : rotN (8 - n) (rotN n p) = p := by
    rw [← rotN_add, Nat.sub_add_cancel hn]
    exact rot8 h
  rw [q] at e
  exact e
end Wk

/-! T8: zip, reversed, in. -/
namespace RT
open PySem PySem.Spec PyProof.Rows
section
variable {prog : Program} {w : World} {A : Around} {E : Value → Shared → Prop} {s : Shared}
theorem call_list_rev {it l : Addr} {items : Array Value} {Q : Value → Shared → Prop} (hh : A.handled = none) (hit : s.heap.IsRevIter it l ((items.size : Int) - 1)) (hl : s.heap.IsList l items) (hne : l ≠ it) (hn : items.size ≤ sizeLine)
    (hQ : ∀ (h' : Heap) (tk : Nat) (acc : Array Value) (c' : Nat), (∀ b o, b ≠ it → s.heap.get? b = some o → h'.get? b = some o) → h'.get? s.heap.objs.size = some { cls := .type "list", dict := none, data := .seq acc c', slots := #[] } →
      ItemsOf (fun i v => items[items.size - 1 - i]? = some v) acc items.size → Q (.ref s.heap.objs.size) { s with heap := h', toks := tk }) :
    wpAny (model prog w) A (call (.type "list") [.ref it]) Q E s := by
  have W := (Walks.listRev (prog := prog) (w := w) (A := A.in1.in1) hh it l hne items).toS
  obtain ⟨oi, hoi, _⟩ := id hit
  obtain ⟨ol, hol, _⟩ := id hl
  have hSi : s.heap.objs.size ≠ it := Nat.ne_of_gt (Heap.lt_size hoi)
  have hSl : s.heap.objs.size ≠ l := Nat.ne_of_gt (Heap.lt_size hol)
  have hSf : s.heap.objs.size ∉ [it, l] := by simp only [List.mem_cons, List.not_mem_nil, or_false, not_or]; exact ⟨hSi, hSl⟩
  refine callType_codes (Q₁ := fun obj s₁ => obj = .ref s.heap.objs.size ∧ s₁ = { s with heap := s.heap.push { cls := .type "list", data := .seq #[] } }) F.called_list (F.typeCall_list_1 _) F.entry_list_init
    (code_list_new _ ⟨rfl, rfl⟩) fun obj s₁ h₁ => ?_
  obtain ⟨rfl, rfl⟩ := h₁
  have hS : (s.heap.push { cls := .type "list", data := .seq #[] }).get? s.heap.objs.size = some { cls := .type "list", data := .seq #[] } := Heap.get?_push_size _ rfl
  refine ⟨⟨_, hS, rfl⟩, F.args_list_init_2 _ _, ?_⟩
  show wpAny _ A.in1.in1 (do let old ← Builtin.List.listItems (.ref s.heap.objs.size); Builtin.List.listUpdate (.ref s.heap.objs.size) (fun _ => #[]); letGo old.toList.reverse; Builtin.List.listExtendWith (.ref s.heap.objs.size) (.ref it) .none) _ _ _
  refine wpAny_bind ?_
  unfold Builtin.List.listItems
  refine wpAny_bind (wpAny_seqItems hS rfl (wpAny_pure ?_))
  show wpAny _ A.in1.in1 (updateSeq s.heap.objs.size (fun _ => #[]) >>= fun _ => letGo (#[] : Array Value).toList.reverse >>= fun _ => Builtin.List.listExtendWith (.ref s.heap.objs.size) (.ref it) .none) _ _ _
  refine wpAny_bind (wpAny_updateSeq hS rfl ?_)
  have hS₂ := Heap.get?_update_self (Obj.mapSeq (fun _ => (#[] : Array Value))) hS rfl
  have oth : ∀ b o, s.heap.get? b = some o → ((s.heap.push { cls := .type "list", data := .seq #[] }).update s.heap.objs.size (Obj.mapSeq (fun _ => (#[] : Array Value)))).get? b = some o :=
    fun b o e => (Heap.get?_update_other _ _ (Nat.ne_of_gt (Heap.lt_size e))).trans (Heap.get?_push_of_some _ e)
  refine wpAny_bind (wpAny_letGo ?_)
  generalize ((s.heap.push { cls := .type "list", data := .seq #[] }).update s.heap.objs.size (Obj.mapSeq (fun _ => (#[] : Array Value)))) = h2 at hS₂ oth
  have hit1 : h2.IsRevIter it l ((items.size : Int) - 1) := hit.at fun o e => oth _ _ e
  have hl1 : h2.IsList l items := hl.at fun o e => oth _ _ e
  have hT : ({ s with heap := h2 } : Shared).TypeIs (.ref it) "list_reverseiterator" := Heap.IsRevIter.typeIs (s := { s with heap := h2 }) hit1
  have h1 : Builtin.List.listSameRef (.ref s.heap.objs.size) (.ref it) = false := by simp [Builtin.List.listSameRef, hSi]
  unfold Builtin.List.listExtendWith
  refine wpAny_bind (wpAny_typeOf hT ?_)
  rw [if_neg (by rw [h1]; decide)]
  refine wpAny_bind (wpAny_pyIter_revIter (s := { s with heap := h2 }) hit1 ?_)
  refine wpAny_bind (wpAny_holding ?_)
  unfold Builtin.List.listLengthHint
  refine wpAny_bind (wpAny_specialOf hT nolen_lri ?_)
  show wpAny _ A.in1.in1 (specialOf (Value.ref it) (Str.ofString "__length_hint__") >>= _) _ _ _
  refine wpAny_bind (wpAny_specialOf hT hint_lri ?_)
  generalize hid : ("list_reverseiterator.__length_hint__" : String) = id0
  wp_delta
  rw [show splitId id0 = some ("list_reverseiterator", "__length_hint__") from by subst hid; decide +kernel]
  subst hid
  refine wpAny_bind (wpAny_isInstance (b := true) hT (by rw [isSubtype_type]; kernel_rfl) ?_)
  refine wpAny_pure ?_
  rw [if_neg (by decide)]
  have e0 : ((items.size : Nat) : Int) - 1 - ((0 : Nat) : Int) = (items.size : Int) - 1 := by omega
  refine wpAny_pure ⟨plainId_quiet F.plain_extend_loop _, codeAny_extend_loopS W hn _ hSf _ items.size 0 _ _ _ rfl (Nat.zero_le _) ⟨Nat.zero_le _, by rw [e0]; exact hit1, hl1⟩ hS₂ (ItemsOf.nil _) fun s' acc' c' hm hS' hacc => ?_⟩
  refine ⟨rfl, ?_⟩
  rw [Moved.eq_with hm]
  refine hQ s'.heap s'.toks acc' c' (fun b o hb e => hm.heap b o (fun hmem => ?_) (oth b o e)) hS' hacc
  rcases List.mem_cons.mp hmem with e' | hmem
  · exact absurd (Heap.lt_size e) (by rw [e']; exact Nat.lt_irrefl _)
  · exact hb (List.mem_singleton.mp hmem)
end
end RT
namespace L2
open PySem PySem.Spec PyProof.Rows
section
variable {X : Cx}
/-- list(reversed(x)), x a list -/
def tListRev (K : PySem.W.Frag) (te : TE) : TE := fun σ H Q => te σ H fun v H1 => ∃ (a : Addr) (xs : List V), v = .ref a ∧ SqL K H1 a xs ∧ ∀ q, H1 q = none → Q (.ref q) (upd H1 q (.lst xs.reverse))
theorem pe_listRev {e : Expr} {te : TE} {p p2 pos pos2 : Pos} (hc : X.calm = true) (hg : Gl X "list") (hm : X.mg "list" = none) (hg2 : Gl X "reversed") (hm2 : X.mg "reversed" = none) (he : PE X e te)
    (hs : starEach [e] X.env = (false, eval e X.env) :: starEach [] X.env := by rfl)
    (hs2 : starEach [.Call (.Name "reversed" p2) [e] [] pos2] X.env = (false, eval (.Call (.Name "reversed" p2) [e] [] pos2) X.env) :: starEach [] X.env := by rfl) :
    PE X (.Call (.Name "list" p) [.Call (.Name "reversed" p2) [e] [] pos2] [] pos) (tListRev X.K te) := by
  refine ⟨fun pins s σ H Q I h => ?_⟩
  refine Call_ (ld_blt I hg hm boot_list (PyProof.Rows.callWith_type1 (args_cons (Call_ (ld_blt I hg2 hm2 PyProof.Rows.boot_reversed (PyProof.Rows.callWith_type1 (args_cons (thn (he.run pins s σ H _ I h) fun u s1 ⟨v, H1, I1, r1, q1⟩ => args_nil ?_) hs) hs rfl))) hs2) hs2 rfl))
  obtain ⟨a, xs, ev, hq, q⟩ := q1
  subst ev
  obtain rfl : u = Value.ref a := r1
  obtain ⟨its, rv, p', hz⟩ := I1.list hq
  refine call_reversed_list p'.isList (args_nil ?_)
  have k0 : ∀ b o, s1.heap.get? b = some o → (s1.heap.push (revObj a ((its.toArray.size : Int) - 1))).get? b = some o := fun b o e => Heap.get?_push_of_some _ e
  have I2 : Inv X pins σ H1 { s1 with heap := s1.heap.push (revObj a ((its.toArray.size : Int) - 1)) } := I1.kept (t' := s1.toks) k0
  obtain ⟨f0, f1, f2, f3, f4, f5⟩ := I1.fpOk (H' := H1) (b := s1.heap.objs.size) (Nat.le_refl _) (I1.hok.fresh (Nat.le_refl _))
  have hl := p'.isList
  obtain ⟨ol, hol, _⟩ := id hl
  have hne : a ≠ s1.heap.objs.size := Nat.ne_of_lt (Heap.lt_size hol)
  have hn : its.toArray.size ≤ sizeLine := by rw [List.size_toArray, ← rv.length]; exact hz
  refine RT.call_list_rev (s := { s1 with heap := s1.heap.push (revObj a ((its.toArray.size : Int) - 1)) }) (I1.ok.hd hc) ⟨_, Heap.get?_push_size _ rfl, rfl, rfl⟩ (hl.push _) hne hn fun h' tk acc c' hk hS hi => ?_
  have hL : s1.heap.objs.size ≠ (s1.heap.push (revObj a ((its.toArray.size : Int) - 1))).objs.size := by simp [Heap.push]
  have nL := I2.hok.fresh (Nat.le_refl (s1.heap.push (revObj a ((its.toArray.size : Int) - 1))).objs.size)
  have I3 := I2.laid (t' := tk) (o := .lst xs.reverse) (h' := (s1.heap.push (revObj a ((its.toArray.size : Int) - 1))).push { cls := .type "list", data := .seq acc c' }) (fun c o e => Heap.get?_push_of_some _ e) (Nat.le_refl _) (show ObjOk X.prog X.w _ _ _ (.lst xs.reverse) from ⟨by rw [List.length_reverse]; exact hz, acc.toList, c', RT.vals_rev rv hi, by rw [Array.toArray_toList]; exact Heap.get?_push_size _ rfl⟩)
  have I4 := I3.turned (t' := tk) (h' := h') (it := s1.heap.objs.size) (fun b o hb e => ?_) (by rw [upd_ne hL]; exact f0) f1 f3 f4 f5
  · exact ⟨.ref _, _, I4, rfl, q _ nL⟩
  · rcases Heap.get?_push_cases e with ⟨rfl, rfl⟩ | e
    · exact hS
    · exact hk b o hb e
end
end L2
namespace Wk
open PySem PySem.Spec PyProof.Rows L2
/-! ### list(reversed(x)), tuple(reversed(x)) -/
def opRevL (b : Bool) (u : U) (h : Sto) : Res U := match listOf h u with
  | some xs => mkL b xs.reverse h
  | none => .stuck
def opRevT (u : U) (h : Sto) : Res U := match listOf h u with
  | some xs => .ok (.d (.tuple xs.reverse)) h
  | none => .stuck
section
variable {X : Cx} {W : WX} {a : Expr} {f : Ev} {p p2 pos pos2 : Pos}
theorem se_revL (b : Bool) (hc : X.calm = true) (hg : Gl X "list") (hm : X.mg "list" = none) (hg2 : Gl X "reversed") (hm2 : X.mg "reversed" = none) (he : SE X W a f)
    (hs : starEach [a] X.env = (false, eval a X.env) :: starEach [] X.env := by rfl)
    (hs2 : starEach [.Call (.Name "reversed" p2) [a] [] pos2] X.env = (false, eval (.Call (.Name "reversed" p2) [a] [] pos2) X.env) :: starEach [] X.env := by rfl) :
    SE X W (.Call (.Name "list" p) [.Call (.Name "reversed" p2) [a] [] pos2] [] pos) (eUn (opRevL b) f) :=
  ⟨pe_imp (pe_gh (pe_listRev hc hg hm hg2 hm2 he.pe hs hs2)) fun σ H Q ⟨env, m, h, sta, sl, out⟩ => rd_of sta sl out fun u h1 x H1 m1 g1 s1 r1 out1 => by
    unfold opRevL at out1
    split at out1
    · rename_i ys e
      obtain ⟨q, vs, rfl, t1, d1⟩ := listOf_v s1 e r1
      exact ⟨q, vs, rfl, t1, fun l nl => mkL_ok s1 nl d1.rev out1⟩
    · exact out1.elim⟩
theorem se_revT (hc : X.calm = true) (hg : Gl X "tuple") (hm : X.mg "tuple" = none) (hg2 : Gl X "reversed") (hm2 : X.mg "reversed" = none) (he : SE X W a f)
    (hs : starEach [a] X.env = (false, eval a X.env) :: starEach [] X.env := by rfl)
    (hs2 : starEach [.Call (.Name "reversed" p2) [a] [] pos2] X.env = (false, eval (.Call (.Name "reversed" p2) [a] [] pos2) X.env) :: starEach [] X.env := by rfl) :
    SE X W (.Call (.Name "tuple" p) [.Call (.Name "reversed" p2) [a] [] pos2] [] pos) (eUn opRevT f) :=
  ⟨pe_imp (RT.pe_tupRev hc hg hm hg2 hm2 he.pe hs hs2) fun σ H Q ⟨env, m, h, sta, sl, out⟩ => rd_of sta sl out fun u h1 x H1 m1 g1 s1 r1 out1 => by
    unfold opRevT at out1
    split at out1
    · rename_i ys e
      obtain ⟨q, vs, rfl, t1, d1⟩ := listOf_v s1 e r1
      refine ⟨q, vs, rfl, t1, fun l nl => ?_⟩
      have sm : Same H1 (upd H1 l (.tup vs.reverse)) := Same.lay nl
      exact Out.ok (b := V.ref l) out1 (Gr.of_same sm m1) (s1.same sm) (.d (.tup (.inl (.inl upd_same)) (RDs.kp (Kp.same sm) _ _ d1.rev)))
    · exact out1.elim⟩
end
/-! ### zip -/
def zipD (xs ys : List D) : List U := List.zipWith (fun x y => U.d (.tuple [x, y])) xs ys
def iZip (fa : Ea) : Ea := fun env h => (fa env h).bind fun us h1 => match us with
  | [.d (.list xs), .d (.list ys)] => .ok (zipD xs ys) h1
  | [.d (.tuple xs), .d (.tuple ys)] => .ok (zipD xs ys) h1
  | _ => .stuck
section
variable {X : Cx} {W : WX} {a b : Expr} {fa : Ea} {p pos tpos : Pos} {elts : List Expr} {kk : Nat}
theorem zipD_get {xs ys : List D} {i : Nat} {u : U} (e : (zipD xs ys)[i]? = some u) : ∃ x y, xs[i]? = some x ∧ ys[i]? = some y ∧ u = .d (.tuple [x, y]) := by
  unfold zipD at e
  rw [List.getElem?_zipWith] at e
  split at e
  · rename_i x y h1 h2
    cases e
    exact ⟨x, y, h1, h2, rfl⟩
  · cases e
theorem si_zip (hg : Gl X "zip") (hm : X.mg "zip" = none) (ha : SA X W [a, b] fa)
    (hs : starEach [a, b] X.env = (false, eval a X.env) :: starEach [b] X.env := by rfl) (hpl : (backTo pos (starEach [b] X.env)).any (·.1) = false := by rfl) :
    SI X W (.Tuple elts kk tpos) (.Call (.Name "zip" p) [a, b] [] pos) (iZip fa) :=
  ⟨pi_imp (RZ.pi_zipA hg hm ha.pa hs hpl) fun σ H R ⟨env, m, h, sta, sl, out⟩ => rd_of sta sl out fun us h1 vs H1 m1 g1 s1 r1 out1 => by
    split at out1
    · cases r1 with
      | cons ra rb =>
        cases rb with
        | cons rb rc =>
          cases rc
          cases ra.rd with
          | lst t d =>
            cases rb.rd with
            | lst t' d' =>
              refine ⟨_, _, _, _, rfl, .inl ⟨t.sq, t'.sq, Out.here (b := Itz X.K _ _) out1 s1 fun H' m' k pre => ?_⟩⟩
              have q1 := (k.fzL t).sq
              have q2 := (k.fzL t').sq
              refine ⟨fun i hi => ⟨_, _, q1, q2, ?_⟩, fun i u e => ?_⟩
              · unfold zipD at hi
                rw [List.length_zipWith] at hi
                have := d.len
                have := d'.len
                omega
              · obtain ⟨x, y, e1, e2, rfl⟩ := zipD_get e
                obtain ⟨v, f1, w1⟩ := d.get e1
                obtain ⟨v', f2, w2⟩ := d'.get e2
                refine ⟨⟨_, _, _, _, q1, q2, f1, f2⟩, fun z H'' yy => ?_⟩
                obtain ⟨T, x', y', rfl, hT, rfl, g1, g2⟩ := yy
                have g1 := g1 _ q1
                have g2 := g2 _ q2
                rw [f1] at g1
                rw [f2] at g2
                cases g1
                cases g2
                have sm : Same H' (upd H' T (.tup [v, v'])) := Same.lay hT
                have kk := k.trans (Kp.same sm)
                exact ⟨sm, .d (.tup (.inl (.inl upd_same)) (.cons (RD.kp kk _ _ w1) (.cons (RD.kp kk _ _ w2) .nil)))⟩
    · cases r1 with
      | cons ra rb =>
        cases rb with
        | cons rb rc =>
          cases rc
          cases ra.rd with
          | tup t d =>
            cases rb.rd with
            | tup t' d' =>
              refine ⟨_, _, _, _, rfl, .inr ⟨t, t', Out.here (b := RZ.ItzT X.K _ _) out1 s1 fun H' m' k pre => ?_⟩⟩
              have q1 := k.sqT t
              have q2 := k.sqT t'
              refine ⟨fun i hi => ⟨_, _, q1, q2, ?_⟩, fun i u e => ?_⟩
              · unfold zipD at hi
                rw [List.length_zipWith] at hi
                have := d.len
                have := d'.len
                omega
              · obtain ⟨x, y, e1, e2, rfl⟩ := zipD_get e
                obtain ⟨v, f1, w1⟩ := d.get e1
                obtain ⟨v', f2, w2⟩ := d'.get e2
                refine ⟨⟨_, _, _, _, q1, q2, f1, f2⟩, fun z H'' yy => ?_⟩
                obtain ⟨T, x', y', rfl, hT, rfl, g1, g2⟩ := yy
                have g1 := g1 _ q1
                have g2 := g2 _ q2
                rw [f1] at g1
                rw [f2] at g2
                cases g1
                cases g2
                have sm : Same H' (upd H' T (.tup [v, v'])) := Same.lay hT
                have kk := k.trans (Kp.same sm)
                exact ⟨sm, .d (.tup (.inl (.inl upd_same)) (.cons (RD.kp kk _ _ w1) (.cons (RD.kp kk _ _ w2) .nil)))⟩
    · exact out1.elim⟩
end
end Wk
/-! ### in, not in -/
namespace Wk
open PySem PySem.Spec PyProof.Rows L2
def keyOf : U → Option Key
  | .d (.int i) => some (.inl i)
  | .d (.str x) => some (.inr x)
  | _ => none
def dictOf (h : Sto) : U → Option (List (Key × U))
  | .ref n => match h[n]? with
    | some (.dct kvs) => some kvs
    | _ => none
  | _ => none
def valU (kvs : List (Key × U)) (k : Key) : Option U := (kvs.find? fun kv => decide (kv.1 = k)).map (·.2)
def putU (kvs : List (Key × U)) (k : Key) (v : U) : List (Key × U) := if kvs.any fun kv => decide (kv.1 = k) then kvs.map fun kv => if kv.1 = k then (kv.1, v) else kv else kvs ++ [(k, v)]
theorem RK.val {K : PySem.W.Frag} {H : Hp} {m : List Addr} {gs : List (Key × V)} {kvs : List (Key × U)} (r : RK K H m gs kvs) (k : Key) : (valV gs k = none ∧ valU kvs k = none) ∨ ∃ v u, valV gs k = some v ∧ valU kvs k = some u ∧ RU K H m v u := by
  unfold RK at r
  induction r with
  | nil => exact .inl ⟨rfl, rfl⟩
  | @cons p q l l' h _ ih =>
    by_cases e : p.1 = k
    · exact .inr ⟨p.2, q.2, valV_pos e, by simp [valU, List.find?_cons, ← h.1, e], h.2⟩
    · have e' : ¬ q.1 = k := fun z => e (h.1.trans z)
      rw [valV_neg e]
      have : valU (q :: l') k = valU l' k := by simp [valU, List.find?_cons, e']
      rw [this]
      exact ih
theorem RK.any {K : PySem.W.Frag} {H : Hp} {m : List Addr} {gs : List (Key × V)} {kvs : List (Key × U)} (r : RK K H m gs kvs) (k : Key) : (gs.any fun kv => decide (kv.1 = k)) = kvs.any fun kv => decide (kv.1 = k) := by
  unfold RK at r
  induction r with
  | nil => rfl
  | cons h _ ih => rw [List.any_cons, List.any_cons, ih, h.1]
theorem RK.put {K : PySem.W.Frag} {H : Hp} {m : List Addr} {gs : List (Key × V)} {kvs : List (Key × U)} (r : RK K H m gs kvs) (k : Key) {v : V} {u : U} (ru : RU K H m v u) : RK K H m (putK gs k v) (putU kvs k u) := by
  unfold putK putU
  rw [← r.any k]
  split
  · unfold RK at r ⊢
    rename_i hh; clear hh
    induction r with
    | nil => exact .nil
    | @cons p q l l' h _ ih =>
      rw [List.map_cons, List.map_cons]
      refine .cons ?_ ih
      by_cases e : p.1 = k
      · rw [if_pos e, if_pos (h.1 ▸ e)]
        exact ⟨h.1, ru⟩
      · rw [if_neg e, if_neg (h.1 ▸ e)]
        exact h
  · unfold RK at r ⊢
    rename_i hh; clear hh
    induction r with
    | nil => exact .cons ⟨rfl, ru⟩ .nil
    | cons h _ ih => exact .cons h ih
theorem RK.len {K : PySem.W.Frag} {H : Hp} {m : List Addr} {gs : List (Key × V)} {kvs : List (Key × U)} (r : RK K H m gs kvs) : gs.length = kvs.length := Paired.length r
theorem keyOf_v {K : PySem.W.Frag} {H : Hp} {m : List Addr} {v : V} {u : U} {k : Key} (e : keyOf u = some k) (r : RU K H m v u) : v = kV k := by
  unfold keyOf at e
  split at e
  · cases e; cases r.rd; rfl
  · cases e; cases r.rd; rfl
  · cases e
theorem dictOf_v {K : PySem.W.Frag} {mg : Str → Option Value} {H : Hp} {m : List Addr} {h : Sto} {v : V} {u : U} {kvs : List (Key × U)} (s : Sta K mg H m h) (e : dictOf h u = some kvs) (r : RU K H m v u) : ∃ a n gs, u = .ref n ∧ m[n]? = some a ∧ h[n]? = some (.dct kvs) ∧ v = .ref a ∧ H a = some (.dK gs) ∧ RK K H m gs kvs := by
  unfold dictOf at e
  split at e
  · split at e
    · rename_i n ob ho
      cases e
      cases r with
      | ref hm =>
        obtain ⟨gs, h1, h2⟩ := s.obj _ _ _ hm ho
        exact ⟨_, _, gs, rfl, hm, ho, rfl, h1, h2⟩
    · cases e
  · cases e
def signIn (x z : Str) : Option Bool := match x.cps.toList with
  | [c] => some (decide (c ∈ z.cps.toList))
  | _ => none
def inOf (u w : U) (h : Sto) : Option Bool := match strOf u, strOf w with
  | some x, some z => signIn x z
  | _, _ => match dictOf h w, keyOf u with
    | some kvs, some k => some (valU kvs k).isSome
    | _, _ => match dataOf h u, dataOf h w with
      | some d, some (.list ds) => if SeqAt.shaped d && SeqAt.shaped (.list ds) then some (ds.any fun z => PyData.eqv z d) else none
      | some d, some (.tuple ds) => if SeqAt.shaped d && SeqAt.shaped (.tuple ds) then some (ds.any fun z => PyData.eqv z d) else none
      | _, _ => none
def opIn (n : Bool) (u w : U) (h : Sto) : Res U := match inOf u w h with
  | some b => .ok (.d (.bool (xor n b))) h
  | none => .stuck
section
variable {X : Cx} {W : WX}
def rInX (K : PySem.W.Frag) (n : Bool) : R2 := fun x y H Q =>
  (∃ (c : Nat) (z : Str), x = .str ⟨#[c]⟩ ∧ y = .str z ∧ Q (.bl (xor n (decide (c ∈ z.cps.toList)))) H) ∨
  (∃ a o, y = .ref a ∧ DGet H a x o ∧ Q (.bl (xor n o.isSome)) H) ∨
  (∃ d ds, Dp K H x d ∧ (Dp K H y (.list ds) ∧ SeqAt.shaped (.list ds) = true ∨ Dp K H y (.tuple ds) ∧ SeqAt.shaped (.tuple ds) = true) ∧ SeqAt.shaped d = true ∧ Q (.bl (xor n (ds.any fun z => PyData.eqv z d))) H)
theorem shaped_tup {ds : List PyData} (h : SeqAt.shaped (.tuple ds) = true) : PyData.canLayAll0 ds = true := SeqAt.canLay_of_shaped h
theorem op_inX (hu : X.A.units + 65 < cLine) : OpR X (compareOp .In) (rInX X.K false) := by
  intro pins s σ H x y v u Q I rx ry h
  rcases h with ⟨c, z, rfl, rfl, q⟩ | ⟨a, o, rfl, g, q⟩ | ⟨d, ds, hd, he | he, sd, q⟩
  · rw [Bool.false_xor] at q
    exact op_in_sign pins s σ H _ _ v u Q I rx ry ⟨c, z, rfl, rfl, q⟩
  · cases ry
    rw [Bool.false_xor] at q
    exact d_in (by omega) I g rx fun s' I' => ⟨.bl _, H, I', rfl, q⟩
  · rw [Bool.false_xor] at q
    exact op_inD hu pins s σ H x y v u Q I rx ry ⟨d, ds, hd, he.1, sd, he.2, q⟩
  · rw [Bool.false_xor] at q
    obtain ⟨as, r1⟩ := Dp.reads I d x v hd rx
    obtain ⟨bs, r2⟩ := Dp.reads I (.tuple ds) y u he.1 ry
    exact SeqAt.in_tuple_reads r2 r1 (shaped_tup he.2) (SeqAt.canLay_of_shaped sd) (room_in_shaped sd hu) ⟨.bl _, H, I, rfl, q⟩
theorem op_notInX (hu : X.A.units + 65 < cLine) : OpR X (compareOp .NotIn) (rInX X.K true) := by
  intro pins s σ H x y v u Q I rx ry h
  rcases h with ⟨c, z, rfl, rfl, q⟩ | ⟨a, o, rfl, g, q⟩ | ⟨d, ds, hd, he | he, sd, q⟩
  · rw [Bool.true_xor] at q
    exact op_notIn_sign pins s σ H _ _ v u Q I rx ry ⟨c, z, rfl, rfl, q⟩
  · cases ry
    rw [Bool.true_xor] at q
    exact d_notIn (by omega) I g rx fun s' I' => ⟨.bl _, H, I', rfl, q⟩
  · rw [Bool.true_xor] at q
    exact op_notInD hu pins s σ H x y v u Q I rx ry ⟨d, ds, hd, he.1, sd, he.2, q⟩
  · rw [Bool.true_xor] at q
    obtain ⟨as, r1⟩ := Dp.reads I d x v hd rx
    obtain ⟨bs, r2⟩ := Dp.reads I (.tuple ds) y u he.1 ry
    exact SeqAt.notIn_tuple_reads r2 r1 (shaped_tup he.2) (SeqAt.canLay_of_shaped sd) (room_in_shaped sd hu) ⟨.bl _, H, I, rfl, q⟩
theorem ab_in (n : Bool) : Ab2 X W (opIn n) (rInX X.K n) := by
  intro σ H m h x y u w Q s ru rw out
  unfold opIn at out
  split at out
  · rename_i b e
    have fin : ∀ H' m', H' = H → m' = m → Q (.bl (xor n b)) H := fun _ _ _ _ => Out.here (b := V.bl _) out s (.d (.bl _))
    have q := fin H m rfl rfl
    unfold inOf at e
    split at e
    · rename_i x' z' e1 e2
      unfold signIn at e
      split at e
      · rename_i c ec
        cases e
        refine .inl ⟨c, z', ?_, strOf_v e2 rw, q⟩
        rw [strOf_v e1 ru]
        obtain ⟨cps⟩ := x'
        obtain ⟨l⟩ := cps
        simp at ec
        rw [ec]
      · cases e
    · split at e
      · rename_i kvs k e1 e2
        cases e
        obtain ⟨a, i, gs, rfl, hm, hi, rfl, hH, rk⟩ := dictOf_v s e1 rw
        refine .inr (.inl ⟨a, valV gs k, rfl, ?_, ?_⟩)
        · rw [keyOf_v e2 ru]
          exact .inl ⟨gs, k, .inl hH, rfl, rfl⟩
        · rcases rk.val k with ⟨h1, h2⟩ | ⟨v, u', h1, h2, _⟩
          · rw [h1]; rw [h2] at q; exact q
          · rw [h1]; rw [h2] at q; exact q
      · split at e
        · rename_i d ds e1 e2
          split at e
          · rename_i hs
            rw [Bool.and_eq_true] at hs
            cases e
            exact .inr (.inr ⟨d, ds, dataOf_v s _ _ _ e1 ru, .inl ⟨dataOf_v s _ _ _ e2 rw, hs.2⟩, hs.1, q⟩)
          · cases e
        · rename_i d ds e1 e2
          split at e
          · rename_i hs
            rw [Bool.and_eq_true] at hs
            cases e
            exact .inr (.inr ⟨d, ds, dataOf_v s _ _ _ e1 ru, .inr ⟨dataOf_v s _ _ _ e2 rw, hs.2⟩, hs.1, q⟩)
          · cases e
        · cases e
  · exact out.elim
end
end Wk
namespace Wk
open PySem L2
theorem units65 {k : Nat} {A : Around} (r : Room k A) : A.units + 65 < cLine := by have := r.un; omega
section
variable {fa : Ea} {env : Env'} {h : Sto} {u w : U}
@[simp] theorem ev_Zip : iZip fa env h = (fa env h).bind fun us h1 => match us with | [.d (.list xs), .d (.list ys)] => .ok (zipD xs ys) h1 | [.d (.tuple xs), .d (.tuple ys)] => .ok (zipD xs ys) h1 | _ => .stuck := (rfl)
@[simp] theorem ev_revL (b : Bool) (xs : List D) : opRevL b (.d (.list xs)) h = mkL b xs.reverse h := (rfl)
@[simp] theorem ev_revT (xs : List D) : opRevT (.d (.list xs)) h = .ok (.d (.tuple xs.reverse)) h := (rfl)
@[simp] theorem ev_in (n : Bool) : opIn n u w h = match inOf u w h with | some b => .ok (.d (.bool (xor n b))) h | none => .stuck := (rfl)
end
end Wk

/-! WL: bounds of places, lists in the store. -/
namespace Wk
open PySem L2
def P4.bd (n : Int) (p : P4) : Prop := (-n ≤ p.a ∧ p.a ≤ n) ∧ (-n ≤ p.b ∧ p.b ≤ n) ∧ (-n ≤ p.c ∧ p.c ≤ n) ∧ -n ≤ p.d ∧ p.d ≤ n
theorem P4.bd.mono {m n : Int} {p : P4} (h : p.bd m) (l : m ≤ n) : p.bd n := by unfold P4.bd at *; omega
theorem mv_bd {n m h s : Int} {p : P4} (h0 : 0 ≤ h) (h1 : h < 8) (b : p.bd n) (hs : -m ≤ s) (hs2 : s ≤ m) : (mv h s p).bd (n + m) := by
  unfold P4.bd at *
  unfold mv
  rcases heads h0 h1 with z | z | z | z | z | z | z | z <;> subst z <;> simp [xa, xb, ya, yb] <;> omega
theorem lst_ref (xs : List D) (n : Int) (h0 : 0 ≤ n) (h1 : n < xs.length) : ∃ x, atI xs n = some x ∧ x ∈ xs := atI_in h0 h1
theorem ixR (xs : List D) (i : Int) : opIx (.ref 0) (.d (.int i)) [.lst xs] = match atI xs i with | some x => .ok (.d x) [.lst xs] | none => .stuck := (rfl)
theorem lenR (xs : List D) : fLen [.ref 0] [.lst xs] = .ok (.d (.int xs.length)) [.lst xs] := (rfl)
theorem slR (b : Bool) (xs : List D) (lo hi : Option Int) : opSl b (.ref 0) lo hi [.lst xs] = mkL b (cutD xs lo hi) [.lst xs] := (rfl)
theorem addRL (xs ys : List D) (h : xs.length + ys.length ≤ 16777216) : opAdd false (.ref 0) (.d (.list ys)) [.lst xs] = .ok (.d (.list (xs ++ ys))) [.lst xs] := by
  show (if fits (xs.length + ys.length) then mkL false (xs ++ ys) [.lst xs] else .stuck) = _
  rw [fits_of h]
  rfl
theorem addLL (xs ys : List D) (h : Sto) (hl : xs.length + ys.length ≤ 16777216) : opAdd false (.d (.list xs)) (.d (.list ys)) h = .ok (.d (.list (xs ++ ys))) h := by
  show (if fits (xs.length + ys.length) then mkL false (xs ++ ys) h else .stuck) = _
  rw [fits_of hl]
  rfl
theorem three {α : Type} {l : List α} (h : l.length = 3) : ∃ a b c, l = [a, b, c] := by
  match l, h with
  | [a, b, c], _ => exact ⟨a, b, c, rfl⟩
theorem pick {l : List Int} (hl : 0 < l.length) (hb : ∀ x ∈ l, 0 ≤ x ∧ x < 8) (i : Int) : ∃ h : Int, atI (l.map PyData.int) (i % l.length) = some (.int h) ∧ 0 ≤ h ∧ h < 8 := by
  obtain ⟨x, e, hx⟩ := atI_in (xs := l) (i := i % l.length) (Int.emod_nonneg _ (by omega)) (Int.emod_lt_of_pos _ (by omega))
  exact ⟨x, by rw [atI_map, e]; rfl, hb x hx⟩
theorem heads_at (i : Int) : ∃ l : List Int, atI [PyData.list [.int 0, .int 1, .int 2, .int 3, .int 4, .int 5, .int 6, .int 7], .list [.int 0, .int 2, .int 4, .int 6], .list [.int 1, .int 2, .int 3, .int 4, .int 5, .int 6, .int 7, .int 0], .list [.int 0, .int 1, .int 1, .int 4, .int 5]] (i % 4) = some (.list (l.map .int)) ∧ 0 < l.length ∧ ∀ x ∈ l, 0 ≤ x ∧ x < 8 := by
  have h : i % 4 = 0 ∨ i % 4 = 1 ∨ i % 4 = 2 ∨ i % 4 = 3 := by omega
  rcases h with z | z | z | z <;> rw [z]
  · exact ⟨[0, 1, 2, 3, 4, 5, 6, 7], atI_0 _ _, by decide, by decide⟩
  · exact ⟨[0, 2, 4, 6], atI_1 _ _ _, by decide, by decide⟩
  · exact ⟨[1, 2, 3, 4, 5, 6, 7, 0], atI_2 _ _ _ _, by decide, by decide⟩
  · exact ⟨[0, 1, 1, 4, 5], atI_3 _ _ _ _ _, by decide, by decide⟩
theorem fars_at (i : Int) : ∃ f : Int, atI [PyData.int 2, .int 3, .int 6, .int 1000] (i % 4) = some (.int f) ∧ 0 < f ∧ f ≤ 1000 := by
  have h : i % 4 = 0 ∨ i % 4 = 1 ∨ i % 4 = 2 ∨ i % 4 = 3 := by omega
  rcases h with z | z | z | z <;> rw [z]
  · exact ⟨2, atI_0 _ _, by decide, by decide⟩
  · exact ⟨3, atI_1 _ _ _, by decide, by decide⟩
  · exact ⟨6, atI_2 _ _ _ _, by decide, by decide⟩
  · exact ⟨1000, atI_3 _ _ _ _ _, by decide, by decide⟩

theorem lcGo_mapF {α : Type} {t : Tg} {e : Ev} {env : Env'} {h : Sto} (en : α → U) (f : α → D) : ∀ (l : List α) (acc : List D), (∀ x ∈ l, ∃ env1, t (en x) env h = some env1 ∧ e env1 h = .ok (.d (f x)) h) → acc.length + l.length ≤ 16777216 → lcGo t cYes e env (l.map en) acc h = .ok (acc ++ l.map f) h
  | [], acc, _, _ => by simp
  | x :: l, acc, H, hl => by
    obtain ⟨env1, e1, e2⟩ := H x List.mem_cons_self
    rw [List.length_cons] at hl
    have ih := lcGo_mapF (t := t) (e := e) (env := env) (h := h) en f l (acc ++ [f x]) (fun v hv => H v (List.mem_cons_of_mem _ hv)) (by rw [List.length_append, List.length_singleton]; omega)
    have hf : fits (acc.length + 1) = true := fits_of (by omega)
    simp [e1, e2, hf, ih]
/-! ### a way, pair by pair -/
def pairs {α : Type} : List α → List (α × α)
  | p :: q :: r => (p, q) :: pairs (q :: r)
  | _ => []
theorem zip_pairs {α : Type} : ∀ l : List α, List.zipWith (fun x y => (x, y)) l.dropLast l.tail = pairs l
  | [] => rfl
  | [p] => rfl
  | p :: q :: r => by
    have ih := zip_pairs (q :: r)
    have e : (p :: q :: r).dropLast = p :: (q :: r).dropLast := List.dropLast_cons_of_ne_nil (by simp)
    rw [e, List.tail_cons, pairs, ← ih]
    cases r with
    | nil => rfl
    | cons a r => rfl
def prU (z : D × D) : U := .d (.tuple [z.1, z.2])
theorem zipD_pairs (l : List D) : zipD l.dropLast l.tail = (pairs l).map prU := by
  rw [← zip_pairs]
  unfold zipD
  rw [List.map_zipWith]
  rfl
theorem pairs_map {α β : Type} (f : α → β) : ∀ l : List α, pairs (l.map f) = (pairs l).map fun z => (f z.1, f z.2)
  | [] => rfl
  | [p] => rfl
  | p :: q :: r => by
    have ih := pairs_map f (q :: r)
    simp only [List.map_cons] at ih ⊢
    rw [pairs, pairs, ih]
    rfl
theorem cut_front {α : Type} (l : List α) : cutD l none (some (-1)) = l.dropLast := by
  unfold cutD
  rw [List.dropLast_eq_take]
  have h1 : HT.sIx l.length 0 none = 0 := rfl
  have h2 : HT.sIx l.length l.length (some (-1)) = l.length - 1 := by
    unfold HT.sIx
    simp
    omega
  rw [h1, h2]
  simp
theorem cut_tail {α : Type} (l : List α) : cutD l (some 1) none = l.tail := by
  unfold cutD
  have h1 : HT.sIx l.length 0 (some 1) = min 1 l.length := HT.sIx_nat _ _ 1
  have h2 : HT.sIx l.length l.length none = l.length := rfl
  rw [h1, h2]
  cases l with
  | nil => rfl
  | cons a r => simp
theorem cut_to {α : Type} (l : List α) (n : Nat) (h : n ≤ l.length) : cutD l none (some (n : Int)) = l.take n := by
  unfold cutD
  have h1 : HT.sIx l.length 0 none = 0 := rfl
  have h2 : HT.sIx l.length l.length (some (n : Int)) = n := by
    rw [HT.sIx_nat]
    omega
  rw [h1, h2]
  simp
theorem cut_from {α : Type} (l : List α) (n : Nat) (h : n ≤ l.length) : cutD l (some (n : Int)) none = l.drop n := by
  unfold cutD
  have h1 : HT.sIx l.length 0 (some (n : Int)) = n := by
    rw [HT.sIx_nat]
    omega
  have h2 : HT.sIx l.length l.length none = l.length := rfl
  rw [h1, h2, List.take_of_length_le]
  simp
theorem cut_fb {α : Type} (l : List α) (n : Nat) (h : n < l.length) : cutD l (some (n : Int)) (some (-1)) = (l.dropLast).drop n := by
  unfold cutD
  have h1 : HT.sIx l.length 0 (some (n : Int)) = n := by
    rw [HT.sIx_nat]
    omega
  have h2 : HT.sIx l.length l.length (some (-1)) = l.length - 1 := by
    unfold HT.sIx
    simp
    omega
  rw [h1, h2, List.dropLast_eq_take, List.drop_take]
/-- a sum along a way -/
def sumP {α : Type} (f : α → α → Int) : List α → Int
  | p :: q :: r => f p q + sumP f (q :: r)
  | _ => 0
theorem sumP_app {α : Type} (f : α → α → Int) (x : α) (m : List α) : ∀ l : List α, sumP f (l ++ x :: m) = sumP f (l ++ [x]) + sumP f (x :: m)
  | [] => by simp [sumP]
  | [p] => by simp [sumP]
  | p :: q :: r => by
    have ih := sumP_app f x m (q :: r)
    simp only [List.cons_append] at ih ⊢
    rw [sumP, sumP, ih]
    omega
theorem sumP_snoc {α : Type} (f : α → α → Int) (l : List α) (x y : α) : sumP f (l ++ [x, y]) = sumP f (l ++ [x]) + f x y := by
  rw [sumP_app f x [y] l]
  simp [sumP]
theorem sumP_rev {α : Type} (f : α → α → Int) : ∀ l : List α, sumP f l.reverse = sumP (fun p q => f q p) l
  | [] => rfl
  | [p] => rfl
  | p :: q :: r => by
    have ih := sumP_rev f (q :: r)
    rw [List.reverse_cons, List.reverse_cons, List.append_assoc, List.singleton_append, sumP_snoc, sumP, ← List.reverse_cons, ih]
    omega
theorem sumP_map {α β : Type} (g : α → β) (f : β → β → Int) : ∀ l : List α, sumP f (l.map g) = sumP (fun p q => f (g p) (g q)) l
  | [] => rfl
  | [p] => rfl
  | p :: q :: r => by
    have ih := sumP_map g f (q :: r)
    simp only [List.map_cons] at ih ⊢
    rw [sumP, sumP, ih]
theorem sumP_congr {α : Type} {f g : α → α → Int} (h : ∀ p q, f p q = g p q) : ∀ l : List α, sumP f l = sumP g l
  | [] => rfl
  | [p] => rfl
  | p :: q :: r => by
    have ih := sumP_congr h (q :: r)
    rw [sumP, sumP, ih, h]
theorem sumP_mul {α : Type} (k : Int) (f : α → α → Int) : ∀ l : List α, sumP (fun p q => k * f p q) l = k * sumP f l
  | [] => by simp [sumP]
  | [p] => by simp [sumP]
  | p :: q :: r => by
    have ih := sumP_mul k f (q :: r)
    rw [sumP, sumP, ih, Int.mul_add]
theorem sumP_neg {α : Type} (f : α → α → Int) (l : List α) : sumP (fun p q => - f p q) l = - sumP f l := by
  have h := sumP_mul (-1) f l
  rw [show (fun p q => - f p q) = (fun p q => -1 * f p q) from funext fun p => funext fun q => by omega, h]
  omega
theorem sumP_tel {α : Type} (f : α → α → Int) (g : α → Int) : ∀ (l : List α) (p q : α), sumP (fun x y => f x y + (g y - g x)) (p :: (l ++ [q])) = sumP f (p :: (l ++ [q])) + (g q - g p)
  | [], p, q => by simp [sumP]
  | x :: l, p, q => by
    have ih := sumP_tel f g l x q
    simp only [List.cons_append] at ih ⊢
    rw [sumP, sumP, ih]
    omega
/-- a closed way, begun at another of its places -/
theorem sumP_turn {α : Type} (f : α → α → Int) (q : α) (r : List α) (n : Nat) (x : α) (hn : n < (q :: r).length) (hx : (q :: r)[n]? = some x) : sumP f ((q :: r).drop n ++ (q :: r).take n ++ [x]) = sumP f (q :: (r ++ [q])) := by
  cases n with
  | zero =>
    simp at hx
    subst hx
    simp
  | succ n =>
    have hn' : n < r.length := by simpa using hn
    have hx' : r[n]? = some x := by simpa using hx
    have ed : r.drop n = x :: r.drop (n + 1) := by
      rw [List.drop_eq_getElem_cons hn']
      rw [List.getElem?_eq_getElem hn'] at hx'
      cases hx'
      rfl
    have e1 : (q :: r).drop (n + 1) ++ (q :: r).take (n + 1) ++ [x] = (x :: r.drop (n + 1)) ++ q :: (r.take n ++ [x]) := by
      rw [List.drop_succ_cons, List.take_succ_cons, ed]
      simp
    have e2 : q :: (r ++ [q]) = (q :: r.take n) ++ x :: (r.drop (n + 1) ++ [q]) := by
      rw [show r ++ [q] = (r.take n ++ r.drop n) ++ [q] by rw [List.take_append_drop], ed]
      simp
    rw [e1, e2, sumP_app, sumP_app f x]
    simp only [List.cons_append]
    omega
end Wk

/-! T9: functions over the caller's store, instances, methods, raise, try. -/
namespace Wk
open PySem PySem.Spec PyProof.Rows L2

/-! ### functions over the store -/
abbrev SF := List U → Sto → Res U
def OutF (K : PySem.W.Frag) (mg : Str → Option Value) (H : Hp) (m : List Addr) (Q : VK) (E : XK) : Res U → Prop
  | .ok u h' => ∀ v H' m', Gr H m H' m' → Sta K mg H' m' h' → RU K H' m' v u → Q v H'
  | .exc c h' => ∀ H' m', Gr H m H' m' → Sta K mg H' m' h' → ∀ C, mg c = some (.ref C) → E (.ref C) none H'
  | .stuck => False
def spS (K : PySem.W.Frag) (mg : Str → Option Value) (n : Nat) (F : SF) : Sp := fun vs H Q E => ∃ us m h, Sta K mg H m h ∧ RUs K H m vs us ∧ vs.length = n ∧ OutF K mg H m Q E (F us h)
def sfOf (n : Nat) (B : Es) : SF := fun us h => match B (us.map some ++ List.replicate (n - us.length) none) h with
  | .ret u h' => .ok u h'
  | .next _ h' => .ok (.d .none) h'
  | .exc c _ h' => .exc c h'
  | .stuck => .stuck
theorem sl_startU {K : PySem.W.Frag} {H : Hp} {m : List Addr} {N : List Str} {vs : List V} {us : List U} (r : RUs K H m vs us) : Sl K H m (L2.start N vs) (us.map some ++ List.replicate (N.length - us.length) none) := by
  unfold L2.start
  refine ⟨by simp [RUs.len r], fun i u e => ?_⟩
  by_cases hi : i < us.length
  · rw [List.getElem?_append_left (by simpa using hi), List.getElem?_map, List.getElem?_eq_getElem hi] at e
    cases e
    obtain ⟨v, h1, h2⟩ := RUs.get r (List.getElem?_eq_getElem hi)
    exact ⟨v, by rw [List.getElem?_append_left (by rw [List.length_map, RUs.len r]; exact hi), List.getElem?_map, h1]; rfl, h2⟩
  · rw [List.getElem?_append_right (by simpa using hi), List.getElem?_replicate] at e
    split at e <;> cases e
section
variable {P : Program} {w : World} {K : PySem.W.Frag} {mg : Str → Option Value} {base : Heap}
/-- the def keeps its function, wherever it stands -/
def FnB (P : Program) (w : World) (K : PySem.W.Frag) (mg : Str → Option Value) (base : Heap) (k : Nat) (x q : Str) (st : Stmt) (ps : List Str) (F : SF) : Prop :=
  ∀ f fd, Fun K x q st f fd → FnOk P w K mg base (L2.CX P w) k f fd ps (spS K mg ps.length F)
theorem FnB.mono {j k : Nat} {x q : Str} {st : Stmt} {ps : List Str} {F : SF} (h : FnB P w K mg base j x q st ps F) (l : j ≤ k) : FnB P w K mg base k x q st ps F := fun f fd z => (h f fd z).mono l
theorem FnB.stuck {k : Nat} {x q : Str} {st : Stmt} {ps : List Str} : FnB P w K mg base k x q st ps (fun _ _ => .stuck) := fun f fd _ =>
  ⟨fun vs H Q E ⟨_, _, _, _, _, _, z⟩ => z.elim, fun A outer s H args us vs Q E _ _ _ _ ⟨_, _, _, _, _, _, z⟩ => z.elim⟩
/-- THE RULE for a def over the caller's store -/
theorem fn_shared {x q : Str} {st : Stmt} {N ps : List Str} {k : Nat} {B : Es} (S : FnScope N ps (defScope st))
    (body : ∀ (f : Addr) (cdv : Value) (A : Around) (outer : List Env) (s : Shared) (H : Hp) (E : XK), Room k (A.deeper (envOfC q (defScope st) s.heap.objs.size f cdv)) →
      Takes (cxOf (L2.CX P w) P w K mg base N q (defScope st) f cdv A outer s H E) (WD E) →
      PassesOwn (model P w) (A.deeper (envOfC q (defScope st) s.heap.objs.size f cdv)) (envOfC q (defScope st) s.heap.objs.size f cdv) (cxOf (L2.CX P w) P w K mg base N q (defScope st) f cdv A outer s H E).xe →
      SSs (cxOf (L2.CX P w) P w K mg base N q (defScope st) f cdv A outer s H E) (WD E) (defBody st) B) :
    FnB P w K mg base (k + 1) x q st ps (sfOf N.length B) := by
  intro f fd h2
  refine h2.okX S (fun vs H Q E h => ?_) fun cdv A outer s H vs Q E hr h => ?_
  · obtain ⟨us, m, hh, _, _, e, _⟩ := h
    exact e
  · obtain ⟨us, m, hh, sta, r, e, q⟩ := h
    refine ⟨_, (body f cdv A outer s H E hr (takes_of rfl rfl rfl rfl) (passes_of rfl)).ps, _, m, hh, sta, sl_startU r, ?_⟩
    unfold sfOf at q
    generalize B (us.map some ++ List.replicate (N.length - us.length) none) hh = z at q
    cases z with
    | next env' h' => exact fun σ' H' m' g s' l => (show ∀ v H' m', Gr H m H' m' → Sta K mg H' m' h' → RU K H' m' v (.d .none) → Q v H' from q) .non H' m' g s' (.d .non)
    | ret u h' => exact q
    | exc c env' h' => exact fun σ' H' m' g s' l C hC => (show ∀ H' m', Gr H m H' m' → Sta K mg H' m' h' → ∀ C, mg c = some (.ref C) → E (.ref C) none H' from q) H' m' g s' C hC
    | stuck => exact q
/-- the data function of such a def -/
def pfS (F : SF) : PF := fun ds => match F (ds.map .d) [] with
  | .ok (.d d) _ => .ok d
  | .exc c _ => .exc c
  | _ => .stuck
theorem FnB.a {k : Nat} {x : Str} {st : Stmt} {ps : List Str} {F : SF} (h : FnB P w K mg base k x x st ps F) : FnA P w K mg base k x st ps (pfS F) := by
  intro f fd z
  refine (h f fd z).imp fun vs H Q E ⟨ds, r, e, q⟩ => ⟨ds.map .d, [], [], Sta.nil, r.rus, e, ?_⟩
  unfold pfS at q
  generalize F (ds.map .d) [] = y at q
  cases y with
  | ok u h' =>
    cases u with
    | d d => exact fun v H' m' g s' r' => (show ∀ v H', Same H H' → RD K H' v d → Q v H' from q) v H' g.same r'.rd
    | ref n => exact q.elim
    | tup us => exact q.elim
    | exn a => exact q.elim
  | exc c h' => exact fun H' m' g s' C hC => (show ∀ H', Same H H' → ∀ C, mg c = some (.ref C) → E (.ref C) none H' from q) H' g.same C hC
  | stuck => exact q
end
structure FnS (P : Program) (w : World) (K : PySem.W.Frag) (mg : Str → Option Value) (base : Heap) (k : Nat) (x : Str) (ps : List Str) (F : SF) : Prop where
  ex : ∃ f fd, mg x = some (.ref f) ∧ PySem.W.keepIn K (.ref f) = true ∧ Binds K fd ps [] ∧ FnOk P w K mg base (L2.CX P w) k f fd ps (spS K mg ps.length F)
theorem FnB.s {P : Program} {w : World} {K : PySem.W.Frag} {mg : Str → Option Value} {base : Heap} {k : Nat} {x : Str} {st : Stmt} {ps : List Str} {F : SF} (h : FnB P w K mg base k x x st ps F) (hs : Has K mg x st ps) : FnS P w K mg base k x ps F := by
  obtain ⟨f, fd, h1, h2, h3⟩ := hs.ex
  exact ⟨f, fd, h1, h2.kp, Binds.all h3, h f fd h2⟩
section
variable {X : Cx} {W : WX} {k : Nat} {x : Str} {p pos : Pos} {e : Expr} {es : List Expr} {ps : List Str} {F : SF} {fa : Ea}
theorem spS_of {σ : L2.St} {H : Hp} {m : List Addr} {h : Sto} {us : List U} {vs : List V} {Q : VK} {n : Nat} (s : Sta X.K X.mg H m h) (r : RUs X.K H m vs us) (hn : us.length = n) (out : Out X W (rlU X.K) σ H m (F us h) Q) :
    spS X.K X.mg n F vs H Q (WE W σ) := by
  refine ⟨us, m, h, s, r, (RUs.len r).trans hn, ?_⟩
  generalize F us h = q at out
  cases q with
  | ok d h' => exact out
  | exc c h' => exact out
  | stuck => exact out
theorem se_callS (tk : TakesC X W) (f : FnS X.prog X.w X.K X.mg X.base k x ps F) (hr : Room k X.A) (hg : Gl X x) (ha : SA X W (e :: es) fa) (hn : aLen fa ps.length)
    (hdb : (x == ("__debug__" : Str)) = false := by decide) (he : starEach (e :: es) X.env = (false, eval e X.env) :: starEach es X.env := by rfl) (hpl : (backTo pos (starEach es X.env)).any (·.1) = false := by rfl) :
    SE X W (.Call (.Name x p) (e :: es) [] pos) (eB F fa) := by
  obtain ⟨fa', fd, h1, h2, h3, h4⟩ := f.ex
  refine ⟨pe_imp (pe_callS h4 hr hg h1 h2 h3 tk ha.pa hdb he hpl) fun σ H Q ⟨env, m, h, sta, sl, out⟩ => ?_⟩
  have hl := fun us => hn us env h
  refine ⟨env, m, h, sta, sl, ?_⟩
  unfold eB at out
  generalize hq : fa env h = q at out
  cases q with
  | stuck => exact out
  | exc c h1 => exact out
  | ok us h1 => exact fun vs H1 m1 g1 s1 r1 => spS_of s1 r1 (hl us h1 hq) (Out.gr out g1)
end

/-! ### instances -/
def insOf (h : Sto) : U → Option (Str × List (Str × U))
  | .ref n => match h[n]? with
    | some (.ins c fs) => some (c, fs)
    | _ => none
  | _ => none
theorem insOf_v {K : PySem.W.Frag} {mg : Str → Option Value} {H : Hp} {m : List Addr} {h : Sto} {v : V} {u : U} {c : Str} {fs : List (Str × U)} (s : Sta K mg H m h) (e : insOf h u = some (c, fs)) (r : RU K H m v u) :
    ∃ n a C dx gs, u = .ref n ∧ m[n]? = some a ∧ h[n]? = some (.ins c fs) ∧ v = .ref a ∧ mg c = some (.ref C) ∧ H a = some (.ins C dx gs) ∧ RF K H m gs fs := by
  unfold insOf at e
  split at e
  · split at e
    · rename_i n c' fs' ho
      cases e
      cases r with
      | ref hm =>
        obtain ⟨C, dx, gs, h0, h1, h2⟩ := s.obj _ _ _ hm ho
        exact ⟨_, _, C, dx, gs, rfl, hm, ho, rfl, h0, h1, h2⟩
    · cases e
  · cases e
theorem RF.look {K : PySem.W.Frag} {H : Hp} {m : List Addr} {gs : List (Str × V)} {fs : List (Str × U)} (r : RF K H m gs fs) (f : Str) : (gs.lookup f = none ∧ fs.lookup f = none) ∨ ∃ v u, gs.lookup f = some v ∧ fs.lookup f = some u ∧ RU K H m v u := by
  unfold RF at r
  induction r with
  | nil => exact .inl ⟨rfl, rfl⟩
  | @cons p q l l' h _ ih =>
    obtain ⟨a, x⟩ := p
    obtain ⟨b, y⟩ := q
    obtain ⟨rfl, h2⟩ := h
    by_cases e : f = a
    · subst e
      exact .inr ⟨x, y, by simp [List.lookup], by simp [List.lookup], h2⟩
    · have e' : (f == a) = false := by simpa using e
      simp only [List.lookup, e']
      exact ih
def putG (f : Str) (v : U) : List (Str × U) → List (Str × U)
  | [] => [(f, v)]
  | (g, x) :: r => if g = f then (g, v) :: r else (g, x) :: putG f v r
theorem RF.put {K : PySem.W.Frag} {H : Hp} {m : List Addr} {gs : List (Str × V)} {fs : List (Str × U)} (r : RF K H m gs fs) (f : Str) {v : V} {u : U} (ru : RU K H m v u) : RF K H m (putF f v gs) (putG f u fs) := by
  unfold RF at r ⊢
  induction r with
  | nil => exact .cons ⟨rfl, ru⟩ .nil
  | @cons p q l l' h t ih =>
    obtain ⟨a, x⟩ := p
    obtain ⟨b, y⟩ := q
    obtain ⟨rfl, h2⟩ := h
    show Paired _ (if a = f then (a, v) :: l else (a, x) :: putF f v l) (if a = f then (a, u) :: l' else (a, y) :: putG f u l')
    by_cases e : a = f
    · rw [if_pos e, if_pos e]
      exact .cons ⟨rfl, ru⟩ t
    · rw [if_neg e, if_neg e]
      exact .cons ⟨rfl, h2⟩ ih
theorem RF.len {K : PySem.W.Frag} {H : Hp} {m : List Addr} {gs : List (Str × V)} {fs : List (Str × U)} (r : RF K H m gs fs) : gs.length = fs.length := Paired.length r
theorem RF.kp {K : PySem.W.Frag} {H H' : Hp} {m m' : List Addr} {gs : List (Str × V)} {fs : List (Str × U)} (r : RF K H m gs fs) (k : Kp H H') (pre : ∃ e, m' = m ++ e) : RF K H' m' gs fs := paired_imp (fun p q z => ⟨z.1, RU.kp k pre _ _ z.2⟩) r
/-- what a class must be for its fields -/
structure ClsF (K : PySem.W.Frag) (mg : Str → Option Value) (c : Str) : Prop where
  cls : ∀ C, mg c = some (.ref C) → Cls K C
def FldF (K : PySem.W.Frag) (mg : Str → Option Value) (c f : Str) : Prop := ∀ C, mg c = some (.ref C) → NoAttr K C f
/-- e.f -/
def eFld (c f : Str) (fo : Ev) : Ev := fun env h => (fo env h).bind fun u h1 => match insOf h1 u with
  | some (c', fs) => if c' = c then (match fs.lookup f with
    | some w => .ok w h1
    | none => .stuck) else .stuck
  | none => .stuck
/-- e.f = value -/
def sFldS (c f : Str) (fv fo : Ev) : Es := fun env h => (fv env h).then_ env fun w h1 => (fo env h1).then_ env fun u h2 => match u with
  | .ref n => (match h2[n]? with
    | some (.ins c' fs) => if c' = c ∧ fs.length < 1000 then .next env (h2.set n (.ins c' (putG f w fs))) else .stuck
    | _ => .stuck)
  | _ => .stuck
section
variable {X : Cx} {W : WX} {o e value : Expr} {f c : Str} {pos pos' : Pos} {fo fv : Ev}
theorem se_fld (kc : ClsF X.K X.mg c) (kf : FldF X.K X.mg c f) (he : SE X W e fo) (hb : attributeBase e f X.env (eval e X.env) = eval e X.env := by rfl) : SE X W (.Attribute e f pos) (eFld c f fo) :=
  ⟨pe_imp (pe_fld he.pe hb) fun σ H Q ⟨env, m, h, sta, sl, out⟩ => rd_of sta sl out fun u h1 x H1 m1 g1 s1 r1 out1 => by
    split at out1
    · rename_i c' fs ei
      obtain ⟨n, a, C, dx, gs, rfl, hm, hn, rfl, hC, hH, rf⟩ := insOf_v s1 ei r1
      split at out1
      · rename_i hc
        subst hc
        rcases rf.look f with ⟨l1, l2⟩ | ⟨v, u', l1, l2, ru⟩
        · rw [l2] at out1; exact out1.elim
        · rw [l2] at out1
          exact ⟨a, C, dx, gs, v, rfl, hH, kc.cls C hC, kf C hC, l1, Out.here (b := v) out1 s1 ru⟩
      · exact out1.elim
    · exact out1.elim⟩
theorem ss_fld (kc : ClsF X.K X.mg c) (kf : FldF X.K X.mg c f) (hv : SE X W value fv) (ho : SE X W o fo) (hs : swapsWith value (some (.Attribute o f pos')) pos.line X.env = pure false := by rfl) : SS X W (.Assign [.Attribute o f pos'] value pos) (sFldS c f fv fo) :=
  ⟨ps_imp (ps_fld ho.pe hv.pe hs) fun D σ H ⟨env, m, h, sta, sl, out⟩ => rd_then sta sl out fun w h1 y H1 m1 g1 s1 ry out1 => rd_then s1 (sl.gr g1) out1 fun u h2 x H2 m2 g2 s2 rx out2 => by
    split at out2
    · split at out2
      · rename_i n c' fs hn
        split at out2
        · rename_i hc
          obtain ⟨hc, hl⟩ := hc
          subst hc
          cases rx with
          | ref hm =>
            rename_i a
            obtain ⟨C, dx, gs, h0, hH, rf⟩ := s2.obj _ _ _ hm hn
            have kp := mut_kp (y := HO.ins C dx (putF f y gs)) hH trivial
            refine ⟨a, C, dx, gs, rfl, hH, kc.cls C h0, kf C h0, by rw [rf.len]; exact hl, ?_⟩
            have gw := Gr.write (y := HO.ins C dx (putF f y gs)) (List.mem_of_getElem? hm) hH trivial
            have ry2 := RU.kp g2.kp g2.pre _ _ ry
            exact (show ∀ σ' H' m', Gr H2 m2 H' m' → Sta X.K X.mg H' m' _ → Sl X.K H' m' σ' env → D.nx σ' H' from out2) σ _ m2 gw
              (s2.write hm hH trivial ⟨C, dx, _, h0, upd_same, (rf.kp kp ⟨[], by simp⟩).put f (RU.kp kp ⟨[], by simp⟩ _ _ ry2)⟩) (((sl.gr g1).gr g2).gr gw)
        · exact out2.elim
      · exact out2.elim
    · exact out2.elim⟩
end

/-! ### methods -/
structure MetS (P : Program) (w : World) (K : PySem.W.Frag) (mg : Str → Option Value) (base : Heap) (k : Nat) (c m : Str) (ps : List Str) (F : SF) : Prop where
  ex : ∀ C, mg c = some (.ref C) → ∃ f fd, Meth K C m f ∧ Binds K fd ps [] ∧ FnOk P w K mg base (L2.CX P w) k f fd ps (spS K mg ps.length F)
def eMth (c m : Str) (F : SF) (fo : Ev) (fa : Ea) : Ev := fun env h => (fo env h).bind fun u h1 => match insOf h1 u with
  | some (c', fs) => if c' = c ∧ fs.lookup m = none then (fa env h1).bind fun us h2 => F (u :: us) h2 else .stuck
  | none => .stuck
section
variable {X : Cx} {CX : CXT} {k : Nat} {f C : Addr} {fd : FuncData} {ps : List Str} {sp : Sp} {E : L2.St → XK} {x m : Str} {p pos apos : Pos} {e o : Expr} {es : List Expr} {ta : TE} {t : TA}
def tMethS (C : Addr) (m : Str) (sp : Sp) (E : L2.St → XK) (ta : TE) (t : TA) : TE := fun σ H Q => ta σ H fun x H1 => ∃ a dx fs, x = .ref a ∧ H1 a = some (.ins C dx fs) ∧ fs.lookup m = none ∧ t σ H1 fun vs H2 => sp (x :: vs) H2 Q (E σ)
theorem pe_methE {pl : Sem Bool} (he : PE X o ta) (c : Cls X.K C) (hm : Meth X.K C m f) (F : FnOk X.prog X.w X.K X.mg X.base CX k f fd ps sp) (hr : Room k X.A) (hb : Binds X.K fd ps []) (hx : ∀ σ, PassesAt CX X σ (E σ)) (ha : PA X (e :: es) t)
    (hst : starEach (e :: es) X.env = (false, eval e X.env) :: starEach es X.env) (hpl : (backTo pos (starEach es X.env)).any (·.1) = false)
    (ht : eval (.Call (.Attribute o m apos) (e :: es) [] pos) X.env = (do
      let ov ← eval o X.env
      standAt apos.atName
      let (f, first) ← holding [ov] (getMethod ov m pl)
      callWith pos f first (backTo pos (starEach (e :: es) X.env)) (backToKw pos (keywordEach [] X.env)))) :
    PE X (.Call (.Attribute o m apos) (e :: es) [] pos) (tMethS C m sp E ta t) := by
  refine ⟨fun pins s σ H Q I h => ?_⟩
  refine PySem.W.methodCall_KW (pl := pl) (thn (he.run pins s σ H _ I h) fun u s1 ⟨x, H1, I1, rx, a, dx, fs, ex, ea, l, q⟩ => ?_) ht
  subst ex
  obtain rfl : u = Value.ref a := rx
  refine getmeth_ok I1 ea c hm l ?_
  refine PySem.W.callWith_K (first := [.ref a]) (h₀ := X.base) I.ok.mod.kin hm.kp (thn (ha.run pos pins s1 σ H1 _ I1 q) fun us s2 ⟨vs, H2, I2, r, q2⟩ => ⟨I2.kIn, ?_⟩) hst hpl
  exact run_fnS (us := .ref a :: us) (vs := .ref a :: vs) F hr hb (hx σ) I2 (.cons rfl r) q2
theorem pe_methE0 {pl : Sem Bool} (he : PE X o ta) (c : Cls X.K C) (hm : Meth X.K C m f) (F : FnOk X.prog X.w X.K X.mg X.base CX k f fd ps sp) (hr : Room k X.A) (hb : Binds X.K fd ps []) (hx : ∀ σ, PassesAt CX X σ (E σ))
    (ht : eval (.Call (.Attribute o m apos) [] [] pos) X.env = (do
      let ov ← eval o X.env
      standAt apos.atName
      let (f, first) ← holding [ov] (getMethod ov m pl)
      callWith pos f first (backTo pos (starEach [] X.env)) (backToKw pos (keywordEach [] X.env)))) :
    PE X (.Call (.Attribute o m apos) [] [] pos) (tMethS C m sp E ta tNil) := by
  refine ⟨fun pins s σ H Q I h => ?_⟩
  refine PySem.W.methodCall_KW (pl := pl) (thn (he.run pins s σ H _ I h) fun u s1 ⟨x, H1, I1, rx, a, dx, fs, ex, ea, l, q⟩ => ?_) ht
  subst ex
  obtain rfl : u = Value.ref a := rx
  refine getmeth_ok I1 ea c hm l ?_
  exact PySem.W.callWith_K0 (first := [.ref a]) I1.kIn hm.kp (run_fnS (us := [.ref a]) (vs := [.ref a]) F hr hb (hx σ) I1 (.cons rfl .nil) q)
end
section
variable {X : Cx} {W : WX} {k : Nat} {c m : Str} {apos pos : Pos} {e o : Expr} {es : List Expr} {ps : List Str} {F : SF} {fa : Ea} {fo : Ev}
theorem mth_rd {C : Addr} {H : Hp} {Q : VK} {σ : L2.St} {t : TA} (hC : X.mg c = some (.ref C)) (hn : aLen fa ps.length) (hps : ∀ (env : Env') (h : Sto), True)
    (ht : ∀ σ H R, rd X W (rlA X.K) fa σ H R → t σ H R) (q : rd X W (rlU X.K) (eMth c m F fo fa) σ H Q) :
    rd X W (rlU X.K) fo σ H fun x H1 => ∃ a dx fs, x = .ref a ∧ H1 a = some (.ins C dx fs) ∧ fs.lookup m = none ∧ t σ H1 fun vs H2 => spS X.K X.mg (ps.length + 1) F (x :: vs) H2 Q (WE W σ) := by
  obtain ⟨env, mm, h, sta, sl, out⟩ := q
  refine rd_of sta sl out fun u h1 x H1 m1 g1 s1 r1 out1 => ?_
  split at out1
  · rename_i c' fs ei
    obtain ⟨n, a, C', dx, gs, rfl, hm, hnn, rfl, hC', hH, rf⟩ := insOf_v s1 ei r1
    split at out1
    · rename_i hc
      obtain ⟨hc, hl⟩ := hc
      subst hc
      rw [hC] at hC'
      cases hC'
      refine ⟨a, dx, gs, rfl, hH, ?_, ht _ _ _ ?_⟩
      · rcases rf.look m with ⟨l1, _⟩ | ⟨v, u', _, l2, _⟩
        · exact l1
        · rw [hl] at l2; cases l2
      · refine ⟨env, m1, h1, s1, sl.gr g1, ?_⟩
        have hla := fun us h2 => hn us env h1 h2
        generalize hq : fa env h1 = z at out1
        cases z with
        | stuck => exact out1
        | exc c h2 => exact out1
        | ok us h2 =>
          intro vs H2 m2 g2 s2 r2
          exact spS_of s2 (.cons (RU.kp g2.kp g2.pre _ _ r1) r2) (by rw [List.length_cons, hla us h2 hq]) (Out.gr out1 g2)
    · exact out1.elim
  · exact out1.elim
theorem se_mth {pl : Sem Bool} {p0 : Str} (tk : TakesC X W) (kc : ClsF X.K X.mg c) (hC : ∃ C, X.mg c = some (.ref C)) (f : MetS X.prog X.w X.K X.mg X.base k c m (p0 :: ps) F) (hr : Room k X.A) (ho : SE X W o fo) (ha : SA X W (e :: es) fa) (hn : aLen fa ps.length)
    (hst : starEach (e :: es) X.env = (false, eval e X.env) :: starEach es X.env := by rfl) (hpl : (backTo pos (starEach es X.env)).any (·.1) = false := by rfl)
    (ht : eval (.Call (.Attribute o m apos) (e :: es) [] pos) X.env = (do
      let ov ← eval o X.env
      standAt apos.atName
      let (f, first) ← holding [ov] (getMethod ov m pl)
      callWith pos f first (backTo pos (starEach (e :: es) X.env)) (backToKw pos (keywordEach [] X.env))) := by rfl) :
    SE X W (.Call (.Attribute o m apos) (e :: es) [] pos) (eMth c m F fo fa) := by
  obtain ⟨C, hC⟩ := hC
  obtain ⟨f', fd, h1, h3, h4⟩ := f.ex C hC
  exact ⟨pe_imp (pe_methE ho.pe (kc.cls C hC) h1 h4 hr h3 tk ha.pa hst hpl ht) fun σ H Q q => mth_rd hC hn (fun _ _ => trivial) (fun _ _ _ z => z) q⟩
theorem se_mth0 {pl : Sem Bool} {p0 : Str} (tk : TakesC X W) (kc : ClsF X.K X.mg c) (hC : ∃ C, X.mg c = some (.ref C)) (f : MetS X.prog X.w X.K X.mg X.base k c m [p0] F) (hr : Room k X.A) (ho : SE X W o fo)
    (ht : eval (.Call (.Attribute o m apos) [] [] pos) X.env = (do
      let ov ← eval o X.env
      standAt apos.atName
      let (f, first) ← holding [ov] (getMethod ov m pl)
      callWith pos f first (backTo pos (starEach [] X.env)) (backToKw pos (keywordEach [] X.env))) := by rfl) :
    SE X W (.Call (.Attribute o m apos) [] [] pos) (eMth c m F fo aNil) := by
  obtain ⟨C, hC⟩ := hC
  obtain ⟨f', fd, h1, h3, h4⟩ := f.ex C hC
  refine ⟨pe_imp (pe_methE0 ho.pe (kc.cls C hC) h1 h4 hr h3 tk ht) fun σ H Q q => mth_rd (ps := []) (t := tNil) hC aLen_nil (fun _ _ => trivial) (fun σ H R ⟨env, m, h, sta, sl, out⟩ => ?_) q⟩
  exact Out.here (b := []) out sta .nil
end

/-! ### making an instance -/
structure MkS (P : Program) (w : World) (K : PySem.W.Frag) (mg : Str → Option Value) (base : Heap) (k : Nat) (c : Str) (ps : List Str) (F : SF) : Prop where
  ex : ∃ C f fd, mg c = some (.ref C) ∧ Mk K C f ∧ Binds K fd ps [] ∧ FnOk P w K mg base (L2.CX P w) k f fd ps (spS K mg ps.length F)
def retN (n : Nat) (r : U) (h : Sto) : Res U := match r with
  | .d .none => .ok (.ref n) h
  | _ => .stuck
def eMk (c : Str) (F : SF) (fa : Ea) : Ev := fun env h => (fa env h).bind fun us h1 => (F (.ref h1.length :: us) (h1 ++ [.ins c []])).bind (retN h1.length)
section
variable {X : Cx} {CX : CXT} {k : Nat} {f C : Addr} {fd : FuncData} {ps : List Str} {sp : Sp} {E : L2.St → XK} {x : Str} {p pos : Pos} {e : Expr} {es : List Expr} {t : TA}
def tMakeS (C : Addr) (sp : Sp) (E : L2.St → XK) (t : TA) : TE := fun σ H Q => t σ H fun vs H1 => ∀ x dx, H1 x = none → H1 dx = none → dx ≠ x →
  sp (.ref x :: vs) (upd (upd H1 dx (.own x)) x (.ins C dx [])) (fun v H2 => v = .non ∧ Q (.ref x) H2) (E σ)
theorem run_makeS {pins : List (Addr × Obj)} {σ : L2.St} {H : Hp} {s : Shared} {Q : VK} {us : List Value} {vs : List V} {E : XK} (M : Mk X.K C f) (F : FnOk X.prog X.w X.K X.mg X.base CX k f fd ps sp) (hr : Room (k + 1) X.A) (hb : Binds X.K fd ps [])
    (hx : PassesAt CX X σ E) (I : Inv X pins σ H s) (r : Vals vs us)
    (h : ∀ x dx, H x = none → H dx = none → dx ≠ x → sp (.ref x :: vs) (upd (upd H dx (.own x)) x (.ins C dx [])) (fun v H2 => v = .non ∧ Q (.ref x) H2) E) :
    wpAny (model X.prog X.w) X.A (call (.ref C) us) (EP X pins σ Q) X.xe s := by
  have hq := h (s.heap.objs.size + 1) s.heap.objs.size (I.hok.fresh (Nat.le_succ _)) (I.hok.fresh (Nat.le_refl _)) (Nat.ne_of_lt (Nat.lt_succ_self _))
  have I2 := Inv.made (C := C) I
  have r2 : Vals (V.ref (s.heap.objs.size + 1) :: vs) (Value.ref (s.heap.objs.size + 1) :: us) := .cons rfl r
  have hl : (Value.ref (s.heap.objs.size + 1) :: us).length = ps.length := by
    have e := r2.length
    rw [F.len _ _ _ _ hq] at e
    exact e.symm
  have b := hb { s with heap := (s.heap.push PySem.W.emptyDict).push (PySem.W.instObj C s.heap.objs.size) } (Value.ref (s.heap.objs.size + 1) :: us) I2.kIn (by rw [List.append_nil]; exact hl)
  rw [List.append_nil] at b
  refine wpAny_call (make_map (f := f) I.kIn M.makes M.init (beq_iff_eq.mp M.fn) (codeAny_mono (F.run _ X.stack _ _ ⟨Value.ref (s.heap.objs.size + 1) :: us, []⟩ (Value.ref (s.heap.objs.size + 1) :: us) _ _ E (hr.make C us [])
    (I2.env0.make C us []) b r2 hq) fun r s' hq' => ?_))
  cases r with
  | error e => exact hx pins _ _ e s' I2 hq'
  | ok fl =>
    cases fl with
    | ret u =>
      obtain ⟨v, H', I3, rv, ev, q3⟩ := I2.after hq'
      subst ev
      exact ⟨rv, ⟨V.ref (s.heap.objs.size + 1), H', I3, rfl, q3⟩⟩
    | next => exact False.elim hq'
    | brk => exact False.elim hq'
    | cont => exact False.elim hq'
theorem pe_makeS (M : Mk X.K C f) (F : FnOk X.prog X.w X.K X.mg X.base CX k f fd ps sp) (hr : Room (k + 1) X.A) (hg : Gl X x) (hm : X.mg x = some (.ref C)) (hb : Binds X.K fd ps []) (hx : ∀ σ, PassesAt CX X σ (E σ))
    (ha : PA X (e :: es) t) (hdb : (x == ("__debug__" : Str)) = false) (he : starEach (e :: es) X.env = (false, eval e X.env) :: starEach es X.env) (hpl : (backTo pos (starEach es X.env)).any (·.1) = false) :
    PE X (.Call (.Name x p) (e :: es) [] pos) (tMakeS C sp E t) := by
  refine ⟨fun pins s σ H Q I h => ?_⟩
  refine wpAny_Call_Name_kw (ld_glob I hg hm ?_ hdb)
  refine PySem.W.callWith_K (h₀ := X.base) I.ok.mod.kin M.kp (thn (ha.run pos pins s σ H _ I h) fun us s1 ⟨vs, H1, I1, r, q⟩ => ⟨I1.kIn, ?_⟩) he hpl
  exact run_makeS M F hr hb (hx σ) I1 r q
theorem pe_makeS0 (M : Mk X.K C f) (F : FnOk X.prog X.w X.K X.mg X.base CX k f fd ps sp) (hr : Room (k + 1) X.A) (hg : Gl X x) (hm : X.mg x = some (.ref C)) (hb : Binds X.K fd ps []) (hx : ∀ σ, PassesAt CX X σ (E σ))
    (hdb : (x == ("__debug__" : Str)) = false) : PE X (.Call (.Name x p) [] [] pos) (tMakeS C sp E tNil) := by
  refine ⟨fun pins s σ H Q I h => ?_⟩
  refine wpAny_Call_Name_kw (ld_glob I hg hm ?_ hdb)
  exact PySem.W.callWith_K0 I.kIn M.kp (run_makeS (us := []) M F hr hb (hx σ) I .nil h)
end
section
variable {X : Cx} {W : WX} {k : Nat} {c : Str} {p pos : Pos} {e : Expr} {es : List Expr} {ps : List Str} {F : SF} {fa : Ea}
theorem mk_rd {C : Addr} {H : Hp} {Q : VK} {σ : L2.St} {t : TA} (hC : X.mg c = some (.ref C)) (hn : aLen fa ps.length)
    (ht : ∀ σ H R, rd X W (rlA X.K) fa σ H R → t σ H R) (q : rd X W (rlU X.K) (eMk c F fa) σ H Q) :
    t σ H fun vs H1 => ∀ x dx, H1 x = none → H1 dx = none → dx ≠ x → spS X.K X.mg (ps.length + 1) F (.ref x :: vs) (upd (upd H1 dx (.own x)) x (.ins C dx [])) (fun v H2 => v = .non ∧ Q (.ref x) H2) (WE W σ) := by
  obtain ⟨env, m, h, sta, sl, out⟩ := q
  refine ht _ _ _ ⟨env, m, h, sta, sl, ?_⟩
  have hla := fun us h2 => hn us env h h2
  unfold eMk at out
  generalize hq : fa env h = z at out
  cases z with
  | stuck => exact out
  | exc c h2 => exact out
  | ok us h1 =>
    intro vs H1 m1 g1 s1 r1 x dx nx nd ne
    have out1 := Out.gr out g1
    have nx2 : upd H1 dx (.own x) x = none := by rw [upd_ne ne.symm]; exact nx
    have sm1 : Same H1 (upd H1 dx (.own x)) := Same.lay nd
    have sm2 : Same (upd H1 dx (.own x)) (upd (upd H1 dx (.own x)) x (.ins C dx [])) := Same.lay nx2
    have s2 := (s1.same sm1).push (x := .ins C dx []) (o' := .ins c []) nx2 ⟨C, dx, [], hC, upd_same, .nil⟩
    have g2 : Gr H1 m1 (upd (upd H1 dx (.own x)) x (.ins C dx [])) (m1 ++ [x]) := (Gr.of_same sm1 m1).trans (Gr.push nx2)
    have rx : RU X.K (upd (upd H1 dx (.own x)) x (.ins C dx [])) (m1 ++ [x]) (.ref x) (.ref h1.length) := .ref (by rw [← s1.len]; simp)
    refine spS_of s2 (.cons rx (RUs.kp g2.kp g2.pre _ _ r1)) (by rw [List.length_cons, hla us h1 hq]) ?_
    have out2 : Out X W (rlU X.K) σ H1 m1 ((F (.ref h1.length :: us) (h1 ++ [.ins c []])).bind (retN h1.length)) Q := out1
    have out3 := Out.gr out2 g2
    clear out2 out1 out
    generalize F (.ref h1.length :: us) (h1 ++ [.ins c []]) = y at out3
    cases y with
    | stuck => exact out3
    | exc c h2 => exact out3
    | ok u h2 =>
      intro v H3 m3 g3 s3 r3
      have o4 : Out X W (rlU X.K) σ (upd (upd H1 dx (.own x)) x (.ins C dx [])) (m1 ++ [x]) (retN h1.length u h2) Q := out3
      unfold retN at o4
      split at o4
      · cases r3.rd
        exact ⟨rfl, Out.ok (b := V.ref x) o4 g3 s3 (RU.kp g3.kp g3.pre _ _ rx)⟩
      · exact o4.elim
theorem se_make {p0 : Str} (tk : TakesC X W) (f : MkS X.prog X.w X.K X.mg X.base k c (p0 :: ps) F) (hr : Room (k + 1) X.A) (hg : Gl X c) (ha : SA X W (e :: es) fa) (hn : aLen fa ps.length) (hdb : (c == ("__debug__" : Str)) = false := by decide)
    (he : starEach (e :: es) X.env = (false, eval e X.env) :: starEach es X.env := by rfl) (hpl : (backTo pos (starEach es X.env)).any (·.1) = false := by rfl) : SE X W (.Call (.Name c p) (e :: es) [] pos) (eMk c F fa) := by
  obtain ⟨C, f', fd, hC, h1, h3, h4⟩ := f.ex
  exact ⟨pe_imp (pe_makeS h1 h4 hr hg hC h3 tk ha.pa hdb he hpl) fun σ H Q q => mk_rd hC hn (fun _ _ _ z => z) q⟩
theorem se_make0 {p0 : Str} (tk : TakesC X W) (f : MkS X.prog X.w X.K X.mg X.base k c [p0] F) (hr : Room (k + 1) X.A) (hg : Gl X c) (hdb : (c == ("__debug__" : Str)) = false := by decide) : SE X W (.Call (.Name c p) [] [] pos) (eMk c F aNil) := by
  obtain ⟨C, f', fd, hC, h1, h3, h4⟩ := f.ex
  refine ⟨pe_imp (pe_makeS0 h1 h4 hr hg hC h3 tk hdb) fun σ H Q q => mk_rd (ps := []) (t := tNil) hC aLen_nil (fun σ H R ⟨env, m, h, sta, sl, out⟩ => ?_) q⟩
  exact Out.here (b := []) out sta .nil
end
end Wk

/-! T10: is, raise, try, dicts, pairs of stores. -/
namespace Wk
open PySem PySem.Spec PyProof.Rows L2
/-! ### x is None, x is True -/
def isB (b : Bool) : U → Bool
  | .d (.bool a) => decide (a = b)
  | _ => false
def opIs (n : Bool) (u w : U) (h : Sto) : Res U := match w with
  | .d .none => .ok (.d (.bool (xor n (isN u)))) h
  | .d (.bool b) => .ok (.d (.bool (xor n (isB b u)))) h
  | _ => .stuck
section
variable {X : Cx} {W : WX}
def smV : V → Prop
  | .non => True
  | .bl _ => True
  | .int _ => True
  | .str _ => True
  | .ref _ => True
  | _ => False
theorem smV_of {K : PySem.W.Frag} {H : Hp} {m : List Addr} {v : V} {u : U} (r : RU K H m v u) : smV v := by
  cases r with
  | d p => cases p <;> trivial
  | ref p => trivial
  | tup p q => trivial
  | exn a => trivial
def rIsX (n : Bool) : R2 := fun x y H Q => (y = .non ∧ Q (.bl (xor n (decide (x = .non)))) H) ∨ ∃ b, y = .bl b ∧ smV x ∧ Q (.bl (xor n (decide (x = .bl b)))) H
theorem op_isX : OpR X (compareOp .Is) (rIsX false) := by
  intro pins s σ H x y v u Q I rx ry h
  rcases h with ⟨rfl, q⟩ | ⟨b, rfl, sx, q⟩
  · rw [Bool.false_xor] at q
    exact op_isN pins s σ H x _ v u Q I rx ry ⟨rfl, q⟩
  · rw [Bool.false_xor] at q
    cases (show u = Value.bool b from ry)
    have fin : ∀ (z : Value), RelV x z → plainIs z (.bool b) = true → (decide (x = .bl b)) = decide (z = .bool b) → wpAny (model X.prog X.w) X.A (compareOp .Is z (.bool b)) (EP X pins σ Q) X.xe s := fun z rz hp e => by
      rw [e] at q
      by_cases hz : z = .bool b
      · subst hz
        exact wpAny_is_self rfl ⟨.bl true, H, I, rfl, by simpa using q⟩
      · exact wpAny_is_other hp hz ⟨.bl false, H, I, rfl, by simpa [hz] using q⟩
    cases x with
    | non => cases rx; exact fin _ rfl rfl (by simp)
    | bl a => cases rx; exact fin _ rfl rfl (by by_cases h : a = b <;> simp [h])
    | int i => obtain ⟨t, rfl⟩ := rx; exact fin _ ⟨t, rfl⟩ rfl (by simp)
    | str i => obtain ⟨t, rfl⟩ := rx; exact fin _ ⟨t, rfl⟩ rfl (by simp)
    | ref i => cases rx; exact fin _ rfl rfl (by simp)
    | _ => exact sx.elim
theorem op_isNotX : OpR X (compareOp .IsNot) (rIsX true) := by
  intro pins s σ H x y v u Q I rx ry h
  rcases h with ⟨rfl, q⟩ | ⟨b, rfl, sx, q⟩
  · rw [Bool.true_xor] at q
    exact op_notN pins s σ H x _ v u Q I rx ry ⟨rfl, q⟩
  · rw [Bool.true_xor] at q
    cases (show u = Value.bool b from ry)
    have fin : ∀ (z : Value), RelV x z → plainIs z (.bool b) = true → (decide (x = .bl b)) = decide (z = .bool b) → wpAny (model X.prog X.w) X.A (compareOp .IsNot z (.bool b)) (EP X pins σ Q) X.xe s := fun z rz hp e => by
      rw [e] at q
      by_cases hz : z = .bool b
      · subst hz
        exact wpAny_isNot_self rfl ⟨.bl false, H, I, rfl, by simpa using q⟩
      · exact wpAny_isNot_other hp hz ⟨.bl true, H, I, rfl, by simpa [hz] using q⟩
    cases x with
    | non => cases rx; exact fin _ rfl rfl (by simp)
    | bl a => cases rx; exact fin _ rfl rfl (by by_cases h : a = b <;> simp [h])
    | int i => obtain ⟨t, rfl⟩ := rx; exact fin _ ⟨t, rfl⟩ rfl (by simp)
    | str i => obtain ⟨t, rfl⟩ := rx; exact fin _ ⟨t, rfl⟩ rfl (by simp)
    | ref i => cases rx; exact fin _ rfl rfl (by simp)
    | _ => exact sx.elim
theorem ab_is (n : Bool) : Ab2 X W (opIs n) (rIsX n) := by
  intro σ H m h x y u w Q s ru rw out
  unfold opIs at out
  split at out
  · cases rw.rd
    refine .inl ⟨rfl, ?_⟩
    rw [isN_v ru]
    exact Out.here (b := V.bl _) out s (.d (.bl _))
  · rename_i b
    cases rw.rd
    refine .inr ⟨b, rfl, smV_of ru, ?_⟩
    have e : decide (x = .bl b) = isB b u := by
      cases ru with
      | d p => cases p <;> simp [isB]
      | ref p => simp [isB]
      | tup p q => simp [isB]
      | exn a => simp [isB]
    rw [e]
    exact Out.here (b := V.bl _) out s (.d (.bl _))
  · exact out.elim
end

/-! ### raise -/
structure ExcC (K : PySem.W.Frag) (mg : Str → Option Value) (c : Str) : Prop where
  ex : ∃ C, mg c = some (.ref C) ∧ PySem.W.excIn K C [.type "ValueError", .type "Exception", .type "BaseException", .type "object"] "ValueError.__new__" = true ∧ PySem.W.keepIn K (.ref C) = true ∧
    PySem.W.subIn K (.ref C) (.type "BaseException") = some true ∧ PySem.W.typeIn K (.ref C) = some (.type "type")
def sRaise (c : Str) : Es := fun env h => .exc c env h
section
variable {X : Cx} {W : WX} {c m : Str} {j : Nat} {p p2 pos pos' : Pos}
theorem ss_raise (hc : X.calm = true) (tk : Takes X W) (kc : ExcC X.K X.mg c) (hg : Gl X c) (hdb : (c == ("__debug__" : Str)) = false := by decide) :
    SS X W (.Raise (some (.Call (.Name c p) [.Constant (.str m) j p2] [] pos)) none pos') (sRaise c) := by
  obtain ⟨C, h1, h2, h3, h4, h5⟩ := kc.ex
  refine ⟨ps_imp (ps_raise hc tk (pmk_own PySem.F.excBase_ValueError h2 h1 h3 (raises_own h4 h5) hg hdb)) fun D σ H ⟨env, mm, h, sta, sl, out⟩ => ?_⟩
  exact (show ∀ σ' H' m', Gr H mm H' m' → Sta X.K X.mg H' m' h → Sl X.K H' m' σ' env → ExW X W c σ' H' from out) σ H mm (Gr.refl _ _) sta sl C h1
end

/-! ### try -/
def SRes.noEx : SRes → SRes
  | .exc _ _ _ => .stuck
  | r => r
/-- the handlers by the name of the class; mt: whether an exception of the class c is one of the class d -/
def tryGo (mt : Str → Str → Option Bool) (c : Str) (env' : Env') (h' : Sto) : List (Str × Es) → SRes
  | [] => .exc c env' h'
  | (d, g) :: r => match mt c d with
    | some true => (g env' h').noEx
    | some false => tryGo mt c env' h' r
    | none => .stuck
def sTry (mt : Str → Str → Option Bool) (b : Es) (hs : List (Str × Es)) : Es := fun env h => match b env h with
  | .exc c env' h' => tryGo mt c env' h' hs
  | .next env' h' => .next env' h'
  | .ret u h' => .ret u h'
  | .stuck => .stuck
def MtOk (K : PySem.W.Frag) (mg : Str → Option Value) (mt : Str → Str → Option Bool) : Prop := ∀ c d b, mt c d = some b → ∀ C D, mg c = some (.ref C) → mg d = some (.ref D) → PySem.W.exmOne K (.ref C) (.ref D) = some b
inductive HsOk (X : Cx) : List ExceptHandler → List (Str × Es) → Prop
  | nil : HsOk X [] []
  | cons {d : Str} {g : Es} {b₀ : Stmt} {suite : List Stmt} {np pos' : Pos} {hds : List ExceptHandler} {hs : List (Str × Es)} (hg : Gl X d) (hdb : (d == ("__debug__" : Str)) = false) (hD : ∃ D, X.mg d = some (.ref D))
      (hsu : ∀ (a : Addr) (pn : List (Addr × Obj)), SSs (X.suite a pn) W0 (b₀ :: suite) g) (r : HsOk X hds hs) :
      HsOk X (.ExceptHandler (some (.Name d np)) none (b₀ :: suite) pos' :: hds) ((d, g) :: hs)
section
variable {X : Cx} {W : WX} {mt : Str → Str → Option Bool} {body : List Stmt} {h₀ : ExceptHandler} {hds : List ExceptHandler} {hs' : List (Str × Es)} {b : Es} {pos : Pos}
inductive LOk (X : Cx) : List (Str × Es) → List (Value × (Addr → Value → Option Addr → TS)) → Prop
  | nil : LOk X [] []
  | cons {d : Str} {D : Addr} {g : Es} {hs : List (Str × Es)} {l : List (Value × (Addr → Value → Option Addr → TS))} (hD : X.mg d = some (.ref D)) (r : LOk X hs l) : LOk X ((d, g) :: hs) ((.ref D, fun _ _ _ => rdS X W0 g) :: l)
theorem HsOk.l {hds : List ExceptHandler} {hs : List (Str × Es)} (h : HsOk X hds hs) : ∃ l, HdsOk X hds l ∧ LOk X hs l := by
  induction h with
  | nil => exact ⟨[], .nil, .nil⟩
  | cons hg hdb hD hsu r ih =>
    obtain ⟨l, h1, h2⟩ := ih
    obtain ⟨D, hD⟩ := hD
    exact ⟨_, .cons (c := .ref D) ⟨hg, hdb, .inl hD⟩ (fun a oe cls d pn _ _ => (hsu a ((a, oe) :: pn)).ps) h1, .cons hD h2⟩
theorem tryGo_out {D : Ends} {c : Str} {C : Addr} {env' : Env'} {h' : Sto} (mtok : MtOk X.K X.mg mt) (hC : X.mg c = some (.ref C)) : ∀ {hs : List (Str × Es)} {l : List (Value × (Addr → Value → Option Addr → TS))}, LOk X hs l → ∀ {σ' : L2.St} {H' : Hp} {m' : List Addr},
    Sta X.K X.mg H' m' h' → Sl X.K H' m' σ' env' → OutS X W D H' m' (tryGo mt c env' h' hs) → wMany X.K W D l (.ref C) none σ' H'
  | _, _, .nil, σ', H', m', s, sl, out => (show ∀ σ2 H2 m2, Gr H' m' H2 m2 → Sta X.K X.mg H2 m2 h' → Sl X.K H2 m2 σ2 env' → ExW X W c σ2 H2 from out) σ' H' m' (Gr.refl _ _) s sl C hC
  | _, _, .cons (d := d) (D := DD) (g := g) (hs := hs) hD r, σ', H', m', s, sl, out => by
    unfold tryGo at out
    split at out
    · rename_i e
      refine ⟨true, mtok c d true e C DD hC hD, fun _ a _ => ⟨env', m', h', s, sl, ?_⟩, fun z => nomatch z⟩
      generalize g env' h' = y at out
      cases y with
      | next e2 h2 => exact out
      | ret u h2 => exact out
      | exc c2 e2 h2 => exact out.elim
      | stuck => exact out
    · rename_i e
      exact ⟨false, mtok c d false e C DD hC hD, fun z => (nomatch z), fun _ => tryGo_out mtok hC r s sl out⟩
    · exact out.elim
theorem ss_try (hs : X.stack = X.env :: X.outer) (hf : X.env.frame = some X.env.locals) (tk : Takes X W) (mtok : MtOk X.K X.mg mt)
    (hb : ∀ (W' : WX) (pn : List (Addr × Obj)) (xe : Value → Shared → Prop), Takes (X.tr pn xe) W' → PassesOwn (model X.prog X.w) X.A X.env xe → SSs (X.tr pn xe) W' body b)
    (hh : HsOk X (h₀ :: hds) hs') : SS X W (.Try body (h₀ :: hds) [] [] pos) (sTry mt b hs') := by
  obtain ⟨l, h1, h2⟩ := hh.l
  refine ⟨ps_imp (ps_try_many (tb := fun W' => rdS X W' b) hs hf tk (fun W' pn xe t p => (hb W' pn xe t p).ps) h1) fun D σ H ⟨env, m, h, sta, sl, out⟩ => ⟨env, m, h, sta, sl, ?_⟩⟩
  unfold sTry at out
  generalize b env h = y at out
  cases y with
  | next e2 h2 => exact out
  | ret u h2 => exact out
  | exc c e' h' => exact fun σ' H' m' g s' sl' C hC => tryGo_out mtok hC h2 s' sl' (OutS.gr out g)
  | stuck => exact out
end
end Wk

/-! T11: dicts by ints and texts, pairs of stores. -/
namespace Wk
open PySem PySem.Spec PyProof.Rows L2
def eDNew : Ev := fun _ h => .ok (.ref h.length) (h ++ [.dct []])
def opDGet (u w : U) (h : Sto) : Res U := match dictOf h u, keyOf w with
  | some kvs, some k => (match valU kvs k with
    | some x => .ok x h
    | none => .stuck)
  | _, _ => .stuck
def eDGet2 (fo fk fx : Ev) : Ev := fun env h => (fo env h).bind fun u h1 => match dictOf h1 u with
  | some _ => (fk env h1).bind fun w h2 => (fx env h2).bind fun x h3 => (match dictOf h3 u, keyOf w with
    | some kvs, some k => .ok ((valU kvs k).getD x) h3
    | _, _ => .stuck)
  | none => .stuck
noncomputable def dPut (u w x : U) (h : Sto) : Option Sto := match u with
  | .ref n => (match h[n]?, keyOf w with
    | some (.dct kvs), some k => if ask (kvs.length < sizeLine) then some (h.set n (.dct (putU kvs k x))) else none
    | _, _ => none)
  | _ => none
noncomputable def sDPutS (fv fo fk : Ev) : Es := fun env h => (fv env h).then_ env fun x h1 => (fo env h1).then_ env fun u h2 => (fk env h2).then_ env fun w h3 => match dPut u w x h3 with
  | some h4 => .next env h4
  | none => .stuck
section
variable {X : Cx} {W : WX} {o i e value : Expr} {pos pos' apos cpos : Pos} {fo fi fv fx : Ev}
theorem se_dnew : SE X W (.Dict [] [] pos) eDNew :=
  ⟨pe_imp pe_dnewK fun σ H Q ⟨env, m, h, sta, sl, out⟩ p np => Out.ok (b := V.ref p) out (Gr.push np) (sta.push np ⟨[], upd_same, .nil⟩) (.ref (by rw [← sta.len]; simp))⟩
theorem dget_of {H : Hp} {m : List Addr} {h : Sto} {a : Addr} {gs : List (Key × V)} {kvs : List (Key × U)} {k : Key} {y : V} {w : U} (hH : H a = some (.dK gs)) (ek : keyOf w = some k) (ry : RU X.K H m y w) : DGet H a y (valV gs k) := by
  rw [keyOf_v ek ry]
  exact .inl ⟨gs, k, .inl hH, rfl, rfl⟩
theorem se_dget (hu : X.A.units + 1 < cLine) (ho : SE X W o fo) (hi : SE X W i fi) (hs : NoSl i := by intro _ _; rfl) : SE X W (.Subscript o i pos) (eBin opDGet fo fi) :=
  ⟨pe_imp (pe_dget hu ho.pe hi.pe hs) fun σ H Q ⟨env, m, h, sta, sl, out⟩ => rd_of sta sl out fun u h1 x H1 m1 g1 s1 r1 out1 => rd_of s1 (sl.gr g1) out1 fun w h2 y H2 m2 g2 s2 r2 out2 => by
    have ru := RU.kp g2.kp g2.pre _ _ r1
    unfold opDGet at out2
    split at out2
    · rename_i kvs k ed ek
      obtain ⟨a, n, gs, rfl, hm, hn, rfl, hH, rk⟩ := dictOf_v s2 ed ru
      split at out2
      · rename_i z ez
        rcases rk.val k with ⟨_, h2⟩ | ⟨v, u', h1, h2, rv⟩
        · rw [ez] at h2; cases h2
        · rw [ez] at h2
          cases h2
          refine ⟨a, v, rfl, ?_, Out.here (b := v) out2 s2 rv⟩
          rw [← h1]
          exact .inl ⟨gs, k, .inl hH, keyOf_v ek r2, rfl⟩
      · exact out2.elim
    · exact out2.elim⟩
theorem dictOf_stay {h : Sto} {u : U} {kvs : List (Key × U)} (e : dictOf h u = some kvs) : ∃ n, u = .ref n ∧ h[n]? = some (.dct kvs) := by
  unfold dictOf at e
  split at e
  · split at e
    · rename_i n kvs' ho
      cases e
      exact ⟨_, rfl, ho⟩
    · cases e
  · cases e
theorem se_dget2 (hu : X.A.units + 1 < cLine) (ho : SE X W o fo) (hi : SE X W i fi) (hx : SE X W e fx) (m : M2 X o "get" apos i e cpos) : SE X W (.Call (.Attribute o "get" apos) [i, e] [] cpos) (eDGet2 fo fi fx) :=
  ⟨pe_imp (pe_dget2 hu ho.pe hi.pe hx.pe m) fun σ H Q ⟨env, m, h, sta, sl, out⟩ => rd_of sta sl out fun u h1 x H1 m1 g1 s1 r1 out1 => by
    split at out1
    · rename_i kvs ed
      obtain ⟨a, n, gs, rfl, hm, hn, rfl, hH, rk⟩ := dictOf_v s1 ed r1
      refine ⟨a, rfl, .inl ⟨gs, .inl hH⟩, rd_of s1 (sl.gr g1) out1 fun w h2 y H2 m2 g2 s2 r2 out2 => rd_of s2 ((sl.gr g1).gr g2) out2 fun z h3 zv H3 m3 g3 s3 r3 out3 => ?_⟩
      have ru := RU.kp (g2.trans g3).kp (g2.trans g3).pre _ _ r1
      have ry := RU.kp g3.kp g3.pre _ _ r2
      split at out3
      · rename_i kvs' k ed' ek
        obtain ⟨a', n', gs', e1, hm', hn', e2, hH', rk'⟩ := dictOf_v s3 ed' ru
        cases e1
        cases e2
        refine ⟨valV gs' k, .inl ⟨gs', k, .inl hH', keyOf_v ek ry, rfl⟩, ?_⟩
        rcases rk'.val k with ⟨l1, l2⟩ | ⟨v, u', l1, l2, rv⟩
        · rw [l1]; rw [l2] at out3
          exact Out.here (b := zv) out3 s3 r3
        · rw [l1]; rw [l2] at out3
          exact Out.here (b := v) out3 s3 rv
      · exact out3.elim
    · exact out1.elim⟩
theorem ss_dput (hu : X.A.units + 1 < cLine) (hv : SE X W value fv) (ho : SE X W o fo) (hi : SE X W i fi) (hs : swapsWith value (some (.Subscript o i pos')) pos.line X.env = pure false := by rfl) : SS X W (.Assign [.Subscript o i pos'] value pos) (sDPutS fv fo fi) :=
  ⟨ps_imp (ps_dput hu ho.pe hi.pe hv.pe hs) fun D σ H ⟨env, m, h, sta, sl, out⟩ => rd_then sta sl out fun x h1 xv H1 m1 g1 s1 rx out1 => rd_then s1 (sl.gr g1) out1 fun u h2 uv H2 m2 g2 s2 ru out2 => rd_then s2 ((sl.gr g1).gr g2) out2 fun w h3 wv H3 m3 g3 s3 rw out3 => by
    have ru3 := RU.kp g3.kp g3.pre _ _ ru
    have rx3 := RU.kp (g2.trans g3).kp (g2.trans g3).pre _ _ rx
    split at out3
    · rename_i h4 e4
      unfold dPut at e4
      split at e4
      · rename_i n
        split at e4
        · rename_i kvs k hn ek
          split at e4
          · rename_i hl
            cases e4
            cases ru3 with
            | ref hm =>
              rename_i a
              obtain ⟨gs, hH, rk⟩ := s3.obj _ _ _ hm hn
              have kp := mut_kp (y := HO.dK (putK gs k xv)) hH trivial
              have gw := Gr.write (y := HO.dK (putK gs k xv)) (List.mem_of_getElem? hm) hH trivial
              refine ⟨a, _, rfl, .inl ⟨gs, k, hH, keyOf_v ek rw, by rw [rk.len]; exact ask_iff.mp hl, rfl⟩, ?_⟩
              exact (show ∀ σ' H' m', Gr H3 m3 H' m' → Sta X.K X.mg H' m' _ → Sl X.K H' m' σ' env → D.nx σ' H' from out3) σ _ m3 gw
                (s3.write hm hH trivial ⟨_, upd_same, (RK.put (paired_imp (fun p q z => ⟨z.1, RU.kp kp ⟨[], by simp⟩ _ _ z.2⟩) rk) k (RU.kp kp ⟨[], by simp⟩ _ _ rx3))⟩) ((((sl.gr g1).gr g2).gr g3).gr gw)
          · cases e4
        · cases e4
      · cases e4
    · exact out3.elim⟩
end

/-! ### a, b = x, y -/
def sPar (i j : Nat) (fa : Ea) : Es := fun env h => (fa env h).then_ env fun us h1 => match us with
  | [u, w] => .next ((env.set i (some u)).set j (some w)) h1
  | _ => .stuck
section
variable {X : Cx} {W : WX} {a b o : Expr} {pos px py pt : Pos} {kt k2 : Nat} {pt2 : Pos} {fa : Ea} {f fo : Ev}
theorem ss_par (i j : Nat) {x y : Str} (hc : X.calm = true) (hN : X.N.Nodup) (ha : SA X W [a, b] fa) (hi : X.N[i]? = some x := by rfl) (hj : X.N[j]? = some y := by rfl) (hij : i ≠ j := by decide)
    (hx : X.env.scope.names.lookup x = some .local := by rfl) (hy : X.env.scope.names.lookup y = some .local := by rfl)
    (hw : swappedStores [.Tuple [.Name x px, .Name y py] kt pt] (.Tuple [a, b] k2 pt2) X.env = pure (some [x, y]) := by rfl)
    (hs : swapsWithSole [.Tuple [.Name x px, .Name y py] kt pt] (.Tuple [a, b] k2 pt2) pos.line X.env = pure false := by rfl) :
    SS X W (.Assign [.Tuple [.Name x px, .Name y py] kt pt] (.Tuple [a, b] k2 pt2) pos) (sPar i j fa) :=
  ⟨ps_imp (ps_par hc hN hi hj hij hx hy ha.pa hw hs) fun D σ H ⟨env, m, h, sta, sl, out⟩ => rd_then sta sl out fun us h1 vs H1 m1 g1 s1 r1 out1 => by
    split at out1
    · cases r1 with
      | cons ra rb =>
        cases rb with
        | cons rb rc =>
          cases rc
          refine ⟨_, _, rfl, ?_⟩
          exact (show ∀ σ' H' m', Gr H1 m1 H' m' → Sta X.K X.mg H' m' h1 → Sl X.K H' m' σ' _ → D.nx σ' H' from out1) _ H1 m1 (Gr.refl _ _) s1 (((sl.gr g1).set ra i).set rb j)
    · exact out1.elim⟩
/-! ### o.f, o.g = e, o a name -/
def gAttr (K : PySem.W.Frag) (ta : TE) (f : Str) : TG := fun v σ H Q => ta σ H fun x H1 => ∃ a C dx fs, x = .ref a ∧ H1 a = some (.ins C dx fs) ∧ Cls K C ∧ NoAttr K C f ∧ fs.length < 1000 ∧ Q σ (upd H1 a (.ins C dx (putF f v fs)))
theorem pg_attr {f : Str} {ta : TE} (ho : PE X o ta) : PG X (.Attribute o f pos) (gAttr X.K ta f) := by
  refine ⟨fun pins s σ H v u Q I r h => PySem.W.kas_attr (thn (ho.run pins s σ H _ I h) fun ov s1 ⟨x, H1, I1, rx, a, C, dx, fs, ex, ea, c, n, l, q⟩ => ?_)⟩
  subst ex
  obtain rfl : ov = Value.ref a := rx
  exact setattr_ok I1 ea c n l r fun s3 I3 => ⟨σ, _, I3, q⟩
def setFld (c f : Str) (w u : U) (h : Sto) : Option Sto := match u with
  | .ref n => (match h[n]? with
    | some (.ins c' fs) => if c' = c ∧ fs.length < 1000 then some (h.set n (.ins c' (putG f w fs))) else none
    | _ => none)
  | _ => none
/-- name.f, name.g = e -/
def sAsg2 (c f g : Str) (i : Nat) (fe : Ev) : Es := fun env h => (fe env h).then_ env fun u h1 => match itemsOf h1 u, env[i]? with
  | some [a, b], some (some o) => (match setFld c f a o h1 with
    | some h2 => (match setFld c g b o h2 with
      | some h3 => .next env h3
      | none => .stuck)
    | none => .stuck)
  | _, _ => .stuck
theorem setFld_v {c f : Str} {K : PySem.W.Frag} {mg : Str → Option Value} {H : Hp} {m : List Addr} {h h' : Sto} {v ov : V} {u w : U} (s : Sta K mg H m h) (e : setFld c f w u h = some h') (ru : RU K H m ov u) (rw : RU K H m v w) :
    ∃ a C dx fs, ov = .ref a ∧ mg c = some (.ref C) ∧ H a = some (.ins C dx fs) ∧ fs.length < 1000 ∧ Gr H m (upd H a (.ins C dx (putF f v fs))) m ∧ Sta K mg (upd H a (.ins C dx (putF f v fs))) m h' := by
  unfold setFld at e
  split at e
  · split at e
    · rename_i n c' fs hn
      split at e
      · rename_i hc
        obtain ⟨hc, hl⟩ := hc
        subst hc
        cases e
        cases ru with
        | ref hm =>
          rename_i a
          obtain ⟨C, dx, gs, h0, hH, rf⟩ := s.obj _ _ _ hm hn
          have kp := mut_kp (y := HO.ins C dx (putF f v gs)) hH trivial
          exact ⟨a, C, dx, gs, rfl, h0, hH, by rw [rf.len]; exact hl, Gr.write (List.mem_of_getElem? hm) hH trivial, s.write hm hH trivial ⟨C, dx, _, h0, upd_same, (rf.kp kp ⟨[], by simp⟩).put f (RU.kp kp ⟨[], by simp⟩ _ _ rw)⟩⟩
      · cases e
    · cases e
  · cases e
theorem ss_asg2 {c f g x : Str} {p1 p2 p3 p4 : Pos} (i : Nat) {fe : Ev} {value : Expr} (hc : X.calm = true) (kc : ClsF X.K X.mg c) (kf : FldF X.K X.mg c f) (kg : FldF X.K X.mg c g) (he : SE X W value fe) (hN : X.N[i]? = some x := by rfl)
    (hv : Vis X.env.scope x := by first | exact Or.inl rfl | exact Or.inr (Or.inl rfl) | exact Or.inr (Or.inr rfl)) (hd : (x == ("__debug__" : Str)) = false := by decide) (hcd : (x == ("__classdict__" : Str)) = false := by decide)
    (hs : swapsWithSole [.Tuple [.Attribute (.Name x p1) f p2, .Attribute (.Name x p3) g p4] kt pt] value pos.line X.env = pure false := by rfl) (hw : swappedStores [.Tuple [.Attribute (.Name x p1) f p2, .Attribute (.Name x p3) g p4] kt pt] value X.env = pure none := by rfl)
    (h1 : (assignEach [.Tuple [.Attribute (.Name x p1) f p2, .Attribute (.Name x p3) g p4] kt pt] X.env).map (·.2) = [assign (.Tuple [.Attribute (.Name x p1) f p2, .Attribute (.Name x p3) g p4] kt pt) X.env] := by rfl)
    (hn : (assignEach [.Attribute (.Name x p1) f p2, .Attribute (.Name x p3) g p4] X.env).length = 2 := by rfl) (hst : (assignEach [.Attribute (.Name x p1) f p2, .Attribute (.Name x p3) g p4] X.env).findIdx? (·.1) = none := by rfl)
    (ha1 : (assignEach [.Attribute (.Name x p1) f p2, .Attribute (.Name x p3) g p4] X.env).map (·.2) = assign (.Attribute (.Name x p1) f p2) X.env :: (assignEach [.Attribute (.Name x p3) g p4] X.env).map (·.2) := by rfl)
    (ha2 : (assignEach [.Attribute (.Name x p3) g p4] X.env).map (·.2) = assign (.Attribute (.Name x p3) g p4) X.env :: (assignEach [] X.env).map (·.2) := by rfl) :
    SS X W (.Assign [.Tuple [.Attribute (.Name x p1) f p2, .Attribute (.Name x p3) g p4] kt pt] value pos) (sAsg2 c f g i fe) :=
  have pgs := pgs_cons (pg_attr (f := f) (pos := p2) (pv (pos := p1) i hN hv hd hcd)) (pgs_cons (pg_attr (f := g) (pos := p4) (pv (pos := p3) i hN hv hd hcd)) pgs_nil ha2) ha1
  ⟨ps_imp (ps_asg he.pe (pg_or (pg_tup hc pgs hn hst) (pg_unl hc pgs hn hst)) hs hw h1) fun D σ H ⟨env, m, h, sta, sl, out⟩ => rd_then sta sl out fun u h1 v H1 m1 g1 s1 r1 out1 => by
    split at out1
    · rename_i a b o ei eo
      split at out1
      · rename_i h2 e2
        split at out1
        · rename_i h3 e3
          obtain ⟨p, vs, rfl, t1, rr⟩ := itemsOf_v s1 ei r1
          cases rr with
          | cons ra rb =>
            cases rb with
            | cons rb rc =>
              cases rc
              rename_i av bv
              obtain ⟨ov, eov, ro⟩ := (sl.gr g1).2 i o eo
              obtain ⟨ad, C, dx, fs, rfl, hC, hH, hl, gr2, sta2⟩ := setFld_v s1 e2 ro ra
              have ro2 := RU.kp gr2.kp gr2.pre _ _ ro
              have rb2 := RU.kp gr2.kp gr2.pre _ _ rb
              obtain ⟨ad', C', dx', fs', z, hC', hH', hl', gr3, sta3⟩ := setFld_v sta2 e3 ro2 rb2
              cases z
              have key : ∀ Q : L2.St → Hp → Prop, Q σ (upd (upd H1 ad (.ins C dx (putF f av fs))) ad (.ins C' dx' (putF g bv fs'))) → gCons (gAttr X.K (tVar i) f) (gCons (gAttr X.K (tVar i) g) gNil) [av, bv] σ H1 Q := fun Q q =>
                ⟨av, [bv], rfl, ⟨.ref ad, eov, ad, C, dx, fs, rfl, hH, kc.cls C hC, kf C hC, hl, bv, [], rfl, ⟨.ref ad, eov, ad, C', dx', fs', rfl, hH', kc.cls C' hC', kg C' hC', hl', rfl, q⟩⟩⟩
              have fin := (show ∀ σ' H' m', Gr H1 m1 H' m' → Sta X.K X.mg H' m' h3 → Sl X.K H' m' σ' env → D.nx σ' H' from out1) σ _ m1 (gr2.trans gr3) sta3 ((sl.gr g1).gr (gr2.trans gr3))
              rcases t1 with t1 | t1
              · exact .inl ⟨p, [av, bv], rfl, t1, rfl, key _ fin⟩
              · exact .inr ⟨p, [av, bv], rfl, t1, rfl, key _ fin⟩
        · exact out1.elim
      · exact out1.elim
    · exact out1.elim⟩
end
end Wk

/-! T12: what a class has, looked up in the written part; int(text). -/
namespace Wk
open PySem PySem.Spec PyProof.Rows L2
def clsBody : Stmt → List Stmt
  | .ClassDef _ _ _ body _ _ _ _ _ _ _ => body
  | _ => []
structure HasM (K : PySem.W.Frag) (mg : Str → Option Value) (c m q : Str) (st : Stmt) (ps : List Str) : Prop where
  ex : ∀ C, mg c = some (.ref C) → ∃ f fd, Meth K C m f ∧ Fun K m q st f fd ∧ ∀ us : List Value, us.length = ps.length → bindArgs fd ⟨us, []⟩ = pure (ps.zip us)
structure HasI (K : PySem.W.Frag) (mg : Str → Option Value) (c q : Str) (st : Stmt) (ps : List Str) : Prop where
  ex : ∃ C f fd, mg c = some (.ref C) ∧ Mk K C f ∧ Fun K "__init__" q st f fd ∧ ∀ us : List Value, us.length = ps.length → bindArgs fd ⟨us, []⟩ = pure (ps.zip us)
section
variable {P : Program} {w : World} {K : PySem.W.Frag} {mg : Str → Option Value} {base : Heap} {h : Heap}
theorem FnB.m {k : Nat} {c m q : Str} {st : Stmt} {ps : List Str} {F : SF} (z : FnB P w K mg base k m q st ps F) (hs : HasM K mg c m q st ps) : MetS P w K mg base k c m ps F := ⟨fun C hC => by
  obtain ⟨f, fd, h1, h2, h3⟩ := hs.ex C hC
  exact ⟨f, fd, h1, Binds.all h3, z f fd h2⟩⟩
theorem FnB.i {k : Nat} {c q : Str} {st : Stmt} {ps : List Str} {F : SF} (z : FnB P w K mg base k "__init__" q st ps F) (hs : HasI K mg c q st ps) : MkS P w K mg base k c ps F := by
  obtain ⟨C, f, fd, h0, h1, h2, h3⟩ := hs.ex
  exact ⟨C, f, fd, h0, h1, Binds.all h3, z f fd h2⟩
theorem hasM_mk {c m q : Str} {st : Stmt} {ps : List Str} {C f : Addr} {oc : Value} {od an : Option Addr} {osl : Array (Option Value)} {kV doc pm cdv ct : Value} (X : K.In h) (G : h.Ns mainGlobals mg)
    (hb : ∀ (kV doc pm : Value) (an : Option Addr) (cdv ct : Value) (us : List Value), us.length = ps.length → bindArgs (PySem.W.fnOf m q (defArgs st) (defBody st) (defScope st) .none kV doc pm an cdv ct) ⟨us, []⟩ = pure (ps.zip us))
    (a : PySem.W.nsIn K mainGlobals c = some (some (.ref C))) (at_ : PySem.W.findIn K (.ref C) m = some (some (.ref f))) (fn : PySem.W.isFn K (.ref f) = true)
    (l : K.lookup f = some ⟨oc, od, .func (PySem.W.fnOf m q (defArgs st) (defBody st) (defScope st) .none kV doc pm an cdv ct), osl⟩) (cd : PySem.W.codeIn K cdv q = true) (k : PySem.W.keepIn K (.ref f) = true) : HasM K mg c m q st ps :=
  ⟨fun C' hC' => by
    rw [PySem.W.mg_of X G a] at hC'
    cases hC'
    exact ⟨f, _, ⟨at_, fn, k⟩, fun_mk l cd k, hb _ _ _ _ _ _⟩⟩
theorem hasI_mk {c q : Str} {st : Stmt} {ps : List Str} {C f : Addr} {oc : Value} {od an : Option Addr} {osl : Array (Option Value)} {kV doc pm cdv ct : Value} (X : K.In h) (G : h.Ns mainGlobals mg)
    (hb : ∀ (kV doc pm : Value) (an : Option Addr) (cdv ct : Value) (us : List Value), us.length = ps.length → bindArgs (PySem.W.fnOf "__init__" q (defArgs st) (defBody st) (defScope st) .none kV doc pm an cdv ct) ⟨us, []⟩ = pure (ps.zip us))
    (a : PySem.W.nsIn K mainGlobals c = some (some (.ref C))) (at_ : PySem.W.findIn K (.ref C) "__init__" = some (some (.ref f))) (fn : PySem.W.isFn K (.ref f) = true)
    (l : K.lookup f = some ⟨oc, od, .func (PySem.W.fnOf "__init__" q (defArgs st) (defBody st) (defScope st) .none kV doc pm an cdv ct), osl⟩) (cd : PySem.W.codeIn K cdv q = true) (k : PySem.W.keepIn K (.ref f) = true)
    (mk : PySem.W.makesIn K C = true) (kc : PySem.W.keepIn K (.ref C) = true) : HasI K mg c q st ps :=
  ⟨C, f, _, PySem.W.mg_of X G a, ⟨mk, at_, fn, kc⟩, fun_mk l cd k, hb _ _ _ _ _ _⟩
theorem clsF_mk {c : Str} {C : Addr} (X : K.In h) (G : h.Ns mainGlobals mg) (a : PySem.W.nsIn K mainGlobals c = some (some (.ref C))) (p1 : PySem.W.plainGet K C Str.empty = true) (p2 : PySem.W.hasDictIn K C = true) (p3 : PySem.W.plainOver K C = true)
    (p4 : PySem.W.findIn K (.ref C) "__setattr__" = some (some (.builtin "object.__setattr__"))) : ClsF K mg c := ⟨fun C' hC' => by
  rw [PySem.W.mg_of X G a] at hC'
  cases hC'
  exact ⟨p1, p2, p3, p4⟩⟩
theorem clsX_mk {c : Str} {C : Addr} (X : K.In h) (G : h.Ns mainGlobals mg) (a : PySem.W.nsIn K mainGlobals c = some (some (.ref C))) : ∃ C, mg c = some (.ref C) := ⟨C, PySem.W.mg_of X G a⟩
theorem fldF_mk {c f : Str} {C : Addr} (X : K.In h) (G : h.Ns mainGlobals mg) (a : PySem.W.nsIn K mainGlobals c = some (some (.ref C))) (n : PySem.W.findIn K (.ref C) f = some none) : FldF K mg c f := fun C' hC' => by
  rw [PySem.W.mg_of X G a] at hC'
  cases hC'
  exact n
theorem excC_mk {c : Str} {C : Addr} (X : K.In h) (G : h.Ns mainGlobals mg) (a : PySem.W.nsIn K mainGlobals c = some (some (.ref C)))
    (p1 : PySem.W.excIn K C [.type "ValueError", .type "Exception", .type "BaseException", .type "object"] "ValueError.__new__" = true) (p2 : PySem.W.keepIn K (.ref C) = true) (p3 : PySem.W.subIn K (.ref C) (.type "BaseException") = some true)
    (p4 : PySem.W.typeIn K (.ref C) = some (.type "type")) : ExcC K mg c := ⟨C, PySem.W.mg_of X G a, p1, p2, p3, p4⟩
/-- a table of whether an exception of the first class is one of the second -/
def mtOf (l : List (Str × Str × Bool)) : Str → Str → Option Bool := fun c d => (l.find? fun z => z.1 == c && z.2.1 == d).map fun z => z.2.2
def MtOne (K : PySem.W.Frag) (mg : Str → Option Value) (c d : Str) (b : Bool) : Prop := ∀ C D, mg c = some (.ref C) → mg d = some (.ref D) → PySem.W.exmOne K (.ref C) (.ref D) = some b
theorem mtOne_mk {c d : Str} {b : Bool} {C D : Addr} (X : K.In h) (G : h.Ns mainGlobals mg) (a : PySem.W.nsIn K mainGlobals c = some (some (.ref C))) (a' : PySem.W.nsIn K mainGlobals d = some (some (.ref D))) (e : PySem.W.exmOne K (.ref C) (.ref D) = some b) : MtOne K mg c d b := fun C' D' h1 h2 => by
  rw [PySem.W.mg_of X G a] at h1
  rw [PySem.W.mg_of X G a'] at h2
  cases h1
  cases h2
  exact e
theorem mtOk_mk {l : List (Str × Str × Bool)} (z : ∀ x ∈ l, MtOne K mg x.1 x.2.1 x.2.2) : MtOk K mg (mtOf l) := fun c d b e C D h1 h2 => by
  unfold mtOf at e
  cases q : l.find? fun z => z.1 == c && z.2.1 == d with
  | none => rw [q] at e; cases e
  | some y =>
    rw [q] at e
    cases e
    have hy := List.find?_some q
    rw [Bool.and_eq_true] at hy
    have e1 : y.1 = c := eq_of_beq hy.1
    have e2 : y.2.1 = d := eq_of_beq hy.2
    have := z y (List.mem_of_find?_eq_some q) C D
    rw [e1, e2] at this
    exact this h1 h2
end
/-! ### int(text) -/
noncomputable def fIntX (us : List U) (h : Sto) : Res U := match us with
  | [u] => (match strOf u with
    | some x => (match PySem.intText? x with
      | some n => if x.length ≤ 640 then .ok (.d (.int n)) h else .stuck
      | none => .stuck)
    | none => fInt [u] h)
  | _ => .stuck
section
variable {X : Cx} {W : WX}
theorem call_intX : CallR X (.type "int") (fun xs H Q => ((∃ i, xs = [.int i] ∧ Q (.int i) H) ∨ ∃ k, xs = [.bl k] ∧ Q (.int (if k then 1 else 0)) H) ∨ ∃ a n, xs = [.str a] ∧ PySem.intText? a = some n ∧ a.length ≤ 640 ∧ Q (.int n) H) := call_int1.or call_int_str
theorem ab_intX : AbC X W fIntX (fun xs H Q => ((∃ i, xs = [.int i] ∧ Q (.int i) H) ∨ ∃ k, xs = [.bl k] ∧ Q (.int (if k then 1 else 0)) H) ∨ ∃ a n, xs = [.str a] ∧ PySem.intText? a = some n ∧ a.length ≤ 640 ∧ Q (.int n) H) := by
  intro σ H m h xs us Q s r out
  unfold fIntX at out
  split at out
  · rename_i u
    split at out
    · rename_i x ex
      cases r with
      | cons ru rn =>
        cases rn
        split at out
        · rename_i n en
          split at out
          · rename_i hl
            exact .inr ⟨x, n, by rw [strOf_v ex ru], en, hl, Out.here (b := V.int _) out s (.d (.int _))⟩
          · exact out.elim
        · exact out.elim
    · exact .inl (ab_intOf σ H m h xs [u] Q s r out)
  · exact out.elim
end
end Wk

/-! T13: comprehensions whose element raises (out of a call). -/
namespace Wk
open PySem PySem.Spec PyProof.Rows L2
/-- an exception that came out of a call, in the air of X -/
def XF (X : Cx) (W : WX) (u : Value) (t : Shared) : Prop :=
  ∃ (a : Addr) (G : Heap) (tI : Shared) (pp : List (Addr × Obj)) (ρ : L2.St) (J : Hp) (cls : Value) (d : Option Addr),
    u = .ref a ∧ Inv X pp ρ J tI ∧ (∀ b o, tI.heap.get? b = some o → b ∉ frs X.stack → G.get? b = some o) ∧ tI.heap.UpToSlots t.heap ∧
      HandSPX.FlyingZ G X.stack a (Zc cls d) t.heap ∧ J a = none ∧ t.os = tI.os ∧ AllBare t.gens ∧ W cls d ρ J
theorem sky_flying {G G0 : Heap} {l : List Env} {a L : Addr} {Z Z0 : Obj → Prop} {h : Heap} (x : Sky G l a Z L h) (y : HandSPX.FlyingZ G0 l a Z0 h) : HandSPX.FlyingZ G l a Z h := by
  obtain ⟨_, _, _, oe, vs, T, oT, ts, he, hz, hd, h1, hnT, hTe, hT, hdT, h3⟩ := y
  rcases x with ⟨_, _, _, oe', vs', he', _, hd', h1'⟩ | x | ⟨_, _, _, oe', vs', T', oT', ts', he', _, hd', h1', _, _, hT', hdT', h3'⟩
  · rw [he] at he'; cases he'
    rw [hd] at hd'; cases hd'
    rw [h1] at h1'; cases h1'
  · exact x
  · rw [he] at he'; cases he'
    rw [hd] at hd'; cases hd'
    rw [h1] at h1'; cases h1'
    rw [hT] at hT'; cases hT'
    rw [hdT] at hdT'; cases hdT'
    rw [h3] at h3'; cases h3'
theorem XF.of_call {X : Cx} {W : WX} {pp : List (Addr × Obj)} {ρ : L2.St} {J : Hp} {t t' : Shared} {E : XK} {u : Value} (I : Inv X pp ρ J t) (hW : ∀ cls d J', E cls d J' → W cls d ρ J') (c : CX X.prog X.w X.stack J t E u t') : XF X W u t' := by
  obtain ⟨a, G, tI, pp', ρ', J', cls, d, ea, I', nb, up, sky, na, os, ag, w⟩ := XE.of_call I hW c
  obtain ⟨a0, G0, _, _, _, ea0, fl, _⟩ := c
  rw [ea] at ea0
  cases ea0
  exact ⟨a, G, tI, pp', ρ', J', cls, d, ea, I', nb, up, sky_flying sky fl, na, os, ag, w⟩
/-- out of the comprehension's block into the def -/
theorem comp_fails {X : Cx} {W : WX} {pp : List (Addr × Obj)} {ρ : L2.St} {J3 : Hp} {t3 t' : Shared} {scope : Scope} {cl : List (Str × Addr)} {C : Addr} {fp : List Addr} {u : Value} (hs : X.stack = X.env :: X.outer) (hf : X.env.frame = some X.env.locals) (tk : Takes X W)
    (I3 : Inv X pp ρ J3 t3) (hC : t3.heap.objs.size ≤ C) (f3 : ∀ b ∈ fp, FpOk X pp J3 b) (x : XF (X.blk t3 J3 scope (compEnvC scope cl C X.env) fp) (fun cls d _ J => W cls d ρ J) u t') :
    notedBy (model X.prog X.w) X.A (compEnvC scope cl C X.env) (CompFails (model X.prog X.w) X.A X.xe (compEnvC scope cl C X.env)) u t' := by
  obtain ⟨a, G, tI, pp', ρ', J, cls, d, rfl, I, nb, up, fl, na, os, ag, w⟩ := x
  have st : (X.blk t3 J3 scope (compEnvC scope cl C X.env) fp).stack = X.stack := rfl
  rw [st] at nb fl
  have hfr : X.A.frames = some (X.env :: X.outer) := by rw [I3.ok.frames, hs]
  have IX : Inv X pp ρ J tI := I3.call' (ch := fp) I.os I.base I.hok I.bare fun b hb => ⟨(f3 b hb).2.2.2.1, (f3 b hb).2.1, (f3 b hb).2.2.2.2.1, (f3 b hb).2.2.2.2.2⟩
  have nC : J C = none := I.free
  have fC : FpOk X pp J C := I3.fpOk hC nC
  obtain ⟨mm, hn, _⟩ := I.loc
  have hn : tI.heap.Ns C mm := hn
  show wpAny _ _ (noteFrame (.ref a) _) _ _ t'
  rw [noteFrame_env (.ref a) (show (compEnvC scope cl C X.env).frame = X.env.frame from rfl)]
  rw [hs] at fl
  refine HandSPX.looks_onZ Zc.steady hfr hf fl fun h1 held up1 => ?_
  have up' : tI.heap.UpToSlots h1 := up.trans up1
  have hn1 : h1.Ns C mm := hn.upToSlots fun b o e nf => up' b o e nf
  refine ⟨mm, hn1, fun h2 m2 hn2 sb => ?_⟩
  obtain ⟨g1, g2, g3, oe, vs, T, oT, ts, he, hz, hd, e1, hnT, hTe, hT, hdT, e3⟩ := held
  have aC : a ≠ C := fun z => by
    obtain ⟨oL, es, ep, hoL, hdL, _⟩ := hn1
    rw [← z, he] at hoL
    cases hoL
    rw [hd] at hdL
    cases hdL
  have TC : T ≠ C := fun z => by
    obtain ⟨oL, es, ep, hoL, hdL, _⟩ := hn1
    rw [← z, hT] at hoL
    cases hoL
    rw [hdT] at hdL
    cases hdL
  have he2 : h2.get? a = some oe := (sb.2 a aC).trans he
  have hT2 : h2.get? T = some oT := (sb.2 T TC).trans hT
  unfold PySem.passOn
  refine wpAny_bind (wpAny_field he2 hd e1 ?_)
  rw [if_neg (show ¬ ((Value.ref T == Value.none) = true) from by simp)]
  have hfc : (compEnvC scope cl C X.env).frame = some X.env.locals := hf
  rw [hfc]
  have sz3 : 3 < ts.size := (Array.getElem?_eq_some_iff.mp e3).1
  have goal : X.xe (.ref a) { t' with heap := h2 } := by
    refine tk _ _ ⟨a, PySem.W.hideAll G [C], { tI with heap := PySem.W.hideAll tI.heap [C] }, pp, ρ, J, cls, d, rfl, ?_, fun b o e hb => ?_, fun b o e nf => ?_, .inr (.inr ⟨fun b o e => ?_, ?_, ?_, oe, vs, T, oT, ts, he2, hz, hd, e1, ?_, hTe, hT2, hdT, e3⟩), na, os, ag, w⟩
    · obtain ⟨f0, f1, f2, f4, f5, f6⟩ := fC
      exact IX.turned (t' := tI.toks) (fun b o hb e => PySem.W.hideAll_get _ e (by simpa using hb)) f0 f1 f4 f5 f6
    · have e' := PySem.W.of_hideAll _ e
      have bC : b ∉ [C] := fun z => by
        rw [PySem.W.hideAll_none _ z] at e
        cases e
      exact PySem.W.hideAll_get _ (nb b o e' hb) bC
    · have e' := PySem.W.of_hideAll _ e
      have bC : b ≠ C := fun z => by
        have e : (PySem.W.hideAll tI.heap [C]).get? b = some o := e
        rw [PySem.W.hideAll_none _ (by simp [z])] at e
        cases e
      obtain ⟨sl, q⟩ := up' b o e' nf
      exact ⟨sl, (sb.2 b bC).trans q⟩
    · have e' := PySem.W.of_hideAll _ e
      have bC : b ≠ C := fun z => by
        rw [PySem.W.hideAll_none _ (by simp [z])] at e
        cases e
      exact (sb.2 b bC).trans (g1 b o e')
    · cases q : (PySem.W.hideAll G [C]).get? a with
      | none => rfl
      | some o =>
        have z := PySem.W.of_hideAll _ q
        rw [g2] at z
        cases z
    · rw [hs]
      refine funFrames_none (Heap.FunFrames.sameBut sb hn2 g3) fun b hb => ?_
      cases q : (PySem.W.hideAll G [C]).get? b with
      | none => rfl
      | some o =>
        have z := PySem.W.of_hideAll _ q
        rw [(g3.mem hb).1] at z
        cases z
    · cases q : (PySem.W.hideAll G [C]).get? T with
      | none => rfl
      | some o =>
        have z := PySem.W.of_hideAll _ q
        rw [hnT] at z
        cases z
  refine wpAny_bind ?_
  unfold setFlight
  refine wpAny_bind (wpAny_field he2 hd e1 ?_)
  rw [if_pos (show (Value.ref T != Value.none) = true from by simp)]
  show wpAny _ _ (setField (.ref T) 3 (rawInt X.env.locals)) _ _ _
  refine wpAny_setField hT2 hdT sz3 ?_
  have same : h2.update T (Obj.mapFields (·.setIfInBounds 3 (rawInt X.env.locals))) = h2 := Heap.update_setField_same h2 T oT ts 3 (rawInt X.env.locals) hT2 hdT e3
  dsimp only
  rw [same]
  exact wpAny_throw goal
section
variable {X : Cx}
/-- like the kit's reading of a comprehension; te by the wish about exceptions -/
def tLcX (wi : TI) (g : TG) (tt : TT) (te : WX → TE) (vs : List Nat) (W : WX) : TE := fun ρ H0 Q => wi ρ H0 fun J H1 => ∀ A, H1 A = none → ∃ M : Nat → Nat → Hp → Prop, (∃ k, M 0 k (upd H1 A (.lst []))) ∧ ∀ i k Ha, M i k Ha →
  (J.stop i Ha ∧ Q (.ref A) Ha) ∨ (J.go i Ha ∧ ∃ Y : Hp → Prop, (∀ Hb, Y Hb → ∃ k', k' < k ∧ M (i + 1) k' Hb) ∧ ∀ x Hb, J.yld i Ha x Hb → g x (wipe ρ vs) Hb fun ρ2 H2 => wipe ρ2 vs = wipe ρ vs ∧ tt ρ2 H2 fun b H3 =>
    if b = true then te (fun cls d _ Hc => W cls d ρ Hc) ρ2 H3 fun y H4 => ∃ acc, H4 A = some (.lst acc) ∧ acc.length < sizeLine ∧ Y (upd H4 A (.lst (acc ++ [y]))) else Y H3)
theorem lc_coreX {pp : List (Addr × Obj)} {s0 : Shared} {ρ : L2.St} {H0 : Hp} {Q : VK} {W : WX} {elt tg iter : Expr} {ifs : List Expr} {scope : Scope} {own : List (Str × Nat)} {pos pos' : Pos} {wi : TI} {g : TG} {tt : TT} {te : WX → TE} {use : Option (Value → Sem Unit)} {Qf : Value → Shared → Prop}
    (hs : X.stack = X.env :: X.outer) (hf : X.env.frame = some X.env.locals) (tk : Takes X W) (hc : X.calm = true) (hN : X.N.Nodup) (I : Inv X pp ρ H0 s0) (hi : PI X tg iter wi) (ok : BlkOk X.N X.env.scope scope own)
    (hg : ∀ (s : Shared) (H : Hp) (B : Addr) (cl : List (Str × Addr)) (fp : List Addr), PG (X.blk s H scope (compEnvC scope cl B X.env) fp) tg g)
    (ht : ∀ (s : Shared) (H : Hp) (B : Addr) (cl : List (Str × Addr)) (fp : List Addr), PTs (X.blk s H scope (compEnvC scope cl B X.env) fp) ifs tt)
    (he : ∀ (s : Shared) (H : Hp) (B : Addr) (cl : List (Str × Addr)) (fp : List Addr) (Wb : WX) (pn : List (Addr × Obj)) (xe : Value → Shared → Prop), TakesC ((X.blk s H scope (compEnvC scope cl B X.env) fp).tr pn xe) Wb → PE ((X.blk s H scope (compEnvC scope cl B X.env) fp).tr pn xe) elt (te Wb))
    (hfs : ∀ x, foldedSetIterable iter X.env x = pure x) (h : tLcX wi g tt te (own.map (·.2)) W ρ H0 Q)
    (hE : ∀ (A : Addr) (cenv : Env) (s' : Addr × Shared) (mm : Str → Option Value) (H' : Hp), cenv.locals = s'.1 → Inv X pp ρ H' s'.2 → Q (.ref A) H' → s'.2.heap.Ns s'.1 mm → FpOk X pp H' s'.1 → compEnds (model X.prog X.w) X.A X.xe use Qf (.ref A) cenv (.ok .next) s'.2) :
    wpAny (model X.prog X.w) X.A (comprehension (.ListComp elt [⟨tg, iter, ifs, 0⟩] scope pos) scope X.env pos' (newList []) false (eval iter X.env) use) Qf X.xe s0 := by
  have capt : ∀ y ∈ scope.names, y.2 = .free → ∃ c, X.env.cells.lookup y.1 = some c := fun y hy e => (ok.free y hy e).elim (fun k => I.ok.has _ (.inl k)) fun k => I.ok.has _ (.inr k)
  refine comprehension_at (use := use) rfl hfs (closure_ok capt) ok.kind (fun y hy e => by rw [ok.uniq y hy, e]) (thn (hi.run pp s0 ρ H0 _ I h) fun xv s1 hx => thn hx fun itv s2 h2 => ?_)
  obtain ⟨it, fp, tn, J, H2, rfl, I2, T, st2, f2, q⟩ := h2
  refine wpAny_newObj_type (newEnv_comp ?_) (by show 0 ≤ sizeLine; decide)
  generalize hA : s2.heap.objs.size = A
  have nA : H2 A = none := I2.hok.fresh (Nat.le_of_eq hA)
  obtain ⟨M, ⟨k0, w0⟩, turn⟩ := q A nA
  generalize hs3 : ({ s2 with heap := s2.heap.push { cls := .type "list", data := .seq ([] : List Value).toArray } } : Shared) = s3
  have e3 : s3.heap = s2.heap.push { cls := .type "list", data := .seq ([] : List Value).toArray } := by rw [← hs3]
  have I3 : Inv X pp ρ (upd H2 A (.lst [])) s3 := by
    rw [← hs3]
    refine I2.laid (t' := s2.toks) (fun b o z => Heap.get?_push_of_some _ z) (Nat.le_of_eq hA) ⟨Nat.zero_le _, [], 0, .nil, ?_⟩
    rw [← hA]
    exact Heap.get?_push_size _ rfl
  have below : ∀ b ∈ fp, b < s2.heap.objs.size := fun b hb => by
    obtain ⟨o, z, _⟩ := T.obj _ _ st2 b hb
    exact Heap.lt_size z
  have f3 : ∀ b ∈ fp, FpOk X pp (upd H2 A (.lst [])) b ∧ b < s3.heap.objs.size := fun b hb => ⟨⟨by rw [upd_ne (by rw [← hA]; exact Nat.ne_of_lt (below b hb))]; exact (f2 b hb).1, (f2 b hb).2⟩, by rw [e3, Heap.size_push]; exact Nat.lt_succ_of_lt (below b hb)⟩
  have st3 : tn 0 s3.heap := T.keep _ _ _ st2 fun b _ o z => by rw [e3]; exact Heap.get?_push_of_some _ z
  have I4 := block_start I3 ok hN f3
  generalize hcl : cellsFrom (s3.heap.objs.size + 1) scope.names (cloFrom X.env.cells scope.names []) = cl at I4
  have pg := hg s3 (upd H2 A (.lst [])) s3.heap.objs.size cl fp
  have pt := ht s3 (upd H2 A (.lst [])) s3.heap.objs.size cl fp
  have pe := he s3 (upd H2 A (.lst [])) s3.heap.objs.size cl fp
  have fails := fun (u : Value) (t' : Shared) => comp_fails (u := u) (t' := t') (scope := scope) (cl := cl) hs hf tk I3 (Nat.le_refl _) (fun b hb => (f3 b hb).1)
  have nfp : ∀ b ∈ fp, (upd H2 A (.lst [])) b = none := fun b hb => (f3 b hb).1.1
  show codeAny _ _ (.compStart (.ListComp elt [⟨tg, iter, ifs, 0⟩] scope pos) 0 (.ref it) (.ref A) (compEnvC scope cl s3.heap.objs.size X.env)) (compEnds (model X.prog X.w) X.A X.xe use Qf (.ref A) (compEnvC scope cl s3.heap.objs.size X.env)) { s3 with heap := pushCells (s3.heap.push { cls := .type "dict", data := .dict #[] }) scope.names }
  generalize hce : compEnvC scope cl s3.heap.objs.size X.env = ce at I4 pg pt pe fails ⊢
  have cL : ce.locals = s3.heap.objs.size := by subst hce; rfl
  generalize hH3 : upd H2 A (.lst []) = H3 at I3 I4 pg pt pe w0 nfp f3 fails
  generalize hs4 : ({ s3 with heap := pushCells (s3.heap.push { cls := .type "dict", data := .dict #[] }) scope.names } : Shared) = s4 at I4 ⊢
  have st4 : tn 0 s4.heap := T.keep _ _ _ st3 fun b _ o z => by rw [← hs4]; exact pushCells_keeps _ _ _ _ (Heap.get?_push_of_some _ z)
  have stat : ∀ {ρ' : L2.St} {H' : Hp} {s' : Shared}, Inv (X.blk s3 H3 scope ce fp) [] ρ' H' s' → (∀ b ∈ fp, H' b = none) → ∀ b ∈ fp, FpOk (X.blk s3 H3 scope ce fp) [] H' b := fun {ρ' H' s'} Z hn b hb =>
    ⟨hn b hb, (Z.ok.exf b hb).1, Z.ok.exfs b hb, .inl hb, fun x c z => (Z.ok.exf b hb).2 x c z, fun p hp => absurd (show p ∈ ([] : List (Addr × Obj)) ++ [] from hp) (by simp)⟩
  have loop : codeAny (model X.prog X.w) X.A (.compLoop (.ListComp elt [⟨tg, iter, ifs, 0⟩] scope pos) 0 (.ref it) (.ref A) ce) (compEnds (model X.prog X.w) X.A X.xe use Qf (.ref A) ce) s4 := by
    refine compLoop_any (fun k s' => ∃ i H', Inv (X.blk s3 H3 scope ce fp) [] (wipe ρ (own.map (·.2))) H' s' ∧ tn i s'.heap ∧ (∀ b ∈ fp, H' b = none) ∧ M i k H') ?_ k0 ⟨0, H3, I4, st4, nfp, w0⟩
    rintro k s5 ⟨i, H5, I5, st5, n5, w5⟩
    rcases turn i k H5 w5 with ⟨stop, qq⟩ | ⟨go, Y, hY, step⟩
    · refine thnF (T.done (X.blk s3 H3 scope ce fp) rfl rfl rfl hc i [] s5 _ H5 (fun _ _ => False) I5 (stat I5 n5) st5 stop) fun r s6 ⟨hr, I6⟩ => ?_
      subst hr
      have I7 : Inv X pp ρ H5 s6 := I3.call' (ch := fp) I6.os I6.base I6.hok I6.bare fun b hb => ⟨(f3 b hb).1.2.2.2.1, (f3 b hb).1.2.1, (f3 b hb).1.2.2.2.2.1, (f3 b hb).1.2.2.2.2.2⟩
      have nC : H5 ce.locals = none := I6.free
      rw [cL] at nC
      obtain ⟨mm, hn, _⟩ := I6.loc
      have hn : s6.heap.Ns ce.locals mm := hn
      rw [cL] at hn
      exact hE A ce (s3.heap.objs.size, s6) mm H5 cL I7 qq hn (I3.fpOk (Nat.le_refl _) nC)
    · refine thnF (T.item (X.blk s3 H3 scope ce fp) rfl rfl rfl hc i [] s5 _ H5 (fun _ _ => False) I5 (stat I5 n5) st5 go) fun r s6 ⟨u, hr, h6⟩ => ?_
      subst hr
      refine thnF h6 fun _ s7 ⟨x, H7, I7, r7, y7, st7, n7⟩ => ?_
      refine thnF (pg.run _ s7 _ H7 x u _ (I7.pinned (stat I7 n7) (T.obj _ _ st7)) r7 (step x H7 y7)) fun _ s8 ⟨ρ8, H8, I8, hw8, q8⟩ => ?_
      refine thnF (pt.run _ s8 ρ8 H8 _ I8 q8) fun b s9 ⟨H9, I9, q9⟩ => ?_
      have fin : ∀ {s' : Shared} {H' : Hp}, Inv (X.blk s3 H3 scope ce fp) ([] ++ pinsAt fp s7.heap) ρ8 H' s' → Y H' → ∃ k', k' < k ∧ ∃ i H', Inv (X.blk s3 H3 scope ce fp) [] (wipe ρ (own.map (·.2))) H' s' ∧ tn i s'.heap ∧ (∀ b ∈ fp, H' b = none) ∧ M i k' H' := fun {s' H'} Z yy => by
        obtain ⟨k', hk, w'⟩ := hY H' yy
        have there : ∀ b ∈ fp, ∀ o, s7.heap.get? b = some o → s'.heap.get? b = some o ∧ H' b = none := fun b hb o z =>
          have y := Z.pin (b, o) (List.mem_append_right _ (List.mem_append_right _ (mem_pinsAt hb z)))
          ⟨y.1, y.2.1⟩
        refine ⟨k', hk, i + 1, H', (Z.unpinned (pins := [])).weak (by rw [← hw8, wipe_length]) (fun j v z => ?_), T.keep _ _ _ st7 fun b hb o z => (there b hb o z).1, fun b hb => ?_, w'⟩
        · rw [← hw8] at z
          exact (wipe_some z).1
        · obtain ⟨o, z, _⟩ := T.obj _ _ st7 b hb
          exact (there b hb o z).2
      cases b with
      | false =>
        simp only [Bool.false_eq_true, if_false] at q9 ⊢
        exact fin I9 q9
      | true =>
        simp only [if_true] at q9 ⊢
        generalize hpn : (X.blk s3 H3 scope ce fp).pn ++ ([] ++ pinsAt fp s7.heap) = pn9
        have I9' : Inv ((X.blk s3 H3 scope ce fp).tr pn9 (XF (X.blk s3 H3 scope ce fp) (fun cls d _ Hc => W cls d ρ Hc))) [] ρ8 H9 s9 := by
          rw [← hpn]
          exact I9.toTry _
        have back : ∀ {pn' : List (Addr × Obj)} {ρ' : L2.St} {H' : Hp} {s' : Shared}, Inv ((X.blk s3 H3 scope ce fp).tr pn9 (XF (X.blk s3 H3 scope ce fp) (fun cls d _ Hc => W cls d ρ Hc))) pn' ρ' H' s' → Inv (X.blk s3 H3 scope ce fp) ([] ++ pinsAt fp s7.heap) ρ' H' s' := fun {pn' ρ' H' s'} Z => by
          rw [← hpn] at Z
          exact Z.ofTry I9.ok
        have tkc : TakesC ((X.blk s3 H3 scope ce fp).tr pn9 (XF (X.blk s3 H3 scope ce fp) (fun cls d _ Hc => W cls d ρ Hc))) (fun cls d _ Hc => W cls d ρ Hc) := fun ρ' pp' Ha sa ev sb Ia c => XF.of_call (back Ia) (fun _ _ _ z => z) c
        have run := (pe (fun cls d _ Hc => W cls d ρ Hc) pn9 _ tkc).run [] s9 ρ8 H9 _ I9' q9
        refine wpAny_mono run (fun z s10 ⟨yv, H10, I10, r10, acc, hA10, hz10, yy⟩ => ?_) fun u t' x => fails u t' x
        exact app_ok (X := X.blk s3 H3 scope ce fp) (back I10) hA10 hz10 r10 fun s11 I11 => fin I11 yy
  exact codeAny_compStart_list loop (T.self X.A 0 _ _ _ st4 loop)
/-- the comprehension as a value -/
theorem pe_lcX {W : WX} {elt tg iter : Expr} {ifs : List Expr} {scope : Scope} {own : List (Str × Nat)} {pos : Pos} {wi : TI} {g : TG} {tt : TT} {te : WX → TE} (hs : X.stack = X.env :: X.outer) (hf : X.env.frame = some X.env.locals) (tk : Takes X W) (hc : X.calm = true) (hN : X.N.Nodup) (hi : PI X tg iter wi) (ok : BlkOk X.N X.env.scope scope own)
    (hg : ∀ (s : Shared) (H : Hp) (B : Addr) (cl : List (Str × Addr)) (fp : List Addr), PG (X.blk s H scope (compEnvC scope cl B X.env) fp) tg g)
    (ht : ∀ (s : Shared) (H : Hp) (B : Addr) (cl : List (Str × Addr)) (fp : List Addr), PTs (X.blk s H scope (compEnvC scope cl B X.env) fp) ifs tt)
    (he : ∀ (s : Shared) (H : Hp) (B : Addr) (cl : List (Str × Addr)) (fp : List Addr) (Wb : WX) (pn : List (Addr × Obj)) (xe : Value → Shared → Prop), TakesC ((X.blk s H scope (compEnvC scope cl B X.env) fp).tr pn xe) Wb → PE ((X.blk s H scope (compEnvC scope cl B X.env) fp).tr pn xe) elt (te Wb))
    (hfs : ∀ x, foldedSetIterable iter X.env x = pure x := by intro _; rfl) : PE X (.ListComp elt [⟨tg, iter, ifs, 0⟩] scope pos) (tLcX wi g tt te (own.map (·.2)) W) := by
  refine ⟨fun pp s0 ρ H0 Q I h => ?_⟩
  rw [eval_ListComp]
  refine lc_coreX hs hf tk hc hN I hi ok hg ht he hfs h fun A cenv ⟨C, s'⟩ mm H' hC I' q hn f => ⟨mm, by rw [hC]; exact hn, fun h'' sb => ?_⟩
  obtain ⟨f0, f1, f2, f3, f4, f5⟩ := f
  rw [hC] at sb
  exact ⟨.ref A, H', I'.turned (t' := s'.toks) (fun b o hb e => (sb.2 b hb).trans e) f0 f1 f3 f4 f5, rfl, q⟩
/-- y = [..] -/
theorem ps_setLcX {W : WX} {i : Nat} {y : Str} {py spos : Pos} {elt tg iter : Expr} {ifs : List Expr} {scope : Scope} {own : List (Str × Nat)} {pos : Pos} {wi : TI} {g : TG} {tt : TT} {te : WX → TE} (hs : X.stack = X.env :: X.outer) (hf : X.env.frame = some X.env.locals) (tk : Takes X W) (hc : X.calm = true) (hN : X.N.Nodup)
    (hy : X.N[i]? = some y) (hyl : X.env.scope.names.lookup y = some .local) (hsw : swapsWith (.ListComp elt [⟨tg, iter, ifs, 0⟩] scope pos) (some (.Name y py)) spos.line X.env = pure true) (hi : PI X tg iter wi) (ok : BlkOk X.N X.env.scope scope own)
    (hg : ∀ (s : Shared) (H : Hp) (B : Addr) (cl : List (Str × Addr)) (fp : List Addr), PG (X.blk s H scope (compEnvC scope cl B X.env) fp) tg g)
    (ht : ∀ (s : Shared) (H : Hp) (B : Addr) (cl : List (Str × Addr)) (fp : List Addr), PTs (X.blk s H scope (compEnvC scope cl B X.env) fp) ifs tt)
    (he : ∀ (s : Shared) (H : Hp) (B : Addr) (cl : List (Str × Addr)) (fp : List Addr) (Wb : WX) (pn : List (Addr × Obj)) (xe : Value → Shared → Prop), TakesC ((X.blk s H scope (compEnvC scope cl B X.env) fp).tr pn xe) Wb → PE ((X.blk s H scope (compEnvC scope cl B X.env) fp).tr pn xe) elt (te Wb))
    (hfs : ∀ x, foldedSetIterable iter X.env x = pure x := by intro _; rfl) : PS X (.Assign [.Name y py] (.ListComp elt [⟨tg, iter, ifs, 0⟩] scope pos) spos) (tAsg (tLcX wi g tt te (own.map (·.2)) W) (gName i)) := by
  refine ⟨fun pp s0 ρ H0 D I h => ?_⟩
  rw [exec_Assign_Name_used _ _ _ _ hsw]
  refine wpAny_bind (wpAny_standAt (wpAny_bind ?_))
  show wpAny _ X.A (do let _ ← comprehension (.ListComp elt [⟨tg, iter, ifs, 0⟩] scope pos) scope X.env _ (newList []) false (eval iter X.env) (some (assign (.Name y py) X.env))) _ _ s0
  have h' : tLcX wi g tt te (own.map (·.2)) W ρ H0 (fun x H1 => gName i x ρ H1 D.nx) := h
  refine wpAny_bind (thn (lc_coreX (Qf := fun _ t => SP X pp D .next t) hs hf tk hc hN I hi ok hg ht he hfs h' fun A cenv ⟨C, t⟩ mm H' hC I' q hn f => ?_) fun _ t hq => wpAny_pure (wpAny_pure hq))
  show wpAny _ _ (assign (.Name y py) X.env (.ref A)) _ _ _
  refine wpAny_assign_Name (store_ok2 (v := V.ref A) I' hN hy (.inl hyl) rfl (fun s2 I2 ⟨a, sb, ha⟩ => ?_) (.inr hyl))
  obtain ⟨f0, f1, f2, f3, f4, f5⟩ := f
  have nCa : C ≠ a := by
    rcases ha with z | z
    · rw [z]; exact f1
    · exact fun e => f4 y a z e.symm
  refine ⟨mm, by rw [hC]; exact hn.sameBut sb nCa, fun h3 sb3 => ?_⟩
  rw [hC] at sb3
  exact ⟨_, H', I2.turned (t' := s2.toks) (fun b o hb e => (sb3.2 b hb).trans e) f0 f1 f3 f4 f5, q⟩
end
/-! ### its function -/
noncomputable def lcGoX (t : Tg) (c : Eb) (e : Ev) (env : Env') : List U → List D → Sto → Res (List D)
  | [], acc, h => .ok acc h
  | u :: us, acc, h => match t u env h with
    | some env1 => (c env1 h).noExc.bind fun k h1 => (match k with
      | true => (e env1 h1).bind fun w h2 => (match w with
        | .d x => if fits (acc.length + 1) then lcGoX t c e env us (acc ++ [x]) h2 else .stuck
        | _ => .stuck)
      | false => lcGoX t c e env us acc h1)
    | none => .stuck
noncomputable def eLcX (b : Bool) (vs : List Nat) (it : Ea) (t : Tg) (c : Eb) (e : Ev) : Ev := fun env h => (it env h).bind fun us h1 => (lcGoX t c e (wipeE env vs) us [] h1).bind fun xs h2 => mkL b xs h2
section
variable {X : Cx} {W : WX} {elt tg iter : Expr} {ifs : List Expr} {scope : Scope} {own : List (Str × Nat)} {pos : Pos} {it : Ea} {ix : List Nat} {t : Tg} {c : Eb} {e : Ev}
theorem lc_rdX {σ : L2.St} {H : Hp} {Q : VK} {b : Bool} (sub : ∀ j ∈ ix, j ∈ own.map (·.2)) (q : rd X W (rlU X.K) (eLcX b (own.map (·.2)) it t c e) σ H Q) :
    tLcX (rd X W (rlJ X.K) it) (rdG X ix t) (rd X W0 rlB c) (fun Wb => rd X Wb (rlU X.K) e) (own.map (·.2)) W σ H (gh Q) := by
  obtain ⟨env, m, h, sta, sl, out⟩ := q
  refine rd_of sta sl out fun us h1 J H1 m1 g1 s1 w1 out1 => fun D nD => ?_
  refine ⟨fun i k H' => k = us.length - i ∧ i ≤ us.length ∧ ∃ m' h' acc vacc, Gr H1 m1 H' m' ∧ Sta X.K X.mg H' m' h' ∧ H' D = some (.lst vacc) ∧ D ∉ m' ∧ RDs X.K H' vacc acc ∧
    Out X W (rlU X.K) σ H1 m1 ((lcGoX t c e (wipeE env (own.map (·.2))) (us.drop i) acc h').bind fun xs h2 => mkL b xs h2) Q,
    ⟨us.length, by simp, Nat.zero_le _, m1, h1, [], [], Gr.of_same (Same.lay nD) m1, s1.same (Same.lay nD), upd_same, s1.new nD, .nil, by simpa using out1⟩, ?_⟩
  rintro i k H2 ⟨rfl, hi2, m2, h2, acc, vacc, g2, s2, hD, nDm, racc, o2⟩
  obtain ⟨wst, wgo⟩ := w1 H2 m2 g2.kp g2.pre
  by_cases hlt : i < us.length
  · have eu : us[i]? = some us[i] := List.getElem?_eq_getElem hlt
    have ed : us.drop i = us[i] :: us.drop (i + 1) := List.drop_eq_getElem_cons hlt
    obtain ⟨go, gy⟩ := wgo i _ eu
    rw [ed] at o2
    unfold lcGoX at o2
    cases et : t us[i] (wipeE env (own.map (·.2))) h2 with
    | none => rw [et] at o2; exact o2.elim
    | some env3 =>
      rw [et] at o2
      dsimp only at o2
      refine .inr ⟨go, fun H' => us.length - (i + 1) < us.length - i ∧ i + 1 ≤ us.length ∧ ∃ m' h' acc vacc, Gr H1 m1 H' m' ∧ Sta X.K X.mg H' m' h' ∧ H' D = some (.lst vacc) ∧ D ∉ m' ∧ RDs X.K H' vacc acc ∧
        Out X W (rlU X.K) σ H1 m1 ((lcGoX t c e (wipeE env (own.map (·.2))) (us.drop (i + 1)) acc h').bind fun xs h2 => mkL b xs h2) Q, fun H' ⟨n1, n2, n3⟩ => ⟨us.length - (i + 1), n1, rfl, n2, n3⟩, fun x H3 y => ?_⟩
      obtain ⟨sm, rx⟩ := gy x H3 y
      have gg := Gr.of_same sm m2
      have g3 := g2.trans gg
      have s3 := s2.same sm
      have hD3 : H3 D = some (.lst vacc) := sm _ _ hD
      have racc3 := RDs.kp gg.kp _ _ racc
      refine ⟨us[i], wipeE env (own.map (·.2)), m2, h2, s3, ((sl.gr g1).gr g3).wipe _, rx, env3, et, fun σ3 l3 only => ⟨wipe_only only sub, ?_⟩⟩
      refine ⟨env3, m2, h2, s3, l3, ?_⟩
      generalize hc : c env3 h2 = q at o2
      cases q with
      | stuck => exact o2.elim
      | exc c1 h4 => exact o2.elim
      | ok kb h4 =>
        intro b4 H4 m4 g4 s4 r4
        cases r4
        have keepD : ∀ {Ha : Hp} {ma : List Addr} {Hb : Hp} {mb : List Addr}, Gr Ha ma Hb mb → Ha D = some (.lst vacc) → D ∉ ma → Hb D = some (.lst vacc) ∧ D ∉ mb := fun {Ha ma Hb mb} g hd nd => ⟨g.keep _ _ hd nd, fun z => by
          have q := g.fresh D z nd
          rw [hd] at q
          cases q⟩
        obtain ⟨hD4, nD4⟩ := keepD g4 hD3 nDm
        cases kb with
        | false =>
          rw [if_neg Bool.false_ne_true]
          exact ⟨by omega, hlt, m4, h4, acc, vacc, g3.trans g4, s4, hD4, nD4, RDs.kp g4.kp _ _ racc3, o2⟩
        | true =>
          rw [if_pos rfl]
          refine ⟨env3, m4, h4, s4, l3.gr g4, ?_⟩
          have o3 : Out X W (rlU X.K) σ H1 m1 (Res.bind ((e env3 h4).bind fun w h2 => match w with | .d x => if fits (acc.length + 1) then lcGoX t c e (wipeE env (own.map (·.2))) (us.drop (i + 1)) (acc ++ [x]) h2 else .stuck | _ => .stuck) fun xs h2 => mkL b xs h2) Q := o2
          generalize he : e env3 h4 = q at o3
          cases q with
          | stuck => exact o3.elim
          | exc c1 h5 =>
            intro H5 m5 g5 s5 C hC
            exact (show ∀ H' m', Gr H1 m1 H' m' → Sta X.K X.mg H' m' h5 → ExW X W c1 σ H' from o3) H5 m5 ((g3.trans g4).trans g5) s5 C hC
          | ok w h5 =>
            intro y H5 m5 g5 s5 r5
            obtain ⟨hD5, nD5⟩ := keepD g5 hD4 nD4
            rw [Res.bind_ok] at o3
            cases w with
            | ref n => exact o3.elim
            | tup us => exact o3.elim
            | exn a => exact o3.elim
            | d dx =>
              dsimp only at o3
              split at o3
              · rename_i hz
                have racc5 := RDs.kp (g4.trans g5).kp _ _ racc3
                refine ⟨vacc, hD5, by rw [racc5.len]; exact ask_iff.mp hz, by omega, hlt, m5, h5, acc ++ [dx], vacc ++ [y], ?_, ?_, upd_same, nD5, ?_, o3⟩
                · have gA := (g3.trans g4).trans g5
                  refine ⟨gA.pre, fun a o q na => ?_, gA.fresh, ⟨fun a xs q => ?_, fun a o u q => ?_⟩⟩
                  · rw [upd_ne (ne_of_none q nD)]; exact gA.keep a o q na
                  · rw [upd_ne (ne_of_none q nD)]; exact gA.kp.tup a xs q
                  · rw [upd_ne (ne_of_none q nD)]; exact gA.kp.frz a o u q
                · exact ⟨s5.nd, s5.len, fun j a ob k1 k2 => (s5.obj j a ob k1 k2).mono (upd_ne fun z => nD5 (z ▸ List.mem_of_getElem? k1)) (mut_kp hD5 trivial) ⟨[], by simp⟩⟩
                · have kp := mut_kp (y := HO.lst (vacc ++ [y])) hD5 trivial
                  exact (RDs.kp kp _ _ racc5).app (.one (RD.kp kp _ _ r5.rd))
              · exact o3.elim
  · have e' : i = us.length := by omega
    subst e'
    rw [List.drop_length] at o2
    exact .inl ⟨wst _ (Nat.le_refl _), mkL_ok2 g2 s2 nD nDm hD racc o2⟩
theorem se_lcX (b : Bool) {vs : List Nat} (own : List (Str × Nat)) (hst : X.stack = X.env :: X.outer) (hf : X.env.frame = some X.env.locals) (tk : Takes X W) (hc : X.calm = true) (hN : X.N.Nodup) (hv : own.map (·.2) = vs) (sub : ∀ j ∈ ix, j ∈ vs) (hi : SI X W tg iter it) (ok : BlkOk X.N X.env.scope scope own)
    (hg : ∀ (s : Shared) (H : Hp) (C : Addr) (cl : List (Str × Addr)) (fp : List Addr), SG (X.blk s H scope (compEnvC scope cl C X.env) fp) tg ix t)
    (ht : ∀ (s : Shared) (H : Hp) (C : Addr) (cl : List (Str × Addr)) (fp : List Addr), STs (X.blk s H scope (compEnvC scope cl C X.env) fp) W0 ifs c)
    (he : ∀ (s : Shared) (H : Hp) (C : Addr) (cl : List (Str × Addr)) (fp : List Addr) (Wb : WX) (pn : List (Addr × Obj)) (xe : Value → Shared → Prop), TakesC ((X.blk s H scope (compEnvC scope cl C X.env) fp).tr pn xe) Wb → SE ((X.blk s H scope (compEnvC scope cl C X.env) fp).tr pn xe) Wb elt e) (hs : ∀ x, foldedSetIterable iter X.env x = pure x := by intro _; rfl) :
    SE X W (.ListComp elt [⟨tg, iter, ifs, 0⟩] scope pos) (eLcX b vs it t c e) := by
  subst hv
  exact ⟨pe_imp (pe_gh (pe_lcX (te := fun Wb => rd X Wb (rlU X.K) e) hst hf tk hc hN hi.pi ok (fun s H C cl fp => (hg s H C cl fp).pg) (fun s H C cl fp => (ht s H C cl fp).pt) (fun s H C cl fp Wb pn xe t => (he s H C cl fp Wb pn xe t).pe) hs)) fun σ H Q q => lc_rdX sub q⟩
theorem ss_setLcX (b : Bool) (i : Nat) {vs : List Nat} {y : Str} {py spos : Pos} (hsw : swapsWith (.ListComp elt [⟨tg, iter, ifs, 0⟩] scope pos) (some (.Name y py)) spos.line X.env = pure true) (own : List (Str × Nat)) (hst : X.stack = X.env :: X.outer) (hf : X.env.frame = some X.env.locals) (tk : Takes X W) (hc : X.calm = true) (hN : X.N.Nodup) (hv : own.map (·.2) = vs) (sub : ∀ j ∈ ix, j ∈ vs) (hi : SI X W tg iter it) (ok : BlkOk X.N X.env.scope scope own)
    (hg : ∀ (s : Shared) (H : Hp) (C : Addr) (cl : List (Str × Addr)) (fp : List Addr), SG (X.blk s H scope (compEnvC scope cl C X.env) fp) tg ix t)
    (ht : ∀ (s : Shared) (H : Hp) (C : Addr) (cl : List (Str × Addr)) (fp : List Addr), STs (X.blk s H scope (compEnvC scope cl C X.env) fp) W0 ifs c)
    (he : ∀ (s : Shared) (H : Hp) (C : Addr) (cl : List (Str × Addr)) (fp : List Addr) (Wb : WX) (pn : List (Addr × Obj)) (xe : Value → Shared → Prop), TakesC ((X.blk s H scope (compEnvC scope cl C X.env) fp).tr pn xe) Wb → SE ((X.blk s H scope (compEnvC scope cl C X.env) fp).tr pn xe) Wb elt e)
    (hy : X.N[i]? = some y := by rfl) (hyl : X.env.scope.names.lookup y = some .local := by rfl) (hs : ∀ x, foldedSetIterable iter X.env x = pure x := by intro _; rfl) :
    SS X W (.Assign [.Name y py] (.ListComp elt [⟨tg, iter, ifs, 0⟩] scope pos) spos) (sSet i (eLcX b vs it t c e)) := by
  subst hv
  exact ⟨ps_imp (ps_gh (ps_setLcX (te := fun Wb => rd X Wb (rlU X.K) e) hst hf tk hc hN hy hyl hsw hi.pi ok (fun s H C cl fp => (hg s H C cl fp).pg) (fun s H C cl fp => (ht s H C cl fp).pt) (fun s H C cl fp Wb pn xe t => (he s H C cl fp Wb pn xe t).pe) hs)) fun D σ H ⟨env, m, h, sta, sl, out⟩ => by
    have q : rd X W (rlU X.K) (eLcX b (own.map (·.2)) it t c e) σ H (fun v H1 => D.nx (σ.set i (some v)) H1) := rd_then sta sl out fun u h1 v H1 m1 g1 s1 r1 out1 =>
      (show ∀ σ' H' m', Gr H1 m1 H' m' → Sta X.K X.mg H' m' h1 → Sl X.K H' m' σ' (env.set i (some u)) → D.nx σ' H' from out1) _ H1 m1 (Gr.refl _ _) s1 ((sl.gr g1).set r1 i)
    exact lc_rdX sub q⟩
end
end Wk

/-! T14: reversed walked, tuple * int, str(int), max of three. -/
namespace Wk
open PySem PySem.Spec PyProof.Rows L2
/-! ### for x in reversed(..) -/
def iRev (f : Ev) : Ea := fun env h => (f env h).bind fun u h1 => match u with
  | .d (.tuple xs) => .ok (xs.reverse.map .d) h1
  | .d (.list xs) => .ok (xs.reverse.map .d) h1
  | _ => .stuck
section
variable {X : Cx} {W : WX} {tg a : Expr} {f : Ev} {p pos : Pos}
theorem rev_get {α : Type} {xs : List α} {i : Nat} {x : α} (e : xs.reverse[i]? = some x) : i < xs.length ∧ xs[xs.length - 1 - i]? = some x := by
  have hi : i < xs.reverse.length := (List.getElem?_eq_some_iff.mp e).1
  rw [List.length_reverse] at hi
  rw [List.getElem?_reverse hi] at e
  exact ⟨hi, e⟩
theorem si_rev (hg : Gl X "reversed") (hm : X.mg "reversed" = none) (ha : SE X W a f) (hs : starEach [a] X.env = (false, eval a X.env) :: starEach [] X.env := by rfl) : SI X W tg (.Call (.Name "reversed" p) [a] [] pos) (iRev f) :=
  ⟨pi_imp (RT.pi_revA hg hm ha.pe hs) fun σ H R ⟨env, m, h, sta, sl, out⟩ => rd_of sta sl out fun u h1 v H1 m1 g1 s1 r1 out1 => by
    split at out1
    · rename_i ds
      cases r1.rd with
      | @tup q vs _ t d =>
        have hl := d.len
        refine ⟨q, vs, rfl, .inr ⟨t, Out.here (b := RT.ItvT X.K q vs.length) out1 s1 fun H' m' k pre => ?_⟩⟩
        have t' := k.sqT t
        refine ⟨fun i hi => ?_, fun i w e => ?_⟩
        · simp at hi
          show vs.length ≤ i
          omega
        · rw [List.getElem?_map] at e
          cases e2 : ds.reverse[i]? with
          | none => rw [e2] at e; cases e
          | some x =>
            rw [e2] at e
            cases e
            obtain ⟨hi, e3⟩ := rev_get e2
            obtain ⟨y, f1, w1⟩ := d.get e3
            rw [← hl] at f1 hi
            refine ⟨⟨hi, vs, y, t', f1⟩, fun z H'' yy => ?_⟩
            obtain ⟨rfl, yy⟩ := yy
            have g := yy vs t'
            rw [f1] at g
            cases g
            exact ⟨Same.refl _, .d (RD.kp k _ _ w1)⟩
    · rename_i ds
      cases r1.rd with
      | @lst q vs _ t d =>
        have hl := d.len
        refine ⟨q, vs, rfl, .inl ⟨t.sq, Out.here (b := Itv X.K q vs.length) out1 s1 fun H' m' k pre => ?_⟩⟩
        have t' := (k.fzL t).sq
        refine ⟨fun i hi => ?_, fun i w e => ?_⟩
        · simp at hi
          show vs.length ≤ i
          omega
        · rw [List.getElem?_map] at e
          cases e2 : ds.reverse[i]? with
          | none => rw [e2] at e; cases e
          | some x =>
            rw [e2] at e
            cases e
            obtain ⟨hi, e3⟩ := rev_get e2
            obtain ⟨y, f1, w1⟩ := d.get e3
            rw [← hl] at f1 hi
            refine ⟨⟨hi, vs, y, t', f1⟩, fun z H'' yy => ?_⟩
            obtain ⟨rfl, yy⟩ := yy
            have g := yy vs t'
            rw [f1] at g
            cases g
            exact ⟨Same.refl _, .d (RD.kp k _ _ w1)⟩
    · exact out1.elim⟩
@[simp] theorem ev_iRev (env : Env') (h : Sto) : iRev f env h = (f env h).bind fun u h1 => match u with | .d (.tuple xs) => .ok (xs.reverse.map .d) h1 | .d (.list xs) => .ok (xs.reverse.map .d) h1 | _ => .stuck := (rfl)
end
/-! ### tuple * int -/
noncomputable def opMulX (u w : U) (h : Sto) : Res U := match tupOf u, intOf w with
  | some xs, some k => if ask (xs ≠ [] ∧ 2 ≤ k ∧ k ≤ 1000 ∧ xs.length ≤ 1000) then .ok (.d (.tuple (List.replicate k.toNat xs).flatten)) h else .stuck
  | _, _ => opMul u w h
section
variable {X : Cx} {W : WX}
theorem op_mulX : OpR X (binaryOp .Mult) (fun x y H Q => rI (fun i j => mulOk i j = true) (fun i j => .int (i * j)) x y H Q ∨ rRepT X.K x y H Q) := op_mulA.or op_repT
theorem RDs.flat {K : PySem.W.Frag} {H : Hp} {vs : List V} {ds : List D} (r : RDs K H vs ds) : ∀ n : Nat, RDs K H (List.replicate n vs).flatten (List.replicate n ds).flatten
  | 0 => .nil
  | n + 1 => by
    rw [List.replicate_succ, List.replicate_succ, List.flatten_cons, List.flatten_cons]
    exact r.app (RDs.flat r n)
theorem ab_mulX : Ab2 X W opMulX (fun x y H Q => rI (fun i j => mulOk i j = true) (fun i j => .int (i * j)) x y H Q ∨ rRepT X.K x y H Q) := by
  intro σ H m h x y u w Q s ru rw out
  unfold opMulX at out
  split at out
  · rename_i xs k e1 e2
    split at out
    · rename_i hz
      obtain ⟨h0, h1, h2, h3⟩ := ask_iff.mp hz
      obtain ⟨p, vs, rfl, t1, d1⟩ := tupOf_v e1 ru
      refine .inr ⟨p, k, vs, rfl, intOf_v e2 rw, t1, fun z => h0 ?_, h1, h2, by rw [d1.len]; exact h3, fun q nq => ?_⟩
      · have := d1.len
        rw [z] at this
        exact List.eq_nil_of_length_eq_zero this.symm
      · have sm : Same H (upd H q (.tup (List.replicate k.toNat vs).flatten)) := Same.lay nq
        exact Out.ok (b := V.ref q) out (Gr.of_same sm m) (s.same sm) (.d (.tup (.inl (.inl upd_same)) (RDs.kp (Kp.same sm) _ _ (d1.flat _))))
    · exact out.elim
  · exact .inl (ab_mul σ H m h x y u w Q s ru rw out)
@[simp] theorem ev_mulXi (h : Sto) (i j : Int) : opMulX (.d (.int i)) (.d (.int j)) h = if mulOk i j then .ok (.d (.int (i * j))) h else .stuck := (rfl)
theorem ev_mulXt (h : Sto) (xs : List D) (k : Int) (h0 : xs ≠ []) (h1 : 2 ≤ k) (h2 : k ≤ 1000) (h3 : xs.length ≤ 1000) : opMulX (.d (.tuple xs)) (.d (.int k)) h = .ok (.d (.tuple (List.replicate k.toNat xs).flatten)) h := if_pos (ask_t ⟨h0, h1, h2, h3⟩)
end
/-! ### str(int) -/
noncomputable def fStr (us : List U) (h : Sto) : Res U := match us with
  | [u] => (match intOf u with
    | some i => if ask (i.natAbs.log2 < 1920) then .ok (.d (.str (toString i))) h else .stuck
    | none => .stuck)
  | _ => .stuck
/-- max of three -/
def fMax3 (us : List U) (h : Sto) : Res U := match us with
  | [u, w, z] => (match intOf u, intOf w, intOf z with
    | some i, some j, some k => .ok (.d (.int (max (max i j) k))) h
    | _, _, _ => .stuck)
  | _ => .stuck
section
variable {X : Cx} {W : WX}
theorem ab_str : AbC X W fStr (fun xs H Q => ∃ i : Int, xs = [.int i] ∧ i.natAbs.log2 < 1920 ∧ Q (.str (toString i)) H) := by
  intro σ H m h xs us Q s r out
  unfold fStr at out
  split at out
  · cases r with
    | cons ru rn =>
      cases rn
      split at out
      · rename_i i e
        split at out
        · rename_i hz
          exact ⟨i, by rw [intOf_v e ru], ask_iff.mp hz, Out.here (b := V.str _) out s (.d (.str _))⟩
        · exact out.elim
      · exact out.elim
  · exact out.elim
theorem nuMax2_int (i j : Int) : nuMax2 (.int i) (.int j) = some (.int (max i j)) := by
  show (Option.map _ (some (decide (i < j)))) = _
  by_cases h : i < j
  · simp [h, Int.max_eq_right (Int.le_of_lt h)]
  · simp [h, Int.max_eq_left (Int.not_lt.mp h)]
theorem ab_max3 : AbC X W fMax3 (rNuC3 nuMax3) := by
  intro σ H m h xs us Q s r out
  unfold fMax3 at out
  split at out
  · cases r with
    | cons ra rb =>
      cases rb with
      | cons rb rc =>
        cases rc with
        | cons rc rn =>
          cases rn
          split at out
          · rename_i i j k e1 e2 e3
            refine ⟨_, _, _, .int (max (max i j) k), rfl, ?_, Out.here (b := V.int _) out s (.d (.int _))⟩
            rw [intOf_v e1 ra, intOf_v e2 rb, intOf_v e3 rc]
            unfold nuMax3
            rw [nuMax2_int, Option.bind_some, nuMax2_int]
          · exact out.elim
  · exact out.elim
theorem ev_str (h : Sto) (i : Int) (hz : i.natAbs.log2 < 1920) : fStr [.d (.int i)] h = .ok (.d (.str (toString i))) h := if_pos (ask_t hz)
@[simp] theorem ev_max3 (h : Sto) (i j k : Int) : fMax3 [.d (.int i), .d (.int j), .d (.int k)] h = .ok (.d (.int (max (max i j) k))) h := (rfl)
end
/-! ### a op b op' c as a test -/
section
variable {X : Cx} {W : WX} {a b c : Expr} {pos : Pos} {f g k : Ev} {F G : U → U → Sto → Res U} {r r' : R2}
theorem chain_rd (ab : Ab2 X W F r) (ab' : Ab2 X W G r') {σ : L2.St} {H : Hp} {Q : VK} (z : rd X W (rlU X.K) (eChain F G f g k) σ H Q) : L2.tChain r r' (rd X W (rlU X.K) f) (rd X W (rlU X.K) g) (rd X W (rlU X.K) k) σ H Q := by
  obtain ⟨env, m, h, sta, sl, out⟩ := z
  refine rd_of sta sl out fun u h1 x H1 m1 g1 s1 r1 out1 => rd_of s1 (sl.gr g1) out1 fun w h2 y H2 m2 g2 s2 r2 out2 => ?_
  have rx := RU.kp g2.kp g2.pre _ _ r1
  refine ab σ H2 m2 h2 x y u w _ s2 rx r2 ?_
  revert out2
  generalize F u w h2 = q
  intro out2
  cases q with
  | stuck => exact out2
  | exc c h3 => exact out2
  | ok z h3 =>
    intro zv H3 m3 g3 s3 rz
    have out3 : Out X W (rlU X.K) σ H2 m2 ((match boolOf z with | some b => Res.ok b h3 | none => Res.stuck).bind fun b h3 => match b with | true => (k env h3).bind fun z h4 => G w z h4 | false => .ok (.d (.bool false)) h3) Q := out2
    cases e : boolOf z with
    | none => rw [e] at out3; exact out3.elim
    | some b =>
      rw [e] at out3
      refine ⟨b, boolOf_v e rz, ?_⟩
      have out4 := Out.gr out3 g3
      cases b with
      | false =>
        rw [if_neg Bool.false_ne_true]
        exact Out.here (b := V.bl false) out4 s3 (.d (.bl false))
      | true =>
        rw [if_pos rfl]
        refine rd_of s3 (((sl.gr g1).gr g2).gr g3) out4 fun z2 h4 y2 H4 m4 g4 s4 r4 out5 => ?_
        exact ab' σ H4 m4 h4 y y2 w z2 Q s4 (RU.kp (g3.trans g4).kp (g3.trans g4).pre _ _ r2) r4 out5
theorem st_chain {op op' : CmpOp} (ho : OpR X (compareOp op) r) (ho' : OpR X (compareOp op') r') (ab : Ab2 X W F r) (ab' : Ab2 X W G r') (ha : SE X W a f) (hb : SE X W b g) (hc : SE X W c k)
    (hm : lastMarks [op, op'] [b, c] = false := by with_unfolding_all rfl) : ST X W (.Compare a [op, op'] [b, c] pos) (Wk.tChain F G f g k) :=
  ⟨pt_imp (pt_chain ho ho' ha.pe hb.pe hc.pe hm) fun σ H Q ⟨env, m, h, sta, sl, out⟩ => chain_rd ab ab' ⟨env, m, h, sta, sl, out_bool out⟩⟩
@[simp] theorem ev_Chain (env : Env') (h : Sto) : eChain F G f g k env h = (f env h).bind fun u h1 => (g env h1).bind fun w h2 => (tB (F u w h2)).bind fun b h3 => match b with
  | true => (k env h3).bind fun z h4 => G w z h4
  | false => .ok (.d (.bool false)) h3 := (rfl)
@[simp] theorem ev_tChain (env : Env') (h : Sto) : Wk.tChain F G f g k env h = tB (eChain F G f g k env h) := (rfl)
end
/-! ### for x in text -/
def chars (x : Str) : List U := x.cps.toList.map fun c => .d (.str ⟨#[c]⟩)
def iStrE (f : Ev) : Ea := fun env h => (f env h).bind fun u h1 => match strOf u with
  | some x => .ok (chars x) h1
  | none => .stuck
section
variable {X : Cx} {W : WX} {tg a : Expr} {f : Ev}
theorem si_str (ha : SE X W a f) : SI X W tg a (iStrE f) :=
  ⟨pi_imp (pi_str ha.pe) fun σ H R ⟨env, m, h, sta, sl, out⟩ => rd_of sta sl out fun u h1 v H1 m1 g1 s1 r1 out1 => by
    split at out1
    · rename_i x ex
      refine ⟨x, strOf_v ex r1, Out.here (b := Its x) out1 s1 fun H' m' k pre => ⟨fun i hi => ?_, fun i w e => ?_⟩⟩
      · unfold chars at hi
        rw [List.length_map, Array.length_toList] at hi
        exact hi
      · unfold chars at e
        rw [List.getElem?_map] at e
        cases e2 : x.cps.toList[i]? with
        | none => rw [e2] at e; cases e
        | some c =>
          rw [e2] at e
          cases e
          have hi := (List.getElem?_eq_some_iff.mp e2).1
          rw [Array.length_toList] at hi
          refine ⟨hi, fun z H'' y => ?_⟩
          obtain ⟨rfl, c', h1, rfl⟩ := y
          rw [← Array.getElem?_toList, e2] at h1
          cases h1
          exact ⟨Same.refl _, .d (.str _)⟩
    · exact out1.elim⟩
@[simp] theorem ev_iStrE (env : Env') (h : Sto) : iStrE f env h = (f env h).bind fun u h1 => match strOf u with
  | some x => .ok (chars x) h1
  | none => .stuck := (rfl)
end
end Wk

/-! T15: except X as e, isinstance(e, Y), isinstance(e, (Y, Z)). -/
namespace Wk
open PySem PySem.Spec PyProof.Rows L2
/-- isinstance(e, (c1, ..)), e the exception that the suite holds -/
def rIsET (K : PySem.W.Frag) (D a : Addr) : List V → Hp → VK → Prop := fun xs H Q => ∃ (tp : Addr) (cs : List V) (us : List Value) (b : Bool), xs = [.ref a, .ref tp] ∧ H tp = some (.tup cs) ∧ Paired ClsV cs us ∧ PySem.W.kitAny K (.ref D) us = some b ∧ Q (.bl b) H
theorem call_isET {X : Cx} {a D : Addr} {oe : Obj} {pn : List (Addr × Obj)} (C : L2.ExcC X.K D) (hz : Zc (.ref D) none oe) (hf : ∃ vs, oe.data = .fields vs) : CallR (X.suite a ((a, oe) :: pn)) (.builtin "isinstance") (rIsET X.K D a) := by
  intro pins s σ H xs us Q I r h
  obtain ⟨tp, cs, ws, b, rfl, hT, k, e, q⟩ := h
  obtain ⟨u1, u2, rfl, r1, r2⟩ := vals2 r
  cases (show u1 = Value.ref a from r1)
  cases (show u2 = Value.ref tp from r2)
  obtain ⟨hget, _⟩ := I.pin (a, oe) (List.mem_append.mpr (.inl List.mem_cons_self))
  obtain ⟨vs, hv⟩ := hf
  have J : PySem.W.InstAt s.heap a oe D none := by
    obtain ⟨oc, od, oda, osl⟩ := oe
    obtain ⟨h1, h2⟩ := hz
    dsimp only at h1 h2 hv
    subst h1 h2 hv
    exact ⟨hget, rfl, rfl, trivial⟩
  obtain ⟨_, its, rv, o, h1, h2, n, h3⟩ := (show ObjOk X.prog X.w H s.heap tp (.tup cs) from I.hok tp _ hT)
  have e3 := ClsV.all k rv
  subst e3
  obtain ⟨oc, od, dt, sl⟩ := o
  simp only at h2 h3
  subst h2 h3
  exact PySem.W.kia_tup (PySem.W.handS_kitx_exc C.hg C.hk C.hs C.hd C.ha C.hn C.ht C.hm) I.kIn J h1 e (fun z => nomatch z) fun tk => ⟨.bl b, H, I.kept (t' := tk) fun _ _ z => z, rfl, q⟩
/-- what a suite knows of the exception at a: it is of the class c -/
structure ExA (Y : Cx) (a : Addr) (c : Str) : Prop where
  ex : ∃ C, Y.mg c = some (.ref C) ∧ CallR Y (.builtin "isinstance") (rIsE Y.K C a) ∧ CallR Y (.builtin "isinstance") (rIsET Y.K C a)
/-- a class by its name -/
inductive CN (mg : Str → Option Value) : Str → V → Value → Prop
  | own {y : Str} {D : Addr} (h : mg y = some (.ref D)) (d : (y == ("__debug__" : Str)) = false) : CN mg y (.ref D) (.ref D)
  | blt {y : Str} {n : String} (h : mg y = none) (b : bootBuiltins y = some (.type n)) (hn : y ≠ "__name__") (d : (y == ("__debug__" : Str)) = false) : CN mg y (.ty n) (.type n)
theorem CN.cls {mg : Str → Option Value} {y : Str} {v : V} {u : Value} (c : CN mg y v u) : ClsV v u := by
  cases c with
  | own h d => exact .own _
  | blt h b hn d => exact .ty _
theorem CN.pe {Y : Cx} {y : Str} {v : V} {u : Value} {pos : Pos} (c : CN Y.mg y v u) (hg : Gl Y y) : PE Y (.Name y pos) (tC v) := by
  cases c with
  | own h d => exact pe_glob hg h rfl d
  | blt h b hn d => exact pe_bltn hg h b rfl hn d
def KiOk (K : PySem.W.Frag) (mg : Str → Option Value) (ki : Str → Str → Option Bool) : Prop := ∀ c y b, ki c y = some b → ∀ C v u, mg c = some (.ref C) → CN mg y v u → PySem.W.kitOne K (.ref C) u = some b
def kiAny (ki : Str → Str → Option Bool) (c : Str) : List Str → Option Bool
  | [] => some false
  | y :: r => match ki c y with
    | some true => some true
    | some false => kiAny ki c r
    | none => none
def eIsE (i : Nat) (a : Addr) (b : Option Bool) : Ev := fun env h => match env[i]? with
  | some (some (.exn a')) => if a' = a then (match b with | some b => .ok (.d (.bool b)) h | none => .stuck) else .stuck
  | _ => .stuck
inductive CNs (mg : Str → Option Value) (N : Cx) : List Str → List Expr → List V → List Value → Prop
  | nil : CNs mg N [] [] [] []
  | cons {y : Str} {p : Pos} {v : V} {u : Value} {ys : List Str} {es : List Expr} {vs : List V} {us : List Value} (hg : Gl N y) (c : CN mg y v u) (he : starEach (.Name y p :: es) N.env = (false, eval (.Name y p) N.env) :: starEach es N.env) (r : CNs mg N ys es vs us) : CNs mg N (y :: ys) (.Name y p :: es) (v :: vs) (u :: us)
def tCs : List V → TA
  | [] => tNil
  | v :: vs => tCons (tC v) (tCs vs)
theorem tCs_of : ∀ {vs : List V} {σ : L2.St} {H : Hp} {Q : List V → Hp → Prop}, Q vs H → tCs vs σ H Q
  | [], _, _, _, q => q
  | v :: vs, σ, H, Q, q => tCs_of (vs := vs) (Q := fun xs H2 => Q (v :: xs) H2) q
section
variable {X : Cx} {W : WX} {a : Addr} {c n : Str} {ki : Str → Str → Option Bool} {p p1 p2 p3 pos : Pos} {y : Str} {i : Nat}
theorem CNs.pa {ys : List Str} {es : List Expr} {vs : List V} {us : List Value} (h : CNs X.mg X ys es vs us) : PA X es (tCs vs) := by
  induction h with
  | nil => exact pa_nil
  | cons hg c he r ih => exact pa_cons (c.pe hg) ih he
theorem CNs.cls {ys : List Str} {es : List Expr} {vs : List V} {us : List Value} (h : CNs X.mg X ys es vs us) : Paired ClsV vs us := by
  induction h with
  | nil => exact .nil
  | cons hg c he r ih => exact .cons c.cls ih
theorem CNs.any {C : Addr} {ys : List Str} {es : List Expr} {vs : List V} {us : List Value} (h : CNs X.mg X ys es vs us) (kio : KiOk X.K X.mg ki) (hc : X.mg c = some (.ref C)) : ∀ {b : Bool}, kiAny ki c ys = some b → PySem.W.kitAny X.K (.ref C) us = some b := by
  induction h with
  | nil => exact fun e => e
  | cons hg d he r ih =>
    intro b e
    unfold kiAny at e
    unfold PySem.W.kitAny
    split at e
    · rename_i q
      rw [kio c _ true q C _ _ hc d]
      exact e
    · rename_i q
      rw [kio c _ false q C _ _ hc d]
      exact ih e
    · cases e
theorem CNs.len {ys : List Str} {es : List Expr} {vs : List V} {us : List Value} (h : CNs X.mg X ys es vs us) : vs.length = ys.length := by
  induction h with
  | nil => rfl
  | cons hg c he r ih => simp [ih]
theorem eIsE_out {σ : L2.St} {H : Hp} {m : List Addr} {h : Sto} {env : Env'} {Q : VK} {b : Option Bool} (sl : Sl X.K H m σ env) (out : Out X W (rlU X.K) σ H m (eIsE i a b env h) Q) : σ[i]? = some (some (.ref a)) ∧ ∃ b', b = some b' ∧ Out X W (rlU X.K) σ H m (.ok (.d (.bool b')) h) Q := by
  unfold eIsE at out
  split at out
  · rename_i a' e
    split at out
    · rename_i ea
      subst ea
      split at out
      · rename_i b'
        obtain ⟨v, h1, h2⟩ := sl.2 i _ e
        cases h2
        exact ⟨h1, b', rfl, out⟩
      · exact out.elim
    · exact out.elim
  · exact out.elim
theorem se_isE (x : ExA X a c) (kio : KiOk X.K X.mg ki) (hg : Gl X "isinstance") (hm : X.mg "isinstance" = none) (hg2 : Gl X y) (hy : ∃ v u, CN X.mg y v u) (hN : X.N[i]? = some n := by rfl) (hv : Vis X.env.scope n := by first | exact Or.inl rfl | exact Or.inr (Or.inl rfl) | exact Or.inr (Or.inr rfl))
    (hd : (n == ("__debug__" : Str)) = false := by decide) (hcd : (n == ("__classdict__" : Str)) = false := by decide)
    (he : starEach [.Name n p1, .Name y p2] X.env = (false, eval (.Name n p1) X.env) :: starEach [.Name y p2] X.env := by rfl) (he2 : starEach [.Name y p2] X.env = (false, eval (.Name y p2) X.env) :: starEach [] X.env := by rfl)
    (hpl : (backTo pos (starEach [.Name y p2] X.env)).any (·.1) = false := by rfl) :
    SE X W (.Call (.Name "isinstance" p) [.Name n p1, .Name y p2] [] pos) (eIsE i a (ki c y)) := by
  obtain ⟨C, hC, k1, k2⟩ := x.ex
  obtain ⟨v, u, cn⟩ := hy
  refine ⟨pe_imp (pe_callB k1 hg hm (by decide +kernel) (pa_cons (pv i hN hv hd hcd) (pa_cons (cn.pe hg2) pa_nil he2) he) (by decide) (by decide) he hpl) fun σ H Q ⟨env, m, h, sta, sl, out⟩ => ?_⟩
  obtain ⟨h1, b, e, o⟩ := eIsE_out sl out
  exact ⟨.ref a, h1, v, u, b, rfl, fun w r => cn.cls.eq r, kio c y b e C v u hC cn, Out.here (b := V.bl b) o sta (.d (.bl b))⟩
theorem se_isET {ys : List Str} {es : List Expr} {ctx : _} (x : ExA X a c) (kio : KiOk X.K X.mg ki) (hg : Gl X "isinstance") (hm : X.mg "isinstance" = none) (hy : ∃ vs us, CNs X.mg X ys es vs us) (hl : ys.length ≤ sizeLine := by decide) (hN : X.N[i]? = some n := by rfl) (hv : Vis X.env.scope n := by first | exact Or.inl rfl | exact Or.inr (Or.inl rfl) | exact Or.inr (Or.inr rfl))
    (hd : (n == ("__debug__" : Str)) = false := by decide) (hcd : (n == ("__classdict__" : Str)) = false := by decide)
    (he : starEach [.Name n p1, .Tuple es ctx p2] X.env = (false, eval (.Name n p1) X.env) :: starEach [.Tuple es ctx p2] X.env := by rfl) (he2 : starEach [.Tuple es ctx p2] X.env = (false, eval (.Tuple es ctx p2) X.env) :: starEach [] X.env := by rfl)
    (hpl : (backTo pos (starEach [.Tuple es ctx p2] X.env)).any (·.1) = false := by rfl) :
    SE X W (.Call (.Name "isinstance" p) [.Name n p1, .Tuple es ctx p2] [] pos) (eIsE i a (kiAny ki c ys)) := by
  obtain ⟨C, hC, k1, k2⟩ := x.ex
  obtain ⟨vs, us, cn⟩ := hy
  refine ⟨pe_imp (pe_callB k2 hg hm (by decide +kernel) (pa_cons (pv i hN hv hd hcd) (pa_cons (pe_tup cn.pa) pa_nil he2) he) (by decide) (by decide) he hpl) fun σ H Q ⟨env, m, h, sta, sl, out⟩ => ?_⟩
  obtain ⟨h1, b, e, o⟩ := eIsE_out sl out
  refine ⟨.ref a, h1, tCs_of ⟨by rw [cn.len]; exact hl, fun tp ht => ?_⟩⟩
  exact ⟨tp, vs, us, b, rfl, upd_same, cn.cls, cn.any kio hC e, Out.ok (b := V.bl b) o (Gr.of_same (Same.lay ht) m) (sta.same (Same.lay ht)) (.d (.bl b))⟩
end
/-! ### try .. except X as e -/
noncomputable def allA (f : Addr → SRes) : SRes := open Classical in if h : ∃ r, ∀ a, f a = r then Classical.choose h else .stuck
theorem allA_of {f : Addr → SRes} {r : SRes} (h : ∀ a, f a = r) : allA f = r := by
  unfold allA
  have q : ∃ r, ∀ a, f a = r := ⟨r, h⟩
  rw [dif_pos q]
  exact (Classical.choose_spec q 0).symm.trans (h 0)
@[simp] theorem allA_const (r : SRes) : allA (fun _ => r) = r := allA_of fun _ => rfl
theorem allA_out {X : Cx} {W : WX} {D : Ends} {H : Hp} {m : List Addr} {f : Addr → SRes} (o : OutS X W D H m (allA f)) (a : Addr) : OutS X W D H m (f a) := by
  unfold allA at o
  split at o
  · rename_i h
    rw [Classical.choose_spec h a]
    exact o
  · exact o.elim
def SRes.wipe (i : Nat) : SRes → SRes
  | .next env h => .next (env.set i none) h
  | r => r
structure ExI (K : PySem.W.Frag) (mg : Str → Option Value) (c : Str) : Prop where
  ex : ∃ C, mg c = some (.ref C) ∧ L2.ExcC K C
noncomputable def sTryAs (mt : Str → Str → Option Bool) (cs : List Str) (b : Es) (d : Str) (i : Nat) (g : Addr → Str → Es) : Es := fun env h => match b env h with
  | .exc c env' h' => match mt c d with
    | some true => if cs.contains c then allA fun a => ((g a c (env'.set i (some (.exn a))) h').noEx).wipe i else .stuck
    | some false => .exc c env' h'
    | none => .stuck
  | .next env' h' => .next env' h'
  | .ret u h' => .ret u h'
  | .stuck => .stuck
theorem Sl.wipe1 {K : PySem.W.Frag} {H : Hp} {m : List Addr} {σ : L2.St} {env : Env'} (s : Sl K H m σ env) (i : Nat) : Sl K H m (σ.set i none) (env.set i none) := by
  refine ⟨by simp [s.1], fun j w e => ?_⟩
  by_cases hj : i = j
  · subst hj
    by_cases hi : i < env.length
    · rw [List.getElem?_set_self hi] at e
      cases e
    · rw [List.getElem?_eq_none (by simp; omega)] at e
      cases e
  · rw [List.getElem?_set_ne hj] at e ⊢
    exact s.2 j w e
section
variable {X : Cx} {W : WX} {mt : Str → Str → Option Bool} {body suite : List Stmt} {b₀ : Stmt} {b : Es} {d n : Str} {i : Nat} {g : Addr → Str → Es} {np pos pos' : Pos} {cs : List Str}
theorem ss_tryAs (i : Nat) (hs : X.stack = X.env :: X.outer) (hf : X.env.frame = some X.env.locals) (hN : X.N.Nodup) (tk : Takes X W) (mtok : MtOk X.K X.mg mt) (hcs : ∀ c ∈ cs, ExI X.K X.mg c) (hg : Gl X d) (hD : ∃ D, X.mg d = some (.ref D))
    (hb : ∀ (W' : WX) (pn : List (Addr × Obj)) (xe : Value → Shared → Prop), Takes (X.tr pn xe) W' → PassesOwn (model X.prog X.w) X.A X.env xe → SSs (X.tr pn xe) W' body b)
    (hsu : ∀ (a : Addr) (c : Str) (oe : Obj) (pn : List (Addr × Obj)), ExA (X.suite a ((a, oe) :: pn)) a c → SSs (X.suite a ((a, oe) :: pn)) W0 (b₀ :: suite) (g a c))
    (hi : X.N[i]? = some n := by rfl) (hln : X.env.kindOf n = some .local := by rfl) (hdb : (d == ("__debug__" : Str)) = false := by decide) :
    SS X W (.Try body [.ExceptHandler (some (.Name d np)) (some n) (b₀ :: suite) pos'] [] [] pos) (sTryAs mt cs b d i g) := by
  obtain ⟨DD, hD⟩ := hD
  refine ⟨ps_imp (ps_try_as (tb := fun W' => rdS X W' b) (ts := fun a cls dd D σ H => ∃ c C, cls = .ref C ∧ dd = none ∧ X.mg c = some (.ref C) ∧ c ∈ cs ∧ rdS X W0 (g a c) D σ H) hs hf hN hi hln ⟨hg, hdb, .inl hD⟩ tk (fun W' pn xe t p => (hb W' pn xe t p).ps) ?_) ?_⟩
  · intro a oe cls dd pn hz hf2
    refine ⟨fun pins s σ H D I q => ?_⟩
    obtain ⟨c, C, rfl, rfl, hc, hm, q⟩ := q
    obtain ⟨C', hC', ec⟩ := (hcs c hm).ex
    cases hC'.symm.trans hc
    exact (hsu a c oe pn ⟨C, hc, call_isE ec hz hf2, call_isET ec hz hf2⟩).ps.run pins s σ H D I q
  · intro D σ H ⟨env, m, h, sta, sl, out⟩
    refine ⟨env, m, h, sta, sl, ?_⟩
    unfold sTryAs at out
    generalize b env h = y at out
    cases y with
    | next e2 h2 => exact out
    | ret u h2 => exact out
    | stuck => exact out
    | exc c e' h' =>
      intro σ' H' m' gr s' sl' C hC
      dsimp only at out
      split at out
      · rename_i e
        refine ⟨true, mtok c d true e C DD hC hD, fun _ a ha => ?_, fun z => nomatch z⟩
        split at out
        · rename_i hm
          refine ⟨c, C, rfl, rfl, hC, by simpa using hm, e'.set i (some (.exn a)), m', h', s', sl'.set (.exn a) i, ?_⟩
          have o := OutS.gr (allA_out out a) gr
          generalize g a c (e'.set i (some (.exn a))) h' = z at o
          cases z with
          | next e2 h2 => exact fun σ2 H2 m2 g2 s2 l2 => o (σ2.set i none) H2 m2 g2 s2 (l2.wipe1 i)
          | ret u h2 => exact o
          | exc c2 e2 h2 => exact o.elim
          | stuck => exact o
        · exact out.elim
      · rename_i e
        exact ⟨false, mtok c d false e C DD hC hD, fun z => (nomatch z), fun _ => (show ∀ σ2 H2 m2, Gr H m H2 m2 → Sta X.K X.mg H2 m2 h' → Sl X.K H2 m2 σ2 e' → ExW X W c σ2 H2 from out) σ' H' m' gr s' sl' C hC⟩
      · exact out.elim
end
/-! ### looked up -/
theorem cns_nil {mg : Str → Option Value} {N : Cx} : ∃ vs us, CNs mg N [] [] vs us := ⟨_, _, .nil⟩
theorem cns_cons {mg : Str → Option Value} {N : Cx} {y : Str} {p : Pos} {ys : List Str} {es : List Expr} (c : ∃ v u, CN mg y v u) (r : ∃ vs us, CNs mg N ys es vs us) (hg : Gl N y := by rfl) (he : starEach (.Name y p :: es) N.env = (false, eval (.Name y p) N.env) :: starEach es N.env := by rfl) : ∃ vs us, CNs mg N (y :: ys) (.Name y p :: es) vs us := by
  obtain ⟨v, u, c⟩ := c
  obtain ⟨vs, us, r⟩ := r
  exact ⟨_, _, .cons hg c he r⟩
section
variable {K : PySem.W.Frag} {mg : Str → Option Value} {h : Heap}
theorem cn_own {y : Str} {C : Addr} (X : K.In h) (G : h.Ns mainGlobals mg) (a : PySem.W.nsIn K mainGlobals y = some (some (.ref C))) (d : (y == ("__debug__" : Str)) = false := by decide) : ∃ v u, CN mg y v u := ⟨_, _, .own (PySem.W.mg_of X G a) d⟩
theorem cn_blt {y : Str} (n : String) (a : mg y = none) (b : bootBuiltins y = some (.type n)) (hn : y ≠ "__name__" := by decide) (d : (y == ("__debug__" : Str)) = false := by decide) : ∃ v u, CN mg y v u := ⟨_, _, .blt a b hn d⟩
theorem exI_mk {c : Str} {C : Addr} (X : K.In h) (G : h.Ns mainGlobals mg) (a : PySem.W.nsIn K mainGlobals c = some (some (.ref C)))
    (p1 : PySem.W.findIn K (.ref C) "__getattribute__" = some (some (.builtin "BaseException.__getattribute__"))) (p2 : PySem.W.findIn K (.ref C) "__getattr__" = some none) (p3 : PySem.W.subIn K (.ref C) (.type "BaseException") = some true)
    (p4 : PySem.W.hasDictIn K C = true) (p5 : PySem.W.findIn K (.ref C) "__class__" = some (some (.builtin "object.__class__"))) (p6 : PySem.W.specialIn K (.builtin "object.__class__") "__get__" = some (some (.builtin "getset_descriptor.__get__")))
    (p7 : PySem.W.takesIn K (.builtin "object.__class__") = some true) (p8 : PySem.W.mroIn K C (.type "object") = some true) : ExI K mg c := ⟨C, PySem.W.mg_of X G a, p1, p2, p3, p4, p5, p6, p7, p8⟩
def KiOne (K : PySem.W.Frag) (mg : Str → Option Value) (c y : Str) (b : Bool) : Prop := ∀ C v u, mg c = some (.ref C) → CN mg y v u → PySem.W.kitOne K (.ref C) u = some b
theorem kit_exm {t c : Value} {b : Bool} (e : PySem.W.exmOne K t c = some b) (n : (t == c) = true → b = true) : PySem.W.kitOne K t c = some b := by
  unfold PySem.W.exmOne at e
  unfold PySem.W.kitOne
  split
  · rename_i q
    rw [n q]
  · split at e
    · exact e
    · cases e
theorem kiOne_mk {c y : Str} {b : Bool} {C D : Addr} (X : K.In h) (G : h.Ns mainGlobals mg) (a : PySem.W.nsIn K mainGlobals c = some (some (.ref C))) (a' : PySem.W.nsIn K mainGlobals y = some (some (.ref D))) (e : PySem.W.exmOne K (.ref C) (.ref D) = some b) (n : (Value.ref C == Value.ref D) = true → b = true) : KiOne K mg c y b := fun C' v u h1 h2 => by
  cases (PySem.W.mg_of X G a).symm.trans h1
  cases h2 with
  | own k d =>
    cases (PySem.W.mg_of X G a').symm.trans k
    exact kit_exm e n
  | blt k _ _ _ => cases (PySem.W.mg_of X G a').symm.trans k
theorem kiOneB_mk {c y : Str} {b : Bool} {C : Addr} {m : String} (X : K.In h) (G : h.Ns mainGlobals mg) (a : PySem.W.nsIn K mainGlobals c = some (some (.ref C))) (a' : mg y = none) (hb : bootBuiltins y = some (.type m)) (e : PySem.W.exmOne K (.ref C) (.type m) = some b) : KiOne K mg c y b := fun C' v u h1 h2 => by
  cases (PySem.W.mg_of X G a).symm.trans h1
  cases h2 with
  | own k d => cases a'.symm.trans k
  | blt k kb _ _ =>
    cases hb.symm.trans kb
    exact kit_exm e fun z => nomatch (eq_of_beq z)
theorem kiOk_mk {l : List (Str × Str × Bool)} (z : ∀ x ∈ l, KiOne K mg x.1 x.2.1 x.2.2) : KiOk K mg (mtOf l) := fun c d b e C v u h1 h2 => by
  unfold mtOf at e
  cases q : l.find? fun z => z.1 == c && z.2.1 == d with
  | none => rw [q] at e; cases e
  | some y =>
    rw [q] at e
    cases e
    have hy := List.find?_some q
    rw [Bool.and_eq_true] at hy
    have e1 : y.1 = c := eq_of_beq hy.1
    have e2 : y.2.1 = d := eq_of_beq hy.2
    have := z y (List.mem_of_find?_eq_some q) C v u
    rw [e1, e2] at this
    exact this h1 h2
end
end Wk

set_option maxHeartbeats 4000000
/-! T16: tuple * int, for any int. -/
namespace Wk
open PySem PySem.Spec PyProof.Rows L2
theorem tuple_mulS (l : Addr) (items : Array Value) (n : Nat) (sl : Array (Option Value)) (dd : Option Addr) (x : Int) (u : Tok) (c0 : (decide (x < -(2 ^ 63)) || decide (x ≥ 2 ^ 63)) = false) (c1 : (items.isEmpty || x == 1) = true) :
    Meets (Builtin.«tuple.__mul__» ⟨[.ref l, .int x u], []⟩) (fun _ R s => s.heap.get? l = some { cls := .type "tuple", dict := dd, data := .seq items n, slots := sl } ∧
      R (.ok (.ret (Value.ref l))) s) :=
  .of_wp fun prog w A R s h => by
    obtain ⟨hp, g, d, tk, os⟩ := s
    obtain ⟨hl, h⟩ := h
    have f1 := AutoSeq1.idx_int
    wp_walk using wpAny_loadPart' hl
    repeat (first
      | (refine wpAny_ite_false (decide_eq_false (by rw [c0]; exact Bool.false_ne_true)) ?_; wp_walk using wpAny_loadPart' hl)
      | (refine wpAny_ite_true (decide_eq_true (by rw [c1])) ?_; wp_walk using wpAny_loadPart' hl))
    exact ⟨_, rfl, h⟩
theorem tuple_mulZ (l : Addr) (items : Array Value) (n : Nat) (sl : Array (Option Value)) (dd : Option Addr) (x : Int) (u : Tok) (c0 : (decide (x < -(2 ^ 63)) || decide (x ≥ 2 ^ 63)) = false) (c1 : (items.isEmpty || x == 1) = false) (c2 : (decide (x ≤ 0) || items.isEmpty) = true) :
    Meets (Builtin.«tuple.__mul__» ⟨[.ref l, .int x u], []⟩) (fun _ R s => s.heap.get? l = some { cls := .type "tuple", dict := dd, data := .seq items n, slots := sl } ∧
      R (.ok (.ret (Value.ref s.heap.objs.size))) { s with heap := s.heap.push { cls := Value.type "tuple", data := Data.seq #[] }, toks := s.toks }) :=
  .of_wp fun prog w A R s h => by
    obtain ⟨hp, g, d, tk, os⟩ := s
    obtain ⟨hl, h⟩ := h
    have f1 := AutoSeq1.idx_int
    wp_walk using wpAny_loadPart' hl
    repeat (first
      | (refine wpAny_ite_false (decide_eq_false (by rw [c0]; exact Bool.false_ne_true)) ?_; wp_walk using wpAny_loadPart' hl)
      | (refine wpAny_ite_false (decide_eq_false (by rw [c1]; exact Bool.false_ne_true)) ?_; wp_walk using wpAny_loadPart' hl)
      | (refine wpAny_ite_true (decide_eq_true (by rw [c2])) ?_; wp_walk using wpAny_loadPart' hl)
      | (refine wpAny_ite_false (decide_eq_false (Nat.not_lt.mpr (Nat.zero_le _))) ?_; wp_walk using wpAny_loadPart' hl))
    exact ⟨_, rfl, h⟩
def rRepY (K : PySem.W.Frag) : R2 := fun x y H Q => ∃ l k xs, x = .ref l ∧ y = .int k ∧ SqT K H l xs ∧ -1000000 ≤ k ∧ k ≤ 1000000 ∧ xs.length * k.toNat ≤ 1000000 ∧
  (xs = [] ∨ k = 1 → Q (.ref l) H) ∧ (¬ (xs = [] ∨ k = 1) → ∀ p, H p = none → Q (.ref p) (upd H p (.tup (List.replicate k.toNat xs).flatten)))
section
variable {X : Cx}
theorem op_repY : OpR X (binaryOp .Mult) (rRepY X.K) := by
  intro pins s σ H x y v u Q I rx ry h
  obtain ⟨l, k, xs, rfl, rfl, hT, h1, h2, hz, q1, q2⟩ := h
  cases rx
  obtain ⟨t, rfl⟩ := ry
  obtain ⟨its, r, ⟨⟨cls, dd, data, sl⟩, ho, hc, n, hd⟩, hs⟩ := I.tuple hT
  simp only at hc hd
  subst hc hd
  have hle : its.length = xs.length := r.length.symm
  have c0 : (decide (k < -(2 ^ 63)) || decide (k ≥ 2 ^ 63)) = false := by
    rw [decide_eq_false (by omega), decide_eq_false (by omega)] <;> rfl
  have hie : its.toArray.isEmpty = decide (xs = []) := by
    cases its with
    | nil =>
      have : xs = [] := List.eq_nil_of_length_eq_zero hle.symm
      rw [this]; rfl
    | cons a b =>
      have : xs ≠ [] := fun e => by rw [e] at hle; simp at hle
      rw [decide_eq_false this]; rfl
  by_cases hc : xs = [] ∨ k = 1
  · have c1 : (its.toArray.isEmpty || k == 1) = true := by
      rw [hie]
      rcases hc with e | e
      · rw [decide_eq_true e]; rfl
      · rw [e]; simp
    refine wpAny_binaryOp_repeat_ref (T := "tuple") (U := "int") (by decide) ⟨_, ho, rfl⟩ (fun s' => typeIs_int s' k t) noFill_tuple_mul F.fills_int_mul F.slot_int_rmul repeat_tuple F.slot_int_index.lookup
      (call_meets F.slot_int_rmul (typeIs_int s k t) F.entry_int_rmul (F.args_int_rmul_2 _ _) (int_rmul_tuple k t l its.toArray n dd sl)
        ⟨ho, rfl, ⟨_, ho, rfl⟩, call_meets F.slot_tuple_mul ⟨_, ho, rfl⟩ F.entry_tuple_mul (F.args_tuple_mul_2 _ _) (tuple_mulS l its.toArray n sl dd k t c0 c1) ⟨ho, ?_⟩⟩)
    exact ⟨.ref l, H, I, rfl, q1 hc⟩
  · have hx : xs ≠ [] := fun e => hc (.inl e)
    have hk : k ≠ 1 := fun e => hc (.inr e)
    have hi : its.toArray.isEmpty = false := by rw [hie]; exact decide_eq_false hx
    have c1 : (its.toArray.isEmpty || k == 1) = false := by
      rw [hi, Bool.false_or]
      exact beq_eq_false_iff_ne.mpr hk
    by_cases h0 : k ≤ 0
    · have c2 : (decide (k ≤ 0) || its.toArray.isEmpty) = true := by rw [decide_eq_true h0]; rfl
      have e0 : (List.replicate k.toNat xs).flatten = [] := by rw [show k.toNat = 0 by omega]; rfl
      rw [e0] at q2
      refine wpAny_binaryOp_repeat_ref (T := "tuple") (U := "int") (by decide) ⟨_, ho, rfl⟩ (fun s' => typeIs_int s' k t) noFill_tuple_mul F.fills_int_mul F.slot_int_rmul repeat_tuple F.slot_int_index.lookup
        (call_meets F.slot_int_rmul (typeIs_int s k t) F.entry_int_rmul (F.args_int_rmul_2 _ _) (int_rmul_tuple k t l its.toArray n dd sl)
          ⟨ho, rfl, ⟨_, ho, rfl⟩, call_meets F.slot_tuple_mul ⟨_, ho, rfl⟩ F.entry_tuple_mul (F.args_tuple_mul_2 _ _) (tuple_mulZ l its.toArray n sl dd k t c0 c1 c2) ⟨ho, ?_⟩⟩)
      refine ⟨.ref s.heap.objs.size, _, I.laid (t' := s.toks) (o := .tup []) (fun b ob q => Heap.get?_push_of_some _ q) (Nat.le_refl _) ?_, rfl, q2 hc _ (I.hok.fresh (Nat.le_refl _))⟩
      exact ⟨by simp, _, .nil, IsTup.new _ _⟩
    · have hsz0 : its.toArray.size = xs.length := by rw [List.size_toArray, hle]
      have hkn : (k.toNat : Int) = k := by omega
      have hm : ((its.toArray.size : Nat) : Int) * k ≤ 1000000 := by
        have e : ((xs.length : Nat) : Int) * ((k.toNat : Nat) : Int) ≤ 1000000 := by
          rw [← Int.natCast_mul]
          exact Int.ofNat_le.mpr hz
        rw [hkn] at e
        rw [hsz0]
        exact e
      have flen : (List.replicate k.toNat its).flatten.length ≤ sizeLine := by
        rw [PyProof.Rows.lm_len_rep_flat, hle, sizeLine_eq, Nat.mul_comm]
        omega
      have c2 : (decide (k ≤ 0) || its.toArray.isEmpty) = false := by
        rw [hi, Bool.or_false]
        exact decide_eq_false h0
      have c4 : Builtin.Tuple.tupleTooMany (((its.toArray.size : Nat) : Int) * k) = false := by
        unfold Builtin.Tuple.tupleTooMany
        rw [sizeLine_eq]
        exact decide_eq_false (by omega)
      refine wpAny_binaryOp_repeat_ref (T := "tuple") (U := "int") (by decide) ⟨_, ho, rfl⟩ (fun s' => typeIs_int s' k t) noFill_tuple_mul F.fills_int_mul F.slot_int_rmul repeat_tuple F.slot_int_index.lookup
        (call_meets F.slot_int_rmul (typeIs_int s k t) F.entry_int_rmul (F.args_int_rmul_2 _ _) (int_rmul_tuple k t l its.toArray n dd sl)
          ⟨ho, rfl, ⟨_, ho, rfl⟩, call_meets F.slot_tuple_mul ⟨_, ho, rfl⟩ F.entry_tuple_mul (F.args_tuple_mul_2 _ _) (tuple_mulW l its.toArray n dd sl k t c0 c1 c2 (by omega) c4 (by rw [size_rep, List.size_toArray]; exact flen)) ⟨ho, ?_⟩⟩)
      rw [size_rep]
      refine ⟨.ref s.heap.objs.size, _, I.laid (t' := s.toks) (o := .tup (List.replicate k.toNat xs).flatten) (fun b ob q => Heap.get?_push_of_some _ q) (Nat.le_refl _) ?_, rfl, q2 hc _ (I.hok.fresh (Nat.le_refl _))⟩
      exact ⟨by rw [PyProof.Rows.lm_len_rep_flat, sizeLine_eq, Nat.mul_comm]; omega, _, r.rep k.toNat, IsTup.new _ _⟩
end
/-- tuple * int -/
noncomputable def opMulY (u w : U) (h : Sto) : Res U := match tupOf u, intOf w with
  | some xs, some k => if ask (-1000000 ≤ k ∧ k ≤ 1000000 ∧ xs.length * k.toNat ≤ 1000000) then .ok (.d (.tuple (List.replicate k.toNat xs).flatten)) h else .stuck
  | _, _ => opMul u w h
section
variable {X : Cx} {W : WX}
theorem op_mulY : OpR X (binaryOp .Mult) (fun x y H Q => rI (fun i j => mulOk i j = true) (fun i j => .int (i * j)) x y H Q ∨ rRepY X.K x y H Q) := op_mulA.or op_repY
theorem ab_mulY : Ab2 X W opMulY (fun x y H Q => rI (fun i j => mulOk i j = true) (fun i j => .int (i * j)) x y H Q ∨ rRepY X.K x y H Q) := by
  intro σ H m h x y u w Q s ru rw out
  unfold opMulY at out
  split at out
  · rename_i xs k e1 e2
    split at out
    · rename_i hz
      obtain ⟨h1, h2, h3⟩ := ask_iff.mp hz
      obtain ⟨p, vs, rfl, t1, d1⟩ := tupOf_v e1 ru
      refine .inr ⟨p, k, vs, rfl, intOf_v e2 rw, t1, h1, h2, by rw [d1.len]; exact h3, fun z => ?_, fun _ q nq => ?_⟩
      · have e : (List.replicate k.toNat xs).flatten = xs := by
          rcases z with z | z
          · have : xs = [] := by
              have := d1.len
              rw [z] at this
              exact List.eq_nil_of_length_eq_zero this.symm
            rw [this]
            simp
          · rw [z]; simp
        rw [e] at out
        exact Out.here (b := V.ref p) out s (.d (.tup t1 d1))
      · have sm : Same H (upd H q (.tup (List.replicate k.toNat vs).flatten)) := Same.lay nq
        exact Out.ok (b := V.ref q) out (Gr.of_same sm m) (s.same sm) (.d (.tup (.inl (.inl upd_same)) (RDs.kp (Kp.same sm) _ _ (d1.flat _))))
    · exact out.elim
  · exact .inl (ab_mul σ H m h x y u w Q s ru rw out)
@[simp] theorem ev_mulYi (h : Sto) (i j : Int) : opMulY (.d (.int i)) (.d (.int j)) h = if mulOk i j then .ok (.d (.int (i * j))) h else .stuck := (rfl)
theorem ev_mulYt (h : Sto) (xs : List D) (k : Int) (h1 : -1000000 ≤ k) (h2 : k ≤ 1000000) (h3 : xs.length * k.toNat ≤ 1000000) : opMulY (.d (.tuple xs)) (.d (.int k)) h = .ok (.d (.tuple (List.replicate k.toNat xs).flatten)) h := if_pos (ask_t ⟨h1, h2, h3⟩)
end
end Wk

/-! T17: lists of things, extend, dict displays by texts. -/
namespace Wk
open PySem PySem.Spec PyProof.Rows L2
def eLsu (r : Ea) : Ev := fun env h => (r env h).bind fun us h1 => if us.length ≤ 1000 then .ok (.ref h1.length) (h1 ++ [.lsu us]) else .stuck
def lsOf (h : Sto) (u : U) : Option (List U) := match u with
  | .ref n => (match h[n]? with
    | some (.lsu us) => some us
    | _ => none)
  | _ => none
theorem lsOf_v {K : PySem.W.Frag} {mg : Str → Option Value} {H : Hp} {m : List Addr} {h : Sto} {v : V} {u : U} {us : List U} (s : Sta K mg H m h) (e : lsOf h u = some us) (r : RU K H m v u) : ∃ a vs, v = .ref a ∧ SqL K H a vs ∧ RUs K H m vs us := by
  unfold lsOf at e
  split at e
  · split at e
    · rename_i n us' hn
      cases e
      cases r with
      | ref hm =>
        obtain ⟨vs, h1, h2⟩ := s.obj _ _ _ hm hn
        exact ⟨_, vs, rfl, .inl (.inl h1), h2⟩
    · cases e
  · cases e
def opIxL (u w : U) (h : Sto) : Res U := match lsOf h u with
  | some us => (match intOf w with
    | some i => (match atI us i with | some x => .ok x h | none => .stuck)
    | none => .stuck)
  | none => match u with
    | .d (.str z) => (match intOf w with
      | some i => if z.length ≤ 1000 then (match atI z.cps.toList i with | some c => .ok (.d (.str ⟨#[c]⟩)) h | none => .stuck) else .stuck
      | none => .stuck)
    | u => opIx u w h
def gTupL (n : Nat) (r : Tgs) : Tg := fun u env h => match lsOf h u with
  | some us => if us.length = n then r us env h else none
  | none => none
noncomputable def fExt (u : U) (us : List U) (h : Sto) : Res U := match u, us with
  | .ref n, [.ref k] => (match h[n]?, h[k]? with
    | some (.lst xs), some (.lst ys) => if fits (xs.length + ys.length) then .ok (.d .none) (h.set n (.lst (xs ++ ys))) else .stuck
    | _, _ => .stuck)
  | _, _ => .stuck
section
variable {X : Cx} {W : WX} {a b : Expr} {es : List Expr} {pos : Pos} {f g : Ev} {ix : List Nat} {ts : Tgs}
theorem se_lsu {r : Ea} (h : SA X W es r) : SE X W (.List es pos) (eLsu r) :=
  ⟨pe_imp (pe_lst h.pa) fun σ H Q ⟨env, m, h, sta, sl, out⟩ => rd_of sta sl out fun us h1 xs H1 m1 g1 s1 r1 out1 => by
    split at out1
    · rename_i hz
      refine ⟨by rw [RUs.len r1]; exact line1000 hz, fun p np => ?_⟩
      exact Out.ok (b := V.ref p) out1 (Gr.push np) (s1.push np ⟨xs, upd_same, RUs.kp (Kp.same (Same.lay np)) ⟨[p], rfl⟩ _ _ r1⟩) (.ref (by rw [← s1.len]; simp))
    · exact out1.elim⟩
theorem se_ixL (hs : PlainIx b) (ha : SE X W a f) (hb : SE X W b g) : SE X W (.Subscript a b pos) (eBin opIxL f g) :=
  ⟨pe_imp (pe_ix ix_seq ha.pe hb.pe hs) fun σ H Q ⟨env, m, h, sta, sl, out⟩ => rd_of sta sl out fun u h1 x H1 m1 g1 s1 r1 out1 => rd_of s1 (sl.gr g1) out1 fun w h2 y H2 m2 g2 s2 r2 out2 => by
    have ru := RU.kp g2.kp g2.pre _ _ r1
    unfold opIxL at out2
    split at out2
    · rename_i us eu
      split at out2
      · rename_i i ei
        have ey := intOf_v ei r2
        split at out2
        · rename_i d ed
          obtain ⟨p, vs, rfl, t1, d1⟩ := lsOf_v s2 eu ru
          obtain ⟨v, h3, h4⟩ := atI_rus d1 ed
          exact .inl ⟨p, vs, i, v, rfl, ey, t1, h3, Out.here out2 s2 h4⟩
        · exact out2.elim
      · exact out2.elim
    · split at out2
      · rename_i z eu
        split at out2
        · rename_i i ei
          have ey := intOf_v ei r2
          split at out2
          · rename_i hz
            split at out2
            · rename_i c ec
              cases ru.rd
              exact .inr (.inr ⟨z, i, c, rfl, ey, line1000 hz, ec, Out.here (b := V.str _) out2 s2 (.d (.str _))⟩)
            · exact out2.elim
          · exact out2.elim
        · exact out2.elim
      · unfold opIx at out2
        split at out2
        · exact out2.elim
        · rename_i i ei
          have ey := intOf_v ei r2
          split at out2
          · rename_i xs e
            obtain ⟨p, vs, rfl, t1, d1⟩ := tupOf_v e ru
            split at out2
            · rename_i d ed
              obtain ⟨v, h3, h4⟩ := atI_rds d1 ed
              exact .inr (.inl ⟨p, vs, i, v, rfl, ey, t1, h3, Out.here out2 s2 (.d h4)⟩)
            · exact out2.elim
          · split at out2
            · rename_i xs e
              obtain ⟨p, vs, rfl, t1, d1⟩ := listOf_v s2 e ru
              split at out2
              · rename_i d ed
                obtain ⟨v, h3, h4⟩ := atI_rds d1 ed
                exact .inl ⟨p, vs, i, v, rfl, ey, t1, h3, Out.here out2 s2 (.d h4)⟩
              · exact out2.elim
            · split at out2
              · split at out2
                · rename_i d ed
                  cases ru with
                  | tup t1 d1 =>
                    obtain ⟨v, h3, h4⟩ := atI_rus d1 ed
                    exact .inr (.inl ⟨_, _, i, v, rfl, ey, t1, h3, Out.here out2 s2 h4⟩)
                · exact out2.elim
              · exact out2.elim⟩
theorem sg_tupL {k n : Nat} (hc : X.calm = true) (h : SGs X es ix ts) (hn : (assignEach es X.env).length = n := by rfl) (hst : (assignEach es X.env).findIdx? (·.1) = none := by rfl) : SG X (.Tuple es k pos) ix (gTupL n ts) :=
  ⟨pg_imp (pg_unl hc h.pg hn hst) fun v σ H Q ⟨u, env, m, hh, sta, sl, r, env', e, q⟩ => by
    unfold gTupL at e
    split at e
    · rename_i us eu
      split at e
      · rename_i hl
        obtain ⟨p, vs, rfl, t1, r1⟩ := lsOf_v sta eu r
        have hvs : vs.length = n := (RUs.len r1).trans hl
        exact ⟨p, vs, rfl, t1, hvs, us, env, m, hh, sta, sl, r1, env', e, q⟩
      · cases e
    · cases e⟩
theorem ab_ext : AbM X W fExt rExtend := by
  intro σ H m h x xs u us Q s ru rus out
  unfold fExt at out
  split at out
  · rename_i n k
    split at out
    · rename_i ds es ed ee
      split at out
      · rename_i hz
        cases ru with
        | ref hm =>
          rename_i a
          cases rus with
          | cons rx rn =>
            cases rn
            cases rx with
            | ref hk =>
              rename_i b
              obtain ⟨vs, k1, k2⟩ := s.obj _ _ _ hm ed
              obtain ⟨ws, j1, j2⟩ := s.obj _ _ _ hk ee
              refine ⟨a, b, vs, ws, rfl, rfl, k1, j1, by rw [k2.len, j2.len]; exact ask_iff.mp hz, ?_⟩
              refine Out.ok (b := V.non) out (Gr.write (List.mem_of_getElem? hm) k1 trivial) (s.write hm k1 trivial ⟨_, upd_same, ?_⟩) (.d .non)
              exact (RDs.kp (mut_kp k1 trivial) _ _ k2).app (RDs.kp (mut_kp k1 trivial) _ _ j2)
      · exact out.elim
    · exact out.elim
  · exact out.elim
end
/-! ### a slice of a tuple with things -/
section
variable {K : PySem.W.Frag} {H : Hp} {m : List Addr}
theorem RUs.take : ∀ (n : Nat) {ds : List U} {vs : List V}, RUs K H m vs ds → RUs K H m (vs.take n) (ds.take n)
  | 0, _, _, _ => by simp; exact .nil
  | _ + 1, [], _, h => by cases h; exact .nil
  | n + 1, _ :: _, _, h => by cases h with | cons a b => exact .cons a (RUs.take n b)
theorem RUs.drop : ∀ (n : Nat) {ds : List U} {vs : List V}, RUs K H m vs ds → RUs K H m (vs.drop n) (ds.drop n)
  | 0, _, _, h => by simpa using h
  | _ + 1, [], _, h => by cases h; exact .nil
  | n + 1, _ :: _, _, h => by cases h with | cons a b => exact RUs.drop n b
theorem RUs.cut {us : List U} {vs : List V} (h : RUs K H m vs us) (lo hi : Option Int) : RUs K H m (cutV vs lo hi) (cutD us lo hi) := by
  unfold cutD cutV
  rw [RUs.len h]
  exact (h.drop _).take _
end
noncomputable def eSlU (f : Ev) (lo hi : Eo) : Ev := fun env h => (f env h).bind fun u h1 => (lo env h1).bind fun l h2 => (hi env h2).bind fun r h3 => match u with
  | .tup us => .ok (.tup (cutD us l r)) h3
  | _ => .stuck
theorem se_slU {X : Cx} {W : WX} {e : Expr} {lo hi : Option Expr} {f : Ev} {l r : Eo} {pos p2 : Pos} (he : SE X W e f) (hl : SO X W lo l) (hu : SO X W hi r) : SE X W (.Subscript e (.Slice lo hi none p2) pos) (eSlU f l r) :=
  ⟨pe_imp (pe_slice sl_tupA he.pe hl.po hu.po) fun σ H Q ⟨env, m, h, sta, sl, out⟩ => rd_of sta sl out fun u h1 x H1 m1 g1 s1 r1 out1 =>
    rd_of (rl2 := rlO) s1 (sl.gr g1) out1 fun i1 h2 i2 H2 m2 g2 s2 r2 out2 => rd_of (rl2 := rlO) s2 ((sl.gr g1).gr g2) out2 fun j1 h3 j2 H3 m3 g3 s3 r3 out3 => by
      cases r2
      cases r3
      have ru := RU.kp (g2.trans g3).kp (g2.trans g3).pre _ _ r1
      split at out3
      · rename_i us
        cases ru with
        | tup t1 d1 =>
          rename_i p vs
          refine ⟨p, vs, rfl, t1, fun hw => ?_, fun hw q nq => ?_⟩
          · have e1 : cutD us i1 j1 = us := by
              unfold cutD
              rw [← RUs.len d1, hw.1, hw.2]
              simp [RUs.len d1]
            rw [e1] at out3
            exact Out.here (b := V.ref p) out3 s3 (.tup t1 d1)
          · have sm : Same H3 (upd H3 q (.tup (cutV vs i1 j1))) := Same.lay nq
            exact Out.ok (b := V.ref q) out3 (Gr.of_same sm m3) (s3.same sm) (.tup (.inl (.inl upd_same)) (RUs.kp (Kp.same sm) ⟨[], by simp⟩ _ _ (d1.cut _ _)))
      · exact out3.elim⟩
@[simp] theorem ev_SlU (f : Ev) (lo hi : Eo) (env : Env') (h : Sto) : eSlU f lo hi env h = (f env h).bind fun u h1 => (lo env h1).bind fun l h2 => (hi env h2).bind fun r h3 => match u with | .tup us => .ok (.tup (cutD us l r)) h3 | _ => .stuck := (rfl)
/-! ### {text: e, ..} -/
def dspGo : List (Str × Ev) → Env' → Sto → Res (List (Key × U))
  | [], _, h => .ok [] h
  | (k, f) :: r, env, h => (f env h).bind fun u h1 => (dspGo r env h1).bind fun kvs h2 => .ok ((.inr k, u) :: kvs) h2
def mergeU (kvs more : List (Key × U)) : List (Key × U) := more.foldl (fun acc kv => putU acc kv.1 kv.2) kvs
def eDsp (ps : List (Str × Ev)) : Ev := fun env h => (dspGo ps env (h ++ [.dct []])).bind fun kvs h2 => match h2[h.length]? with
  | some (.dct []) => if kvs.length ≤ 15 then .ok (.ref h.length) (h2.set h.length (.dct (mergeU [] kvs))) else .stuck
  | _ => .stuck
def rlP (K : PySem.W.Frag) : Hp → List Addr → List (V × V) → List (Key × U) → Prop := fun H m ps kvs => ∃ gs : List (Key × V), ps = gs.map (fun kv => (kV kv.1, kv.2)) ∧ RK K H m gs kvs
theorem RK.merge {K : PySem.W.Frag} {H : Hp} {m : List Addr} {gs' : List (Key × V)} {kvs' : List (Key × U)} (r' : RK K H m gs' kvs') : ∀ {gs : List (Key × V)} {kvs : List (Key × U)}, RK K H m gs kvs → RK K H m (mergeK gs gs') (mergeU kvs kvs') := by
  unfold RK at r'
  induction r' with
  | nil => intro gs kvs r; exact r
  | @cons p q l l' h t ih =>
    intro gs kvs r
    show RK K H m (mergeK (putK gs p.1 p.2) l) (mergeU (putU kvs q.1 q.2) l')
    rw [← h.1]
    exact ih (r.put p.1 h.2)
section
variable {X : Cx} {W : WX} {pos : Pos}
def dspT (X : Cx) (W : WX) (ps : List (Str × Ev)) : List (TE × TE) := ps.map fun p => (tC (.str p.1), rd X W (rlU X.K) p.2)
theorem dsp_ok : ∀ (ps : List (Str × Ev)) {σ : L2.St} {H : Hp} {Q : List (V × V) → Hp → Prop}, rd X W (rlP X.K) (dspGo ps) σ H Q → tPairs (dspT X W ps) σ H Q
  | [], σ, H, Q, ⟨env, m, h, sta, sl, out⟩ => Out.here (b := ([] : List (V × V))) out sta ⟨[], rfl, .nil⟩
  | (k, f) :: r, σ, H, Q, ⟨env, m, h, sta, sl, out⟩ => by
    show tC (.str k) σ H fun x H1 => rd X W (rlU X.K) f σ H1 fun y H2 => tPairs (dspT X W r) σ H2 fun ps H3 => Q ((x, y) :: ps) H3
    show rd X W (rlU X.K) f σ H fun y H2 => tPairs (dspT X W r) σ H2 fun ps H3 => Q ((V.str k, y) :: ps) H3
    refine rd_of sta sl out fun u h1 x H1 m1 g1 s1 r1 out1 => dsp_ok r ?_
    refine rd_of s1 (sl.gr g1) out1 fun kvs h2 ps H2 m2 g2 s2 ⟨gs, e2, r2⟩ out2 => ?_
    subst e2
    exact Out.here (b := (V.str k, x) :: gs.map fun kv => (kV kv.1, kv.2)) out2 s2 ⟨(.inr k, x) :: gs, rfl, .cons ⟨rfl, RU.kp g2.kp g2.pre _ _ r1⟩ r2⟩
structure SPs (X : Cx) (W : WX) (pos : Pos) (keys : List (Option Expr)) (values : List Expr) (ps : List (Str × Ev)) : Prop where
  pp : PPs X pos keys values (dspT X W ps)
theorem sp_nil : SPs X W pos [] [] [] := ⟨pps_nil⟩
theorem sp_cons {k : Str} {j : Nat} {p2 : Pos} {e : Expr} {f : Ev} {ks : List (Option Expr)} {vs : List Expr} {ps : List (Str × Ev)} (he : SE X W e f) (hr : SPs X W pos ks vs ps) : SPs X W pos (some (.Constant (.str k) j p2) :: ks) (e :: vs) ((k, f) :: ps) := ⟨pps_cons pe_str he.pe hr.pp⟩
theorem se_dsp {keys : List (Option Expr)} {values : List Expr} {ps : List (Str × Ev)} (h : SPs X W pos keys values ps) (hall : keys.all (·.isSome) = true) (hl : keys.length = values.length) (h0 : keys ≠ []) (h15 : keys.length ≤ 15) : SE X W (.Dict keys values pos) (eDsp ps) :=
  ⟨pe_imp (pe_disp h.pp hall hl h0 h15) fun σ H Q ⟨env, m, h, sta, sl, out⟩ p np => dsp_ok ps (by
    have st1 : Sta X.K X.mg (upd H p (.dK [])) (m ++ [p]) (h ++ [.dct []]) := sta.push np ⟨[], upd_same, .nil⟩
    have gp := Gr.push (m := m) (x := .dK []) np
    refine rd_of st1 (sl.gr gp) (Out.gr out gp) fun kvs h2 qs H2 m2 g2 s2 ⟨gs, e2, r2⟩ out2 => ?_
    split at out2
    · rename_i hn
      split at out2
      · rename_i h15
        have hm : m2[h.length]? = some p := by
          obtain ⟨e, he⟩ := g2.pre
          rw [he, List.getElem?_append_left (by simp [sta.len]), ← sta.len]
          simp
        obtain ⟨gs0, hH, rk⟩ := s2.obj _ _ _ hm hn
        cases rk
        refine ⟨hH, gs, e2, by rw [r2.len]; exact h15, ?_⟩
        have kp := mut_kp (y := HO.dK (mergeK [] gs)) hH trivial
        have gw := Gr.write (y := HO.dK (mergeK [] gs)) (List.mem_of_getElem? hm) hH trivial
        exact Out.ok (b := V.ref p) out2 gw (s2.write hm hH trivial ⟨_, upd_same, RK.merge (paired_imp (fun p q z => ⟨z.1, RU.kp kp ⟨[], by simp⟩ _ _ z.2⟩) r2) .nil⟩) (.ref hm)
      · exact out2.elim
    · exact out2.elim)⟩
@[simp] theorem ev_Lsu (fa : Ea) (env : Env') (h : Sto) : eLsu fa env h = (fa env h).bind fun us h1 => if us.length ≤ 1000 then .ok (.ref h1.length) (h1 ++ [.lsu us]) else .stuck := (rfl)
@[simp] theorem ev_gTL (n : Nat) (r : Tgs) (u : U) (env : Env') (h : Sto) : gTupL n r u env h = match lsOf h u with | some us => if us.length = n then r us env h else none | none => none := (rfl)
@[simp] theorem ev_lsR (n : Nat) (h : Sto) : lsOf h (.ref n) = match h[n]? with | some (.lsu us) => some us | _ => none := (rfl)
@[simp] theorem ev_ixLT (d : List D) (w : U) (h : Sto) : opIxL (.d (.tuple d)) w h = opIx (.d (.tuple d)) w h := (rfl)
@[simp] theorem ev_ixLL (d : List D) (w : U) (h : Sto) : opIxL (.d (.list d)) w h = opIx (.d (.list d)) w h := (rfl)
@[simp] theorem ev_ixLS (z : Str) (i : Int) (h : Sto) : opIxL (.d (.str z)) (.d (.int i)) h = if z.length ≤ 1000 then (match atI z.cps.toList i with | some c => .ok (.d (.str ⟨#[c]⟩)) h | none => .stuck) else .stuck := (rfl)
@[simp] theorem ev_ixLR (n : Nat) (i : Int) (h : Sto) : opIxL (.ref n) (.d (.int i)) h = match lsOf h (.ref n) with | some us => (match atI us i with | some x => .ok x h | none => .stuck) | none => opIx (.ref n) (.d (.int i)) h := (rfl)
@[simp] theorem ev_ixLt (us : List U) (w : U) (h : Sto) : opIxL (.tup us) w h = opIx (.tup us) w h := (rfl)
end
end Wk

/-! RNL: the hand in the store. -/
namespace Wk
open PySem L2
section
variable {f g k : Ev} {fa : Ea} {env : Env'} {h : Sto} {u w : U}
@[simp] theorem ev_Fld (c f' : Str) : eFld c f' f env h = (f env h).bind fun u h1 => match insOf h1 u with
  | some (c', fs) => if c' = c then (match fs.lookup f' with
    | some w => .ok w h1
    | none => .stuck) else .stuck
  | none => .stuck := (rfl)
@[simp] theorem ev_FldS (c f' : Str) : sFldS c f' f g env h = (f env h).then_ env fun w h1 => (g env h1).then_ env fun u h2 => match u with
  | .ref n => (match h2[n]? with
    | some (.ins c' fs) => if c' = c ∧ fs.length < 1000 then .next env (h2.set n (.ins c' (putG f' w fs))) else .stuck
    | _ => .stuck)
  | _ => .stuck := (rfl)
@[simp] theorem ev_insR (n : Nat) : insOf h (.ref n) = match h[n]? with | some (.ins c fs) => some (c, fs) | _ => none := (rfl)
@[simp] theorem ev_Mth (c m : Str) (F : SF) : eMth c m F f fa env h = (f env h).bind fun u h1 => match insOf h1 u with
  | some (c', fs) => if c' = c ∧ fs.lookup m = none then (fa env h1).bind fun us h2 => F (u :: us) h2 else .stuck
  | none => .stuck := (rfl)
@[simp] theorem ev_Mk (c : Str) (F : SF) : eMk c F fa env h = (fa env h).bind fun us h1 => (F (.ref h1.length :: us) (h1 ++ [.ins c []])).bind (retN h1.length) := (rfl)
@[simp] theorem ev_retN (n : Nat) : retN n (.d .none) h = .ok (.ref n) h := (rfl)
@[simp] theorem ev_Raise (c : Str) : sRaise c env h = .exc c env h := (rfl)
@[simp] theorem ev_DNew : eDNew env h = .ok (.ref h.length) (h ++ [.dct []]) := (rfl)
@[simp] theorem ev_RetN : sRetN env h = .ret (.d .none) h := (rfl)
theorem sfOf_ap (n : Nat) (B : Es) (us : List U) (h : Sto) : sfOf n B us h = match B (us.map some ++ List.replicate (n - us.length) none) h with
  | .ret u h' => .ok u h'
  | .next _ h' => .ok (.d .none) h'
  | .exc c _ h' => .exc c h'
  | .stuck => .stuck := (rfl)
end
@[simp] theorem ev_eqStr (n : Bool) (x y : Str) (h : Sto) : opEqB n (.d (.str x)) (.d (.str y)) h = .ok (.d (.bool (xor n (decide (x = y))))) h := (rfl)
/-- what the hand holds -/
structure Hd where
  spot : P4
  heading : Int
  down : Bool
  ink : Int
  turns : Int
  rest : Int
  marks : List (Key × U)
  strokes : List D
  corners : List D
  plain : List D
def hfs (n : Nat) (x : Hd) : List (Str × U) := [("spot", .d x.spot.e), ("heading", .d (.int x.heading)), ("is_down", .d (.bool x.down)), ("ink", .d (.int x.ink)), ("marks", .ref (n + 1)), ("strokes", .ref (n + 2)), ("corners", .ref (n + 3)), ("turns", .d (.int x.turns)), ("rest", .d (.int x.rest)), ("plain", .ref (n + 4))]
structure HS (n : Nat) (x : Hd) (h : Sto) : Prop where
  o : h[n]? = some (.ins "Hand" (hfs n x))
  m : h[n + 1]? = some (.dct x.marks)
  s : h[n + 2]? = some (.lst x.strokes)
  c : h[n + 3]? = some (.lst x.corners)
  p : h[n + 4]? = some (.lst x.plain)
/-- the store with the hand x at n -/
def hset (n : Nat) (x : Hd) (h : Sto) : Sto := ((((h.set n (.ins "Hand" (hfs n x))).set (n + 1) (.dct x.marks)).set (n + 2) (.lst x.strokes)).set (n + 3) (.lst x.corners)).set (n + 4) (.lst x.plain)
theorem hset_len (n : Nat) (x : Hd) (h : Sto) : (hset n x h).length = h.length := by simp [hset]
theorem HS.lt {n : Nat} {x : Hd} {h : Sto} (s : HS n x h) : n + 4 < h.length := (List.getElem?_eq_some_iff.mp s.p).1
theorem hset_get {n : Nat} {x : Hd} {h : Sto} (hl : n + 4 < h.length) (i : Nat) : (hset n x h)[i]? = if i = n then some (.ins "Hand" (hfs n x)) else if i = n + 1 then some (.dct x.marks) else if i = n + 2 then some (.lst x.strokes) else if i = n + 3 then some (.lst x.corners) else if i = n + 4 then some (.lst x.plain) else h[i]? := by
  unfold hset
  simp only [List.getElem?_set, List.length_set]
  by_cases h0 : i = n
  · subst h0
    simp [show ¬ i + 4 = i by omega, show ¬ i + 3 = i by omega, show ¬ i + 2 = i by omega, show ¬ i + 1 = i by omega, show i < h.length by omega]
  · by_cases h1 : i = n + 1
    · subst h1
      simp [show n + 1 < h.length by omega]
    · by_cases h2 : i = n + 2
      · subst h2
        simp [show n + 2 < h.length by omega]
      · by_cases h3 : i = n + 3
        · subst h3
          simp [show n + 3 < h.length by omega]
        · by_cases h4 : i = n + 4
          · subst h4
            simp [hl]
          · simp [h0, h1, h2, h3, h4, show ¬ n + 4 = i by omega, show ¬ n + 3 = i by omega, show ¬ n + 2 = i by omega, show ¬ n + 1 = i by omega, show ¬ n = i by omega]
theorem HS.set {n : Nat} {x x' : Hd} {h : Sto} (s : HS n x h) : HS n x' (hset n x' h) := by
  have hl := s.lt
  constructor <;> rw [hset_get hl] <;> simp
theorem hset_hset {n : Nat} {x x' : Hd} {h : Sto} (hl : n + 4 < h.length) : hset n x' (hset n x h) = hset n x' h := by
  apply List.ext_getElem?
  intro i
  rw [hset_get (by rw [hset_len]; exact hl), hset_get hl, hset_get hl]
  by_cases h0 : i = n <;> by_cases h1 : i = n + 1 <;> by_cases h2 : i = n + 2 <;> by_cases h3 : i = n + 3 <;> by_cases h4 : i = n + 4 <;> simp [h0, h1, h2, h3, h4]
/-- another store is the one with the hand x' -/
theorem hset_is {n : Nat} {x' : Hd} {h h' : Sto} (hl : n + 4 < h.length) (s : HS n x' h') (e : ∀ i, i ≠ n → i ≠ n + 1 → i ≠ n + 2 → i ≠ n + 3 → i ≠ n + 4 → h'[i]? = h[i]?) : h' = hset n x' h := by
  apply List.ext_getElem?
  intro i
  rw [hset_get hl]
  by_cases h0 : i = n
  · subst h0; rw [if_pos rfl]; exact s.o
  · rw [if_neg h0]
    by_cases h1 : i = n + 1
    · subst h1; rw [if_pos rfl]; exact s.m
    · rw [if_neg h1]
      by_cases h2 : i = n + 2
      · subst h2; rw [if_pos rfl]; exact s.s
      · rw [if_neg h2]
        by_cases h3 : i = n + 3
        · subst h3; rw [if_pos rfl]; exact s.c
        · rw [if_neg h3]
          by_cases h4 : i = n + 4
          · subst h4; rw [if_pos rfl]; exact s.p
          · rw [if_neg h4]; exact e i h0 h1 h2 h3 h4
theorem HS.self {n : Nat} {x : Hd} {h : Sto} (s : HS n x h) : hset n x h = h := (hset_is s.lt s fun _ _ _ _ _ _ => rfl).symm
/-- only the object itself -/
theorem hset_o {n : Nat} {x x' : Hd} {h : Sto} (s : HS n x h) (e1 : x'.marks = x.marks) (e2 : x'.strokes = x.strokes) (e3 : x'.corners = x.corners) (e4 : x'.plain = x.plain) : h.set n (.ins "Hand" (hfs n x')) = hset n x' h := by
  have hl := s.lt
  refine hset_is hl ⟨by rw [List.getElem?_set_self (by omega)], ?_, ?_, ?_, ?_⟩ fun i h0 _ _ _ _ => by rw [List.getElem?_set_ne (Ne.symm h0)]
  · rw [List.getElem?_set_ne (by omega), e1]; exact s.m
  · rw [List.getElem?_set_ne (by omega), e2]; exact s.s
  · rw [List.getElem?_set_ne (by omega), e3]; exact s.c
  · rw [List.getElem?_set_ne (by omega), e4]; exact s.p

section
variable (n : Nat) (x : Hd)
@[simp] theorem lk_spot : (hfs n x).lookup ("spot" : Str) = some (U.d x.spot.e) := by with_unfolding_all rfl
@[simp] theorem lk_heading : (hfs n x).lookup ("heading" : Str) = some (U.d (.int x.heading)) := by with_unfolding_all rfl
@[simp] theorem lk_is_down : (hfs n x).lookup ("is_down" : Str) = some (U.d (.bool x.down)) := by with_unfolding_all rfl
@[simp] theorem lk_ink : (hfs n x).lookup ("ink" : Str) = some (U.d (.int x.ink)) := by with_unfolding_all rfl
@[simp] theorem lk_marks : (hfs n x).lookup ("marks" : Str) = some (U.ref (n + 1)) := by with_unfolding_all rfl
@[simp] theorem lk_strokes : (hfs n x).lookup ("strokes" : Str) = some (U.ref (n + 2)) := by with_unfolding_all rfl
@[simp] theorem lk_corners : (hfs n x).lookup ("corners" : Str) = some (U.ref (n + 3)) := by with_unfolding_all rfl
@[simp] theorem lk_turns : (hfs n x).lookup ("turns" : Str) = some (U.d (.int x.turns)) := by with_unfolding_all rfl
@[simp] theorem lk_rest : (hfs n x).lookup ("rest" : Str) = some (U.d (.int x.rest)) := by with_unfolding_all rfl
@[simp] theorem lk_plain : (hfs n x).lookup ("plain" : Str) = some (U.ref (n + 4)) := by with_unfolding_all rfl
@[simp] theorem lm_deed : (hfs n x).lookup ("deed" : Str) = none := by with_unfolding_all rfl
@[simp] theorem lm_go : (hfs n x).lookup ("go" : Str) = none := by with_unfolding_all rfl
@[simp] theorem lm_turn : (hfs n x).lookup ("turn" : Str) = none := by with_unfolding_all rfl
@[simp] theorem lm_back : (hfs n x).lookup ("back" : Str) = none := by with_unfolding_all rfl
@[simp] theorem lm_state : (hfs n x).lookup ("state" : Str) = none := by with_unfolding_all rfl
@[simp] theorem pt_spot (p : P4) : putG "spot" (.d p.e) (hfs n x) = hfs n { x with spot := p } := by with_unfolding_all rfl
@[simp] theorem pt_heading (i : Int) : putG "heading" (.d (.int i)) (hfs n x) = hfs n { x with heading := i } := by with_unfolding_all rfl
@[simp] theorem pt_down (i : Bool) : putG "is_down" (.d (.bool i)) (hfs n x) = hfs n { x with down := i } := by with_unfolding_all rfl
@[simp] theorem pt_ink (i : Int) : putG "ink" (.d (.int i)) (hfs n x) = hfs n { x with ink := i } := by with_unfolding_all rfl
@[simp] theorem pt_turns (i : Int) : putG "turns" (.d (.int i)) (hfs n x) = hfs n { x with turns := i } := by with_unfolding_all rfl
@[simp] theorem pt_rest (i : Int) : putG "rest" (.d (.int i)) (hfs n x) = hfs n { x with rest := i } := by with_unfolding_all rfl
@[simp] theorem hfs_len : (hfs n x).length = 10 := (rfl)
end

/-- there is a place n in the store -/
def InS (n : Nat) (h : Sto) : Prop := n < h.length
@[simp] theorem inS_set (n m : Nat) (a : Ob) (h : Sto) : InS n (h.set m a) ↔ InS n h := by simp [InS]
@[simp] theorem gs_same {n : Nat} {h : Sto} {a : Ob} (hn : InS n h) : (h.set n a)[n]? = some a := List.getElem?_set_self hn
@[simp] theorem gs_ne {n m : Nat} {h : Sto} {a : Ob} (hn : m ≠ n) : (h.set m a)[n]? = h[n]? := List.getElem?_set_ne hn
theorem HS.i {n : Nat} {x : Hd} {h : Sto} (s : HS n x h) : InS n h ∧ InS (n + 1) h ∧ InS (n + 2) h ∧ InS (n + 3) h ∧ InS (n + 4) h := by
  have := s.lt
  unfold InS
  omega
def cfs (w : U) (ns : List D) (k : D) : List (Str × U) := [("words", w), ("numbers", .d (.list ns)), ("count", .d k)]
theorem lc_value (w : U) (ns : List D) (k : D) : (cfs w ns k).lookup ("value" : Str) = none := by with_unfolding_all rfl
/-- simple statements -/
inductive Smp where
  | go (v : Int)
  | turn (v : Int)
  | ink (v : Int)
  | up
  | down
def Smp.e : Smp → D
  | .go v => .tuple [.str "go", .int v]
  | .turn v => .tuple [.str "turn", .int v]
  | .ink v => .tuple [.str "ink", .int v]
  | .up => .tuple [.str "up"]
  | .down => .tuple [.str "down"]
def Smp.small : Smp → Prop
  | .go v => v.natAbs ≤ 1000000
  | .turn v => v.natAbs ≤ 1000000
  | .ink v => v.natAbs ≤ 1000000
  | _ => True
def Smp.verb : Smp → Str
  | .go _ => "go"
  | .turn _ => "turn"
  | .ink _ => "ink"
  | .up => "up"
  | .down => "down"
def Smp.val : Smp → Int
  | .go v => v
  | .turn v => v
  | .ink v => v
  | _ => 0
def Hd.st (x : Hd) : D := .tuple [x.spot.e, .int x.heading, .bool x.down, .int x.ink]
/-- what a simple statement does, but the deed and the note -/
def Smp.act (s : Smp) (x : Hd) : Hd := match s with
  | .go t => { x with spot := mv x.heading t x.spot, strokes := if x.down = true ∧ t ≠ 0 then x.strokes ++ [.tuple [.int x.ink, x.spot.e, (mv x.heading t x.spot).e]] else x.strokes, corners := x.corners ++ [(mv x.heading t x.spot).e] }
  | .turn e => { x with turns := x.turns + e, heading := (x.heading + e) % 8 }
  | .ink v => { x with ink := v % 8 }
  | .up => { x with down := false }
  | .down => { x with down := true }
def Hd.noted (x : Hd) (s : Smp) : Hd := { x with plain := x.plain ++ [.tuple [.str s.verb, .int s.val, x.st]] }
def Hd.ok (x : Hd) (n : Nat) : Prop := 0 ≤ x.heading ∧ x.heading < 8 ∧ x.strokes.length < n ∧ x.corners.length < n ∧ x.plain.length < n
def Hd.less (x : Hd) : Hd := { x with rest := x.rest - 1 }
def Smp.done (k : Smp) (x : Hd) : Hd := k.act (x.less.noted k)
theorem hset3 {n : Nat} {x y z : Hd} {h : Sto} (hl : n + 4 < h.length) : hset n z (hset n y (hset n x h)) = hset n z h := by
  rw [hset_hset (by rw [hset_len]; exact hl), hset_hset hl]
/-- a plain body walked -/
def wk : List Smp → Hd → Hd × Bool
  | [], x => (x, true)
  | k :: r, x => if x.rest ≤ 0 then (x, false) else wk r (k.done x)
theorem done_ok {k : Smp} {x : Hd} {b : Nat} (h : x.ok b) : (k.done x).ok (b + 1) := by
  obtain ⟨h0, h1, h2, h3, h4⟩ := h
  have e := Int.emod_nonneg (x.heading + k.val) (show (8 : Int) ≠ 0 by decide)
  have e' := Int.emod_lt_of_pos (x.heading + k.val) (show (0 : Int) < 8 by decide)
  cases k with
  | go v =>
    refine ⟨h0, h1, ?_, ?_, ?_⟩
    · show (if x.down = true ∧ v ≠ 0 then _ else _ : List D).length < _
      split
      · show (x.strokes ++ _).length < _
        rw [List.length_append, List.length_singleton]; omega
      · show x.strokes.length < _; omega
    · show (x.corners ++ _).length < _
      rw [List.length_append, List.length_singleton]; omega
    · show (x.plain ++ _).length < _
      rw [List.length_append, List.length_singleton]; omega
  | turn v =>
    refine ⟨e, e', ?_, ?_, ?_⟩
    · show x.strokes.length < _; omega
    · show x.corners.length < _; omega
    · show (x.plain ++ _).length < _
      rw [List.length_append, List.length_singleton]; omega
  | ink v =>
    refine ⟨h0, h1, ?_, ?_, ?_⟩
    · show x.strokes.length < _; omega
    · show x.corners.length < _; omega
    · show (x.plain ++ _).length < _
      rw [List.length_append, List.length_singleton]; omega
  | up =>
    refine ⟨h0, h1, ?_, ?_, ?_⟩
    · show x.strokes.length < _; omega
    · show x.corners.length < _; omega
    · show (x.plain ++ _).length < _
      rw [List.length_append, List.length_singleton]; omega
  | down =>
    refine ⟨h0, h1, ?_, ?_, ?_⟩
    · show x.strokes.length < _; omega
    · show x.corners.length < _; omega
    · show (x.plain ++ _).length < _
      rw [List.length_append, List.length_singleton]; omega
def hd0 (most : Int) : Hd := ⟨⟨0, 0, 0, 0⟩, 0, true, 0, 0, most, [], [], [P4.e ⟨0, 0, 0, 0⟩], []⟩
def hb (n : Nat) (x : Hd) : Sto := [.ins "Hand" (hfs n x), .dct x.marks, .lst x.strokes, .lst x.corners, .lst x.plain]
theorem hb_HS (h t : Sto) (x : Hd) : HS h.length x (h ++ (hb h.length x ++ t)) := by
  have e : ∀ i, (h ++ (hb h.length x ++ t))[h.length + i]? = (hb h.length x ++ t)[i]? := fun i => by
    rw [List.getElem?_append_right (by omega), Nat.add_sub_cancel_left]
  exact ⟨by have := e 0; rw [Nat.add_zero] at this; rw [this]; rfl, e 1, e 2, e 3, e 4⟩
theorem hset_hb (h t : Sto) (x y : Hd) : hset h.length y (h ++ (hb h.length x ++ t)) = h ++ (hb h.length y ++ t) := by
  symm
  refine hset_is (hb_HS h t x).lt (hb_HS h t y) fun i h0 h1 h2 h3 h4 => ?_
  by_cases hi : i < h.length
  · rw [List.getElem?_append_left hi, List.getElem?_append_left hi]
  · obtain ⟨j, rfl⟩ : ∃ j, i = h.length + (5 + j) := ⟨i - h.length - 5, by omega⟩
    have e : ∀ z : Hd, (h ++ (hb h.length z ++ t))[h.length + (5 + j)]? = t[j]? := fun z => by
      rw [List.getElem?_append_right (by omega), Nat.add_sub_cancel_left]
      have hz : (hb h.length z).length = 5 := rfl
      rw [List.getElem?_append_right (by rw [hz]; omega), hz, Nat.add_sub_cancel_left]
    rw [e, e]
@[simp] theorem ev_allR (n : Nat) (r : List U) : allD (.ref n :: r) = none := (rfl)
end Wk

/-! DK: a deck of numbers in the store, drawn from its end. -/
namespace Wk
open PySem L2
def dk (ds : List Int) : List D := (ds.map PyData.int).reverse
@[simp] theorem ev_lenRf (n : Nat) (h : Sto) : fLen [.ref n] h = match h[n]? with | some (.lst xs) => .ok (.d (.int xs.length)) h | some (.frz xs) => .ok (.d (.int xs.length)) h | _ => .stuck := by
  unfold fLen lenOf
  simp only [tupOf, strOf, ev_lstR]
  cases e : h[n]? with
  | none => rfl
  | some o => cases o <;> rfl
@[simp] theorem ev_popRf (n : Nat) (h : Sto) : fPop (.ref n) [] h = match h[n]? with | some (.lst xs) => (match xs[xs.length - 1]? with | some y => .ok (.d y) (h.set n (.lst xs.dropLast)) | none => .stuck) | _ => .stuck := (rfl)
theorem dk_len (ds : List Int) : (dk ds).length = ds.length := by simp [dk]
theorem dk_last (c : Int) (ds : List Int) : (dk (c :: ds))[(dk (c :: ds)).length - 1]? = some (.int c) := by
  simp [dk]
theorem dk_drop (c : Int) (ds : List Int) : (dk (c :: ds)).dropLast = dk ds := by
  simp [dk]
theorem set_self {n : Nat} {h : Sto} {a : Ob} (e : h[n]? = some a) : h.set n a = h := by
  apply List.ext_getElem?
  intro i
  rw [List.getElem?_set]
  split
  · rename_i hi
    subst hi
    split
    · exact e.symm
    · rename_i hl
      exact (List.getElem?_eq_none (Nat.not_lt.mp hl)).symm
  · rfl
theorem get_lt {n : Nat} {h : Sto} {a : Ob} (e : h[n]? = some a) : InS n h := (List.getElem?_eq_some_iff.mp e).1
@[simp] theorem set2 (n : Nat) (h : Sto) (a b : Ob) : (h.set n a).set n b = h.set n b := List.set_set ..
/-! ### data that can be held against each other -/
def Shp (k : Nat) (d : D) : Prop := d.canLay0 = true ∧ d.depth ≤ k
theorem Shp.int (k : Nat) (i : Int) : Shp k (.int i) := ⟨rfl, by rw [PyData.depth] <;> first | exact Nat.zero_le _ | (intros; simp)⟩
theorem Shp.bool (k : Nat) (i : Bool) : Shp k (.bool i) := ⟨rfl, by rw [PyData.depth] <;> first | exact Nat.zero_le _ | (intros; simp)⟩
theorem Shp.none (k : Nat) : Shp k .none := ⟨rfl, by rw [PyData.depth] <;> first | exact Nat.zero_le _ | (intros; simp)⟩
theorem Shp.str (k : Nat) {x : Str} (h : PySem.PyData.canLay0 (.str x) = true) : Shp k (.str x) := ⟨h, by rw [PyData.depth] <;> first | exact Nat.zero_le _ | (intros; simp)⟩
theorem canAll {xs : List D} (h : ∀ x ∈ xs, x.canLay0 = true) : PyData.canLayAll0 xs = true := by
  induction xs with
  | nil => rfl
  | cons a r ih =>
    rw [PyData.canLayAll0, h a List.mem_cons_self, Bool.true_and]
    exact ih fun x hx => h x (List.mem_cons_of_mem _ hx)
theorem depAll {k : Nat} {xs : List D} (h : ∀ x ∈ xs, x.depth ≤ k) : PyData.depthAll xs ≤ k := by
  induction xs with
  | nil => rw [PyData.depthAll]; exact Nat.zero_le _
  | cons a r ih =>
    rw [PyData.depthAll]
    exact Nat.max_le.mpr ⟨h a List.mem_cons_self, ih fun x hx => h x (List.mem_cons_of_mem _ hx)⟩
theorem Shp.tuple {k : Nat} {xs : List D} (h : ∀ x ∈ xs, Shp k x) : Shp (k + 1) (.tuple xs) := by
  refine ⟨?_, ?_⟩
  · rw [PyData.canLay0]; exact canAll fun x hx => (h x hx).1
  · rw [PyData.depth]
    have := depAll fun x hx => (h x hx).2
    omega
theorem Shp.list {k : Nat} {xs : List D} (h : ∀ x ∈ xs, Shp k x) : Shp (k + 1) (.list xs) := by
  refine ⟨?_, ?_⟩
  · rw [PyData.canLay0]; exact canAll fun x hx => (h x hx).1
  · rw [PyData.depth]
    have := depAll fun x hx => (h x hx).2
    omega
theorem Shp.mono {k m : Nat} {d : D} (h : Shp k d) (l : k ≤ m) : Shp m d := ⟨h.1, Nat.le_trans h.2 l⟩
theorem Shp.shaped {k : Nat} {d : D} (h : Shp k d) (l : k ≤ 64) : SeqAt.shaped d = true := by
  unfold SeqAt.shaped
  rw [h.1, decide_eq_true (Nat.le_trans h.2 l)]
  rfl
theorem Shp.place (p : P4) : Shp 2 p.e := by
  refine Shp.tuple fun x hx => ?_
  simp only [List.mem_cons, List.not_mem_nil, or_false] at hx
  rcases hx with rfl | rfl <;> refine Shp.tuple fun y hy => ?_ <;> simp only [List.mem_cons, List.not_mem_nil, or_false] at hy <;> rcases hy with rfl | rfl <;> exact .int _ _
theorem ixU (us : List U) (i : Int) (h : Sto) : opIx (.tup us) (.d (.int i)) h = match atI us i with | some x => .ok x h | none => .stuck := (rfl)
theorem isiU (us : List U) (h : Sto) : opIsi .tuple (.tup us) h = .ok (.d (.bool true)) h := (rfl)
theorem isiR (n : Nat) (xs : List D) (h : Sto) (e : h[n]? = some (.lst xs)) : opIsi .list (.ref n) h = .ok (.d (.bool true)) h := by
  unfold opIsi isTyU
  simp [e]
theorem lenU (us : List U) (h : Sto) : fLen [.tup us] h = .ok (.d (.int us.length)) h := (rfl)
theorem tupR (n : Nat) (xs : List D) (h : Sto) (e : h[n]? = some (.lst xs)) : fTuple [.ref n] h = .ok (.d (.tuple xs)) h := by
  have : seqOf h (.ref n) = some xs := by
    show listOf h (.ref n) = some xs
    simp [e]
  unfold fTuple
  simp only [this]
theorem lisR (b : Bool) (n : Nat) (xs : List D) (h : Sto) (e : h[n]? = some (.lst xs)) : fList b [.ref n] h = mkL b xs h := by
  have : seqOf h (.ref n) = some xs := by
    show listOf h (.ref n) = some xs
    simp [e]
  unfold fList
  simp only [this]
@[simp] theorem tupL (xs : List D) (h : Sto) : fTuple [.d (.list xs)] h = .ok (.d (.tuple xs)) h := (rfl)
@[simp] theorem tupT (xs : List D) (h : Sto) : fTuple [.d (.tuple xs)] h = .ok (.d (.tuple xs)) h := (rfl)
@[simp] theorem lisL (b : Bool) (xs : List D) (h : Sto) : fList b [.d (.list xs)] h = mkL b xs h := (rfl)
@[simp] theorem lisT (b : Bool) (xs : List D) (h : Sto) : fList b [.d (.tuple xs)] h = mkL b xs h := (rfl)
theorem ev_eqBl (n a b : Bool) (h : Sto) : opEqB n (.d (.bool a)) (.d (.bool b)) h = .ok (.d (.bool (xor n (a == b)))) h := by
  cases a <;> cases b <;> cases n <;> rfl
theorem addTT (xs ys : List D) (h : Sto) (hl : xs.length + ys.length ≤ 16777216) : opAdd false (.d (.tuple xs)) (.d (.tuple ys)) h = .ok (.d (.tuple (xs ++ ys))) h := by
  show (if fits (xs.length + ys.length) then _ else Res.stuck) = _
  rw [fits_of hl]
  rfl
theorem cut_to' {α : Type} (l : List α) (n : Nat) : cutD l none (some (n : Int)) = l.take n := by
  unfold cutD
  have h1 : HT.sIx l.length 0 none = 0 := rfl
  rw [h1, HT.sIx_nat]
  simp
/-- the items that pass a test -/
theorem lcGo_yes {t : Tg} {c : Eb} {e : Ev} {env : Env'} {h : Sto} : ∀ {us : List D} {acc : List D}, (∀ u ∈ us, ∃ env1, t (.d u) env h = some env1 ∧ c env1 h = .ok true h ∧ e env1 h = .ok (.d u) h) → acc.length + us.length ≤ 16777216 → lcGo t c e env (us.map .d) acc h = .ok (acc ++ us) h
  | [], acc, _, _ => by simp
  | u :: us, acc, H, hl => by
    obtain ⟨env1, e1, e2, e3⟩ := H u List.mem_cons_self
    rw [List.length_cons] at hl
    have hf : fits (acc.length + 1) = true := fits_of (by omega)
    rw [List.map_cons, ev_lcC, e1]
    simp only [e2, e3, Res.bind_ok, hf, if_true]
    rw [lcGo_yes (fun v hv => H v (List.mem_cons_of_mem _ hv)) (by rw [List.length_append, List.length_singleton]; omega)]
    simp
end Wk

/-! BK: plain bodies walked, and walked backwards. -/
namespace Wk
open PySem L2
/-- backwards: one statement -/
def Smp.inv (k : Smp) (pen : Bool) (ink : Int) : Smp := match k with
  | .ink _ => .ink ink
  | .go v => .go (0 - v)
  | .turn v => .turn (0 - v)
  | _ => if pen then .down else .up
def Smp.pen' (k : Smp) (pen : Bool) : Bool := match k with
  | .up => false
  | .down => true
  | _ => pen
def Smp.ink' (k : Smp) (ink : Int) : Int := match k with
  | .ink v => v % 8
  | _ => ink
def bkw : List Smp → Bool → Int → List Smp
  | [], _, _ => []
  | k :: r, pen, ink => k.inv pen ink :: bkw r (k.pen' pen) (k.ink' ink)
theorem bkw_len : ∀ (l : List Smp) (pen : Bool) (ink : Int), (bkw l pen ink).length = l.length
  | [], _, _ => rfl
  | k :: r, pen, ink => by rw [bkw, List.length_cons, List.length_cons, bkw_len]
theorem bkw_small : ∀ (l : List Smp) (pen : Bool) (ink : Int), (∀ k ∈ l, k.small) → 0 ≤ ink → ink < 8 → ∀ k ∈ bkw l pen ink, k.small
  | [], _, _, _, _, _ => by simp [bkw]
  | k :: r, pen, ink, sm, h0, h1 => by
    intro x hx
    rw [bkw] at hx
    rcases List.mem_cons.mp hx with z | z
    · subst z
      have hk := sm k List.mem_cons_self
      cases k with
      | go v => show Int.natAbs _ ≤ _; have : v.natAbs ≤ 1000000 := hk; omega
      | turn v => show Int.natAbs _ ≤ _; have : v.natAbs ≤ 1000000 := hk; omega
      | ink v => show Int.natAbs _ ≤ _; omega
      | up => cases pen <;> trivial
      | down => cases pen <;> trivial
    · refine bkw_small r _ _ (fun y hy => sm y (List.mem_cons_of_mem _ hy)) ?_ ?_ x z
      · cases k <;> first | exact h0 | exact Int.emod_nonneg _ (show (8 : Int) ≠ 0 by decide)
      · cases k <;> first | exact h1 | exact Int.emod_lt_of_pos _ (show (0 : Int) < 8 by decide)
/-- the hand's core -/
structure Cr where
  spot : P4
  heading : Int
  pen : Bool
  ink : Int
def Smp.cr (k : Smp) (x : Cr) : Cr := match k with
  | .go v => { x with spot := mv x.heading v x.spot }
  | .turn v => { x with heading := (x.heading + v) % 8 }
  | .ink v => { x with ink := v % 8 }
  | .up => { x with pen := false }
  | .down => { x with pen := true }
structure Stk where
  ink : Int
  a : P4
  b : P4
def Stk.e (s : Stk) : D := .tuple [.int s.ink, s.a.e, s.b.e]
def Smp.dr (k : Smp) (x : Cr) : List Stk := match k with
  | .go v => if x.pen = true ∧ v ≠ 0 then [⟨x.ink, x.spot, mv x.heading v x.spot⟩] else []
  | _ => []
def crs : List Smp → Cr → Cr
  | [], x => x
  | k :: r, x => crs r (k.cr x)
def drs : List Smp → Cr → List Stk
  | [], _ => []
  | k :: r, x => k.dr x ++ drs r (k.cr x)
theorem crs_app : ∀ (l m : List Smp) (x : Cr), crs (l ++ m) x = crs m (crs l x)
  | [], _, _ => rfl
  | k :: r, m, x => crs_app r m (k.cr x)
theorem drs_app : ∀ (l m : List Smp) (x : Cr), drs (l ++ m) x = drs l x ++ drs m (crs l x)
  | [], _, _ => rfl
  | k :: r, m, x => by
    show k.dr x ++ drs (r ++ m) (k.cr x) = k.dr x ++ drs r (k.cr x) ++ drs m (crs r (k.cr x))
    rw [drs_app r m, List.append_assoc]
def Cr.ok (x : Cr) : Prop := 0 ≤ x.heading ∧ x.heading < 8 ∧ 0 ≤ x.ink ∧ x.ink < 8
theorem cr_ok {k : Smp} {x : Cr} (h : x.ok) : (k.cr x).ok := by
  obtain ⟨h0, h1, h2, h3⟩ := h
  cases k with
  | go v => exact ⟨h0, h1, h2, h3⟩
  | turn v => exact ⟨Int.emod_nonneg _ (by decide), Int.emod_lt_of_pos _ (by decide), h2, h3⟩
  | ink v => exact ⟨h0, h1, Int.emod_nonneg _ (by decide), Int.emod_lt_of_pos _ (by decide)⟩
  | up => exact ⟨h0, h1, h2, h3⟩
  | down => exact ⟨h0, h1, h2, h3⟩
theorem mv_neg (h v : Int) (p : P4) : mv h (0 - v) (mv h v p) = p := by
  unfold mv
  cases p with
  | mk a b c d =>
    simp only [P4.mk.injEq, Int.sub_mul, Int.zero_mul]
    refine ⟨?_, ?_, ?_, ?_⟩ <;> omega
def Stk.rev (s : Stk) : Stk := ⟨s.ink, s.b, s.a⟩
theorem inv_cr {k : Smp} {x : Cr} (h : x.ok) : (k.inv x.pen x.ink).cr (k.cr x) = x ∧ (k.inv x.pen x.ink).dr (k.cr x) = (k.dr x).map Stk.rev := by
  obtain ⟨h0, h1, h2, h3⟩ := h
  obtain ⟨sp, hd, pn, ik⟩ := x
  cases k with
  | go v =>
    refine ⟨?_, ?_⟩
    · simp only [Smp.inv, Smp.cr, mv_neg]
    · simp only [Smp.inv, Smp.cr, Smp.dr, mv_neg]
      by_cases hv : v = 0
      · subst hv; simp
      · cases pn <;> simp [hv, Stk.rev]
  | turn v =>
    refine ⟨?_, rfl⟩
    simp only [Smp.inv, Smp.cr, Cr.mk.injEq, true_and, and_true]
    show ((hd + v) % 8 + (0 - v)) % 8 = hd
    have : 0 ≤ hd ∧ hd < 8 := ⟨h0, h1⟩
    omega
  | ink v =>
    refine ⟨?_, rfl⟩
    simp only [Smp.inv, Smp.cr, Cr.mk.injEq, true_and]
    exact Int.emod_eq_of_lt h2 h3
  | up => cases pn <;> exact ⟨rfl, rfl⟩
  | down => cases pn <;> exact ⟨rfl, rfl⟩
theorem cr_pen (k : Smp) (x : Cr) : (k.cr x).pen = k.pen' x.pen ∧ (k.cr x).ink = k.ink' x.ink := by cases k <;> exact ⟨rfl, rfl⟩
theorem back_ok : ∀ (l : List Smp) (x : Cr), x.ok → crs (bkw l x.pen x.ink).reverse (crs l x) = x ∧ drs (bkw l x.pen x.ink).reverse (crs l x) = ((drs l x).map Stk.rev).reverse
  | [], x, _ => ⟨rfl, rfl⟩
  | k :: r, x, h => by
    obtain ⟨i1, i2⟩ := back_ok r (k.cr x) (cr_ok h)
    obtain ⟨c1, c2⟩ := cr_pen k x
    rw [c1, c2] at i1 i2
    obtain ⟨j1, j2⟩ := inv_cr (k := k) h
    show crs (k.inv x.pen x.ink :: bkw r (k.pen' x.pen) (k.ink' x.ink)).reverse (crs r (k.cr x)) = x ∧ drs (k.inv x.pen x.ink :: bkw r (k.pen' x.pen) (k.ink' x.ink)).reverse (crs r (k.cr x)) = ((k.dr x ++ drs r (k.cr x)).map Stk.rev).reverse
    rw [List.reverse_cons, crs_app, drs_app, i1, i2]
    refine ⟨j1, ?_⟩
    show _ ++ ((k.inv x.pen x.ink).dr (k.cr x) ++ []) = _
    rw [j2, List.append_nil, List.map_append, List.reverse_append]
    congr 1
    cases k with
    | go v =>
      show ((if _ then _ else _ : List Stk).map Stk.rev) = ((if _ then _ else _ : List Stk).map Stk.rev).reverse
      split <;> rfl
    | _ => rfl
def Hd.cr (x : Hd) : Cr := ⟨x.spot, x.heading, x.down, x.ink⟩
theorem done_cr (k : Smp) (x : Hd) : (k.done x).cr = k.cr x.cr ∧ (k.done x).strokes = x.strokes ++ (k.dr x.cr).map Stk.e ∧ (k.done x).rest = x.rest - 1 := by
  cases k with
  | go v =>
    refine ⟨rfl, ?_, rfl⟩
    show (if x.down = true ∧ v ≠ 0 then x.strokes ++ [.tuple [.int x.ink, x.spot.e, (mv x.heading v x.spot).e]] else x.strokes) = x.strokes ++ (if x.down = true ∧ v ≠ 0 then _ else _ : List Stk).map Stk.e
    split
    · rfl
    · simp
  | _ => exact ⟨rfl, by simp [Smp.dr, Smp.done, Smp.act, Hd.less, Hd.noted], rfl⟩
theorem wk_all : ∀ (l : List Smp) (x : Hd), (l.length : Int) ≤ x.rest → (wk l x).2 = true ∧ (wk l x).1.cr = crs l x.cr ∧ (wk l x).1.strokes = x.strokes ++ (drs l x.cr).map Stk.e
  | [], x, _ => ⟨rfl, rfl, by simp [wk, drs]⟩
  | k :: r, x, h => by
    rw [List.length_cons] at h
    have hr : ¬ x.rest ≤ 0 := by omega
    obtain ⟨d1, d2, d3⟩ := done_cr k x
    obtain ⟨i1, i2, i3⟩ := wk_all r (k.done x) (by rw [d3]; omega)
    rw [wk, if_neg hr]
    refine ⟨i1, ?_, ?_⟩
    · rw [i2, d1]; rfl
    · rw [i3, d2, d1]
      simp [drs]
def cr0 : Cr := ⟨⟨0, 0, 0, 0⟩, 0, true, 0⟩
theorem cr0_ok : cr0.ok := ⟨by decide, by decide, by decide, by decide⟩
theorem crs_ok : ∀ (l : List Smp) {x : Cr}, x.ok → (crs l x).ok
  | [], _, h => h
  | k :: r, _, h => crs_ok r (cr_ok h)
theorem drs_len : ∀ (l : List Smp) (x : Cr), (drs l x).length ≤ l.length
  | [], _ => Nat.le_refl _
  | k :: r, x => by
    have ih := drs_len r (k.cr x)
    show (k.dr x ++ drs r (k.cr x)).length ≤ _
    rw [List.length_append, List.length_cons]
    have : (k.dr x).length ≤ 1 := by
      cases k with
      | go v =>
        show (if _ then _ else _ : List Stk).length ≤ 1
        split <;> simp
      | _ => simp [Smp.dr]
    omega
theorem Stk.shp (s : Stk) : Shp 3 s.e := by
  refine Shp.tuple fun x hx => ?_
  simp only [List.mem_cons, List.not_mem_nil, or_false] at hx
  rcases hx with rfl | rfl | rfl
  · exact .int _ _
  · exact .place _
  · exact .place _
theorem Smp.shp (k : Smp) : Shp 1 k.e := by
  cases k <;> refine Shp.tuple fun x hx => ?_ <;> simp only [List.mem_cons, List.not_mem_nil, or_false] at hx
  · rcases hx with rfl | rfl
    · exact .str _ (by decide +kernel)
    · exact .int _ _
  · rcases hx with rfl | rfl
    · exact .str _ (by decide +kernel)
    · exact .int _ _
  · rcases hx with rfl | rfl
    · exact .str _ (by decide +kernel)
    · exact .int _ _
  · subst hx; exact .str _ (by decide +kernel)
  · subst hx; exact .str _ (by decide +kernel)
end Wk

/-! PG: programs as Lean things, and what the hand does by them. -/
namespace Wk
open PySem L2
/-! ### programs -/
inductive Amt where
  | int (i : Int)
  | cnt (t m : Int)
  | num (t : Int) (k : Nat) (m : Int)
def nName : Nat → Str
  | 0 => "n0"
  | 1 => "n1"
  | 2 => "n2"
  | _ => "n3"
def Amt.e : Amt → D
  | .int i => .int i
  | .cnt t m => .tuple [.int t, .str "count", .int m]
  | .num t k m => .tuple [.int t, .str (nName k), .int m]
def sm6 (i : Int) : Prop := i.natAbs ≤ 1000000
/-- an amount in the body of a word that takes tk numbers -/
def Amt.wf (tk : Nat) : Amt → Prop
  | .int i => sm6 i
  | .cnt t m => sm6 t ∧ sm6 m
  | .num t k m => sm6 t ∧ sm6 m ∧ k < tk ∧ k < 4
inductive Stm where
  | go (a : Amt)
  | turn (a : Amt)
  | ink (a : Amt)
  | up
  | down
  | mark (n : Int)
  | back (n : Int)
  | again (a : Amt) (b : List Stm)
  | iff (a : Amt) (b c : List Stm)
  | call (w : Str) (as : List Amt)
mutual
def Stm.e : Stm → D
  | .go a => .tuple [.str "go", a.e]
  | .turn a => .tuple [.str "turn", a.e]
  | .ink a => .tuple [.str "ink", a.e]
  | .up => .tuple [.str "up"]
  | .down => .tuple [.str "down"]
  | .mark n => .tuple [.str "mark", .int n]
  | .back n => .tuple [.str "back", .int n]
  | .again a b => .tuple [.str "again", a.e, .tuple (bE b)]
  | .iff a b c => .tuple [.str "if", a.e, .tuple (bE b), .tuple (bE c)]
  | .call w as => .tuple [.str "do", .str w, .tuple (as.map Amt.e)]
def bE : List Stm → List D
  | [] => []
  | s :: r => s.e :: bE r
end
theorem bE_map : ∀ b : List Stm, bE b = b.map Stm.e
  | [] => rfl
  | s :: r => by rw [bE, List.map_cons, bE_map r]
/-- words: name, how many numbers, body -/
structure Wrd where
  name : Str
  many : Nat
  body : List Stm
def Wrd.e (w : Wrd) : D := .tuple [.str w.name, .int w.many, .tuple (bE w.body)]
mutual
/-- a statement of a word that takes tk numbers, with the words ws ahead of it -/
def Stm.wf (ws : List Wrd) (tk : Nat) : Stm → Prop
  | .go a => a.wf tk
  | .turn a => a.wf tk
  | .ink a => a.wf tk
  | .up => True
  | .down => True
  | .mark n => 0 ≤ n ∧ n ≤ 9
  | .back n => 0 ≤ n ∧ n ≤ 9
  | .again a b => a.wf tk ∧ bWf ws tk b
  | .iff a b c => a.wf tk ∧ bWf ws tk b ∧ bWf ws tk c
  | .call w as => (∃ x ∈ ws, x.name = w ∧ x.many = as.length) ∧ ∀ a ∈ as, a.wf tk
def bWf (ws : List Wrd) (tk : Nat) : List Stm → Prop
  | [] => True
  | s :: r => s.wf ws tk ∧ bWf ws tk r
/-- how deep agains and ifs stand one within another -/
def Stm.deep : Stm → Nat
  | .again _ b => bDeep b + 1
  | .iff _ b c => max (bDeep b) (bDeep c) + 1
  | _ => 0
def bDeep : List Stm → Nat
  | [] => 0
  | s :: r => max s.deep (bDeep r)
end
/-- the words, the last first: each knows those behind it in the list -/
def wsWf : List Wrd → Prop
  | [] => True
  | w :: r => bWf r w.many w.body ∧ w.many ≤ 4 ∧ bDeep w.body ≤ 3 ∧ (∀ x ∈ r, x.name ≠ w.name) ∧ wsWf r

/-! ### the hand -/
inductive Vb where
  | go
  | turn
  | ink
  | up
  | down
  | mark
  | back
def Vb.s : Vb → Str
  | .go => "go"
  | .turn => "turn"
  | .ink => "ink"
  | .up => "up"
  | .down => "down"
  | .mark => "mark"
  | .back => "back"
def Cr.e (c : Cr) : D := .tuple [c.spot.e, .int c.heading, .bool c.pen, .int c.ink]
structure Nt where
  v : Vb
  i : Int
  c : Cr
def Nt.e (t : Nt) : D := .tuple [.str t.v.s, .int t.i, t.c.e]
abbrev Mks := List (Int × (P4 × Int))
def mget (m : Mks) (k : Int) : Option (P4 × Int) := (m.find? fun z => decide (z.1 = k)).map (·.2)
def mput (m : Mks) (k : Int) (v : P4 × Int) : Mks := if m.any fun z => decide (z.1 = k) then m.map fun z => if z.1 = k then (z.1, v) else z else m ++ [(k, v)]
structure Hn where
  c : Cr
  turns : Int
  rest : Int
  marks : Mks
  strokes : List Stk
  corners : List P4
  plain : List Nt
def mkE (z : Int × (P4 × Int)) : Key × U := (.inl z.1, .d (.tuple [z.2.1.e, .int z.2.2]))
def Hn.h (y : Hn) : Hd := ⟨y.c.spot, y.c.heading, y.c.pen, y.c.ink, y.turns, y.rest, y.marks.map mkE, y.strokes.map Stk.e, y.corners.map P4.e, y.plain.map Nt.e⟩
def Hn.less (y : Hn) : Hn := { y with rest := y.rest - 1 }
def Hn.note (y : Hn) (v : Vb) (i : Int) : Hn := { y with plain := y.plain ++ [⟨v, i, y.c⟩] }
theorem valU_mk (m : Mks) (k : Int) : valU (m.map mkE) (.inl k) = (mget m k).map fun v => .d (.tuple [v.1.e, .int v.2]) := by
  unfold valU mget
  induction m with
  | nil => rfl
  | cons z r ih =>
    by_cases e : z.1 = k
    · simp [mkE, e]
    · simp only [List.map_cons, List.find?_cons]
      have e1 : decide ((mkE z).1 = Sum.inl k) = false := decide_eq_false fun q => e (Sum.inl.inj q)
      have e2 : decide (z.1 = k) = false := decide_eq_false e
      rw [e1, e2]
      exact ih
theorem any_mk (m : Mks) (k : Int) : ((m.map mkE).any fun kv => decide (kv.1 = .inl k)) = m.any fun z => decide (z.1 = k) := by
  induction m with
  | nil => rfl
  | cons z r ih =>
    rw [List.map_cons, List.any_cons, List.any_cons, ih]
    congr 1
    simp [mkE]
theorem putU_mk (m : Mks) (k : Int) (v : P4 × Int) : putU (m.map mkE) (.inl k) (.d (.tuple [v.1.e, .int v.2])) = (mput m k v).map mkE := by
  unfold putU mput
  rw [any_mk]
  split
  · rw [List.map_map, List.map_map]
    refine List.map_congr_left fun z _ => ?_
    by_cases e : z.1 = k
    · simp [mkE, e]
    · have : ¬ (mkE z).1 = .inl k := fun q => e (Sum.inl.inj q)
      simp [this, e]
  · simp [mkE]
theorem mput_len (m : Mks) (k : Int) (v : P4 × Int) : (mput m k v).length ≤ m.length + 1 := by
  unfold mput
  split
  · simp
  · simp
theorem mget_any (m : Mks) (k : Int) : (m.any fun z => decide (z.1 = k)) = (mget m k).isSome := by
  unfold mget
  induction m with
  | nil => rfl
  | cons z r ih =>
    rw [List.any_cons, List.find?_cons]
    cases e : decide (z.1 = k) with
    | true => rfl
    | false => rw [Bool.false_or]; exact ih
/-- what a deed without a body does; none: no such mark -/
def Vb.act (v : Vb) (i : Int) (y : Hn) : Option Hn := match v with
  | .go => some { y with c := { y.c with spot := mv y.c.heading i y.c.spot }, strokes := y.strokes ++ (if y.c.pen = true ∧ i ≠ 0 then [⟨y.c.ink, y.c.spot, mv y.c.heading i y.c.spot⟩] else []), corners := y.corners ++ [mv y.c.heading i y.c.spot] }
  | .turn => some { y with turns := y.turns + i, c := { y.c with heading := (y.c.heading + i) % 8 } }
  | .ink => some { y with c := { y.c with ink := i % 8 } }
  | .up => some { y with c := { y.c with pen := false } }
  | .down => some { y with c := { y.c with pen := true } }
  | .mark => some { y with marks := mput y.marks i (y.c.spot, y.c.heading) }
  | .back => match mget y.marks i with
    | some v => some { y with c := { y.c with spot := v.1, heading := v.2 }, corners := y.corners ++ [v.1] }
    | none => none
/-- whole numbers of the hand within bounds, lists shorter than n -/
structure Hn.ok (y : Hn) (n : Nat) : Prop where
  h0 : 0 ≤ y.c.heading
  h1 : y.c.heading < 8
  m : ∀ z ∈ y.marks, 0 ≤ z.2.2 ∧ z.2.2 < 8
  lm : y.marks.length < n
  ls : y.strokes.length < n
  lc : y.corners.length < n
  lp : y.plain.length < n
theorem Hn.ok.mono {y : Hn} {n m : Nat} (h : y.ok n) (l : n ≤ m) : y.ok m := ⟨h.h0, h.h1, h.m, Nat.lt_of_lt_of_le h.lm l, Nat.lt_of_lt_of_le h.ls l, Nat.lt_of_lt_of_le h.lc l, Nat.lt_of_lt_of_le h.lp l⟩
theorem mget_mem {m : Mks} {k : Int} {v : P4 × Int} (h : mget m k = some v) : (k, v) ∈ m := by
  unfold mget at h
  cases q : m.find? fun z => decide (z.1 = k) with
  | none => rw [q] at h; cases h
  | some z =>
    rw [q] at h
    cases h
    have h1 := List.mem_of_find?_eq_some q
    have h2 : z.1 = k := of_decide_eq_true (List.find?_some (p := fun z : Int × (P4 × Int) => decide (z.1 = k)) q)
    rw [← h2]
    exact h1
theorem mput_mem {m : Mks} {k : Int} {v : P4 × Int} {z : Int × (P4 × Int)} (h : z ∈ mput m k v) : z ∈ m ∨ z = (k, v) := by
  unfold mput at h
  split at h
  · obtain ⟨x, hx, rfl⟩ := List.mem_map.mp h
    by_cases e : x.1 = k
    · right; simp [e]
    · left; simp [e]; exact hx
  · rcases List.mem_append.mp h with q | q
    · exact .inl q
    · exact .inr (List.mem_singleton.mp q)
theorem act_ok {v : Vb} {i : Int} {y z : Hn} {n : Nat} (h : y.ok n) (e : v.act i y = some z) : z.ok (n + 1) := by
  obtain ⟨h0, h1, hm, lm, ls, lc, lp⟩ := h
  cases v with
  | go =>
    cases e
    refine ⟨h0, h1, hm, Nat.lt_succ_of_lt lm, ?_, ?_, Nat.lt_succ_of_lt lp⟩
    · show (y.strokes ++ _).length < _
      rw [List.length_append]
      split <;> simp <;> omega
    · show (y.corners ++ _).length < _
      simp; omega
  | turn => cases e; exact ⟨Int.emod_nonneg _ (by decide), Int.emod_lt_of_pos _ (by decide), hm, Nat.lt_succ_of_lt lm, Nat.lt_succ_of_lt ls, Nat.lt_succ_of_lt lc, Nat.lt_succ_of_lt lp⟩
  | ink => cases e; exact ⟨h0, h1, hm, Nat.lt_succ_of_lt lm, Nat.lt_succ_of_lt ls, Nat.lt_succ_of_lt lc, Nat.lt_succ_of_lt lp⟩
  | up => cases e; exact ⟨h0, h1, hm, Nat.lt_succ_of_lt lm, Nat.lt_succ_of_lt ls, Nat.lt_succ_of_lt lc, Nat.lt_succ_of_lt lp⟩
  | down => cases e; exact ⟨h0, h1, hm, Nat.lt_succ_of_lt lm, Nat.lt_succ_of_lt ls, Nat.lt_succ_of_lt lc, Nat.lt_succ_of_lt lp⟩
  | mark =>
    cases e
    refine ⟨h0, h1, fun z hz => ?_, ?_, Nat.lt_succ_of_lt ls, Nat.lt_succ_of_lt lc, Nat.lt_succ_of_lt lp⟩
    · rcases mput_mem hz with q | q
      · exact hm z q
      · rw [q]; exact ⟨h0, h1⟩
    · have := mput_len y.marks i (y.c.spot, y.c.heading)
      show (mput _ _ _).length < _
      omega
  | back =>
    cases hv : mget y.marks i with
    | none => simp only [Vb.act, hv] at e; cases e
    | some v =>
      simp only [Vb.act, hv] at e
      cases e
      have := hm _ (mget_mem hv)
      refine ⟨this.1, this.2, hm, Nat.lt_succ_of_lt lm, Nat.lt_succ_of_lt ls, ?_, Nat.lt_succ_of_lt lp⟩
      show (y.corners ++ _).length < _
      simp; omega
/-! ### bodies done -/
structure Cl where
  ws : List (Str × List Stm)
  ns : List Int
  ct : Int
def Cl.val (c : Cl) : Amt → Int
  | .int i => i
  | .cnt t m => t * c.ct + m
  | .num t k m => t * c.ns.getD k 0 + m
inductive Rn where
  | ok (y : Hn)
  | exc (e : Str) (y : Hn)
  | out
def Rn.bind (r : Rn) (k : Hn → Rn) : Rn := match r with
  | .ok y => k y
  | .exc e y => .exc e y
  | .out => .out
def great (v : Int) : Bool := decide (1000000 < v.natAbs)
def prim (v : Vb) (i : Int) (y : Hn) : Rn := match v.act i (y.note v i) with
  | some z => .ok z
  | none => .exc "NoMark" (y.note v i)
def iB (S : Stm → Cl → Hn → Rn) : List Stm → Cl → Hn → Rn
  | [], _, y => .ok y
  | s :: r, c, y => (S s c y).bind fun y => iB S r c y
def iAg (B : Cl → Hn → Rn) (c : Cl) : Nat → Nat → Hn → Rn
  | 0, _, y => .ok y
  | m + 1, k, y => if y.rest ≤ 0 then .exc "Stopped" y else (B { c with ct := k } y.less).bind fun y => iAg B c m (k + 1) y
/-- the amounts of a do, none where one is too great -/
def vals (c : Cl) : List Amt → Option (List Int)
  | [] => some []
  | a :: r => if great (c.val a) then none else (vals c r).map (c.val a :: ·)
def wGet (ws : List (Str × List Stm)) (w : Str) : Option (List Stm) := (ws.find? fun z => decide (z.1 = w)).map (·.2)
def iS : Nat → Stm → Cl → Hn → Rn
  | 0, _, _, _ => .out
  | n + 1, s, c, y => if y.rest ≤ 0 then .exc "Stopped" y else match s with
    | .go a => if great (c.val a) then .exc "TooGreat" y.less else prim .go (c.val a) y.less
    | .turn a => if great (c.val a) then .exc "TooGreat" y.less else prim .turn (c.val a) y.less
    | .ink a => if great (c.val a) then .exc "TooGreat" y.less else prim .ink (c.val a) y.less
    | .up => prim .up 0 y.less
    | .down => prim .down 0 y.less
    | .mark i => prim .mark i y.less
    | .back i => prim .back i y.less
    | .again a b => if great (c.val a) then .exc "TooGreat" y.less else iAg (fun c y => iB (iS n) b c y) c (c.val a).toNat 0 y.less
    | .iff a b b' => if great (c.val a) then .exc "TooGreat" y.less else iB (iS n) (if c.val a ≤ 0 then b' else b) c y.less
    | .call w as => match vals c as with
      | none => .exc "TooGreat" y.less
      | some vs => match wGet c.ws w with
        | some b => iB (iS n) b ⟨c.ws, vs, 0⟩ y.less
        | none => .out
def Rn.hn : Rn → Option Hn
  | .ok y => some y
  | .exc _ y => some y
  | .out => none
end Wk

/-! RN: the hand and what surrounds it in the store, while bodies are done. -/
namespace Wk
open PySem L2
theorem hset_app {n : Nat} {x : Hd} {h t : Sto} (hl : n + 4 < h.length) : hset n x h ++ t = hset n x (h ++ t) := by
  apply List.ext_getElem?
  intro i
  rw [hset_get (by rw [List.length_append]; omega)]
  by_cases hi : i < h.length
  · rw [List.getElem?_append_left (by rw [hset_len]; exact hi), hset_get hl, List.getElem?_append_left hi]
  · rw [List.getElem?_append_right (by rw [hset_len]; omega), hset_len, List.getElem?_append_right (by omega)]
    rw [if_neg (by omega), if_neg (by omega), if_neg (by omega), if_neg (by omega), if_neg (by omega)]
theorem HS.app {n : Nat} {x : Hd} {h : Sto} (s : HS n x h) (t : Sto) : HS n x (h ++ t) := by
  have hl := s.lt
  refine ⟨?_, ?_, ?_, ?_, ?_⟩
  · rw [List.getElem?_append_left (by omega)]; exact s.o
  · rw [List.getElem?_append_left (by omega)]; exact s.m
  · rw [List.getElem?_append_left (by omega)]; exact s.s
  · rw [List.getElem?_append_left (by omega)]; exact s.c
  · rw [List.getElem?_append_left (by omega)]; exact s.p
theorem hset_two {n : Nat} {x y : Hd} {h t u : Sto} (hl : n + 4 < h.length) : hset n x (hset n y (h ++ t) ++ u) = hset n x (h ++ (t ++ u)) := by
  rw [hset_app (by rw [List.length_append]; omega), hset_hset (by rw [List.length_append, List.length_append]; omega), List.append_assoc]
def wE (z : Str × List Stm) : Key × U := (.inr z.1, .d (.tuple (bE z.2)))
theorem valU_wE (ws : List (Str × List Stm)) (w : Str) : valU (ws.map wE) (.inr w) = (wGet ws w).map fun b => .d (.tuple (bE b)) := by
  unfold valU wGet
  induction ws with
  | nil => rfl
  | cons z r ih =>
    rw [List.map_cons, List.find?_cons, List.find?_cons]
    by_cases e : z.1 = w
    · have e1 : decide ((wE z).1 = Sum.inr w) = true := decide_eq_true (by simp [wE, e])
      have e2 : decide (z.1 = w) = true := decide_eq_true e
      rw [e1, e2]
      rfl
    · have e1 : decide ((wE z).1 = Sum.inr w) = false := decide_eq_false fun q => e (Sum.inr.inj q)
      have e2 : decide (z.1 = w) = false := decide_eq_false e
      rw [e1, e2]
      exact ih
/-- the call at c, its words at wd -/
structure CS (n wd c : Nat) (cl : Cl) (h : Sto) : Prop where
  w : h[wd]? = some (.dct (cl.ws.map wE))
  k : h[c]? = some (.ins "Call" (cfs (.ref wd) (cl.ns.map PyData.int) (.int cl.ct)))
  dw : wd < n ∨ n + 4 < wd
  dc : c < n ∨ n + 4 < c
theorem CS.keep {n wd c : Nat} {cl : Cl} {h t : Sto} {x : Hd} (s : CS n wd c cl h) (hl : n + 4 < h.length) : CS n wd c cl (hset n x (h ++ t)) := by
  have h1 := (List.getElem?_eq_some_iff.mp s.w).1
  have h2 := (List.getElem?_eq_some_iff.mp s.k).1
  have d1 := s.dw
  have d2 := s.dc
  refine ⟨?_, ?_, s.dw, s.dc⟩
  · rw [hset_get (by rw [List.length_append]; omega), if_neg (by omega), if_neg (by omega), if_neg (by omega), if_neg (by omega), if_neg (by omega), List.getElem?_append_left h1]
    exact s.w
  · rw [hset_get (by rw [List.length_append]; omega), if_neg (by omega), if_neg (by omega), if_neg (by omega), if_neg (by omega), if_neg (by omega), List.getElem?_append_left h2]
    exact s.k
/-- what a function did to the store with the hand at n -/
def RHd (n : Nat) (h : Sto) (r : Res U) : Rn → Prop
  | .ok y => ∃ t, r = .ok (.d .none) (hset n y.h (h ++ t))
  | .exc e y => ∃ t, r = .exc e (hset n y.h (h ++ t))
  | .out => True
/-- words of a program: all that stand in its dict -/
structure GW (ws : List Wrd) : Prop where
  b : ∀ x ∈ ws, bWf ws x.many x.body
  u : ∀ x ∈ ws, ∀ y ∈ ws, x.name = y.name → x = y
def dictW (ws : List Wrd) : List (Str × List Stm) := ws.map fun x => (x.name, x.body)
theorem wGet_dict {ws : List Wrd} (u : ∀ x ∈ ws, ∀ y ∈ ws, x.name = y.name → x = y) {x : Wrd} (hx : x ∈ ws) : wGet (dictW ws) x.name = some x.body := by
  unfold wGet dictW
  rw [List.find?_map]
  cases q : ws.find? ((fun z : Str × List Stm => decide (z.1 = x.name)) ∘ fun x => (x.name, x.body)) with
  | none =>
    have := List.find?_eq_none.mp q x hx
    simp at this
  | some y =>
    have h1 := List.mem_of_find?_eq_some q
    have h2 := List.find?_some q
    simp only [Function.comp] at h2
    have h3 := of_decide_eq_true h2
    rw [u y h1 x hx h3]
    rfl
/-- bounds while deeds are done -/
structure Hn.iv (y : Hn) : Prop where
  r : y.rest ≤ 50000
  o : y.ok (99000 - y.rest.toNat)
theorem Hn.iv.less {y : Hn} (h : y.iv) (hr : ¬ y.rest ≤ 0) : y.less.iv := by
  have h1 : y.less.rest = y.rest - 1 := rfl
  refine ⟨by rw [h1]; have := h.r; omega, ?_⟩
  have o := h.o
  rw [h1]
  exact ⟨o.h0, o.h1, o.m, by have := o.lm; show y.marks.length < _; omega, by have := o.ls; show y.strokes.length < _; omega, by have := o.lc; show y.corners.length < _; omega, by have := o.lp; show y.plain.length < _; omega⟩
theorem note_ok {y : Hn} {v : Vb} {i : Int} {k : Nat} (h : y.ok k) : (y.note v i).ok (k + 1) := ⟨h.h0, h.h1, h.m, Nat.lt_succ_of_lt h.lm, Nat.lt_succ_of_lt h.ls, Nat.lt_succ_of_lt h.lc, by
  show (y.plain ++ _).length < _
  rw [List.length_append, List.length_singleton]
  have := h.lp
  omega⟩
theorem act_len {v : Vb} {i : Int} {y z : Hn} (e : v.act i y = some z) : z.rest = y.rest ∧ z.plain = y.plain := by
  cases v with
  | back =>
    cases hv : mget y.marks i with
    | none => simp only [Vb.act, hv] at e; cases e
    | some v =>
      simp only [Vb.act, hv] at e
      cases e
      exact ⟨rfl, rfl⟩
  | _ => cases e; exact ⟨rfl, rfl⟩
/-- a deed without a body, counted -/
theorem prim_iv {v : Vb} {i : Int} {y z : Hn} (h : y.iv) (hr : ¬ y.rest ≤ 0) (e : v.act i (y.less.note v i) = some z) : z.iv := by
  have o := h.o
  have hl : (y.less.note v i).rest = y.rest - 1 := rfl
  obtain ⟨e1, e2⟩ := act_len e
  have hr' := h.r
  refine ⟨by rw [e1, hl]; omega, ?_⟩
  have o1 : ({ y.less with plain := [] } : Hn).ok (99000 - y.rest.toNat) := ⟨o.h0, o.h1, o.m, o.lm, o.ls, o.lc, by have := o.lp; show 0 < _; omega⟩
  have e' : v.act i { y.less with plain := [] } = some { z with plain := [] } := by
    cases v with
    | back =>
      cases hv : mget y.marks i with
      | none =>
        have hv' : mget (y.less.note Vb.back i).marks i = none := hv
        simp only [Vb.act, hv'] at e
        cases e
      | some v =>
        have hv' : mget (y.less.note Vb.back i).marks i = some v := hv
        have hv2 : mget ({ y.less with plain := [] } : Hn).marks i = some v := hv
        simp only [Vb.act, hv'] at e
        simp only [Vb.act, hv2]
        cases e
        rfl
    | _ => cases e; rfl
  have o2 := act_ok o1 e'
  have ln : (y.less.note v i).plain.length = y.plain.length + 1 := by
    show (y.plain ++ _).length = _
    rw [List.length_append, List.length_singleton]
  have hz : 99000 - z.rest.toNat = 99000 - y.rest.toNat + 1 := by rw [e1, hl]; omega
  rw [hz]
  exact ⟨o2.h0, o2.h1, o2.m, o2.lm, o2.ls, o2.lc, by rw [e2, ln]; have := o.lp; omega⟩
theorem note_iv {v : Vb} {i : Int} {y : Hn} (h : y.iv) (hr : ¬ y.rest ≤ 0) : (y.less.note v i).iv := by
  have hr' := h.r
  have hl : (y.less.note v i).rest = y.rest - 1 := rfl
  refine ⟨by rw [hl]; omega, ?_⟩
  have := note_ok (v := v) (i := i) (y := y.less) (k := 99000 - y.rest.toNat) ⟨h.o.h0, h.o.h1, h.o.m, h.o.lm, h.o.ls, h.o.lc, h.o.lp⟩
  rw [hl, show 99000 - (y.rest - 1).toNat = 99000 - y.rest.toNat + 1 by omega]
  exact this
def riv : Rn → Prop
  | .ok y => y.iv
  | .exc _ y => y.iv
  | .out => True
theorem prim_riv {v : Vb} {i : Int} {y : Hn} (h : y.iv) (hr : ¬ y.rest ≤ 0) : riv (prim v i y.less) := by
  unfold prim
  split
  · rename_i z e
    exact prim_iv h hr e
  · exact note_iv h hr
theorem iB_riv {S : Stm → Cl → Hn → Rn} (hS : ∀ s c y, y.iv → riv (S s c y)) : ∀ (b : List Stm) (c : Cl) (y : Hn), y.iv → riv (iB S b c y)
  | [], _, y, h => h
  | s :: r, c, y, h => by
    have h1 := hS s c y h
    unfold iB
    cases q : S s c y with
    | ok z => rw [q] at h1; exact iB_riv hS r c z h1
    | exc e z => rw [q] at h1; exact h1
    | out => trivial
theorem iAg_riv {B : Cl → Hn → Rn} (hB : ∀ c y, y.iv → riv (B c y)) (c : Cl) : ∀ (m k : Nat) (y : Hn), y.iv → riv (iAg B c m k y)
  | 0, _, y, h => h
  | m + 1, k, y, h => by
    unfold iAg
    by_cases hr : y.rest ≤ 0
    · rw [if_pos hr]; exact h
    · rw [if_neg hr]
      have h1 := hB { c with ct := k } y.less (h.less hr)
      cases q : B { c with ct := k } y.less with
      | ok z => rw [q] at h1; exact iAg_riv hB c m (k + 1) z h1
      | exc e z => rw [q] at h1; exact h1
      | out => trivial
theorem iS_riv : ∀ (n : Nat) (s : Stm) (c : Cl) (y : Hn), y.iv → riv (iS n s c y)
  | 0, _, _, _, _ => trivial
  | n + 1, s, c, y, h => by
    have ih := fun b c y => iB_riv (S := iS n) (iS_riv n) b c y
    unfold iS
    by_cases hr : y.rest ≤ 0
    · rw [if_pos hr]; exact h
    · rw [if_neg hr]
      have hl := h.less hr
      cases s with
      | go a => dsimp only; split; exact hl; exact prim_riv h hr
      | turn a => dsimp only; split; exact hl; exact prim_riv h hr
      | ink a => dsimp only; split; exact hl; exact prim_riv h hr
      | up => exact prim_riv h hr
      | down => exact prim_riv h hr
      | mark i => exact prim_riv h hr
      | back i => exact prim_riv h hr
      | again a b => dsimp only; split; exact hl; exact iAg_riv (fun c y hy => ih b c y hy) c _ _ _ hl
      | iff a b b' => dsimp only; split; exact hl; exact ih _ _ _ hl
      | call w as =>
        dsimp only
        split
        · exact hl
        · split
          · exact ih _ _ _ hl
          · trivial
theorem lc_words (w : U) (ns : List D) (k : D) : (cfs w ns k).lookup ("words" : Str) = some w := by with_unfolding_all rfl
theorem lc_numbers (w : U) (ns : List D) (k : D) : (cfs w ns k).lookup ("numbers" : Str) = some (.d (.list ns)) := by with_unfolding_all rfl
theorem lc_count (w : U) (ns : List D) (k : D) : (cfs w ns k).lookup ("count" : Str) = some (.d k) := by with_unfolding_all rfl
theorem lc_source (w : U) (ns : List D) (k : D) : (cfs w ns k).lookup ("source_value" : Str) = none := by with_unfolding_all rfl
/-! ### there is room enough -/
mutual
theorem Stm.wf_mono {r r' : List Wrd} {tk : Nat} (h : ∀ x ∈ r, x ∈ r') : ∀ (s : Stm), s.wf r tk → s.wf r' tk
  | .go _, w => by rw [Stm.wf] at w ⊢; exact w
  | .turn _, w => by rw [Stm.wf] at w ⊢; exact w
  | .ink _, w => by rw [Stm.wf] at w ⊢; exact w
  | .up, _ => by rw [Stm.wf]; trivial
  | .down, _ => by rw [Stm.wf]; trivial
  | .mark _, w => by rw [Stm.wf] at w ⊢; exact w
  | .back _, w => by rw [Stm.wf] at w ⊢; exact w
  | .again _ b, w => by rw [Stm.wf] at w ⊢; exact ⟨w.1, bWf_mono h b w.2⟩
  | .iff _ b c, w => by rw [Stm.wf] at w ⊢; exact ⟨w.1, bWf_mono h b w.2.1, bWf_mono h c w.2.2⟩
  | .call _ _, w => by
    rw [Stm.wf] at w ⊢
    obtain ⟨⟨x, hx, e⟩, q⟩ := w
    exact ⟨⟨x, h x hx, e⟩, q⟩
theorem bWf_mono {r r' : List Wrd} {tk : Nat} (h : ∀ x ∈ r, x ∈ r') : ∀ (b : List Stm), bWf r tk b → bWf r' tk b
  | [], _ => by rw [bWf]; trivial
  | s :: b, w => by rw [bWf] at w ⊢; exact ⟨Stm.wf_mono h s w.1, bWf_mono h b w.2⟩
end
theorem wsWf_at : ∀ {r : List Wrd}, wsWf r → ∀ {x : Wrd}, x ∈ r → ∃ r', wsWf r' ∧ r'.length < r.length ∧ bWf r' x.many x.body ∧ bDeep x.body ≤ 3 ∧ x.many ≤ 4 ∧ ∀ z ∈ r', z ∈ r
  | w :: r, h, x, hx => by
    obtain ⟨h1, h2, h3, h4, h5⟩ := h
    rcases List.mem_cons.mp hx with e | e
    · subst e
      exact ⟨r, h5, Nat.lt_succ_self _, h1, h3, h2, fun z hz => List.mem_cons_of_mem _ hz⟩
    · obtain ⟨r', k1, k2, k3, k4, k5, k6⟩ := wsWf_at h5 e
      exact ⟨r', k1, Nat.lt_succ_of_lt k2, k3, k4, k5, fun z hz => List.mem_cons_of_mem _ (k6 z hz)⟩
theorem wsWf_uniq : ∀ {r : List Wrd}, wsWf r → ∀ x ∈ r, ∀ y ∈ r, x.name = y.name → x = y
  | w :: r, h, x, hx, y, hy, e => by
    obtain ⟨h1, h2, h3, h4, h5⟩ := h
    rcases List.mem_cons.mp hx with ex | ex <;> rcases List.mem_cons.mp hy with ey | ey
    · rw [ex, ey]
    · subst ex; exact absurd e.symm (h4 y ey)
    · subst ey; exact absurd e (h4 x ex)
    · exact wsWf_uniq h5 x ex y ey e
theorem wsWf_gw {r all : List Wrd} (h : wsWf r) (e : ∀ x, x ∈ all ↔ x ∈ r) : GW all := by
  refine ⟨fun x hx => ?_, fun x hx y hy => wsWf_uniq h x ((e x).mp hx) y ((e y).mp hy)⟩
  obtain ⟨r', k1, k2, k3, k4, k5, k6⟩ := wsWf_at h ((e x).mp hx)
  exact bWf_mono (fun z hz => (e z).mpr (k6 z hz)) _ k3
theorem bDeep_le {s : Stm} : ∀ {b : List Stm}, s ∈ b → s.deep ≤ bDeep b
  | t :: b, h => by
    rw [bDeep]
    rcases List.mem_cons.mp h with e | e
    · subst e; exact Nat.le_max_left _ _
    · exact Nat.le_trans (bDeep_le e) (Nat.le_max_right _ _)
theorem bWf_mem {r : List Wrd} {tk : Nat} {s : Stm} : ∀ {b : List Stm}, bWf r tk b → s ∈ b → s.wf r tk
  | t :: b, w, h => by
    rw [bWf] at w
    rcases List.mem_cons.mp h with e | e
    · subst e; exact w.1
    · exact bWf_mem w.2 e
theorem iB_in {S : Stm → Cl → Hn → Rn} {c : Cl} : ∀ {b : List Stm} {y : Hn}, (∀ s ∈ b, ∀ y, S s c y ≠ .out) → iB S b c y ≠ .out
  | [], y, _ => fun z => nomatch z
  | s :: r, y, h => by
    unfold iB
    cases q : S s c y with
    | out => exact absurd q (h s List.mem_cons_self y)
    | exc e z => exact fun z => nomatch z
    | ok z => exact iB_in fun t ht y => h t (List.mem_cons_of_mem _ ht) y
theorem iAg_in {B : Cl → Hn → Rn} {c : Cl} (hB : ∀ k y, B { c with ct := k } y ≠ .out) : ∀ {m k : Nat} {y : Hn}, iAg B c m k y ≠ .out
  | 0, _, _ => fun z => nomatch z
  | m + 1, k, y => by
    unfold iAg
    split
    · exact fun z => nomatch z
    · cases q : B { c with ct := k } y.less with
      | out => exact absurd q (hB _ _)
      | exc e z => exact fun z => nomatch z
      | ok z => exact iAg_in hB
theorem prim_in {v : Vb} {i : Int} {y : Hn} : prim v i y ≠ .out := by
  unfold prim
  split <;> exact fun z => nomatch z
theorem iS_in : ∀ (n : Nat) (s : Stm) (c : Cl) (y : Hn) (r : List Wrd) (tk : Nat), wsWf r → (∀ x ∈ r, wGet c.ws x.name = some x.body) → s.wf r tk → s.deep + 1 + 4 * r.length ≤ n → iS n s c y ≠ .out
  | 0, _, _, _, _, _, _, _, _, h => by omega
  | n + 1, s, c, y, r, tk, wr, hw, wf, h => by
    unfold iS
    split
    · exact fun z => nomatch z
    · cases s with
      | go a => dsimp only; split; exact fun z => nomatch z; exact prim_in
      | turn a => dsimp only; split; exact fun z => nomatch z; exact prim_in
      | ink a => dsimp only; split; exact fun z => nomatch z; exact prim_in
      | up => exact prim_in
      | down => exact prim_in
      | mark i => exact prim_in
      | back i => exact prim_in
      | again a b =>
        dsimp only
        rw [Stm.wf] at wf
        rw [Stm.deep] at h
        split
        · exact fun z => nomatch z
        · exact iAg_in fun k y => iB_in fun t ht y => iS_in n t _ y r tk wr hw (bWf_mem wf.2 ht) (by have := bDeep_le ht; omega)
      | iff a b b' =>
        dsimp only
        rw [Stm.wf] at wf
        rw [Stm.deep] at h
        split
        · exact fun z => nomatch z
        · refine iB_in fun t ht y => ?_
          split at ht
          · exact iS_in n t _ y r tk wr hw (bWf_mem wf.2.2 ht) (by have := bDeep_le ht; omega)
          · exact iS_in n t _ y r tk wr hw (bWf_mem wf.2.1 ht) (by have := bDeep_le ht; omega)
      | call w as =>
        dsimp only
        rw [Stm.wf] at wf
        obtain ⟨⟨x, hx, hxn, hxm⟩, _⟩ := wf
        split
        · exact fun z => nomatch z
        · have hg := hw x hx
          rw [hxn] at hg
          rw [hg]
          dsimp only
          obtain ⟨r', k1, k2, k3, k4, k5, k6⟩ := wsWf_at wr hx
          refine iB_in fun t ht y => iS_in n t _ y r' x.many k1 (fun z hz => hw z (k6 z hz)) (bWf_mem k3 ht) ?_
          have := bDeep_le ht
          omega
/-! ### the names of what is raised -/
def okE : Rn → Prop
  | .exc e _ => e = "Stopped" ∨ e = "TooGreat" ∨ e = "NoMark"
  | _ => True
theorem prim_okE {v : Vb} {i : Int} {y : Hn} : okE (prim v i y) := by
  unfold prim
  split
  · trivial
  · exact .inr (.inr rfl)
theorem iB_okE {S : Stm → Cl → Hn → Rn} (hS : ∀ s c y, okE (S s c y)) : ∀ (b : List Stm) (c : Cl) (y : Hn), okE (iB S b c y)
  | [], _, _ => trivial
  | s :: r, c, y => by
    unfold iB
    have h1 := hS s c y
    cases q : S s c y with
    | out => trivial
    | exc e z => rw [q] at h1; exact h1
    | ok z => exact iB_okE hS r c z
theorem iAg_okE {B : Cl → Hn → Rn} (hB : ∀ c y, okE (B c y)) (c : Cl) : ∀ (m k : Nat) (y : Hn), okE (iAg B c m k y)
  | 0, _, _ => trivial
  | m + 1, k, y => by
    unfold iAg
    split
    · exact .inl rfl
    · have h1 := hB { c with ct := k } y.less
      cases q : B { c with ct := k } y.less with
      | out => trivial
      | exc e z => rw [q] at h1; exact h1
      | ok z => exact iAg_okE hB c m (k + 1) z
theorem iS_okE : ∀ (n : Nat) (s : Stm) (c : Cl) (y : Hn), okE (iS n s c y)
  | 0, _, _, _ => trivial
  | n + 1, s, c, y => by
    have ih := fun b c y => iB_okE (S := iS n) (iS_okE n) b c y
    unfold iS
    split
    · exact .inl rfl
    · cases s with
      | go a => dsimp only; split; exact .inr (.inl rfl); exact prim_okE
      | turn a => dsimp only; split; exact .inr (.inl rfl); exact prim_okE
      | ink a => dsimp only; split; exact .inr (.inl rfl); exact prim_okE
      | up => exact prim_okE
      | down => exact prim_okE
      | mark i => exact prim_okE
      | back i => exact prim_okE
      | again a b => dsimp only; split; exact .inr (.inl rfl); exact iAg_okE (fun c y => ih b c y) c _ _ _
      | iff a b b' => dsimp only; split; exact .inr (.inl rfl); exact ih _ _ _
      | call w as =>
        dsimp only
        split
        · exact .inr (.inl rfl)
        · split
          · exact ih _ _ _
          · trivial
/-- a run by so many deeds -/
def hn0 (most : Int) : Hn := ⟨cr0, 0, most, [], [], [⟨0, 0, 0, 0⟩], []⟩
theorem hn0_h (most : Int) : (hn0 most).h = hd0 most := rfl
theorem hn0_iv {most : Int} (h : most ≤ 50000) : (hn0 most).iv := ⟨h, by
  show (hn0 most).ok (99000 - most.toNat)
  have : most.toNat ≤ 50000 := by omega
  exact ⟨Int.le_refl 0, show (0 : Int) < 8 by decide, by simp [hn0], by show 0 < _; omega, by show 0 < _; omega, by show 1 < _; omega, by show 0 < _; omega⟩⟩
def runR (ws : List Wrd) (b : List Stm) (most : Int) : Rn := iB (iS 49) b ⟨dictW ws, [], 0⟩ (hn0 most)
/-- a good program: its words, its body -/
structure GP (ws : List Wrd) (b : List Stm) : Prop where
  w : wsWf ws.reverse
  l : ws.length ≤ 6
  f : bWf ws 0 b
  d : bDeep b ≤ 4
theorem GP.gw {ws : List Wrd} {b : List Stm} (g : GP ws b) : GW ws := wsWf_gw g.w fun x => List.mem_reverse.symm
theorem GP.in_ {ws : List Wrd} {b : List Stm} (g : GP ws b) (most : Int) : runR ws b most ≠ .out := by
  refine iB_in fun s hs y => iS_in 49 s _ y ws.reverse 0 g.w (fun x hx => wGet_dict g.gw.u (List.mem_reverse.mp hx)) (Stm.wf_mono (fun x hx => List.mem_reverse.mpr hx) s (bWf_mem g.f hs)) ?_
  have := bDeep_le hs
  have := g.d
  have := g.l
  rw [List.length_reverse]
  omega
theorem GP.many {ws : List Wrd} {b : List Stm} (g : GP ws b) : ∀ x ∈ ws, x.many ≤ 900 := fun x hx => by
  obtain ⟨r', k1, k2, k3, k4, k5, k6⟩ := wsWf_at g.w (List.mem_reverse.mpr hx)
  omega
def progE (ws : List Wrd) (b : List Stm) : D := .tuple [.tuple (ws.map Wrd.e), .tuple (bE b)]
end Wk

/-! PG2: what the laws' own programs are like; a deck that is drawn from. -/
namespace Wk
open PySem L2
def Amt.cn (i : Bool) : Amt → Prop
  | .cnt _ _ => i = true
  | _ => True
def Amt.sml : Amt → Prop
  | .int i => -9 ≤ i ∧ i ≤ 9
  | .cnt t m => (-3 ≤ t ∧ t ≤ 3) ∧ -3 ≤ m ∧ m ≤ 3
  | .num t _ m => (-3 ≤ t ∧ t ≤ 3) ∧ -3 ≤ m ∧ m ≤ 3
mutual
/-- count stands only within an again -/
def Stm.cn (i : Bool) : Stm → Prop
  | .go a => a.cn i
  | .turn a => a.cn i
  | .ink a => a.cn i
  | .again a b => a.cn i ∧ bCn true b
  | .iff a b c => a.cn i ∧ bCn i b ∧ bCn i c
  | .call _ as => ∀ a ∈ as, a.cn i
  | _ => True
def bCn (i : Bool) : List Stm → Prop
  | [] => True
  | s :: r => s.cn i ∧ bCn i r
def Stm.sml : Stm → Prop
  | .go a => a.sml
  | .turn a => a.sml
  | .ink a => a.sml
  | .again a b => a.sml ∧ bSml b
  | .iff a b c => a.sml ∧ bSml b ∧ bSml c
  | .call _ as => ∀ a ∈ as, a.sml
  | _ => True
def bSml : List Stm → Prop
  | [] => True
  | s :: r => s.sml ∧ bSml r
def Stm.size : Stm → Nat
  | .again _ b => bSize b + 1
  | .iff _ b c => bSize b + bSize c + 1
  | _ => 1
def bSize : List Stm → Nat
  | [] => 0
  | s :: r => s.size + bSize r
end
/-- all that the laws' drawn statements are -/
structure Stm.gd (ws : List Wrd) (tk : Nat) (i : Bool) (d : Nat) (s : Stm) : Prop where
  w : s.wf ws tk
  c : s.cn i
  m : s.sml
  d : s.deep ≤ d
structure bGd (ws : List Wrd) (tk : Nat) (i : Bool) (d : Nat) (b : List Stm) : Prop where
  w : bWf ws tk b
  c : bCn i b
  m : bSml b
  d : bDeep b ≤ d
theorem bGd.nil {ws : List Wrd} {tk : Nat} {i : Bool} {d : Nat} : bGd ws tk i d [] := ⟨by rw [bWf]; trivial, by rw [bCn]; trivial, by rw [bSml]; trivial, by rw [bDeep]; exact Nat.zero_le _⟩
theorem bWf_app {ws : List Wrd} {tk : Nat} : ∀ {b c : List Stm}, bWf ws tk b → bWf ws tk c → bWf ws tk (b ++ c)
  | [], _, _, h => h
  | s :: r, c, h, h' => by
    rw [bWf] at h
    rw [List.cons_append, bWf]
    exact ⟨h.1, bWf_app h.2 h'⟩
theorem bCn_app {i : Bool} : ∀ {b c : List Stm}, bCn i b → bCn i c → bCn i (b ++ c)
  | [], _, _, h => h
  | s :: r, c, h, h' => by
    rw [bCn] at h
    rw [List.cons_append, bCn]
    exact ⟨h.1, bCn_app h.2 h'⟩
theorem bSml_app : ∀ {b c : List Stm}, bSml b → bSml c → bSml (b ++ c)
  | [], _, _, h => h
  | s :: r, c, h, h' => by
    rw [bSml] at h
    rw [List.cons_append, bSml]
    exact ⟨h.1, bSml_app h.2 h'⟩
theorem bDeep_app {d : Nat} : ∀ {b c : List Stm}, bDeep b ≤ d → bDeep c ≤ d → bDeep (b ++ c) ≤ d
  | [], _, _, h => h
  | s :: r, c, h, h' => by
    rw [bDeep] at h
    rw [List.cons_append, bDeep]
    exact Nat.max_le.mpr ⟨(Nat.max_le.mp h).1, bDeep_app (Nat.max_le.mp h).2 h'⟩
theorem bSize_app : ∀ (b c : List Stm), bSize (b ++ c) = bSize b + bSize c
  | [], c => by rw [List.nil_append, bSize]; omega
  | s :: r, c => by rw [List.cons_append, bSize, bSize, bSize_app r c]; omega
theorem bGd.app {ws : List Wrd} {tk : Nat} {i : Bool} {d : Nat} {b c : List Stm} (h : bGd ws tk i d b) (h' : bGd ws tk i d c) : bGd ws tk i d (b ++ c) := ⟨bWf_app h.w h'.w, bCn_app h.c h'.c, bSml_app h.m h'.m, bDeep_app h.d h'.d⟩
theorem bGd.one {ws : List Wrd} {tk : Nat} {i : Bool} {d : Nat} {s : Stm} (h : s.gd ws tk i d) : bGd ws tk i d [s] := by
  refine ⟨?_, ?_, ?_, ?_⟩
  · rw [bWf, bWf]; exact ⟨h.w, trivial⟩
  · rw [bCn, bCn]; exact ⟨h.c, trivial⟩
  · rw [bSml, bSml]; exact ⟨h.m, trivial⟩
  · rw [bDeep, bDeep]; exact Nat.max_le.mpr ⟨h.d, Nat.zero_le _⟩
theorem bSize_one (s : Stm) : bSize [s] = s.size := by rw [bSize, bSize]; omega
theorem bE_app : ∀ (b c : List Stm), bE (b ++ c) = bE b ++ bE c
  | [], _ => rfl
  | s :: r, c => by rw [List.cons_append, bE, bE, bE_app r c]; rfl
theorem bE_len : ∀ b : List Stm, (bE b).length = b.length
  | [] => rfl
  | s :: r => by rw [bE, List.length_cons, List.length_cons, bE_len r]
theorem len_size : ∀ b : List Stm, b.length ≤ bSize b
  | [] => Nat.zero_le _
  | s :: r => by
    have := len_size r
    rw [bSize, List.length_cons]
    have : 1 ≤ s.size := by cases s <;> simp [Stm.size]
    omega
/-! ### the deck -/
def okD (ds : List Int) : Prop := ∀ c ∈ ds, 0 ≤ c ∧ c < 1000
theorem okD.hd {ds : List Int} (h : okD ds) : 0 ≤ ds.headD 0 ∧ ds.headD 0 < 1000 := by
  cases ds with
  | nil => exact ⟨by decide, by decide⟩
  | cons c r => exact h c List.mem_cons_self
theorem okD.tl {ds : List Int} (h : okD ds) : okD ds.tail := fun c hc => h c (List.mem_of_mem_tail hc)
/-- the store, its deck at n now ds -/
def dst (n : Nat) (ds : List Int) (h t : Sto) : Sto := h.set n (.lst (dk ds)) ++ t
theorem dst_get {n : Nat} {ds : List Int} {h t : Sto} (hn : InS n h) : (dst n ds h t)[n]? = some (.lst (dk ds)) := by
  unfold dst
  rw [List.getElem?_append_left (by rw [List.length_set]; exact hn)]
  exact gs_same hn
theorem dst_in {n m : Nat} {ds : List Int} {h t : Sto} (hn : InS m h) : InS m (dst n ds h t) := by
  unfold InS dst at *
  rw [List.length_append, List.length_set]
  omega
theorem dst_other {n m : Nat} {ds : List Int} {h t : Sto} {o : Ob} (hm : m ≠ n) (e : h[m]? = some o) : (dst n ds h t)[m]? = some o := by
  unfold dst
  rw [List.getElem?_append_left (by rw [List.length_set]; exact (List.getElem?_eq_some_iff.mp e).1), List.getElem?_set_ne (Ne.symm hm)]
  exact e
theorem dst_dst {n : Nat} {ds ds' : List Int} {h t t' : Sto} (hn : InS n h) : dst n ds' (dst n ds h t) t' = dst n ds' h (t ++ t') := by
  unfold dst
  rw [List.set_append_left _ _ (by rw [List.length_set]; exact hn), List.set_set, List.append_assoc]
theorem dst_set {n : Nat} {ds ds' : List Int} {h t : Sto} (hn : InS n h) : (dst n ds h t).set n (.lst (dk ds')) = dst n ds' h t := by
  unfold dst
  rw [List.set_append_left _ _ (by rw [List.length_set]; exact hn), List.set_set]
theorem dst_nil {n : Nat} {ds : List Int} {h : Sto} : h.set n (.lst (dk ds)) = dst n ds h [] := by
  unfold dst
  rw [List.append_nil]
theorem dst_self {n : Nat} {ds : List Int} {h : Sto} (e : h[n]? = some (.lst (dk ds))) : dst n ds h [] = h := by
  unfold dst
  rw [List.append_nil, set_self e]
theorem ixRf {n : Nat} {h : Sto} {xs : List D} (e : h[n]? = some (.lst xs)) (i : Int) : opIx (.ref n) (.d (.int i)) h = match atI xs i with | some x => .ok (.d x) h | none => .stuck := by
  unfold opIx
  simp only [ev_intOf, tupOf, ev_lstR, e]
  all_goals (cases atI xs i <;> rfl)
theorem addRfL {n : Nat} {h : Sto} {xs ys : List D} (e : h[n]? = some (.lst xs)) (hl : xs.length + ys.length ≤ 16777216) : opAdd false (.ref n) (.d (.list ys)) h = .ok (.d (.list (xs ++ ys))) h := by
  unfold opAdd
  simp only [intOf, tupOf, strOf, ev_lstR, e, ev_lstD, fits_of hl, if_true]
  rfl
def wNames : List Str := ["leaf", "go", "x", "star", "turn", "backward"]
def wSize : List Wrd → Nat
  | [] => 0
  | w :: r => bSize w.body + wSize r
theorem wSize_app : ∀ (a b : List Wrd), wSize (a ++ b) = wSize a + wSize b
  | [], b => by rw [List.nil_append, wSize]; omega
  | w :: r, b => by rw [List.cons_append, wSize, wSize, wSize_app r b]; omega
/-- a drawn program, beyond what GP tells -/
structure GX (ws : List Wrd) (b : List Stm) (most : Nat) : Prop where
  g : GP ws b
  c : bCn false b
  m : bSml b
  wc : ∀ x ∈ ws, bCn false x.body
  wm : ∀ x ∈ ws, bSml x.body
  sz : bSize b + wSize ws ≤ most
  nm : ws.map Wrd.name = wNames.take ws.length
theorem nm_new {ws : List Wrd} (h : ws.map Wrd.name = wNames.take ws.length) (l : ws.length < 6) {z : Str} (hz : wNames[ws.length]? = some z) : ∀ x ∈ ws, x.name ≠ z := by
  intro x hx e
  have hm : x.name ∈ wNames.take ws.length := by rw [← h]; exact List.mem_map.mpr ⟨x, hx, rfl⟩
  rw [e] at hm
  obtain ⟨i, hi, ei⟩ := List.getElem_of_mem hm
  rw [List.getElem_take] at ei
  rw [List.length_take] at hi
  obtain ⟨hj, ej⟩ := List.getElem?_eq_some_iff.mp hz
  have e2 : wNames[i]'(by omega) = wNames[ws.length] := ei.trans ej.symm
  have key : ∀ i j : Fin 6, wNames[i.1]'(i.2) = wNames[j.1]'(j.2) → i = j := by decide
  have := congrArg Fin.val (key ⟨i, by omega⟩ ⟨ws.length, l⟩ e2)
  simp at this
  omega
end Wk

/-! SIM: programs with amounts so many times over, and how their runs go along with the first one's. -/
namespace Wk
open PySem L2
def Amt.mul (k : Int) : Amt → Amt
  | .int i => .int (i * k)
  | .cnt t m => .cnt (t * k) (m * k)
  | .num t j m => .num (t * k) j (m * k)
theorem val_mul (c : Cl) (k : Int) (a : Amt) : c.val (a.mul k) = c.val a * k := by
  cases a with
  | int i => rfl
  | cnt t m =>
    show t * k * c.ct + m * k = (t * c.ct + m) * k
    rw [Int.add_mul, Int.mul_right_comm]
  | num t j m =>
    show t * k * c.ns.getD j 0 + m * k = (t * c.ns.getD j 0 + m) * k
    rw [Int.add_mul, Int.mul_right_comm]
theorem mul_mul (a : Amt) (j k : Int) : (a.mul j).mul k = a.mul (j * k) := by
  cases a <;> simp [Amt.mul, Int.mul_assoc]
theorem mul_one (a : Amt) : a.mul 1 = a := by cases a <;> simp [Amt.mul]
mutual
/-- gos kg times over, turns kt times over -/
def Stm.ov (kg kt : Int) : Stm → Stm
  | .go a => .go (a.mul kg)
  | .turn a => .turn (a.mul kt)
  | .again a b => .again a (bOv kg kt b)
  | .iff a b c => .iff a (bOv kg kt b) (bOv kg kt c)
  | .ink a => .ink a
  | .up => .up
  | .down => .down
  | .mark n => .mark n
  | .back n => .back n
  | .call w as => .call w as
def bOv (kg kt : Int) : List Stm → List Stm
  | [] => []
  | s :: r => s.ov kg kt :: bOv kg kt r
end
mutual
theorem Stm.ov_ov (j k j' k' : Int) : ∀ s : Stm, (s.ov j k).ov j' k' = s.ov (j * j') (k * k')
  | .go a => by simp [Stm.ov, mul_mul]
  | .turn a => by simp [Stm.ov, mul_mul]
  | .again a b => by simp [Stm.ov, bOv_ov j k j' k' b]
  | .iff a b c => by simp [Stm.ov, bOv_ov j k j' k' b, bOv_ov j k j' k' c]
  | .ink a => by simp [Stm.ov]
  | .up => by simp [Stm.ov]
  | .down => by simp [Stm.ov]
  | .mark n => by simp [Stm.ov]
  | .back n => by simp [Stm.ov]
  | .call w as => by simp [Stm.ov]
theorem bOv_ov (j k j' k' : Int) : ∀ b : List Stm, bOv j' k' (bOv j k b) = bOv (j * j') (k * k') b
  | [] => by simp [bOv]
  | s :: r => by simp [bOv, Stm.ov_ov j k j' k' s, bOv_ov j k j' k' r]
end
mutual
theorem Stm.ov_one : ∀ s : Stm, s.ov 1 1 = s
  | .go a => by simp [Stm.ov, mul_one]
  | .turn a => by simp [Stm.ov, mul_one]
  | .again a b => by simp [Stm.ov, bOv_one b]
  | .iff a b c => by simp [Stm.ov, bOv_one b, bOv_one c]
  | .ink a => by simp [Stm.ov]
  | .up => by simp [Stm.ov]
  | .down => by simp [Stm.ov]
  | .mark n => by simp [Stm.ov]
  | .back n => by simp [Stm.ov]
  | .call w as => by simp [Stm.ov]
theorem bOv_one : ∀ b : List Stm, bOv 1 1 b = b
  | [] => by simp [bOv]
  | s :: r => by simp [bOv, Stm.ov_one s, bOv_one r]
end
def Wrd.ov (kg kt : Int) (w : Wrd) : Wrd := { w with body := bOv kg kt w.body }
def wsOv (kg kt : Int) (ws : List (Str × List Stm)) : List (Str × List Stm) := ws.map fun z => (z.1, bOv kg kt z.2)
def Cl.ov (kg kt : Int) (c : Cl) : Cl := { c with ws := wsOv kg kt c.ws }
theorem wGet_ov (kg kt : Int) (ws : List (Str × List Stm)) (w : Str) : wGet (wsOv kg kt ws) w = (wGet ws w).map (bOv kg kt) := by
  unfold wGet wsOv
  rw [List.find?_map]
  have : ((fun z : Str × List Stm => decide (z.1 = w)) ∘ fun z : Str × List Stm => (z.1, bOv kg kt z.2)) = fun z => decide (z.1 = w) := rfl
  rw [this]
  cases ws.find? fun z => decide (z.1 = w) <;> rfl
theorem dictW_ov (kg kt : Int) (ws : List Wrd) : dictW (ws.map (Wrd.ov kg kt)) = wsOv kg kt (dictW ws) := by
  unfold dictW wsOv
  rw [List.map_map, List.map_map]
  rfl
def mapR (f : Hn → Hn) : Rn → Rn
  | .ok y => .ok (f y)
  | .exc e y => .exc e (f y)
  | .out => .out
def scl (kt : Int) (v : Vb) (i : Int) : Int := match v with
  | .turn => i * kt
  | _ => i
/-- f goes along with the hand, where the turns are kt times over -/
structure Sim (f : Hn → Hn) (kt : Int) : Prop where
  rest : ∀ y, (f y).rest = y.rest
  less : ∀ y, f y.less = (f y).less
  prim : ∀ v i y, y.iv → prim v (scl kt v i) (f y) = mapR f (prim v i y)
  great : ∀ v : Int, great (v * kt) = great v
theorem val_ov (c : Cl) (kg kt : Int) (a : Amt) : (c.ov kg kt).val a = c.val a := by cases a <;> rfl
theorem vals_ov (c : Cl) (kg kt : Int) : ∀ as : List Amt, vals (c.ov kg kt) as = vals c as
  | [] => rfl
  | a :: r => by rw [vals, vals, val_ov, vals_ov c kg kt r]
theorem iB_sim {f : Hn → Hn} {kt : Int} {S : Stm → Cl → Hn → Rn} (hiv : ∀ s c y, y.iv → riv (S s c y)) (hS : ∀ s c y, y.iv → S (s.ov 1 kt) (c.ov 1 kt) (f y) = mapR f (S s c y)) : ∀ (b : List Stm) (c : Cl) (y : Hn), y.iv → iB S (bOv 1 kt b) (c.ov 1 kt) (f y) = mapR f (iB S b c y)
  | [], _, _, _ => by simp [bOv, iB, mapR]
  | s :: r, c, y, h => by
    rw [bOv, iB, iB, hS s c y h]
    have h1 := hiv s c y h
    cases q : S s c y with
    | out => rfl
    | exc e z => rfl
    | ok z =>
      rw [q] at h1
      exact iB_sim hiv hS r c z h1
theorem iAg_sim {f : Hn → Hn} {kt : Int} (sim : Sim f kt) {B B' : Cl → Hn → Rn} (hiv : ∀ c y, y.iv → riv (B c y)) (hB : ∀ c y, y.iv → B' (c.ov 1 kt) (f y) = mapR f (B c y)) (c : Cl) : ∀ (m k : Nat) (y : Hn), y.iv → iAg B' (c.ov 1 kt) m k (f y) = mapR f (iAg B c m k y)
  | 0, _, _, _ => rfl
  | m + 1, k, y, h => by
    unfold iAg
    rw [sim.rest]
    by_cases hr : y.rest ≤ 0
    · rw [if_pos hr, if_pos hr]; rfl
    · rw [if_neg hr, if_neg hr, ← sim.less]
      have e : ({ c.ov 1 kt with ct := (k : Int) } : Cl) = ({ c with ct := (k : Int) } : Cl).ov 1 kt := rfl
      rw [e, hB _ _ (h.less hr)]
      have h1 := hiv { c with ct := (k : Int) } y.less (h.less hr)
      cases q : B { c with ct := (k : Int) } y.less with
      | out => rfl
      | exc e z => rfl
      | ok z =>
        rw [q] at h1
        exact iAg_sim sim hiv hB c m (k + 1) z h1
theorem iS_sim {f : Hn → Hn} {kt : Int} (sim : Sim f kt) : ∀ (n : Nat) (s : Stm) (c : Cl) (y : Hn), y.iv → iS n (s.ov 1 kt) (c.ov 1 kt) (f y) = mapR f (iS n s c y)
  | 0, _, _, _, _ => rfl
  | n + 1, s, c, y, h => by
    have ih := fun b c y hy => iB_sim (S := iS n) (iS_riv n) (iS_sim sim n) b c y hy
    unfold iS
    rw [sim.rest]
    by_cases hr : y.rest ≤ 0
    · rw [if_pos hr, if_pos hr]; rfl
    · rw [if_neg hr, if_neg hr, ← sim.less]
      have hl := h.less hr
      have pr := fun v i => sim.prim v i y.less hl
      cases s with
      | go a =>
        simp only [Stm.ov, val_ov, mul_one]
        split
        · rfl
        · exact pr .go _
      | turn a =>
        simp only [Stm.ov, val_ov, val_mul, sim.great]
        split
        · rfl
        · exact pr .turn _
      | ink a =>
        simp only [Stm.ov, val_ov]
        split
        · rfl
        · exact pr .ink _
      | up => simp only [Stm.ov]; exact pr .up 0
      | down => simp only [Stm.ov]; exact pr .down 0
      | mark i => simp only [Stm.ov]; exact pr .mark i
      | back i => simp only [Stm.ov]; exact pr .back i
      | again a b =>
        simp only [Stm.ov, val_ov]
        split
        · rfl
        · exact iAg_sim sim (fun c y hy => iB_riv (iS_riv n) b c y hy) (fun c y hy => ih b c y hy) c _ _ _ hl
      | iff a b b' =>
        simp only [Stm.ov, val_ov]
        split
        · rfl
        · split
          · exact ih b' c _ hl
          · exact ih b c _ hl
      | call w as =>
        simp only [Stm.ov, vals_ov]
        cases q : vals c as with
        | none => rfl
        | some vs =>
          dsimp only
          have hg : wGet (c.ov 1 kt).ws w = (wGet c.ws w).map (bOv 1 kt) := wGet_ov 1 kt c.ws w
          rw [hg]
          cases q2 : wGet c.ws w with
          | none => rfl
          | some b => exact ih b ⟨c.ws, vs, 0⟩ _ hl
/-! ### mirrored -/
def mirC (c : Cr) : Cr := { c with spot := mir c.spot, heading := (8 - c.heading) % 8 }
def mirS (s : Stk) : Stk := ⟨s.ink, mir s.a, mir s.b⟩
def mirM (z : Int × (P4 × Int)) : Int × (P4 × Int) := (z.1, (mir z.2.1, (8 - z.2.2) % 8))
def mirT (t : Nt) : Nt := ⟨t.v, match t.v with | .turn => -t.i | _ => t.i, mirC t.c⟩
def mirH (y : Hn) : Hn := ⟨mirC y.c, -y.turns, y.rest, y.marks.map mirM, y.strokes.map mirS, y.corners.map mir, y.plain.map mirT⟩
theorem mget_mir (m : Mks) (k : Int) : mget (m.map mirM) k = (mget m k).map fun v => (mir v.1, (8 - v.2) % 8) := by
  unfold mget
  rw [List.find?_map]
  have : ((fun z : Int × (P4 × Int) => decide (z.1 = k)) ∘ mirM) = fun z => decide (z.1 = k) := rfl
  rw [this]
  cases m.find? fun z => decide (z.1 = k) <;> rfl
theorem mput_mir (m : Mks) (k : Int) (v : P4 × Int) : mput (m.map mirM) k (mir v.1, (8 - v.2) % 8) = (mput m k v).map mirM := by
  unfold mput
  rw [List.any_map]
  have : ((fun z : Int × (P4 × Int) => decide (z.1 = k)) ∘ mirM) = fun z => decide (z.1 = k) := rfl
  rw [this]
  split
  · rw [List.map_map, List.map_map]
    refine List.map_congr_left fun z _ => ?_
    simp only [Function.comp]
    by_cases e : z.1 = k
    · have e' : (mirM z).1 = k := e
      rw [if_pos e', if_pos e]
      rfl
    · have e' : ¬ (mirM z).1 = k := e
      rw [if_neg e', if_neg e]
  · rw [List.map_append]
    rfl
theorem mir_sim : Sim mirH (-1) where
  rest := fun _ => rfl
  less := fun _ => rfl
  great := fun v => by unfold great; simp
  prim := fun v i y h => by
    have h0 := h.o.h0
    have h1 := h.o.h1
    have nt : (mirH y).note v (scl (-1) v i) = mirH (y.note v i) := by
      unfold Hn.note mirH
      simp only [Hn.mk.injEq, true_and, List.map_append, List.map_cons, List.map_nil]
      congr 2
      unfold mirT
      cases v <;> simp [scl]
    unfold prim
    rw [nt]
    have key : v.act (scl (-1) v i) (mirH (y.note v i)) = (v.act i (y.note v i)).map mirH := by
      have e0 : 0 ≤ (y.note v i).c.heading := h0
      have e1 : (y.note v i).c.heading < 8 := h1
      generalize y.note v i = x at *
      cases v with
      | go =>
        simp only [Vb.act, Option.map_some, Option.some.injEq, scl]
        have em : mir (mv x.c.heading i x.c.spot) = mv ((8 - x.c.heading) % 8) i (mir x.c.spot) := mir_mv i e0 e1
        unfold mirH
        simp only [Hn.mk.injEq, true_and, and_true]
        refine ⟨?_, ?_, ?_⟩
        · unfold mirC
          simp [em]
        · rw [List.map_append]
          congr 1
          show (if x.c.pen = true ∧ i ≠ 0 then [(⟨x.c.ink, mir x.c.spot, mv ((8 - x.c.heading) % 8) i (mir x.c.spot)⟩ : Stk)] else []) = _
          split
          · simp [mirS, em]
          · rfl
        · rw [List.map_append]
          simp [em, mirC]
      | turn =>
        simp only [Vb.act, Option.map_some, Option.some.injEq, scl]
        unfold mirH mirC
        simp only [Hn.mk.injEq, Cr.mk.injEq, true_and, and_true]
        refine ⟨?_, ?_⟩
        · show ((8 - x.c.heading) % 8 + i * -1) % 8 = (8 - (x.c.heading + i) % 8) % 8
          omega
        · omega
      | ink => rfl
      | up => rfl
      | down => rfl
      | mark =>
        simp only [Vb.act, Option.map_some, Option.some.injEq, scl]
        unfold mirH
        simp only [Hn.mk.injEq, true_and, and_true]
        exact mput_mir x.marks i (x.c.spot, x.c.heading)
      | back =>
        have hg : mget (mirH x).marks i = (mget x.marks i).map fun v => (mir v.1, (8 - v.2) % 8) := mget_mir x.marks i
        simp only [Vb.act, hg, scl]
        cases mget x.marks i with
        | none => rfl
        | some v =>
          simp only [Option.map_some, Option.some.injEq]
          unfold mirH mirC
          simp
    rw [key]
    cases v.act i (y.note v i) <;> rfl
/-! ### what is told -/
def tell (y : Hn) (d : Bool) : D := .tuple [.list (y.strokes.map Stk.e), .list (y.corners.map P4.e), y.c.e, .int y.turns, .bool d]
def ranD : Rn → D
  | .ok y => .list [.str "", tell y true]
  | .exc e y => if e = "Stopped" then .list [.str "", tell y false] else if e = "NoMark" then .list [.str "mark", .none] else .list [.str "great", .none]
  | .out => .none
theorem ranD_stop (y : Hn) : ranD (.exc "Stopped" y) = .list [.str "", tell y false] := by
  unfold ranD
  dsimp only
  rw [if_pos rfl]
theorem ranD_great (y : Hn) : ranD (.exc "TooGreat" y) = .list [.str "great", .none] := by
  unfold ranD
  dsimp only
  rw [if_neg (of_decide_eq_false (by decide)), if_neg (of_decide_eq_false (by decide))]
theorem ranD_mark (y : Hn) : ranD (.exc "NoMark" y) = .list [.str "mark", .none] := by
  unfold ranD
  dsimp only
  rw [if_neg (of_decide_eq_false (by decide)), if_pos rfl]
/-! ### good programs stay good -/
theorem Amt.wf_mul {tk : Nat} {a : Amt} {k : Int} (hk : k = 1 ∨ k = -1) (h : a.wf tk) : (a.mul k).wf tk := by
  have key : ∀ i : Int, sm6 i → sm6 (i * k) := fun i hi => by
    unfold sm6 at *
    rcases hk with z | z <;> subst z
    · rw [Int.mul_one]; exact hi
    · rw [Int.natAbs_mul]
      simpa using hi
  cases a with
  | int i => exact key i h
  | cnt t m => exact ⟨key t h.1, key m h.2⟩
  | num t j m => exact ⟨key t h.1, key m h.2.1, h.2.2⟩
mutual
theorem Stm.wf_ov {ws : List Wrd} {tk : Nat} {kg kt : Int} (hg : kg = 1 ∨ kg = -1) (ht : kt = 1 ∨ kt = -1) : ∀ (s : Stm), s.wf ws tk → (s.ov kg kt).wf (ws.map (Wrd.ov kg kt)) tk
  | .go a, w => by rw [Stm.wf] at w; rw [Stm.ov, Stm.wf]; exact Amt.wf_mul hg w
  | .turn a, w => by rw [Stm.wf] at w; rw [Stm.ov, Stm.wf]; exact Amt.wf_mul ht w
  | .ink a, w => by rw [Stm.wf] at w; rw [Stm.ov, Stm.wf]; exact w
  | .up, _ => by rw [Stm.ov, Stm.wf]; trivial
  | .down, _ => by rw [Stm.ov, Stm.wf]; trivial
  | .mark _, w => by rw [Stm.wf] at w; rw [Stm.ov, Stm.wf]; exact w
  | .back _, w => by rw [Stm.wf] at w; rw [Stm.ov, Stm.wf]; exact w
  | .again _ b, w => by rw [Stm.wf] at w; rw [Stm.ov, Stm.wf]; exact ⟨w.1, bWf_ov hg ht b w.2⟩
  | .iff _ b c, w => by rw [Stm.wf] at w; rw [Stm.ov, Stm.wf]; exact ⟨w.1, bWf_ov hg ht b w.2.1, bWf_ov hg ht c w.2.2⟩
  | .call _ _, w => by
    rw [Stm.wf] at w
    rw [Stm.ov, Stm.wf]
    obtain ⟨⟨x, hx, e1, e2⟩, q⟩ := w
    exact ⟨⟨x.ov kg kt, List.mem_map.mpr ⟨x, hx, rfl⟩, e1, e2⟩, q⟩
theorem bWf_ov {ws : List Wrd} {tk : Nat} {kg kt : Int} (hg : kg = 1 ∨ kg = -1) (ht : kt = 1 ∨ kt = -1) : ∀ (b : List Stm), bWf ws tk b → bWf (ws.map (Wrd.ov kg kt)) tk (bOv kg kt b)
  | [], _ => by rw [bOv, bWf]; trivial
  | s :: r, w => by rw [bWf] at w; rw [bOv, bWf]; exact ⟨Stm.wf_ov hg ht s w.1, bWf_ov hg ht r w.2⟩
end
mutual
theorem Stm.deep_ov (kg kt : Int) : ∀ (s : Stm), (s.ov kg kt).deep = s.deep
  | .go a => by simp [Stm.ov, Stm.deep]
  | .turn a => by simp [Stm.ov, Stm.deep]
  | .ink a => by simp [Stm.ov]
  | .up => by simp [Stm.ov]
  | .down => by simp [Stm.ov]
  | .mark _ => by simp [Stm.ov]
  | .back _ => by simp [Stm.ov]
  | .again _ b => by simp [Stm.ov, Stm.deep, bDeep_ov kg kt b]
  | .iff _ b c => by simp [Stm.ov, Stm.deep, bDeep_ov kg kt b, bDeep_ov kg kt c]
  | .call _ _ => by simp [Stm.ov]
theorem bDeep_ov (kg kt : Int) : ∀ (b : List Stm), bDeep (bOv kg kt b) = bDeep b
  | [] => by simp [bOv]
  | s :: r => by simp [bOv, bDeep, Stm.deep_ov kg kt s, bDeep_ov kg kt r]
end
theorem wsWf_ov {kg kt : Int} (hg : kg = 1 ∨ kg = -1) (ht : kt = 1 ∨ kt = -1) : ∀ {r : List Wrd}, wsWf r → wsWf (r.map (Wrd.ov kg kt))
  | [], _ => trivial
  | w :: r, h => by
    obtain ⟨h1, h2, h3, h4, h5⟩ := h
    refine ⟨bWf_ov hg ht _ h1, h2, by show bDeep (bOv kg kt w.body) ≤ 3; rw [bDeep_ov]; exact h3, fun x hx => ?_, wsWf_ov hg ht h5⟩
    obtain ⟨z, hz, rfl⟩ := List.mem_map.mp hx
    exact h4 z hz
theorem GP.ov {ws : List Wrd} {b : List Stm} {kg kt : Int} (hg : kg = 1 ∨ kg = -1) (ht : kt = 1 ∨ kt = -1) (g : GP ws b) : GP (ws.map (Wrd.ov kg kt)) (bOv kg kt b) :=
  ⟨by rw [← List.map_reverse]; exact wsWf_ov hg ht g.w, by rw [List.length_map]; exact g.l, bWf_ov hg ht b g.f, by rw [bDeep_ov]; exact g.d⟩
theorem run_mir {ws : List Wrd} {b : List Stm} {most : Int} (hm : most ≤ 50000) : runR (ws.map (Wrd.ov 1 (-1))) (bOv 1 (-1) b) most = mapR mirH (runR ws b most) := by
  unfold runR
  rw [dictW_ov]
  have h0 : mirH (hn0 most) = hn0 most := rfl
  have := iB_sim (f := mirH) (kt := -1) (S := iS 49) (iS_riv 49) (iS_sim mir_sim 49) b ⟨dictW ws, [], 0⟩ (hn0 most) (hn0_iv hm)
  rw [h0] at this
  exact this
/-! ### programs can be held against each other -/
theorem Amt.shp {tk : Nat} {a : Amt} (h : a.wf tk) : Shp 1 a.e := by
  cases a with
  | int i => exact .int _ _
  | cnt t m =>
    refine Shp.tuple fun x hx => ?_
    simp only [List.mem_cons, List.not_mem_nil, or_false] at hx
    rcases hx with rfl | rfl | rfl
    · exact .int _ _
    · exact .str _ (by decide +kernel)
    · exact .int _ _
  | num t j m =>
    refine Shp.tuple fun x hx => ?_
    simp only [List.mem_cons, List.not_mem_nil, or_false] at hx
    rcases hx with rfl | rfl | rfl
    · exact .int _ _
    · refine .str _ ?_
      have : j = 0 ∨ j = 1 ∨ j = 2 ∨ j = 3 := by have := h.2.2.2; omega
      rcases this with z | z | z | z <;> subst z <;> decide +kernel
    · exact .int _ _
theorem shp_cons {k : Nat} {x : D} {xs : List D} (h : Shp k x) (h' : ∀ y ∈ xs, Shp k y) : ∀ y ∈ x :: xs, Shp k y := fun y hy => (List.mem_cons.mp hy).elim (fun e => e ▸ h) (h' y)
theorem shp_nil {k : Nat} : ∀ y ∈ ([] : List D), Shp k y := fun _ h => nomatch h
mutual
theorem Stm.shp' {ws : List Wrd} {tk : Nat} (hw : ∀ x ∈ ws, PyData.canLay0 (.str x.name) = true) : ∀ (s : Stm), s.wf ws tk → Shp (3 + 2 * s.deep) s.e
  | .go a, w => by rw [Stm.wf] at w; rw [Stm.e]; exact (Shp.tuple (shp_cons (.str _ (by decide +kernel)) (shp_cons (Amt.shp w) shp_nil))).mono (by omega)
  | .turn a, w => by rw [Stm.wf] at w; rw [Stm.e]; exact (Shp.tuple (shp_cons (.str _ (by decide +kernel)) (shp_cons (Amt.shp w) shp_nil))).mono (by omega)
  | .ink a, w => by rw [Stm.wf] at w; rw [Stm.e]; exact (Shp.tuple (shp_cons (.str _ (by decide +kernel)) (shp_cons (Amt.shp w) shp_nil))).mono (by omega)
  | .up, _ => by rw [Stm.e]; exact (Shp.tuple (k := 0) (shp_cons (.str _ (by decide +kernel)) shp_nil)).mono (by omega)
  | .down, _ => by rw [Stm.e]; exact (Shp.tuple (k := 0) (shp_cons (.str _ (by decide +kernel)) shp_nil)).mono (by omega)
  | .mark n, _ => by rw [Stm.e]; exact (Shp.tuple (k := 0) (shp_cons (.str _ (by decide +kernel)) (shp_cons (.int _ _) shp_nil))).mono (by omega)
  | .back n, _ => by rw [Stm.e]; exact (Shp.tuple (k := 0) (shp_cons (.str _ (by decide +kernel)) (shp_cons (.int _ _) shp_nil))).mono (by omega)
  | .again a b, w => by
    rw [Stm.wf] at w
    rw [Stm.e]
    have h1 := bShp hw b w.2
    simp only [Stm.deep]
    exact (Shp.tuple (k := 4 + 2 * bDeep b) (shp_cons (.str _ (by decide +kernel)) (shp_cons ((Amt.shp w.1).mono (by omega)) (shp_cons (h1.mono (by omega)) shp_nil)))).mono (by omega)
  | .iff a b c, w => by
    rw [Stm.wf] at w
    rw [Stm.e]
    have h1 := bShp hw b w.2.1
    have h2 := bShp hw c w.2.2
    simp only [Stm.deep]
    exact (Shp.tuple (k := 4 + 2 * max (bDeep b) (bDeep c)) (shp_cons (.str _ (by decide +kernel)) (shp_cons ((Amt.shp w.1).mono (by omega)) (shp_cons (h1.mono (by omega)) (shp_cons (h2.mono (by omega)) shp_nil))))).mono (by omega)
  | .call n as, w => by
    rw [Stm.wf] at w
    rw [Stm.e]
    obtain ⟨⟨x, hx, e1, _⟩, q⟩ := w
    refine (Shp.tuple (k := 2) (shp_cons (.str _ (by decide +kernel)) (shp_cons (.str _ (by rw [← e1]; exact hw x hx)) (shp_cons (Shp.tuple fun y hy => ?_) shp_nil)))).mono (by omega)
    obtain ⟨a, ha, rfl⟩ := List.mem_map.mp hy
    exact Amt.shp (q a ha)
theorem bShp {ws : List Wrd} {tk : Nat} (hw : ∀ x ∈ ws, PyData.canLay0 (.str x.name) = true) : ∀ (b : List Stm), bWf ws tk b → Shp (4 + 2 * bDeep b) (.tuple (bE b))
  | [], _ => by rw [bE]; exact (Shp.tuple (k := 0) shp_nil).mono (by omega)
  | s :: r, w => by
    rw [bWf] at w
    have h1 := Stm.shp' hw s w.1
    have h2 := bShp hw r w.2
    rw [bE, bDeep]
    refine ⟨?_, ?_⟩
    · rw [PyData.canLay0, PyData.canLayAll0, h1.1, Bool.true_and]
      have := h2.1
      rw [PyData.canLay0] at this
      exact this
    · rw [PyData.depth, PyData.depthAll]
      have a1 := h1.2
      have a2 := h2.2
      rw [PyData.depth] at a2
      omega
end
theorem GP.shp {ws : List Wrd} {b : List Stm} (g : GP ws b) (hw : ∀ x ∈ ws, PyData.canLay0 (.str x.name) = true) : Shp 20 (progE ws b) := by
  have hb := bShp hw b g.f
  have hd := g.d
  refine Shp.tuple (shp_cons (Shp.mono (k := 18) (Shp.tuple fun y hy => ?_) (by decide)) (shp_cons (hb.mono (by omega)) shp_nil))
  obtain ⟨x, hx, rfl⟩ := List.mem_map.mp hy
  obtain ⟨r', _, _, k3, k4, _, k6⟩ := wsWf_at g.w (List.mem_reverse.mpr hx)
  have h1 := bShp (ws := r') (fun z hz => hw z (List.mem_reverse.mp (k6 z hz))) x.body k3
  exact Shp.tuple (k := 16) (shp_cons (.str _ (hw x hx)) (shp_cons (.int _ _) (shp_cons (h1.mono (by omega)) shp_nil)))
theorem names_ok {ws : List Wrd} (h : ws.map Wrd.name = wNames.take ws.length) : ∀ x ∈ ws, PyData.canLay0 (.str x.name) = true := fun x hx => by
  have hm : x.name ∈ wNames := by
    have : x.name ∈ wNames.take ws.length := by rw [← h]; exact List.mem_map.mpr ⟨x, hx, rfl⟩
    exact List.mem_of_mem_take this
  have key : ∀ z ∈ wNames, PyData.canLay0 (.str z) = true := by decide +kernel
  exact key _ hm
end Wk

/-! T18: sum, max of a list of ints. -/
namespace Wk
open PySem PySem.Spec PyProof.Rows L2
def intsOf : List D → Option (List Int)
  | [] => some []
  | .int i :: r => (intsOf r).map (i :: ·)
  | _ :: _ => none
theorem intsOf_eq : ∀ {xs : List D} {ns : List Int}, intsOf xs = some ns → xs = ns.map .int
  | [], ns, e => by cases e; rfl
  | .int i :: r, ns, e => by
    rw [intsOf] at e
    cases q : intsOf r with
    | none => rw [q] at e; cases e
    | some m => rw [q] at e; cases e; rw [intsOf_eq q]; rfl
  | .none :: _, _, e => by cases e
  | .bool _ :: _, _, e => by cases e
  | .str _ :: _, _, e => by cases e
  | .list _ :: _, _, e => by cases e
  | .tuple _ :: _, _, e => by cases e
  | .dict _ :: _, _, e => by cases e
theorem intsOf_map : ∀ ns : List Int, intsOf (ns.map .int) = some ns
  | [] => rfl
  | n :: r => by rw [List.map_cons, intsOf, intsOf_map r]; rfl
theorem RDs.intsV {K : PySem.W.Frag} {H : Hp} : ∀ {ns : List Int} {vs : List V}, RDs K H vs (ns.map .int) → vs = ns.map V.int
  | [], _, h => by cases h; rfl
  | n :: r, _, h => by
    cases h with
    | cons a b => cases a; rw [RDs.intsV b]; rfl
def maxOf : Int → List Int → Int
  | m, [] => m
  | m, n :: r => maxOf (if m < n then n else m) r
theorem maxOf_ge : ∀ (r : List Int) (m : Int), m ≤ maxOf m r ∧ (∀ y ∈ r, y ≤ maxOf m r) ∧ (maxOf m r = m ∨ maxOf m r ∈ r)
  | [], m => ⟨Int.le_refl _, (fun _ h => by cases h), .inl rfl⟩
  | n :: r, m => by
    obtain ⟨h1, h2, h3⟩ := maxOf_ge r (if m < n then n else m)
    rw [maxOf]
    refine ⟨?_, fun y hy => ?_, ?_⟩
    · split at h1 <;> rename_i h <;> (try rw [if_pos h]) <;> (try rw [if_neg h]) <;> omega
    · rcases List.mem_cons.mp hy with z | z
      · rw [z]; split at h1 <;> rename_i h <;> (try rw [if_pos h]) <;> (try rw [if_neg h]) <;> omega
      · exact h2 y z
    · rcases h3 with z | z
      · rw [z]
        split
        · right; exact List.mem_cons_self
        · left; rfl
      · right; exact List.mem_cons_of_mem _ z
def fSum (us : List U) (h : Sto) : Res U := match us with
  | [u] => (match listOf h u with
    | some xs => (match intsOf xs with
      | some ns => .ok (.d (.int ns.sum)) h
      | none => .stuck)
    | none => .stuck)
  | _ => .stuck
def fMaxL (us : List U) (h : Sto) : Res U := match us with
  | [u] => (match listOf h u with
    | some xs => (match intsOf xs with
      | some (n :: ns) => .ok (.d (.int (maxOf n ns))) h
      | _ => .stuck)
    | none => .stuck)
  | _ => .stuck
section
variable {X : Cx} {W : WX}
theorem ab_sum : AbC X W fSum (rSum X.K) := by
  intro σ H m h xs us Q s r out
  unfold fSum at out
  split at out
  · rename_i u
    cases r with
    | cons ra rb =>
      cases rb
      split at out
      · rename_i ys ey
        split at out
        · rename_i ns en
          obtain ⟨a, vs, rfl, t1, d1⟩ := listOf_v s ey ra
          rw [intsOf_eq en] at d1
          rw [d1.intsV] at t1
          exact ⟨a, ns, rfl, t1, Out.here (b := V.int _) out s (.d (.int _))⟩
        · exact out.elim
      · exact out.elim
  · exact out.elim
theorem ab_maxL : AbC X W fMaxL (rMax X.K) := by
  intro σ H m h xs us Q s r out
  unfold fMaxL at out
  split at out
  · rename_i u
    cases r with
    | cons ra rb =>
      cases rb
      split at out
      · rename_i ys ey
        split at out
        · rename_i n ns en
          obtain ⟨a, vs, rfl, t1, d1⟩ := listOf_v s ey ra
          rw [intsOf_eq en] at d1
          rw [d1.intsV] at t1
          refine ⟨a, n :: ns, rfl, t1, by simp, fun k hk hle => ?_⟩
          obtain ⟨h1, h2, h3⟩ := maxOf_ge ns n
          have e : k = maxOf n ns := by
            have a1 : maxOf n ns ≤ k := hle _ (by
              rcases h3 with z | z
              · rw [z]; exact List.mem_cons_self
              · exact List.mem_cons_of_mem _ z)
            have a2 : k ≤ maxOf n ns := by
              rcases List.mem_cons.mp hk with z | z
              · rw [z]; exact h1
              · exact h2 k z
            omega
          rw [e]
          exact Out.here (b := V.int _) out s (.d (.int _))
        · exact out.elim
      · exact out.elim
  · exact out.elim
theorem bt_sum : bootBuiltins "sum" = some (.builtin "sum") := by decide +kernel
theorem ev_sum (ns : List Int) (h : Sto) : fSum [.d (.list (ns.map .int))] h = .ok (.d (.int ns.sum)) h := by
  unfold fSum
  have : Wk.listOf h (.d (.list (ns.map .int))) = some (ns.map .int) := rfl
  simp only [this, intsOf_map]
theorem ev_maxL (n : Int) (ns : List Int) (h : Sto) : fMaxL [.d (.list (.int n :: ns.map .int))] h = .ok (.d (.int (maxOf n ns))) h := by
  unfold fMaxL
  have : intsOf (PyData.int n :: ns.map .int) = some (n :: ns) := intsOf_map (n :: ns)
  have e : Wk.listOf h (.d (.list (.int n :: ns.map .int))) = some (.int n :: ns.map .int) := rfl
  simp only [e, this]
end
end Wk

/-! T19: dicts whose keys are tuples of ints and of such tuples. -/
namespace Wk
open PySem PySem.Spec PyProof.Rows L2
/-! ### data as keys -/
mutual
def nkD : D → Option NestedKey
  | .int i => some (.num i)
  | .tuple ds => (nkDs ds).map .tup
  | _ => none
def nkDs : List D → Option (List NestedKey)
  | [] => some []
  | d :: ds => match nkD d, nkDs ds with
    | some k, some ks => some (k :: ks)
    | _, _ => none
end
mutual
theorem nkD_ok : ∀ (d : D) (k : NestedKey), nkD d = some k → k.data = d ∧ pureK k = true
  | .int i, k, e => by rw [nkD] at e; cases e; exact ⟨by rw [NestedKey.data], by rw [pureK]⟩
  | .tuple ds, k, e => by
    rw [nkD] at e
    cases q : nkDs ds with
    | none => rw [q] at e; cases e
    | some ks =>
      rw [q] at e
      cases e
      obtain ⟨h1, h2⟩ := nkDs_ok ds ks q
      exact ⟨by rw [NestedKey.data, h1], by rw [pureK]; exact h2⟩
  | .none, k, e => by simp [nkD] at e
  | .bool _, k, e => by simp [nkD] at e
  | .str _, k, e => by simp [nkD] at e
  | .list _, k, e => by simp [nkD] at e
  | .dict _, k, e => by simp [nkD] at e
theorem nkDs_ok : ∀ (ds : List D) (ks : List NestedKey), nkDs ds = some ks → NestedKey.datas ks = ds ∧ pureKs ks = true
  | [], ks, e => by rw [nkDs] at e; cases e; exact ⟨by rw [NestedKey.datas], by rw [pureKs]⟩
  | d :: ds, ks, e => by
    rw [nkDs] at e
    cases q1 : nkD d with
    | none => rw [q1] at e; cases e
    | some k =>
      cases q2 : nkDs ds with
      | none => rw [q1, q2] at e; cases e
      | some ks' =>
        rw [q1, q2] at e
        cases e
        obtain ⟨a1, a2⟩ := nkD_ok d k q1
        obtain ⟨b1, b2⟩ := nkDs_ok ds ks' q2
        exact ⟨by rw [NestedKey.datas, a1, b1], by rw [pureKs, a2, b2]; rfl⟩
end
def keyN (u : U) : Option NestedKey := match u with
  | .d (.tuple ds) => (match nkD (.tuple ds) with
    | some k => if k.depth ≤ 8 then some k else none
    | none => none)
  | _ => none
structure KyA (K : PySem.W.Frag) (H : Hp) (b : Addr) (k : NestedKey) : Prop where
  pu : pureK k = true
  dp : k.depth ≤ 8
  rd : RD K H (.ref b) k.data
theorem keyN_v {K : PySem.W.Frag} {H : Hp} {m : List Addr} {v : V} {u : U} {k : NestedKey} (e : keyN u = some k) (r : RU K H m v u) : ∃ b, v = .ref b ∧ KyA K H b k := by
  unfold keyN at e
  split at e
  · rename_i ds
    split at e
    · rename_i k' ek
      split at e
      · rename_i hd
        cases e
        obtain ⟨h1, h2⟩ := nkD_ok _ _ ek
        have rr := r.rd
        cases rr with
        | tup a b => exact ⟨_, rfl, h2, hd, by rw [h1]; exact .tup a b⟩
      · cases e
    · cases e
  · cases e
mutual
theorem nest_of {X : Cx} {pins : List (Addr × Obj)} {σ : L2.St} {H : Hp} {s : Shared} (I : L2.Inv X pins σ H s) : ∀ (k : NestedKey) (v : V) (u : Value), pureK k = true → RD X.K H v k.data → RelV v u → NestedIs s.heap k u
  | .num i, v, u, hp, r, ru => by
    rw [NestedKey.data] at r
    cases r
    obtain ⟨t, rfl⟩ := ru
    exact .int i t
  | .tup ks, v, u, hp, r, ru => by
    rw [pureK] at hp
    rw [NestedKey.data] at r
    cases r with
    | tup a b =>
      cases (show u = Value.ref _ from ru)
      obtain ⟨its, rv, ⟨o, ho, hc, n, hd⟩, _⟩ := I.tuple a
      exact .tup ho hc hd (by rw [List.toList_toArray]; exact nests_of I ks _ its hp b rv)
  | .none, v, u, hp, r, ru => by rw [pureK] at hp; cases hp
  | .text _, v, u, hp, r, ru => by rw [pureK] at hp; cases hp
theorem nests_of {X : Cx} {pins : List (Addr × Obj)} {σ : L2.St} {H : Hp} {s : Shared} (I : L2.Inv X pins σ H s) : ∀ (ks : List NestedKey) (vs : List V) (us : List Value), pureKs ks = true → RDs X.K H vs (NestedKey.datas ks) → Vals vs us → NestedAll s.heap ks us
  | [], vs, us, hp, r, ru => by
    rw [NestedKey.datas] at r
    cases r
    cases ru
    exact .nil
  | k :: ks, vs, us, hp, r, ru => by
    rw [pureKs, Bool.and_eq_true] at hp
    rw [NestedKey.datas] at r
    cases r with
    | cons a b =>
      cases ru with
      | cons c d => exact .cons (nest_of I k _ _ hp.1 a c) (nests_of I ks _ _ hp.2 b d)
end
theorem key_isN {X : Cx} {pins : List (Addr × Obj)} {σ : L2.St} {H : Hp} {s : Shared} {b : Addr} {k : NestedKey} (I : L2.Inv X pins σ H s) (h : KyA X.K H b k) : (nestedKind X.prog X.w).is s.heap k b := ⟨nest_of I k _ _ h.pu h.rd rfl, h.dp⟩
/-! ### the dict in the heap -/
structure DX (K : PySem.W.Frag) (H : Hp) (a : Addr) (xs : XS) : Prop where
  sys : (a == sysModules) = false
  nd : (xs.map (·.1)).Nodup
  sz : xs.length ≤ sizeLine
  ks : ∀ x ∈ xs, KyA K H x.2.1 x.1
theorem paired_left {α β : Type} {F : α → β → Prop} : ∀ {l : List α} {r : List β}, Paired F l r → ∀ x ∈ l, ∃ y ∈ r, F x y
  | _, _, .nil, x, hx => nomatch hx
  | _, _, .cons p q, x, hx => by
    rcases List.mem_cons.mp hx with z | z
    · subst z; exact ⟨_, List.mem_cons_self, p⟩
    · obtain ⟨y, hy, hf⟩ := paired_left q x z
      exact ⟨y, List.mem_cons_of_mem _ hy, hf⟩
theorem DN.dx {K : PySem.W.Frag} {H : Hp} {m : List Addr} {a : Addr} {xs : XS} {kvs : List (NestedKey × U)} (d : DN K H m a xs kvs) : DX K H a xs :=
  ⟨d.sys, d.nd, d.sz, fun x hx => by
    obtain ⟨y, _, h1, h2, h3, _⟩ := paired_left d.p x hx
    exact ⟨h2.1, h2.2, h3⟩⟩
theorem eK_entry {P : Program} {w : World} {x : NestedKey × Addr × Value} (h : pureK x.1 = true) : eK x = entryOfKey (nestedKind P w) x := by
  unfold eK entryOfKey
  show _ = DictEntry.mk (x.1.hash w) _ _
  rw [hK_hash w x.1 h]
theorem dx_dict {X : Cx} {pins : List (Addr × Obj)} {σ : L2.St} {H : Hp} {s : Shared} {a : Addr} {xs : XS} (I : L2.Inv X pins σ H s) (e : Rd H a (DNo a xs)) (d : DX X.K H a xs) : s.heap.DictOfH (nestedKind X.prog X.w) a xs := by
  obtain ⟨⟨o, es, ep, h1, h2, h3, h4⟩, _, _⟩ := (show ObjOk X.prog X.w H s.heap a (DNo a xs) from e.ok I.hok)
  refine ⟨o, es, ep, h1, h2, h3, ?_, fun x hx => key_isN I (d.ks x hx), d.nd⟩
  rw [h4]
  exact List.map_congr_left fun x hx => eK_entry (d.ks x hx).pu
theorem dx_obj {P : Program} {w : World} {H' : Hp} {h' : Heap} {a : Addr} {xs : XS} (hk : ∀ x ∈ xs, pureK x.1 = true) (d : h'.DictOfH (nestedKind P w) a xs) : ObjOk P w H' h' a (DNo a xs) := by
  obtain ⟨o, es, ep, h1, h2, h3, h4, h5, h6⟩ := d
  refine ⟨⟨o, es, ep, h1, h2, h3, ?_⟩, ⟨o, h1⟩, fun g1 g2 ⟨o, es, ep, h1, h2, h3, h4⟩ k => ⟨o, es, ep, k o h1, h2, h3, h4⟩⟩
  rw [h4]
  exact List.map_congr_left fun x hx => (eK_entry (hk x hx)).symm
theorem roomN {X : Cx} (hu : X.A.units + 64 < cLine) : (nestedKind X.prog X.w).room X.A.in1 := by
  show X.A.in1.units + 8 < cLine
  have : X.A.in1.units = X.A.units + 1 := rfl
  omega
/-! ### readings -/
def valN (kvs : List (NestedKey × U)) (k : NestedKey) : Option U := (kvs.find? fun kv => decide (kv.1 = k)).map (·.2)
def putN (kvs : List (NestedKey × U)) (k : NestedKey) (v : U) : List (NestedKey × U) := if kvs.any fun kv => decide (kv.1 = k) then kvs.map fun kv => if kv.1 = k then (kv.1, v) else kv else kvs ++ [(k, v)]
def dnOf (h : Sto) : U → Option (List (NestedKey × U))
  | .ref n => match h[n]? with
    | some (.dtp kvs) => some kvs
    | some (.fdt kvs) => some kvs
    | _ => none
  | _ => none
theorem dnOf_v {K : PySem.W.Frag} {mg : Str → Option Value} {H : Hp} {m : List Addr} {h : Sto} {v : V} {u : U} {kvs : List (NestedKey × U)} (s : Sta K mg H m h) (e : dnOf h u = some kvs) (r : RU K H m v u) : ∃ a xs, v = .ref a ∧ Rd H a (DNo a xs) ∧ DN K H m a xs kvs := by
  unfold dnOf at e
  split at e
  · cases r with
    | ref hm =>
      split at e
      · rename_i n kvs' ho
        cases e
        obtain ⟨xs, h1, h2⟩ := s.obj _ _ _ hm ho
        exact ⟨_, xs, rfl, .inl h1, h2⟩
      · rename_i n kvs' ho
        cases e
        obtain ⟨o, xs, h1, h2⟩ := s.obj _ _ _ hm ho
        exact ⟨_, xs, rfl, .inr ⟨o, h1⟩, h2⟩
      · cases e
  · cases e
theorem DN.val {K : PySem.W.Frag} {H : Hp} {m : List Addr} {a : Addr} {xs : XS} {kvs : List (NestedKey × U)} (d : DN K H m a xs kvs) (k : NestedKey) : (atKey xs k = none ∧ valN kvs k = none) ∨ ∃ p u v, atKey xs k = some p ∧ valN kvs k = some u ∧ RU K H m v u ∧ RelV v p.2 := by
  have h := d.p
  clear d
  induction h with
  | nil => exact .inl ⟨rfl, rfl⟩
  | @cons x kv l r z _ ih =>
    obtain ⟨z1, z2, z3, v, z4, z5⟩ := z
    by_cases e : x.1 = k
    · refine .inr ⟨x.2, kv.2, v, ?_, ?_, z4, z5⟩
      · unfold atKey; simp [e]
      · unfold valN; simp [← z1, e]
    · have e1 : decide (x.1 = k) = false := decide_eq_false e
      have e2 : decide (kv.1 = k) = false := decide_eq_false (by rw [← z1]; exact e)
      have s1 : atKey (x :: l) k = atKey l k := by unfold atKey; simp [e]
      have s2 : valN (kv :: r) k = valN r k := by unfold valN; rw [List.find?_cons, e2]
      rw [s1, s2]
      exact ih
theorem DN.put {K : PySem.W.Frag} {H : Hp} {m : List Addr} {a b : Addr} {xs : XS} {kvs : List (NestedKey × U)} (d : DN K H m a xs kvs) {k : NestedKey} (hk : KyA K H b k) {v : V} {u : U} {r : Value} (ru : RU K H m v u) (rr : RelV v r) (hz : xs.length < sizeLine) : DN K H m a (storedH xs k b r) (putN kvs k u) := by
  have any : (kvs.any fun kv => decide (kv.1 = k)) = (atKey xs k).isSome := by
    have h := d.p
    clear d hz
    induction h with
    | nil => rfl
    | @cons x kv l r z _ ih =>
      obtain ⟨z1, _⟩ := z
      rw [List.any_cons, ih]
      by_cases e : x.1 = k
      · rw [← z1, e]; unfold atKey; simp [e]
      · have e1 : decide (kv.1 = k) = false := decide_eq_false (by rw [← z1]; exact e)
        have s1 : atKey (x :: l) k = atKey l k := by unfold atKey; simp [e]
        rw [e1, s1, Bool.false_or]
  have keys : (xs.map (putAt k r)).map (·.1) = xs.map (·.1) := by
    rw [List.map_map]
    refine List.map_congr_left fun x _ => ?_
    show (putAt k r x).1 = x.1
    unfold putAt
    split <;> rfl
  unfold storedH putN
  rw [any]
  by_cases hs : (atKey xs k).isSome = true
  · rw [if_pos hs, if_pos hs]
    refine ⟨d.sys, by rw [keys]; exact d.nd, by rw [List.length_map]; exact d.sz, ?_⟩
    have h := d.p
    clear d any keys hs hz
    induction h with
    | nil => exact .nil
    | @cons x kv l r' z _ ih =>
      rw [List.map_cons, List.map_cons]
      refine .cons ?_ ih
      obtain ⟨z1, z2, z3, v', z4, z5⟩ := z
      unfold putAt
      by_cases e : x.1 = k
      · rw [if_pos e, if_pos (by rw [← z1]; exact e)]
        exact ⟨z1, z2, z3, v, ru, rr⟩
      · rw [if_neg e, if_neg (by rw [← z1]; exact e)]
        exact ⟨z1, z2, z3, v', z4, z5⟩
  · rw [if_neg hs, if_neg hs]
    have hn : k ∉ xs.map (·.1) := fun hm => by
      obtain ⟨x, hx, ex⟩ := List.mem_map.mp hm
      apply hs
      unfold atKey
      rw [Option.isSome_map, List.find?_isSome]
      exact ⟨x, hx, decide_eq_true ex⟩
    refine ⟨d.sys, ?_, by rw [List.length_append, List.length_singleton]; omega, ?_⟩
    · rw [List.map_append, List.nodup_append]
      refine ⟨d.nd, by simp, fun x hx y hy => ?_⟩
      simp at hy
      rw [hy]
      exact fun z => hn (z ▸ hx)
    · exact Paired.snoc d.p ⟨rfl, ⟨hk.pu, hk.dp⟩, hk.rd, v, ru, rr⟩
/-! ### {} -/
def eNNew : Ev := fun _ h => .ok (.ref h.length) (h ++ [.dtp []])
section
variable {X : Cx} {W : WX} {o i e value : Expr} {pos pos' apos cpos : Pos} {fo fi fv fx : Ev} {td ty tv tx : TE}
theorem pe_nnew : PE X (.Dict [] [] pos) (fun _ H Q => ∀ p, H p = none → (p == sysModules) = false → Q (.ref p) (upd H p (DNo p []))) := ⟨fun pins s σ H Q I h => by
  have hb : (s.heap.objs.size == sysModules) = false := beq_eq_false_iff_ne.mpr (Ne.symm (Nat.ne_of_lt I.big))
  refine wpAny_Dict_empty ⟨.ref s.heap.objs.size, _, I.laid (a := s.heap.objs.size) (o := DNo s.heap.objs.size []) (t' := s.toks) (fun _ _ q => Heap.get?_push_of_some _ q) (Nat.le_refl _) ?_, rfl, h _ (I.hok.fresh (Nat.le_refl _)) hb⟩
  exact dx_obj (P := X.prog) (w := X.w) (fun x hx => by cases hx) (Heap.DictOfH.new s.heap)⟩
theorem se_nnew : SE X W (.Dict [] [] pos) eNNew :=
  ⟨pe_imp pe_nnew fun σ H Q ⟨env, m, h, sta, sl, out⟩ p np hs => Out.ok (b := V.ref p) out (Gr.push np) (sta.push np ⟨[], upd_same, hs, List.nodup_nil, Nat.zero_le _, .nil⟩) (.ref (by rw [← sta.len]; simp))⟩
/-! ### d[k] -/
def opNGet (u w : U) (h : Sto) : Res U := match dnOf h u, keyN w with
  | some kvs, some k => (match valN kvs k with
    | some x => .ok x h
    | none => .stuck)
  | _, _ => .stuck
def tNGet (K : PySem.W.Frag) (td ty : TE) : TE := fun σ H Q => td σ H fun x H1 => ty σ H1 fun y H2 => ∃ a b xs k p v, x = .ref a ∧ y = .ref b ∧ Rd H2 a (DNo a xs) ∧ DX K H2 a xs ∧ KyA K H2 b k ∧ atKey xs k = some p ∧ RelV v p.2 ∧ Q v H2
theorem pe_nget (hu : X.A.units + 64 < cLine) (ho : PE X o td) (hi : PE X i ty) (hs : NoSl i) : PE X (.Subscript o i pos) (tNGet X.K td ty) := by
  refine ⟨fun pins s σ H Q I h => ?_⟩
  refine subD_of PySem.F.slot_dict_getitem.lookup hs (thn (ho.run pins s σ H _ I h) fun u s1 ⟨x, H1, I1, rx, q1⟩ => thn (hi.run pins s1 σ H1 _ I1 q1) fun iv s2 ⟨y, H2, I2, ry, a, b, xs, k, p, v, ex, ey, hd, dx, hk, hp, rv, q2⟩ => ?_)
  subst ex ey
  obtain rfl : u = Value.ref a := rx
  obtain rfl : iv = Value.ref b := ry
  have dd := dx_dict I2 hd dx
  exact ⟨dd.typeIs, wpAny_getItem_heap (roomN hu) (key_isN I2 hk) dd hp ⟨v, H2, I2.tok _, rv, q2⟩⟩
theorem se_nget (hu : X.A.units + 64 < cLine) (ho : SE X W o fo) (hi : SE X W i fi) (hs : NoSl i := by intro _ _; rfl) : SE X W (.Subscript o i pos) (eBin opNGet fo fi) :=
  ⟨pe_imp (pe_nget hu ho.pe hi.pe hs) fun σ H Q ⟨env, m, h, sta, sl, out⟩ => rd_of sta sl out fun u h1 x H1 m1 g1 s1 r1 out1 => rd_of s1 (sl.gr g1) out1 fun w h2 y H2 m2 g2 s2 r2 out2 => by
    have ru := RU.kp g2.kp g2.pre _ _ r1
    unfold opNGet at out2
    split at out2
    · rename_i kvs k ed ek
      obtain ⟨a, xs, rfl, hd, dn⟩ := dnOf_v s2 ed ru
      obtain ⟨b, rfl, hk⟩ := keyN_v ek r2
      split at out2
      · rename_i z ez
        rcases dn.val k with ⟨_, h2⟩ | ⟨p, u', v, h1, h2, rv, rr⟩
        · rw [ez] at h2; cases h2
        · rw [ez] at h2
          cases h2
          exact ⟨a, b, xs, k, p, v, rfl, rfl, hd, dn.dx, hk, h1, rr, Out.here (b := v) out2 s2 rv⟩
      · exact out2.elim
    · exact out2.elim⟩
/-! ### d.get(k, x) -/
def eNGet2 (fo fk fx : Ev) : Ev := fun env h => (fo env h).bind fun u h1 => match dnOf h1 u with
  | some _ => (fk env h1).bind fun w h2 => (fx env h2).bind fun x h3 => (match dnOf h3 u, keyN w with
    | some kvs, some k => .ok ((valN kvs k).getD x) h3
    | _, _ => .stuck)
  | none => .stuck
def tNGet2 (K : PySem.W.Frag) (td ty tx : TE) : TE := fun σ H Q => td σ H fun x H1 => ∃ a xs0, x = .ref a ∧ Rd H1 a (DNo a xs0) ∧ DX K H1 a xs0 ∧ ty σ H1 fun y H2 => tx σ H2 fun z H3 => ∃ b xs k, y = .ref b ∧ Rd H3 a (DNo a xs) ∧ DX K H3 a xs ∧ KyA K H3 b k ∧
  (atKey xs k = none → Q z H3) ∧ (∀ p, atKey xs k = some p → ∃ v, RelV v p.2 ∧ Q v H3)
theorem dx_at {pins : List (Addr × Obj)} {σ : L2.St} {H : Hp} {s : Shared} {a : Addr} {xs : XS} (I : L2.Inv X pins σ H s) (e : Rd H a (DNo a xs)) (d : DX X.K H a xs) : s.TypeIs (.ref a) "dict" ∧ (∀ b, Value.ref a = .ref b → ∃ ob, s.heap.get? b = some ob ∧ ob.dict = none) := by
  have dd := dx_dict I e d
  refine ⟨dd.typeIs, fun b q => ?_⟩
  cases q
  obtain ⟨ob, _, _, h1, h2, _⟩ := dd
  exact ⟨ob, h1, h2.2.1⟩
theorem pe_nget2 (hu : X.A.units + 64 < cLine) (ho : PE X o td) (hi : PE X i ty) (he : PE X e tx) (m : M2 X o "get" apos i e cpos) : PE X (.Call (.Attribute o "get" apos) [i, e] [] cpos) (tNGet2 X.K td ty tx) := by
  refine ⟨fun pins s σ H Q I h => ?_⟩
  refine wpAny_Call_method m.base m.few m.line PySem.F.plainAttrs_dict PySem.F.slot_dict_get PySem.F.type_dict_get (thn (ho.run pins s σ H _ I h) fun u s1 ⟨x, H1, I1, rx, a, xs0, ex, hd, dx, q1⟩ => ?_)
  subst ex
  obtain rfl : u = Value.ref a := rx
  obtain ⟨t1, t2⟩ := dx_at I1 hd dx
  refine ⟨t1, t2, ?_⟩
  rw [m.trees]
  refine Calls.callWith_builtin rfl (Calls.evalArgs_plain (Calls.spliced_cons (thn (hi.run pins s1 σ H1 _ I1 q1) fun iv s2 ⟨y, H2, I2, ry, q2⟩ =>
    Calls.spliced_cons (thn (he.run pins s2 σ H2 _ I2 q2) fun fv s3 ⟨z, H3, I3, rz, b, xs, k, ey, hd3, dx3, hk, k1, k2⟩ => Calls.spliced_nil ?_))))
  subst ey
  obtain rfl : iv = Value.ref b := ry
  have dd := dx_dict I3 hd3 dx3
  refine call_meetsIn PySem.F.slot_dict_get dd.typeIs PySem.F.entry_dict_get (PySem.F.args_dict_get_3 _ _ _) (meetsH_dict_get_default (nestedKind X.prog X.w) a b dx3.sys fv) ⟨roomN hu, k, xs, key_isN I3 hk, dd, ?_⟩
  cases q : atKey xs k with
  | none => exact ⟨z, H3, I3.tok _, rz, k1 q⟩
  | some p =>
    obtain ⟨v, rv, q3⟩ := k2 p q
    exact ⟨v, H3, I3.tok _, rv, q3⟩
theorem se_nget2 (hu : X.A.units + 64 < cLine) (ho : SE X W o fo) (hi : SE X W i fi) (hx : SE X W e fx) (m : M2 X o "get" apos i e cpos) : SE X W (.Call (.Attribute o "get" apos) [i, e] [] cpos) (eNGet2 fo fi fx) :=
  ⟨pe_imp (pe_nget2 hu ho.pe hi.pe hx.pe m) fun σ H Q ⟨env, m, h, sta, sl, out⟩ => rd_of sta sl out fun u h1 x H1 m1 g1 s1 r1 out1 => by
    split at out1
    · rename_i kvs ed
      obtain ⟨a, xs0, rfl, hd, dn⟩ := dnOf_v s1 ed r1
      refine ⟨a, xs0, rfl, hd, dn.dx, rd_of s1 (sl.gr g1) out1 fun w h2 y H2 m2 g2 s2 r2 out2 => rd_of s2 ((sl.gr g1).gr g2) out2 fun z h3 zv H3 m3 g3 s3 r3 out3 => ?_⟩
      have ru := RU.kp (g2.trans g3).kp (g2.trans g3).pre _ _ r1
      have ry := RU.kp g3.kp g3.pre _ _ r2
      split at out3
      · rename_i kvs' k ed' ek
        obtain ⟨a', xs, e1, hd3, dn3⟩ := dnOf_v s3 ed' ru
        cases e1
        obtain ⟨b, rfl, hk⟩ := keyN_v ek ry
        refine ⟨b, xs, k, rfl, hd3, dn3.dx, hk, fun hn => ?_, fun p hp => ?_⟩
        · rcases dn3.val k with ⟨_, l2⟩ | ⟨p, u', v, l1, l2, rv, rr⟩
          · rw [l2] at out3
            exact Out.here (b := zv) out3 s3 r3
          · rw [hn] at l1; cases l1
        · rcases dn3.val k with ⟨l1, l2⟩ | ⟨p', u', v, l1, l2, rv, rr⟩
          · rw [hp] at l1; cases l1
          · rw [hp] at l1
            cases l1
            rw [l2] at out3
            exact ⟨v, rr, Out.here (b := v) out3 s3 rv⟩
      · exact out3.elim
    · exact out1.elim⟩
/-! ### d[k] = e -/
noncomputable def nPut (u w x : U) (h : Sto) : Option Sto := match u with
  | .ref n => (match h[n]?, keyN w with
    | some (.dtp kvs), some k => if ask (kvs.length < sizeLine) then some (h.set n (.dtp (putN kvs k x))) else none
    | _, _ => none)
  | _ => none
noncomputable def sNPutS (fv fo fk : Ev) : Es := fun env h => (fv env h).then_ env fun x h1 => (fo env h1).then_ env fun u h2 => (fk env h2).then_ env fun w h3 => match nPut u w x h3 with
  | some h4 => .next env h4
  | none => .stuck
def sNPut (K : PySem.W.Frag) (td ty tv : TE) : TS := fun D σ H => tv σ H fun v H1 => td σ H1 fun x H2 => ty σ H2 fun y H3 => ∃ a b xs k, x = .ref a ∧ y = .ref b ∧ H3 a = some (DNo a xs) ∧ DX K H3 a xs ∧ KyA K H3 b k ∧ ∀ r, RelV v r → D.nx σ (upd H3 a (DNo a (storedH xs k b r)))
theorem ps_nput (hu : X.A.units + 64 < cLine) (ho : PE X o td) (hi : PE X i ty) (hv : PE X value tv) (hs : swapsWith value (some (.Subscript o i pos')) pos.line X.env = pure false) :
    PS X (.Assign [.Subscript o i pos'] value pos) (sNPut X.K td ty tv) := by
  refine ⟨fun pins s σ H D I h => ?_⟩
  refine wpAny_Assign_Subscript (thn (hv.run pins s σ H _ I h) fun r s1 ⟨v, H1, I1, rv, q1⟩ => thn (ho.run pins s1 σ H1 _ I1 q1) fun u s2 ⟨x, H2, I2, rx, q2⟩ => thn (hi.run pins s2 σ H2 _ I2 q2) fun iv s3 ⟨y, H3, I3, ry, a, b, xs, k, ex, ey, hd, dx, hk, q3⟩ => ?_) hs
  subst ex ey
  obtain rfl : u = Value.ref a := rx
  obtain rfl : iv = Value.ref b := ry
  have dd := dx_dict I3 (.inl hd) dx
  refine wpAny_setItem_heap (hsz := dx.sz) (roomN hu) (key_isN I3 hk) dd fun h' dd' hs' => ?_
  have he : ∃ q, h'.get? a = some q := let ⟨q, _, _, hq, _⟩ := dd'; ⟨q, hq⟩
  refine ⟨σ, _, d_write I3 (by rw [hd]; exact True.intro) hs' he (dx_obj (fun x hx => ?_) dd'), q3 r rv⟩
  unfold storedH at hx
  split at hx
  · obtain ⟨z, hz, rfl⟩ := List.mem_map.mp hx
    have := (dx.ks z hz).pu
    unfold putAt
    split <;> exact this
  · rcases List.mem_append.mp hx with z | z
    · exact (dx.ks x z).pu
    · rw [List.mem_singleton.mp z]; exact hk.pu
theorem ss_nput (hu : X.A.units + 64 < cLine) (hv : SE X W value fv) (ho : SE X W o fo) (hi : SE X W i fi) (hs : swapsWith value (some (.Subscript o i pos')) pos.line X.env = pure false := by rfl) : SS X W (.Assign [.Subscript o i pos'] value pos) (sNPutS fv fo fi) :=
  ⟨ps_imp (ps_nput hu ho.pe hi.pe hv.pe hs) fun D σ H ⟨env, m, h, sta, sl, out⟩ => rd_then sta sl out fun x h1 xv H1 m1 g1 s1 rx out1 => rd_then s1 (sl.gr g1) out1 fun u h2 uv H2 m2 g2 s2 ru out2 => rd_then s2 ((sl.gr g1).gr g2) out2 fun w h3 wv H3 m3 g3 s3 rw out3 => by
    have ru3 := RU.kp g3.kp g3.pre _ _ ru
    have rx3 := RU.kp (g2.trans g3).kp (g2.trans g3).pre _ _ rx
    split at out3
    · rename_i h4 e4
      unfold nPut at e4
      split at e4
      · rename_i n
        split at e4
        · rename_i kvs k hn ek
          split at e4
          · rename_i hl
            cases e4
            cases ru3 with
            | ref hm =>
              rename_i a
              obtain ⟨xs, hH, dn⟩ := s3.obj _ _ _ hm hn
              obtain ⟨b, rfl, hk⟩ := keyN_v ek rw
              refine ⟨a, b, xs, k, rfl, rfl, hH, dn.dx, hk, fun r rr => ?_⟩
              have kp := mut_kp (y := DNo a (storedH xs k b r)) hH trivial
              have gw := Gr.write (y := DNo a (storedH xs k b r)) (List.mem_of_getElem? hm) hH trivial
              have hlen : xs.length < sizeLine := by rw [Paired.length dn.p]; exact ask_iff.mp hl
              exact (show ∀ σ' H' m', Gr H3 m3 H' m' → Sta X.K X.mg H' m' _ → Sl X.K H' m' σ' env → D.nx σ' H' from out3) σ _ m3 gw
                (s3.write hm hH trivial ⟨_, upd_same, (dn.put hk rx3 rr hlen).kp kp ⟨[], by simp⟩⟩) ((((sl.gr g1).gr g2).gr g3).gr gw)
          · cases e4
        · cases e4
      · cases e4
    · exact out3.elim⟩
/-! ### k in d, k not in d -/
def opNIn (n : Bool) (u w : U) (h : Sto) : Res U := match keyN u, dnOf h w with
  | some k, some kvs => .ok (.d (.bool (xor n (valN kvs k).isSome))) h
  | _, _ => .stuck
def rNIn (K : PySem.W.Frag) (n : Bool) : R2 := fun x y H Q => ∃ a b xs k, y = .ref a ∧ x = .ref b ∧ Rd H a (DNo a xs) ∧ DX K H a xs ∧ KyA K H b k ∧ Q (.bl (xor n (atKey xs k).isSome)) H
theorem op_nIn (hu : X.A.units + 64 < cLine) : OpR X (compareOp .In) (rNIn X.K false) := by
  intro pins s σ H x y v u Q I rx ry h
  obtain ⟨a, b, xs, k, rfl, rfl, hd, dx, hk, q⟩ := h
  obtain rfl : v = Value.ref b := rx
  obtain rfl : u = Value.ref a := ry
  refine wpAny_in_heap (roomN hu) (key_isN I hk) dx.sys (dx_dict I hd dx) ⟨.bl _, H, I.tok _, rfl, ?_⟩
  rw [Bool.false_xor] at q
  exact q
theorem op_nNotIn (hu : X.A.units + 64 < cLine) : OpR X (compareOp .NotIn) (rNIn X.K true) := by
  intro pins s σ H x y v u Q I rx ry h
  obtain ⟨a, b, xs, k, rfl, rfl, hd, dx, hk, q⟩ := h
  obtain rfl : v = Value.ref b := rx
  obtain rfl : u = Value.ref a := ry
  refine wpAny_notIn_heap (roomN hu) (key_isN I hk) dx.sys (dx_dict I hd dx) ⟨.bl _, H, I.tok _, rfl, ?_⟩
  rw [Bool.true_xor] at q
  exact q
theorem ab_nIn (n : Bool) : Ab2 X W (opNIn n) (rNIn X.K n) := by
  intro σ H m h x y u w Q s ru rw out
  unfold opNIn at out
  split at out
  · rename_i k kvs ek ed
    obtain ⟨a, xs, rfl, hd, dn⟩ := dnOf_v s ed rw
    obtain ⟨b, rfl, hk⟩ := keyN_v ek ru
    refine ⟨a, b, xs, k, rfl, rfl, hd, dn.dx, hk, ?_⟩
    have e : (valN kvs k).isSome = (atKey xs k).isSome := by
      rcases dn.val k with ⟨l1, l2⟩ | ⟨p, u', v, l1, l2, _, _⟩ <;> rw [l1, l2] <;> rfl
    rw [e] at out
    exact Out.here (b := V.bl _) out s (.d (.bl _))
  · exact out.elim
end
end Wk

/-! T20: dicts by nested keys, walked: for k, v in d.items(), for k in d. -/
namespace Wk
open PySem PySem.Spec PyProof.Rows L2
/-- the pairs of the locked dict at d, each a new tuple -/
def Itn (d : Addr) (o : Obj) (xs : XS) (vs : List V) : It :=
  ⟨fun i H => H d = some (.frz o (DNo d xs)) ∧ i < xs.length, fun i H x H' => ∃ T y v, xs[i]? = some y ∧ vs[i]? = some v ∧ x = .ref T ∧ H T = none ∧ H' = upd H T (.tup [.ref y.2.1, v]), fun i H => H d = some (.frz o (DNo d xs)) ∧ xs.length ≤ i⟩
/-- its keys -/
def Itkn (d : Addr) (o : Obj) (xs : XS) : It :=
  ⟨fun i H => H d = some (.frz o (DNo d xs)) ∧ i < xs.length, fun i H x H' => H' = H ∧ ∃ y, xs[i]? = some y ∧ x = .ref y.2.1, fun i H => H d = some (.frz o (DNo d xs)) ∧ xs.length ≤ i⟩
theorem frzN {X : Cx} {pins : List (Addr × Obj)} {σ : L2.St} {H : Hp} {s : Shared} {d : Addr} {o : Obj} {xs : XS} (I : L2.Inv X pins σ H s) (h : H d = some (.frz o (DNo d xs))) : s.heap.get? d = some o ∧ o.ExactDict ∧ ∃ es ep, o.data = .dict es ep ∧ es.toList = xs.map eK := by
  obtain ⟨h1, ⟨o', es, ep, k1, k2, k3, k4⟩, _, _⟩ := I.hok d _ h
  rw [h1] at k1
  cases k1
  exact ⟨h1, k2, es, ep, k3, k4⟩
theorem eK_at {es : Array DictEntry} {xs : XS} (he : es.toList = xs.map eK) (j : Nat) : es[j]? = (xs[j]?).map eK := by
  rw [← Array.getElem?_toList, he, List.getElem?_map]
theorem eK_size {es : Array DictEntry} {xs : XS} (he : es.toList = xs.map eK) : es.size = xs.length := by
  rw [← Array.length_toList, he, List.length_map]
theorem paired_at {α β : Type} {F : α → β → Prop} : ∀ {l : List α} {r : List β} {i : Nat} {y : β}, Paired F l r → r[i]? = some y → ∃ x, l[i]? = some x ∧ F x y
  | _, _, i, y, .nil, e => by simp at e
  | _, _, 0, y, .cons p q, e => by simp at e; subst e; exact ⟨_, rfl, p⟩
  | _, _, i + 1, y, .cons p q, e => by
    obtain ⟨x, h1, h2⟩ := paired_at (i := i) q (by simpa using e)
    exact ⟨x, by simpa using h1, h2⟩
section
variable {P : Program} {w : World} {K : PySem.W.Frag} {d : Addr} {o : Obj} {es : Array DictEntry} {ep : Nat} {xs : XS} {vs : List V}
theorem turn_itemsN {elts : List Expr} {kk : Nat} {tpos : Pos} (it : Addr) (hod : o.data = .dict es ep) (hv : Paired (fun v x => RelV v x.2.2) vs xs) :
    Turn P w K (.Tuple elts kk tpos) (Itn d o xs vs) [it] it (fun i h => ∃ ok ov, IsItemIter h it d i xs.length ep ok ov) where
  mem := by simp
  obj := fun i h st b hb => by
    have e : b = it := by simpa using hb
    subst e
    obtain ⟨ok, ov, e⟩ := st
    exact ⟨_, e, fun v z => nomatch z⟩
  keep := fun i h h' st k => let ⟨ok, ov, e⟩ := st; ⟨ok, ov, k it (by simp) _ e⟩
  item := by
    intro X hP hw hK hc i pins s σ H E I hf st hg
    subst hP hw hK
    obtain ⟨hd, hi⟩ := hg
    obtain ⟨hgd, hx, es', ep', hdt, he⟩ := frzN I hd
    obtain ⟨rfl, rfl⟩ := dict_ep hod hdt
    have hsz := eK_size he
    obtain ⟨y, hy⟩ : ∃ p, xs[i]? = some p := ⟨xs[i], List.getElem?_eq_getElem hi⟩
    obtain ⟨v, hv1, rv⟩ := paired_at hv hy
    obtain ⟨ok, ov, hit⟩ := st
    rw [← hsz] at hit
    have hlt : it < s.heap.objs.size := Heap.lt_size hit
    have hi' : i < es'.size := by omega
    have hen : es'[i] = eK y := by
      have := eK_at he i
      rw [hy, Array.getElem?_eq_getElem hi'] at this
      exact Option.some.inj this
    refine DT.nextI hit ⟨o, hgd, hx, hdt⟩ hi' fun h' ho hT hz hk => ?_
    rw [hen] at ho hT
    refine ⟨_, rfl, wpAny_letOwnedTupleGo_items (s := { s with heap := h' }) ho fun h'' he' sb => ?_⟩
    have hT2 : h''.get? s.heap.objs.size = some { cls := .type "tuple", data := .seq #[(eK y).key, (eK y).val] } := (sb.2 _ (Nat.ne_of_gt hlt)).trans hT
    have new : ObjOk X.prog X.w (upd H s.heap.objs.size (.tup [.ref y.2.1, v])) h'' s.heap.objs.size (.tup [.ref y.2.1, v]) :=
      ⟨by show 2 ≤ sizeLine; decide, [(eK y).key, (eK y).val], .cons (show RelV (.ref y.2.1) (.ref y.2.1) from rfl) (.cons rv .nil), ⟨_, hT2, rfl, _, rfl⟩⟩
    have I1 : L2.Inv X pins σ (upd H s.heap.objs.size (.tup [.ref y.2.1, v])) { s with heap := h'' } :=
      I.turnedNew (t' := s.toks) (ch := [it]) (fun b ob hb e => (sb.2 b (by simpa using hb)).trans (hk b ob (by simpa using hb) e)) hf (Nat.le_refl _) new
    refine ⟨.ref s.heap.objs.size, _, I1, rfl, ⟨_, y, v, hy, hv1, rfl, I.hok.fresh (Nat.le_refl _), rfl⟩, ⟨(eK y).key, (eK y).val, by rw [← hsz]; exact he'⟩, fun b hb => ?_⟩
    · have e : b = it := by simpa using hb
      rw [e, upd_ne (Nat.ne_of_lt hlt)]
      exact (hf it (by simp)).1
  done := by
    intro X hP hw hK hc i pins s σ H E I hf st hg
    subst hP hw hK
    obtain ⟨hd, hi⟩ := hg
    obtain ⟨f0, f1, f2, f3, f4, f5⟩ := hf it (by simp)
    obtain ⟨hgd, hx, es', ep', hdt, he⟩ := frzN I hd
    obtain ⟨rfl, rfl⟩ := dict_ep hod hdt
    have hsz := eK_size he
    obtain ⟨ok, ov, hit⟩ := st
    rw [← hsz] at hit
    exact DT.endI (I.ok.hd hc) hit ⟨o, hgd, hx, hdt⟩ (by omega) fun h' eb => ⟨rfl, I.turned (t' := s.toks) (fun b ob hb e => eb b ob hb e) f0 f1 f3 f4 f5⟩
  self := fun A i s Q E st h => let ⟨_, _, e⟩ := st; PySem.W.kcp_self e h
theorem turn_keysN {tg : Expr} (it : Addr) (hod : o.data = .dict es ep) : Turn P w K tg (Itkn d o xs) [it] it (fun i h => h.IsKeyIter it d i xs.length ep) where
  mem := by simp
  obj := fun i h st b hb => by
    have e : b = it := by simpa using hb
    subst e
    obtain ⟨oi, e, c, dd⟩ := st
    exact ⟨oi, e, fun v z => by rw [dd] at z; cases z⟩
  keep := fun i h h' st k => st.at fun oi e => k it (by simp) oi e
  item := by
    intro X hP hw hK hc i pins s σ H E I hf st hg
    subst hP hw hK
    obtain ⟨hd, hi⟩ := hg
    obtain ⟨f0, f1, f2, f3, f4, f5⟩ := hf it (by simp)
    obtain ⟨hgd, hx, es', ep', hdt, he⟩ := frzN I hd
    obtain ⟨rfl, rfl⟩ := dict_ep hod hdt
    have hsz := eK_size he
    obtain ⟨y, hy⟩ : ∃ p, xs[i]? = some p := ⟨xs[i], List.getElem?_eq_getElem hi⟩
    have hen : es'[i]? = some (eK y) := by rw [eK_at he i, hy]; rfl
    refine next_key_item st hgd hdt hsz hen fun h' st' sb => ?_
    have I1 : L2.Inv X pins σ H { s with heap := h' } := I.turned (t' := s.toks) (fun b ob hb e => (sb.2 b hb).trans e) f0 f1 f3 f4 f5
    obtain ⟨oi, e, c, dd⟩ := id st'
    exact ⟨_, rfl, go_of (s := { s with heap := h' }) e c dd (by decide) ⟨.ref y.2.1, H, I1, rfl, ⟨rfl, y, hy, rfl⟩, st', fun b hb => (hf b hb).1⟩⟩
  done := by
    intro X hP hw hK hc i pins s σ H E I hf st hg
    subst hP hw hK
    obtain ⟨hd, hi⟩ := hg
    obtain ⟨f0, f1, f2, f3, f4, f5⟩ := hf it (by simp)
    obtain ⟨hgd, hx, es', ep', hdt, he⟩ := frzN I hd
    obtain ⟨rfl, rfl⟩ := dict_ep hod hdt
    exact next_key_end (I.ok.hd hc) st hgd hdt (eK_size he) hi fun h' eb => ⟨rfl, I.turned (t' := s.toks) (fun b ob hb e => eb b ob hb e) f0 f1 f3 f4 f5⟩
  self := fun A i s Q E st h => by
    refine wpAny_pyIter_slot st.typeIs PySem.F.slot_dict_keyiterator_iter (wpAny_call_entry PySem.F.slot_dict_keyiterator_iter st.typeIs PySem.F.entry_dict_keyiterator_iter ?_ (PySem.F.args_dict_keyiterator_iter_1 _))
    show wpAny _ _ (ret (.ref it)) _ _ s
    exact wpAny_pure ⟨_, rfl, "dict_keyiterator", _, st.typeIs, PySem.F.slot_dict_keyiterator_next.lookup, h⟩
end
def iNItems (td : TE) : TI := fun σ H R => td σ H fun x H1 => ∃ d xs vs, x = .ref d ∧ (d == sysModules) = false ∧ Paired (fun v x => RelV v x.2.2) vs xs ∧
  ((H1 d = some (DNo d xs) ∧ ∀ o, R (Itn d o xs vs) (upd H1 d (.frz o (DNo d xs)))) ∨ ∃ o, H1 d = some (.frz o (DNo d xs)) ∧ R (Itn d o xs vs) H1)
def iNKeys (td : TE) : TI := fun σ H R => td σ H fun x H1 => ∃ d xs, x = .ref d ∧ (d == sysModules) = false ∧
  ((H1 d = some (DNo d xs) ∧ ∀ o, R (Itkn d o xs) (upd H1 d (.frz o (DNo d xs)))) ∨ ∃ o, H1 d = some (.frz o (DNo d xs)) ∧ R (Itkn d o xs) H1)
section
variable {X : Cx} {W : WX} {tg e : Expr} {td : TE} {apos cpos : Pos} {f : Ev}
theorem pi_nitems {elts : List Expr} {kk : Nat} {tpos : Pos} (he : PE X e td) (hbase : attributeBase e "items" X.env (eval e X.env) = eval e X.env := by rfl) (hline : (apos.endLine == cpos.line) = true := by rfl) :
    PI X (.Tuple elts kk tpos) (.Call (.Attribute e "items" apos) [] [] cpos) (iNItems td) := by
  refine ⟨fun pins s σ H R I h => ?_⟩
  refine wpAny_Call_method (T := "dict") (id := "dict.items") hbase rfl hline PySem.F.plainAttrs_dict PySem.F.slot_dict_items PySem.F.type_dict_items (thn (he.run pins s σ H _ I h) fun u s1 ⟨x, H0, I0, rx, d, xs, vs, ex, hs, hv, q0⟩ => ?_)
  subst ex
  obtain rfl : u = Value.ref d := rx
  obtain ⟨o, H1, I1, hd, q⟩ : ∃ o H1, L2.Inv X pins σ H1 s1 ∧ H1 d = some (.frz o (DNo d xs)) ∧ R (Itn d o xs vs) H1 := by
    rcases q0 with ⟨hd, q⟩ | ⟨o, hd, q⟩
    · obtain ⟨od, I2⟩ := I0.lock hd trivial
      exact ⟨od, _, I2, upd_same, q od⟩
    · exact ⟨o, H0, I0, hd, q⟩
  obtain ⟨hgd, hx, es, ep, hdt, hee⟩ := frzN I1 hd
  have hsz := eK_size hee
  have raw : DT.Raw s1.heap d es ep := ⟨o, hgd, hx, hdt⟩
  refine ⟨raw.typeIs, fun b z => (by cases z; exact ⟨o, hgd, hx.2.1⟩), ?_⟩
  have I2 : L2.Inv X pins σ H1 { s1 with heap := s1.heap.push { cls := .type "dict_items", data := .fields #[.ref d] } } := I1.kept (t' := s1.toks) fun b ob q => Heap.get?_push_of_some _ q
  have fin : wpAny (model X.prog X.w) X.A (pyIter (.ref s1.heap.objs.size)) (PIE X pins σ (.Tuple elts kk tpos) R) X.xe { s1 with heap := s1.heap.push { cls := .type "dict_items", data := .fields #[.ref d] } } := by
    refine DT.iterI (d := d) ⟨_, Heap.get?_push_size _ rfl, rfl, rfl⟩ (raw.push _) (pi_one (tk := s1.toks) I2 _ (turn_itemsN _ hdt hv) ⟨.none, .none, ?_⟩ q)
    rw [← hsz]
    exact Heap.get?_push_size _ rfl
  show wpAny _ _ (callWith cpos (.builtin "dict.items") [.ref d] [] []) _ X.xe s1
  exact method_meetsIn PySem.F.slot_dict_items PySem.F.entry_dict_items rfl (PySem.evalArgs_none ⟨rfl, raw.typeIs, PySem.F.args_dict_items_1 _, _, DT.meetsItems (es := es) (ep := ep) hs, raw, fin⟩)
theorem pi_nkeys (he : PE X e td) : PI X tg e (iNKeys td) := by
  refine ⟨fun pins s σ H R I h => ?_⟩
  refine thn (he.run pins s σ H _ I h) fun u s1 ⟨x, H0, I0, rx, d, xs, ex, hs, q0⟩ => ?_
  subst ex
  obtain rfl : u = Value.ref d := rx
  obtain ⟨o, H1, I1, hd, q⟩ : ∃ o H1, L2.Inv X pins σ H1 s1 ∧ H1 d = some (.frz o (DNo d xs)) ∧ R (Itkn d o xs) H1 := by
    rcases q0 with ⟨hd, q⟩ | ⟨o, hd, q⟩
    · obtain ⟨od, I2⟩ := I0.lock hd trivial
      exact ⟨od, _, I2, upd_same, q od⟩
    · exact ⟨o, H0, I0, hd, q⟩
  obtain ⟨hgd, hx, es, ep, hdt, hee⟩ := frzN I1 hd
  have hsz := eK_size hee
  refine iter_keys hs hgd hx hdt (pi_one (tk := s1.toks) I1 _ (turn_keysN _ hdt) ⟨_, Heap.get?_push_size _ rfl, rfl, ?_⟩ q)
  rw [hsz] <;> rfl
/-! ### over the store -/
def pairU (kv : NestedKey × U) : U := match kv.2 with
  | .d x => .d (.tuple [kv.1.data, x])
  | u => .tup [.d kv.1.data, u]
def iNIt (f : Ev) : Ea := fun env h => (f env h).bind fun u h1 => match u with
  | .ref n => (match h1[n]? with
    | some (.dtp kvs) => .ok (kvs.map pairU) (h1.set n (.fdt kvs))
    | some (.fdt kvs) => .ok (kvs.map pairU) h1
    | _ => .stuck)
  | _ => .stuck
def iNK (f : Ev) : Ea := fun env h => (f env h).bind fun u h1 => match u with
  | .ref n => (match h1[n]? with
    | some (.dtp kvs) => .ok (kvs.map fun kv => .d kv.1.data) (h1.set n (.fdt kvs))
    | some (.fdt kvs) => .ok (kvs.map fun kv => .d kv.1.data) h1
    | _ => .stuck)
  | _ => .stuck
theorem DN.vals {K : PySem.W.Frag} {H : Hp} {m : List Addr} {a : Addr} {xs : XS} {kvs : List (NestedKey × U)} (d : DN K H m a xs kvs) : ∃ vs, Paired (fun v x => RelV v x.2.2) vs xs ∧ RUs K H m vs (kvs.map (·.2)) := by
  have h := d.p
  clear d
  induction h with
  | nil => exact ⟨[], .nil, .nil⟩
  | @cons x kv l r z _ ih =>
    obtain ⟨vs, h1, h2⟩ := ih
    obtain ⟨_, _, _, v, z4, z5⟩ := z
    exact ⟨v :: vs, .cons z5 h1, .cons z4 h2⟩
theorem paired_at' {α β : Type} {F : α → β → Prop} : ∀ {l : List α} {r : List β} {i : Nat} {x : α}, Paired F l r → l[i]? = some x → ∃ y, r[i]? = some y ∧ F x y
  | _, _, i, y, .nil, e => by simp at e
  | _, _, 0, y, .cons p q, e => by simp at e; subst e; exact ⟨_, rfl, p⟩
  | _, _, i + 1, y, .cons p q, e => by
    obtain ⟨x, h1, h2⟩ := paired_at' (i := i) q (by simpa using e)
    exact ⟨x, by simpa using h1, h2⟩
theorem wlk_items {K : PySem.W.Frag} {H : Hp} {m : List Addr} {d : Addr} {o : Obj} {xs : XS} {vs : List V} {kvs : List (NestedKey × U)} (hd : H d = some (.frz o (DNo d xs))) (dn : DN K H m d xs kvs) (hv : RUs K H m vs (kvs.map (·.2))) : Wlk K (Itn d o xs vs) H m (kvs.map pairU) := fun H' m' k pre => by
  have hd' := k.frz _ _ _ hd
  have hl : xs.length = kvs.length := Paired.length dn.p
  refine ⟨fun i hi => ⟨hd', by rw [List.length_map] at hi; omega⟩, fun i u e => ?_⟩
  rw [List.getElem?_map] at e
  cases q : kvs[i]? with
  | none => rw [q] at e; cases e
  | some kv =>
    rw [q] at e
    cases e
    have hi := (List.getElem?_eq_some_iff.mp q).1
    refine ⟨⟨hd', by omega⟩, fun x H'' yy => ?_⟩
    obtain ⟨T, y, v, hy, hv1, rfl, hT, rfl⟩ := yy
    have sm : Same H' (upd H' T (.tup [.ref y.2.1, v])) := Same.lay hT
    refine ⟨sm, ?_⟩
    obtain ⟨kv', q1, z1, z2, z3, v', z4, z5⟩ := paired_at' (dn.kp k pre).p hy
    rw [q] at q1
    cases q1
    obtain ⟨v2, e2, r2⟩ := RUs.get (RUs.kp k pre _ _ hv) (show (kvs.map (·.2))[i]? = some kv.2 by rw [List.getElem?_map, q]; rfl)
    rw [hv1] at e2
    cases e2
    have rk : RD K (upd H' T (.tup [.ref y.2.1, v])) (.ref y.2.1) kv.1.data := by rw [← z1]; exact RD.kp (Kp.same sm) _ _ z3
    have rv : RU K (upd H' T (.tup [.ref y.2.1, v])) m' v kv.2 := RU.kp (Kp.same sm) ⟨[], by simp⟩ _ _ r2
    unfold pairU
    split
    · rename_i x hx
      rw [hx] at rv
      exact .d (.tup (.inl (.inl upd_same)) (.cons rk (.cons rv.rd .nil)))
    · exact .tup (.inl (.inl upd_same)) (.cons (.d rk) (.cons rv .nil))
theorem wlk_nkeys {K : PySem.W.Frag} {H : Hp} {m : List Addr} {d : Addr} {o : Obj} {xs : XS} {kvs : List (NestedKey × U)} (hd : H d = some (.frz o (DNo d xs))) (dn : DN K H m d xs kvs) : Wlk K (Itkn d o xs) H m (kvs.map fun kv => .d kv.1.data) := fun H' m' k pre => by
  have hd' := k.frz _ _ _ hd
  have hl : xs.length = kvs.length := Paired.length dn.p
  refine ⟨fun i hi => ⟨hd', by rw [List.length_map] at hi; omega⟩, fun i u e => ?_⟩
  rw [List.getElem?_map] at e
  cases q : kvs[i]? with
  | none => rw [q] at e; cases e
  | some kv =>
    rw [q] at e
    cases e
    have hi := (List.getElem?_eq_some_iff.mp q).1
    refine ⟨⟨hd', by omega⟩, fun x H'' yy => ?_⟩
    obtain ⟨rfl, y, hy, rfl⟩ := yy
    obtain ⟨kv', q1, z1, z2, z3, _⟩ := paired_at' (dn.kp k pre).p hy
    rw [q] at q1
    cases q1
    exact ⟨Same.refl _, .d (by rw [← z1]; exact z3)⟩
theorem si_nitems {elts : List Expr} {kk : Nat} {tpos : Pos} (he : SE X W e f) (hbase : attributeBase e "items" X.env (eval e X.env) = eval e X.env := by rfl) (hline : (apos.endLine == cpos.line) = true := by rfl) :
    SI X W (.Tuple elts kk tpos) (.Call (.Attribute e "items" apos) [] [] cpos) (iNIt f) :=
  ⟨pi_imp (pi_nitems he.pe hbase hline) fun σ H R ⟨env, m, h, sta, sl, out⟩ => rd_of sta sl out fun u h1 v H1 m1 g1 s1 r1 out1 => by
    split at out1
    · rename_i n
      cases r1 with
      | ref hm =>
        rename_i a
        split at out1
        · rename_i kvs hn
          obtain ⟨xs, hH, dn⟩ := s1.obj _ _ _ hm hn
          obtain ⟨vs, hv, rv⟩ := dn.vals
          refine ⟨a, xs, vs, rfl, dn.sys, hv, .inl ⟨hH, fun o => ?_⟩⟩
          have kp := mut_kp (y := HO.frz o (DNo a xs)) hH trivial
          have gw := Gr.write (y := HO.frz o (DNo a xs)) (List.mem_of_getElem? hm) hH trivial
          have dn' : DN X.K (upd H1 a (.frz o (DNo a xs))) m1 a xs kvs := dn.kp kp ⟨[], by simp⟩
          exact Out.ok (b := Itn a o xs vs) out1 gw (s1.write hm hH trivial ⟨o, xs, upd_same, dn'⟩) (wlk_items upd_same dn' (RUs.kp kp ⟨[], by simp⟩ _ _ rv))
        · rename_i kvs hn
          obtain ⟨o, xs, hH, dn⟩ := s1.obj _ _ _ hm hn
          obtain ⟨vs, hv, rv⟩ := dn.vals
          exact ⟨a, xs, vs, rfl, dn.sys, hv, .inr ⟨o, hH, Out.here (b := Itn a o xs vs) out1 s1 (wlk_items hH dn rv)⟩⟩
        · exact out1.elim
    · exact out1.elim⟩
theorem si_nkeys (he : SE X W e f) : SI X W tg e (iNK f) :=
  ⟨pi_imp (pi_nkeys he.pe) fun σ H R ⟨env, m, h, sta, sl, out⟩ => rd_of sta sl out fun u h1 v H1 m1 g1 s1 r1 out1 => by
    split at out1
    · rename_i n
      cases r1 with
      | ref hm =>
        rename_i a
        split at out1
        · rename_i kvs hn
          obtain ⟨xs, hH, dn⟩ := s1.obj _ _ _ hm hn
          refine ⟨a, xs, rfl, dn.sys, .inl ⟨hH, fun o => ?_⟩⟩
          have kp := mut_kp (y := HO.frz o (DNo a xs)) hH trivial
          have gw := Gr.write (y := HO.frz o (DNo a xs)) (List.mem_of_getElem? hm) hH trivial
          have dn' : DN X.K (upd H1 a (.frz o (DNo a xs))) m1 a xs kvs := dn.kp kp ⟨[], by simp⟩
          exact Out.ok (b := Itkn a o xs) out1 gw (s1.write hm hH trivial ⟨o, xs, upd_same, dn'⟩) (wlk_nkeys upd_same dn')
        · rename_i kvs hn
          obtain ⟨o, xs, hH, dn⟩ := s1.obj _ _ _ hm hn
          exact ⟨a, xs, rfl, dn.sys, .inr ⟨o, hH, Out.here (b := Itkn a o xs) out1 s1 (wlk_nkeys hH dn)⟩⟩
        · exact out1.elim
    · exact out1.elim⟩
@[simp] theorem ev_NNew (env : Env') (h : Sto) : eNNew env h = .ok (.ref h.length) (h ++ [.dtp []]) := (rfl)
@[simp] theorem ev_NGet2 (fo fk fx : Ev) (env : Env') (h : Sto) : eNGet2 fo fk fx env h = (fo env h).bind fun u h1 => match dnOf h1 u with | some _ => (fk env h1).bind fun w h2 => (fx env h2).bind fun x h3 => (match dnOf h3 u, keyN w with | some kvs, some k => .ok ((valN kvs k).getD x) h3 | _, _ => .stuck) | none => .stuck := (rfl)
theorem ev_NPutS (fv fo fk : Ev) (env : Env') (h : Sto) : sNPutS fv fo fk env h = (fv env h).then_ env fun x h1 => (fo env h1).then_ env fun u h2 => (fk env h2).then_ env fun w h3 => match nPut u w x h3 with | some h4 => .next env h4 | none => .stuck := (rfl)
end
end Wk

/-! SH: bodies of simple statements and agains; what a shortest one is (k55, k56). -/
namespace Wk
open PySem L2
inductive Q5 where
  | s (x : Smp)
  | a (t : Nat) (b : List Q5)
mutual
def Q5.e : Q5 → D
  | .s x => x.e
  | .a t b => .tuple [.str "again", .int t, .tuple (qE b)]
def qE : List Q5 → List D
  | [] => []
  | q :: r => q.e :: qE r
end
mutual
def Q5.put : Q5 → List Smp
  | .s x => [x]
  | .a t b => (List.replicate t (qPut b)).flatten
def qPut : List Q5 → List Smp
  | [] => []
  | q :: r => q.put ++ qPut r
end
mutual
def Q5.sz : Q5 → Nat
  | .s _ => 1
  | .a _ b => qSz b + 1
def qSz : List Q5 → Nat
  | [] => 0
  | q :: r => q.sz + qSz r
end
mutual
def Q5.dp : Q5 → Nat
  | .s _ => 0
  | .a _ b => qDp b + 1
def qDp : List Q5 → Nat
  | [] => 0
  | q :: r => max q.dp (qDp r)
end
mutual
def Q5.ok : Q5 → Prop
  | .s x => x.small
  | .a t b => 2 ≤ t ∧ t ≤ 60 ∧ qOk b
def qOk : List Q5 → Prop
  | [] => True
  | q :: r => q.ok ∧ qOk r
end
mutual
/-- no again is empty -/
def Q5.ne : Q5 → Prop
  | .s _ => True
  | .a _ b => qPut b ≠ [] ∧ qNe b
def qNe : List Q5 → Prop
  | [] => True
  | q :: r => q.ne ∧ qNe r
end
theorem qE_app : ∀ b c : List Q5, qE (b ++ c) = qE b ++ qE c
  | [], _ => rfl
  | q :: r, c => by rw [List.cons_append, qE, qE, qE_app r c, List.cons_append]
theorem qPut_app : ∀ b c : List Q5, qPut (b ++ c) = qPut b ++ qPut c
  | [], _ => rfl
  | q :: r, c => by rw [List.cons_append, qPut, qPut, qPut_app r c, List.append_assoc]
theorem qSz_app : ∀ b c : List Q5, qSz (b ++ c) = qSz b + qSz c
  | [], _ => by rw [List.nil_append, qSz, Nat.zero_add]
  | q :: r, c => by rw [List.cons_append, qSz, qSz, qSz_app r c, Nat.add_assoc]
theorem qDp_app : ∀ b c : List Q5, qDp (b ++ c) = max (qDp b) (qDp c)
  | [], _ => by rw [List.nil_append, qDp, Nat.zero_max]
  | q :: r, c => by rw [List.cons_append, qDp, qDp, qDp_app r c, Nat.max_assoc]
theorem qOk_app : ∀ b c : List Q5, qOk (b ++ c) ↔ qOk b ∧ qOk c
  | [], _ => by rw [List.nil_append, qOk, true_and]
  | q :: r, c => by rw [List.cons_append, qOk, qOk, qOk_app r c, and_assoc]
theorem qNe_app : ∀ b c : List Q5, qNe (b ++ c) ↔ qNe b ∧ qNe c
  | [], _ => by rw [List.nil_append, qNe, true_and]
  | q :: r, c => by rw [List.cons_append, qNe, qNe, qNe_app r c, and_assoc]
theorem qE_len : ∀ b : List Q5, (qE b).length = b.length
  | [] => rfl
  | q :: r => by rw [qE, List.length_cons, List.length_cons, qE_len r]
theorem qSz_len : ∀ b : List Q5, b.length ≤ qSz b
  | [] => Nat.zero_le _
  | q :: r => by
    rw [qSz, List.length_cons]
    have := qSz_len r
    have : 1 ≤ q.sz := by cases q <;> rw [Q5.sz] <;> omega
    omega
theorem rep_len {α : Type} (t : Nat) (l : List α) : (List.replicate t l).flatten.length = t * l.length := by
  rw [List.length_flatten, List.map_replicate, List.sum_replicate_nat]
mutual
theorem Q5.dp_le : ∀ q : Q5, q.ok → q.ne → 2 ^ q.dp ≤ max 1 q.put.length
  | .s x, _, _ => by rw [Q5.dp]; omega
  | .a t b, h, h' => by
    rw [Q5.ok] at h
    rw [Q5.ne] at h'
    have := qDp_le b h.2.2 h'.2
    rw [Q5.dp, Q5.put, rep_len, Nat.pow_succ]
    have hp : 0 < (qPut b).length := List.length_pos_iff.mpr h'.1
    have : 2 * (qPut b).length ≤ t * (qPut b).length := Nat.mul_le_mul_right _ h.1
    omega
theorem qDp_le : ∀ b : List Q5, qOk b → qNe b → 2 ^ qDp b ≤ max 1 (qPut b).length
  | [], _, _ => by rw [qDp]; omega
  | q :: r, h, h' => by
    rw [qOk] at h
    rw [qNe] at h'
    have a := q.dp_le h.1 h'.1
    have b := qDp_le r h.2 h'.2
    rw [qDp, qPut, List.length_append]
    rcases Nat.le_total q.dp (qDp r) with z | z
    · rw [Nat.max_eq_right z]; omega
    · rw [Nat.max_eq_left z]; omega
end
mutual
theorem Q5.small : ∀ q : Q5, q.ok → ∀ x ∈ q.put, x.small
  | .s y, h, x, hx => by rw [Q5.put] at hx; rw [Q5.ok] at h; rw [List.mem_singleton.mp hx]; exact h
  | .a t b, h, x, hx => by
    rw [Q5.put] at hx
    rw [Q5.ok] at h
    obtain ⟨l, h1, h2⟩ := List.mem_flatten.mp hx
    rw [List.eq_of_mem_replicate h1] at h2
    exact small_put b h.2.2 x h2
theorem small_put : ∀ b : List Q5, qOk b → ∀ x ∈ qPut b, x.small
  | [], _, x, hx => by rw [qPut] at hx; cases hx
  | q :: r, h, x, hx => by
    rw [qOk] at h
    rw [qPut] at hx
    rcases List.mem_append.mp hx with z | z
    · exact q.small h.1 x z
    · exact small_put r h.2 x z
end
/-- no body that does w is of less than n statements -/
def Best (w : List Smp) (n : Nat) : Prop := ∀ c : List Q5, qOk c → qPut c = w → n ≤ qSz c
theorem best_step {w : List Smp} {n : Nat} (hw : w ≠ []) (h1 : ∀ x, w = [x] → n ≤ 1)
    (h2 : ∀ u v, w = u ++ v → u ≠ [] → v ≠ [] → ∃ nu nv, Best u nu ∧ Best v nv ∧ n ≤ nu + nv)
    (h3 : ∀ u t, w = (List.replicate t u).flatten → u ≠ [] → 2 ≤ t → ∃ nu, Best u nu ∧ n ≤ nu + 1) : Best w n
  | [], _, e => absurd (by rw [← e]; rfl) hw
  | q :: r, hq, e => by
    rw [qOk] at hq
    rw [qPut] at e
    rw [qSz]
    by_cases e1 : q.put = []
    · have := best_step hw h1 h2 h3 r hq.2 (by rw [← e, e1]; rfl)
      omega
    by_cases e2 : qPut r = []
    · rw [e2, List.append_nil] at e
      cases q with
      | s x =>
        have := h1 x (by rw [← e, Q5.put])
        rw [Q5.sz]; omega
      | a t b =>
        rw [Q5.put] at e
        have ho := hq.1
        rw [Q5.ok] at ho
        have hb : qPut b ≠ [] := fun z => hw (by rw [← e, z, List.flatten_replicate_nil])
        obtain ⟨nu, k1, k2⟩ := h3 _ t e.symm hb ho.1
        have := k1 b ho.2.2 rfl
        rw [Q5.sz]; omega
    · obtain ⟨nu, nv, k1, k2, k3⟩ := h2 _ _ e.symm e1 e2
      have a := k1 [q] (by rw [qOk, qOk]; exact ⟨hq.1, trivial⟩) (by rw [qPut, qPut, List.append_nil])
      have b := k2 r hq.2 rfl
      rw [qSz, qSz] at a
      omega
structure GoodQ (w : List Smp) (n : Nat) (b : List Q5) : Prop where
  put : qPut b = w
  sz : qSz b = n
  ok : qOk b
  ne : qNe b
def ent (n : Nat) (b : List Q5) : D := .tuple [.int n, .tuple (qE b)]
/-- the stretch from s to e -/
def cutL {α : Type} (W : List α) (s e : Nat) : List α := (W.take e).drop s
theorem cutL_len {α : Type} (W : List α) {s e : Nat} (h : e ≤ W.length) : (cutL W s e).length = e - s := by
  unfold cutL; rw [List.length_drop, List.length_take, Nat.min_eq_left h]
theorem cutL_app {α : Type} (W : List α) {s a e : Nat} (h1 : s ≤ a) (h2 : a ≤ e) : cutL W s a ++ cutL W a e = cutL W s e := by
  unfold cutL
  have : (W.take e).drop s = (((W.take e).take a).drop s) ++ ((W.take e).drop a) := by
    rcases Nat.lt_or_ge (W.take e).length a with z | z
    · rw [List.take_of_length_le (i := a) (l := W.take e) (Nat.le_of_lt z), List.drop_of_length_le (i := a) (l := W.take e) (Nat.le_of_lt z), List.append_nil]
    · conv => lhs; rw [← List.take_append_drop a (W.take e)]
      rw [List.drop_append_of_le_length (by rw [List.length_take]; omega)]
  rw [this, List.take_take, Nat.min_eq_left h2]
theorem cutL_split {α : Type} (W : List α) {s e : Nat} (he : e ≤ W.length) (hs : s ≤ e) {u v : List α} (h : cutL W s e = u ++ v) : u = cutL W s (s + u.length) ∧ v = cutL W (s + u.length) e ∧ s + u.length + v.length = e := by
  have hl := cutL_len W (s := s) he
  rw [h, List.length_append] at hl
  have ha := cutL_app W (s := s) (a := s + u.length) (e := e) (by omega) (by omega)
  rw [h] at ha
  have l1 := cutL_len W (s := s) (e := s + u.length) (by omega)
  obtain ⟨a, b⟩ := List.append_inj ha (by rw [l1]; omega)
  exact ⟨a.symm, b.symm, by omega⟩
theorem cutL_all {α : Type} (W : List α) : cutL W 0 W.length = W := by
  unfold cutL; rw [List.take_length]; rfl
theorem cutL_one {α : Type} (W : List α) {s : Nat} {x : α} (h : W[s]? = some x) : cutL W s (s + 1) = [x] := by
  unfold cutL
  obtain ⟨hs, hx⟩ := List.getElem?_eq_some_iff.mp h
  rw [List.drop_take, Nat.add_sub_cancel_left, List.drop_eq_getElem_cons hs, List.take_succ_cons, hx]
  rfl
theorem cutL_map {α β : Type} (f : α → β) (W : List α) (s e : Nat) : (cutL W s e).map f = cutL (W.map f) s e := by
  unfold cutL; rw [List.map_drop, List.map_take]
theorem cut_both {α : Type} (l : List α) (s e : Nat) (h1 : s ≤ e) (h2 : e ≤ l.length) : cutD l (some (s : Int)) (some (e : Int)) = cutL l s e := by
  unfold cutD cutL
  rw [HT.sIx_nat, HT.sIx_nat]
  have a : min s l.length = s := Nat.min_eq_left (by omega)
  have b : min e l.length = e := Nat.min_eq_left h2
  rw [a, b, List.drop_take]
/-! ### the table -/
def kOf (s e : Nat) : NestedKey := .tup [.num s, .num e]
theorem kOf_inj {s e s' e' : Nat} (h : kOf s e = kOf s' e') : s = s' ∧ e = e' := by
  unfold kOf at h
  simp at h
  omega
theorem key_of (s e : Nat) : keyN (.d (.tuple [.int s, .int e])) = some (kOf s e) := by
  unfold keyN
  simp [nkD, nkDs, NestedKey.depth, NestedKey.depthAll, kOf]
theorem valN_put (kvs : List (NestedKey × U)) (k k' : NestedKey) (v : U) : valN (putN kvs k v) k' = if k = k' then some v else valN kvs k' := by
  unfold putN
  by_cases ha : (kvs.any fun kv => decide (kv.1 = k)) = true
  · rw [if_pos ha]
    unfold valN
    induction kvs with
    | nil => simp at ha
    | cons x r ih =>
      rw [List.map_cons, List.find?_cons, List.find?_cons]
      by_cases hx : x.1 = k
      · rw [if_pos hx]
        by_cases hk : k = k'
        · subst hk; simp [hx]
        · have : ¬ x.1 = k' := fun z => hk (hx.symm.trans z)
          simp only [decide_eq_false this, if_neg hk]
          by_cases hr : (r.any fun kv => decide (kv.1 = k)) = true
          · have := ih hr
            rw [if_neg hk] at this
            exact this
          · have hm : (r.map fun kv => if kv.1 = k then (kv.1, v) else kv) = r := by
              refine (List.map_congr_left fun y hy => ?_).trans (List.map_id _)
              rw [if_neg fun z => hr (List.any_eq_true.mpr ⟨y, hy, decide_eq_true z⟩)]
              rfl
            rw [hm]
      · rw [if_neg hx]
        have hr : (r.any fun kv => decide (kv.1 = k)) = true := by
          rw [List.any_cons, decide_eq_false hx, Bool.false_or] at ha
          exact ha
        by_cases hx' : x.1 = k'
        · simp only [decide_eq_true hx']
          rw [if_neg fun z => hx (hx'.trans z.symm)]
        · simp only [decide_eq_false hx']
          exact ih hr
  · rw [if_neg ha]
    unfold valN
    rw [List.find?_append]
    by_cases hk : k = k'
    · subst hk
      have : (kvs.find? fun kv => decide (kv.1 = k)) = none := List.find?_eq_none.mpr fun y hy z => ha (List.any_eq_true.mpr ⟨y, hy, z⟩)
      rw [this]
      simp
    · rw [if_neg hk]
      cases hf : kvs.find? fun kv => decide (kv.1 = k') with
      | some y => rfl
      | none => simp [hk]
theorem putN_len (kvs : List (NestedKey × U)) (k : NestedKey) (v : U) : (putN kvs k v).length ≤ kvs.length + 1 := by
  unfold putN
  split
  · rw [List.length_map]; omega
  · rw [List.length_append]; exact Nat.le_refl _
@[simp] theorem dn_ref (kvs : List (NestedKey × U)) : dnOf [.dtp kvs] (.ref 0) = some kvs := (rfl)
theorem nget_of (kvs : List (NestedKey × U)) (s e : Nat) {v : U} (h : valN kvs (kOf s e) = some v) : opNGet (.ref 0) (.d (.tuple [.int s, .int e])) [.dtp kvs] = .ok v [.dtp kvs] := by
  unfold opNGet
  rw [dn_ref, key_of]
  simp only [h]
theorem nput_of (kvs : List (NestedKey × U)) (s e : Nat) (v : U) (h : kvs.length < 16777216) : nPut (.ref 0) (.d (.tuple [.int s, .int e])) v [.dtp kvs] = some [.dtp (putN kvs (kOf s e) v)] := by
  unfold nPut
  rw [key_of]
  have : ask (kvs.length < sizeLine) = true := ask_t (by rw [sizeLine_eq]; exact h)
  simp [this]
/-! ### data held against each other -/
theorem Smp.eqv (a b : Smp) : PyData.eqv a.e b.e = true ↔ a = b := by
  cases a <;> cases b <;> simp [Smp.e, PyData.eqv, PyData.eqvAll]
  all_goals exact fun z => absurd z (by decide)
theorem eqvS : ∀ l m : List Smp, PyData.eqvAll (l.map Smp.e) (m.map Smp.e) = true ↔ l = m
  | [], [] => by simp [PyData.eqvAll]
  | [], _ :: _ => by simp [PyData.eqvAll]
  | _ :: _, [] => by simp [PyData.eqvAll]
  | a :: l, b :: m => by
    rw [List.map_cons, List.map_cons, PyData.eqvAll, Bool.and_eq_true, Smp.eqv, eqvS l m, List.cons.injEq]
theorem shpS (l : List Smp) : Shp 2 (.tuple (l.map Smp.e)) := Shp.tuple fun z hz => by
  obtain ⟨k, _, rfl⟩ := List.mem_map.mp hz
  exact k.shp
theorem ev_eqSm (n : Bool) (l m : List Smp) (h : Sto) : opEqB n (.d (.tuple (l.map Smp.e))) (.d (.tuple (m.map Smp.e))) h = .ok (.d (.bool (xor n (ask (l = m))))) h := by
  rw [ev_eqD n h (by intro s z; cases z) ((shpS l).shaped (by decide)) ((shpS m).shaped (by decide))]
  have : PyData.eqv (.tuple (l.map Smp.e)) (.tuple (m.map Smp.e)) = ask (l = m) := by
    rw [Bool.eq_iff_iff, ask_iff, PyData.eqv, eqvS]
  rw [this]
end Wk

/-! LG: the farthest go of a body (k52, k56). -/
namespace Wk
open PySem L2
def Amt.far : Amt → Int
  | .int i => i.natAbs
  | .cnt t m => max (t.natAbs : Int) m.natAbs
  | .num t _ m => max (t.natAbs : Int) m.natAbs
mutual
def Stm.far : Stm → Int
  | .go a => a.far
  | .again _ b => bFar b
  | .iff _ b c => max (bFar b) (bFar c)
  | _ => 0
def bFar : List Stm → Int
  | [] => 0
  | s :: r => max s.far (bFar r)
end
theorem Amt.far_nn (a : Amt) : 0 ≤ a.far := by
  cases a <;> simp only [Amt.far] <;> omega
mutual
theorem Stm.far_nn : ∀ s : Stm, 0 ≤ s.far
  | .go a => by rw [Stm.far]; exact a.far_nn
  | .again _ b => by rw [Stm.far]; exact bFar_nn b
  | .iff _ b c => by rw [Stm.far]; have := bFar_nn b; omega
  | .turn _ => by simp [Stm.far]
  | .ink _ => by simp [Stm.far]
  | .up => by simp [Stm.far]
  | .down => by simp [Stm.far]
  | .mark _ => by simp [Stm.far]
  | .back _ => by simp [Stm.far]
  | .call _ _ => by simp [Stm.far]
theorem bFar_nn : ∀ b : List Stm, 0 ≤ bFar b
  | [] => by rw [bFar]; exact Int.le_refl _
  | s :: r => by rw [bFar]; have := bFar_nn r; omega
end
end Wk

/-! CK: frames in the store, names. -/
namespace Wk
open PySem L2
def ffs (tk kd dp : Nat) (ic : Bool) : List (Str × U) := [("many", .d (.int tk)), ("known", .ref kd), ("deep", .d (.int dp)), ("is_counted", .d (.bool ic))]
section
variable (tk kd dp : Nat) (ic : Bool)
@[simp] theorem lf_many : (ffs tk kd dp ic).lookup ("many" : Str) = some (.d (.int tk)) := by with_unfolding_all rfl
@[simp] theorem lf_known : (ffs tk kd dp ic).lookup ("known" : Str) = some (.ref kd) := by with_unfolding_all rfl
@[simp] theorem lf_deep : (ffs tk kd dp ic).lookup ("deep" : Str) = some (.d (.int dp)) := by with_unfolding_all rfl
@[simp] theorem lf_cnt : (ffs tk kd dp ic).lookup ("is_counted" : Str) = some (.d (.bool ic)) := by with_unfolding_all rfl
@[simp] theorem lf_within : (ffs tk kd dp ic).lookup ("within" : Str) = none := by with_unfolding_all rfl
end
def kE (x : Wrd) : Key × U := (.inr x.name, .d (.int x.many))
/-- a frame at f, the words known at kd -/
structure FS (f kd : Nat) (ws : List Wrd) (tk dp : Nat) (ic : Bool) (h : Sto) : Prop where
  f : h[f]? = some (.ins "Frame" (ffs tk kd dp ic))
  k : h[kd]? = some (.dct (ws.map kE))
theorem FS.app {f kd : Nat} {ws : List Wrd} {tk dp : Nat} {ic : Bool} {h : Sto} (s : FS f kd ws tk dp ic h) (t : Sto) : FS f kd ws tk dp ic (h ++ t) :=
  ⟨by rw [List.getElem?_append_left (List.getElem?_eq_some_iff.mp s.f).1]; exact s.f, by rw [List.getElem?_append_left (List.getElem?_eq_some_iff.mp s.k).1]; exact s.k⟩
theorem valU_kE {ws : List Wrd} (u : ∀ x ∈ ws, ∀ y ∈ ws, x.name = y.name → x = y) {x : Wrd} (hx : x ∈ ws) : valU (ws.map kE) (.inr x.name) = some (.d (.int x.many)) := by
  unfold valU
  rw [List.find?_map]
  cases q : ws.find? ((fun kv : Key × U => decide (kv.1 = .inr x.name)) ∘ kE) with
  | none =>
    have := List.find?_eq_none.mp q x hx
    simp [kE] at this
  | some y =>
    have h1 := List.mem_of_find?_eq_some q
    have h2 := List.find?_some q
    simp only [Function.comp] at h2
    have h3 : y.name = x.name := Sum.inr.inj (of_decide_eq_true h2)
    rw [u y h1 x hx h3]
    rfl
theorem valU_kN {ws : List Wrd} {z : Str} (h : ∀ x ∈ ws, x.name ≠ z) : valU (ws.map kE) (.inr z) = none := by
  unfold valU
  rw [List.find?_map]
  cases q : ws.find? ((fun kv : Key × U => decide (kv.1 = .inr z)) ∘ kE) with
  | none => rfl
  | some y =>
    have h1 := List.mem_of_find?_eq_some q
    have h2 := List.find?_some q
    simp only [Function.comp] at h2
    exact absurd (Sum.inr.inj (of_decide_eq_true h2)) (h y h1)
theorem in_dict {h : Sto} {kd : Nat} {kvs : List (Key × U)} (e : h[kd]? = some (.dct kvs)) (z : Str) : inOf (.d (.str z)) (.ref kd) h = some (valU kvs (.inr z)).isSome := by
  have hd : dictOf h (.ref kd) = some kvs := by
    show (match h[kd]? with | some (.dct kvs) => some kvs | _ => none) = _
    rw [e]
  unfold inOf
  simp only [strOf, hd, keyOf]
theorem get_dict {h : Sto} {kd : Nat} {kvs : List (Key × U)} (e : h[kd]? = some (.dct kvs)) (z : Str) : opDGet (.ref kd) (.d (.str z)) h = match valU kvs (.inr z) with | some x => .ok x h | none => .stuck := by
  have hd : dictOf h (.ref kd) = some kvs := by
    show (match h[kd]? with | some (.dct kvs) => some kvs | _ => none) = _
    rw [e]
  unfold opDGet
  simp only [hd, keyOf]
  all_goals (cases valU kvs (.inr z) <;> rfl)
/-- a word's name -/
def letters : Str := "abcdefghijklmnopqrstuvwxyz"
def nmOk (z : Str) : Prop := 1 ≤ z.length ∧ z.length ≤ 8 ∧ ∀ c ∈ z.cps.toList, c ∈ letters.cps.toList
instance (z : Str) : Decidable (nmOk z) := by unfold nmOk; infer_instance
theorem wNames_ok : ∀ z ∈ wNames, nmOk z := by decide +kernel
theorem wsWf_tail : ∀ {a b : List Wrd}, wsWf (a ++ b) → wsWf b
  | [], _, h => h
  | _ :: _, _, h => wsWf_tail h.2.2.2.2
/-- which source stands among the first -/
theorem src_in : ∀ (tk k : Nat), tk ≤ 4 → k < tk → ∀ h, inOf (.d (.str (nName k))) (.d (.tuple (cutD [PyData.str "n0", .str "n1", .str "n2", .str "n3"] none (some (tk : Int))))) h = some true := by
  intro tk k h4 hk h
  have e : cutD [PyData.str "n0", .str "n1", .str "n2", .str "n3"] none (some (tk : Int)) = [PyData.str "n0", .str "n1", .str "n2", .str "n3"].take tk := cut_to' _ tk
  rw [e]
  have : tk = 1 ∨ tk = 2 ∨ tk = 3 ∨ tk = 4 := by omega
  rcases this with z | z | z | z <;> subst z
  · have : k = 0 := by omega
    subst this
    with_unfolding_all rfl
  · have : k = 0 ∨ k = 1 := by omega
    rcases this with y | y <;> subst y <;> with_unfolding_all rfl
  · have : k = 0 ∨ k = 1 ∨ k = 2 := by omega
    rcases this with y | y | y <;> subst y <;> with_unfolding_all rfl
  · have : k = 0 ∨ k = 1 ∨ k = 2 ∨ k = 3 := by omega
    rcases this with y | y | y | y <;> subst y <;> with_unfolding_all rfl
theorem wag0 (h t : Sto) : (h ++ t)[h.length]? = t[0]? := by rw [List.getElem?_append_right (Nat.le_refl _), Nat.sub_self]
theorem was0 (h t : Sto) (a : Ob) : (h ++ t).set h.length a = h ++ t.set 0 a := by rw [List.set_append_right _ _ (Nat.le_refl _), Nat.sub_self]
theorem FS.new {f kd : Nat} {ws : List Wrd} {tk dp : Nat} {ic : Bool} {h : Sto} (s : FS f kd ws tk dp ic h) (tk' dp' : Nat) (ic' : Bool) : FS h.length kd ws tk' dp' ic' (h ++ [.ins "Frame" (ffs tk' kd dp' ic')]) :=
  ⟨wag0 _ _, by rw [List.getElem?_append_left (List.getElem?_eq_some_iff.mp s.k).1]; exact s.k⟩
/-! ### turned -/
def rotC (n : Nat) (c : Cr) : Cr := { c with spot := rotN n c.spot, heading := (c.heading + n) % 8 }
def rotS (n : Nat) (s : Stk) : Stk := ⟨s.ink, rotN n s.a, rotN n s.b⟩
def rotM (n : Nat) (z : Int × (P4 × Int)) : Int × (P4 × Int) := (z.1, (rotN n z.2.1, (z.2.2 + n) % 8))
def rotT (n : Nat) (t : Nt) : Nt := ⟨t.v, t.i, rotC n t.c⟩
def rotH (n : Nat) (y : Hn) : Hn := ⟨rotC n y.c, y.turns + n, y.rest, y.marks.map (rotM n), y.strokes.map (rotS n), y.corners.map (rotN n), ⟨.turn, n, cr0⟩ :: y.plain.map (rotT n)⟩
theorem mget_rot (n : Nat) (m : Mks) (k : Int) : mget (m.map (rotM n)) k = (mget m k).map fun v => (rotN n v.1, (v.2 + (n : Int)) % 8) := by
  unfold mget
  rw [List.find?_map]
  have : ((fun z : Int × (P4 × Int) => decide (z.1 = k)) ∘ rotM n) = fun z => decide (z.1 = k) := rfl
  rw [this]
  cases m.find? fun z => decide (z.1 = k) <;> rfl
theorem mput_rot (n : Nat) (m : Mks) (k : Int) (v : P4 × Int) : mput (m.map (rotM n)) k (rotN n v.1, (v.2 + (n : Int)) % 8) = (mput m k v).map (rotM n) := by
  unfold mput
  rw [List.any_map]
  have : ((fun z : Int × (P4 × Int) => decide (z.1 = k)) ∘ rotM n) = fun z => decide (z.1 = k) := rfl
  rw [this]
  split
  · rw [List.map_map, List.map_map]
    refine List.map_congr_left fun z _ => ?_
    simp only [Function.comp]
    by_cases e : z.1 = k
    · have e' : (rotM n z).1 = k := e
      rw [if_pos e', if_pos e]
      rfl
    · have e' : ¬ (rotM n z).1 = k := e
      rw [if_neg e', if_neg e]
  · rw [List.map_append]
    rfl
theorem rot_sim (n : Nat) : Sim (rotH n) 1 where
  rest := fun _ => rfl
  less := fun _ => rfl
  great := fun v => by rw [Int.mul_one]
  prim := fun v i y h => by
    have h0 := h.o.h0
    have h1 := h.o.h1
    have hs : scl 1 v i = i := by cases v <;> simp [scl]
    rw [hs]
    have nt : (rotH n y).note v i = rotH n (y.note v i) := by
      unfold Hn.note rotH
      simp only [Hn.mk.injEq, true_and, List.map_append, List.map_cons, List.map_nil, List.cons_append]
      rfl
    unfold prim
    rw [nt]
    have key : v.act i (rotH n (y.note v i)) = (v.act i (y.note v i)).map (rotH n) := by
      have e0 : 0 ≤ (y.note v i).c.heading := h0
      have e1 : (y.note v i).c.heading < 8 := h1
      generalize y.note v i = x at *
      cases v with
      | go =>
        simp only [Vb.act, Option.map_some, Option.some.injEq]
        have em : rotN n (mv x.c.heading i x.c.spot) = mv ((x.c.heading + n) % 8) i (rotN n x.c.spot) := rotN_mv i e0 e1 n
        unfold rotH
        simp only [Hn.mk.injEq, true_and, and_true]
        refine ⟨?_, ?_, ?_⟩
        · unfold rotC
          simp [em]
        · rw [List.map_append]
          congr 1
          show (if x.c.pen = true ∧ i ≠ 0 then [(⟨x.c.ink, rotN n x.c.spot, mv ((x.c.heading + n) % 8) i (rotN n x.c.spot)⟩ : Stk)] else []) = _
          split
          · simp [rotS, em]
          · rfl
        · rw [List.map_append]
          simp [em, rotC]
      | turn =>
        simp only [Vb.act, Option.map_some, Option.some.injEq]
        unfold rotH rotC
        simp only [Hn.mk.injEq, Cr.mk.injEq, true_and, and_true]
        refine ⟨?_, ?_⟩
        · show ((x.c.heading + n) % 8 + i) % 8 = ((x.c.heading + i) % 8 + n) % 8
          omega
        · omega
      | ink => rfl
      | up => rfl
      | down => rfl
      | mark =>
        simp only [Vb.act, Option.map_some, Option.some.injEq]
        unfold rotH
        simp only [Hn.mk.injEq, true_and, and_true]
        exact mput_rot n x.marks i (x.c.spot, x.c.heading)
      | back =>
        have hg : mget (rotH n x).marks i = (mget x.marks i).map fun v => (rotN n v.1, (v.2 + (n : Int)) % 8) := mget_rot n x.marks i
        simp only [Vb.act, hg]
        cases mget x.marks i with
        | none => rfl
        | some v =>
          simp only [Option.map_some, Option.some.injEq]
          unfold rotH rotC
          simp
    rw [key]
    cases v.act i (y.note v i) <;> rfl
theorem rotN_zero (n : Nat) : rotN n ⟨0, 0, 0, 0⟩ = ⟨0, 0, 0, 0⟩ := by
  induction n with
  | zero => rfl
  | succ n ih =>
    show rot (rotN n _) = _
    rw [ih]
    rfl
theorem run_turned {ws : List Wrd} {b : List Stm} {most : Int} {n : Nat} (hn : n < 8) (h0 : 0 ≤ most) (hm : most ≤ 49000) : runR ws (.turn (.int n) :: b) (most + 1) = mapR (rotH n) (runR ws b most) := by
  unfold runR
  rw [iB]
  have hr : ¬ most + 1 ≤ 0 := by omega
  have hg : great ((n : Nat) : Int) = false := by
    unfold great
    simp
    omega
  have e1 : iS 49 (.turn (.int n)) ⟨dictW ws, [], 0⟩ (hn0 (most + 1)) = .ok (rotH n (hn0 most)) := by
    unfold iS
    have hr' : ¬ (hn0 (most + 1)).rest ≤ 0 := hr
    rw [if_neg hr']
    show (if great ((n : Nat) : Int) = true then _ else prim .turn ((n : Nat) : Int) (hn0 (most + 1)).less) = _
    rw [hg, if_neg Bool.false_ne_true]
    unfold prim Vb.act rotH rotC
    simp only [Rn.ok.injEq, Hn.mk.injEq]
    refine ⟨?_, ?_, ?_, rfl, rfl, ?_, rfl⟩
    · simp only [Cr.mk.injEq]
      refine ⟨?_, rfl, rfl, rfl⟩
      exact (rotN_zero n).symm
    · rfl
    · show most + 1 - 1 = most
      omega
    · show [(⟨0, 0, 0, 0⟩ : P4)] = [rotN n ⟨0, 0, 0, 0⟩]
      rw [rotN_zero]
  rw [e1]
  have hb : bOv 1 1 b = b := bOv_one b
  have hc : (⟨dictW ws, [], 0⟩ : Cl).ov 1 1 = ⟨dictW ws, [], 0⟩ := by
    unfold Cl.ov wsOv
    simp only [Cl.mk.injEq, and_true]
    have : (fun z : Str × List Stm => (z.1, bOv 1 1 z.2)) = id := funext fun z => by rw [bOv_one]; rfl
    rw [this, List.map_id]
  have := iB_sim (f := rotH n) (kt := 1) (S := iS 49) (iS_riv 49) (iS_sim (rot_sim n) 49) b ⟨dictW ws, [], 0⟩ (hn0 most) (hn0_iv (by omega))
  rw [hb, hc] at this
  exact this
end Wk

/-! RF: which runs are refused. -/
namespace Wk
open PySem L2
/-- what the law's own `_law_refused` tells -/
def refD : Rn → Str
  | .ok _ => ""
  | .exc e _ => if e = "Stopped" then "" else if e = "NoMark" then "mark" else "great"
  | .out => ""
def Rn.calm : Rn → Prop
  | .ok _ => True
  | .exc e _ => e = "Stopped"
  | .out => True
theorem calm_ref {r : Rn} (h : r.calm) : refD r = "" := by
  cases r with
  | ok y => rfl
  | out => rfl
  | exc e y =>
    rw [show e = "Stopped" from h]
    unfold refD
    dsimp only
    rw [if_pos rfl]
theorem ref_stop (y : Hn) : refD (.exc "Stopped" y) = "" := calm_ref rfl
theorem ref_mark (y : Hn) : refD (.exc "NoMark" y) = "mark" := by
  have q : ∀ (f g : Str), decide (f = g) = false → ¬ f = g := fun f g e => of_decide_eq_false e
  unfold refD
  dsimp only
  rw [if_neg (q _ _ (by decide)), if_pos rfl]
theorem ref_great (y : Hn) : refD (.exc "TooGreat" y) = "great" := by
  have q : ∀ (f g : Str), decide (f = g) = false → ¬ f = g := fun f g e => of_decide_eq_false e
  unfold refD
  dsimp only
  rw [if_neg (q _ _ (by decide)), if_neg (q _ _ (by decide))]
theorem calm_bind {r : Rn} {k : Hn → Rn} (h : r.calm) (hk : ∀ y, (k y).calm) : (r.bind k).calm := by
  cases r with
  | ok y => exact hk y
  | exc e y => exact h
  | out => trivial
theorem calm_iB {S : Stm → Cl → Hn → Rn} {c : Cl} : ∀ {b : List Stm}, (∀ s ∈ b, ∀ y, (S s c y).calm) → ∀ y, (iB S b c y).calm
  | [], _, y => trivial
  | s :: r, h, y => calm_bind (h s List.mem_cons_self y) fun z => calm_iB (fun s hs => h s (List.mem_cons_of_mem _ hs)) z
theorem calm_iAg {B : Cl → Hn → Rn} {c : Cl} (h : ∀ k y, (B { c with ct := k } y).calm) : ∀ (m k : Nat) (y : Hn), (iAg B c m k y).calm
  | 0, _, _ => trivial
  | m + 1, k, y => by
    rw [iAg]
    split
    · rfl
    · exact calm_bind (h _ _) fun z => calm_iAg h m (k + 1) z
/-- statements that are never refused, and ask one deed -/
def fre : Stm → Prop
  | .go (.int i) => sm6 i
  | .turn (.int i) => sm6 i
  | .ink (.int i) => sm6 i
  | .up => True
  | .down => True
  | .mark _ => True
  | _ => False
theorem great_of {i : Int} (h : sm6 i) : great i = false := by
  unfold great
  unfold sm6 at h
  exact decide_eq_false (by omega)
theorem mget_put_ne {m : Mks} {k j : Int} {v : P4 × Int} (h : k ≠ j) : mget (mput m k v) j = mget m j := by
  unfold mput
  split
  · rename_i hq
    clear hq
    unfold mget
    induction m with
    | nil => rfl
    | cons z r ih =>
      rw [List.map_cons, List.find?_cons, List.find?_cons]
      by_cases e : z.1 = j
      · have : ¬ z.1 = k := fun q => h (q.symm.trans e)
        rw [if_neg this]
        have e2 : decide (z.1 = j) = true := decide_eq_true e
        rw [e2]
      · have e2 : decide (z.1 = j) = false := decide_eq_false e
        have e1 : decide ((if z.1 = k then (z.1, v) else z).1 = j) = false := by split <;> exact e2
        rw [e1, e2]
        exact ih
  · unfold mget
    rw [List.find?_append]
    have : List.find? (fun z : Int × (P4 × Int) => decide (z.1 = j)) [(k, v)] = none := by simp [h]
    rw [this, Option.or_none]
theorem fre_do {s : Stm} (hs : fre s) (n : Nat) (c : Cl) {y : Hn} (hy : 0 < y.rest) : ∃ z, iS (n + 1) s c y = .ok z ∧ z.rest = y.rest - 1 ∧ ∀ k, s ≠ .mark k → mget z.marks k = mget y.marks k := by
  have hr : ¬ y.rest ≤ 0 := by omega
  rw [iS.eq_def]
  dsimp only
  rw [if_neg hr]
  cases s with
  | go a =>
    cases a with
    | int i =>
      have e : great (c.val (.int i)) = false := great_of hs
      simp only [e, Bool.false_eq_true, if_false]
      exact ⟨_, rfl, rfl, fun k _ => rfl⟩
    | _ => exact hs.elim
  | turn a =>
    cases a with
    | int i =>
      have e : great (c.val (.int i)) = false := great_of hs
      simp only [e, Bool.false_eq_true, if_false]
      exact ⟨_, rfl, rfl, fun k _ => rfl⟩
    | _ => exact hs.elim
  | ink a =>
    cases a with
    | int i =>
      have e : great (c.val (.int i)) = false := great_of hs
      simp only [e, Bool.false_eq_true, if_false]
      exact ⟨_, rfl, rfl, fun k _ => rfl⟩
    | _ => exact hs.elim
  | up => exact ⟨_, rfl, rfl, fun k _ => rfl⟩
  | down => exact ⟨_, rfl, rfl, fun k _ => rfl⟩
  | mark j => exact ⟨_, rfl, rfl, fun k hk => mget_put_ne fun e => hk (by rw [e])⟩
  | _ => exact hs.elim
theorem fre_stop {s : Stm} (n : Nat) (c : Cl) {y : Hn} (hy : y.rest ≤ 0) : iS (n + 1) s c y = .exc "Stopped" y := by rw [iS.eq_def]; dsimp only; rw [if_pos hy]
theorem iB_fre (n : Nat) (c : Cl) (r : List Stm) : ∀ (l : List Stm), (∀ s ∈ l, fre s) → ∀ y : Hn, 0 ≤ y.rest →
    ((l.length : Int) ≤ y.rest → ∃ z, iB (iS (n + 1)) (l ++ r) c y = iB (iS (n + 1)) r c z ∧ z.rest = y.rest - l.length ∧ ∀ k, .mark k ∉ l → mget z.marks k = mget y.marks k) ∧ (y.rest < l.length → ∃ z, iB (iS (n + 1)) (l ++ r) c y = .exc "Stopped" z)
  | [], _, y, hy => ⟨fun _ => ⟨y, rfl, by simp, fun _ _ => rfl⟩, fun h => by simp at h; omega⟩
  | s :: l, hl, y, hy => by
    by_cases h0 : y.rest ≤ 0
    · refine ⟨fun h => by simp at h; omega, fun _ => ⟨y, ?_⟩⟩
      rw [List.cons_append, iB, fre_stop n c h0]
      rfl
    · obtain ⟨z, e1, e2, e3⟩ := fre_do (hl s List.mem_cons_self) n c (y := y) (by omega)
      have ih := iB_fre n c r l (fun s hs => hl s (List.mem_cons_of_mem _ hs)) z (by omega)
      rw [List.cons_append, iB, e1]
      refine ⟨fun h => ?_, fun h => ?_⟩
      · rw [List.length_cons] at h
        obtain ⟨w, k1, k2, k3⟩ := ih.1 (by omega)
        refine ⟨w, k1, by rw [k2, e2, List.length_cons]; omega, fun k hk => ?_⟩
        rw [k3 k fun q => hk (List.mem_cons_of_mem _ q), e3 k fun q => hk (by rw [q]; exact List.mem_cons_self)]
      · rw [List.length_cons] at h
        exact ih.2 (by omega)
/-! ### k24 -/
def nearW : Wrd := ⟨"near", 2, [.go (.int 1)]⟩
def farW (li : List Stm) (s : Stm) : Wrd := ⟨"far", 1, li ++ [s]⟩
def body24 (lb : List Stm) : List Stm := lb ++ [.call "far" [.int 1000000]]
/-- the last statement's amount: over or just -/
def lastS (w : Nat) (a : Amt) : Stm := match w with
  | 0 => .go a
  | 1 => .turn a
  | 2 => .ink a
  | 3 => .again a []
  | 4 => .iff a [.turn (.int 1)] []
  | 5 => .call "near" [a, .int 0]
  | 6 => .call "near" [.int 0, a]
  | _ => .again (.int 1) [.go a]
theorem wGet_far (li : List Stm) (s : Stm) : wGet (dictW [nearW, farW li s]) "far" = some (li ++ [s]) := by
  have q : decide (("near" : Str) = "far") = false := by decide
  have q2 : decide (("far" : Str) = "far") = true := by decide
  unfold wGet dictW nearW farW
  simp only [List.map_cons, List.map_nil, List.find?_cons, q, decide_true, Option.map_some]
theorem wGet_near (li : List Stm) (s : Stm) : wGet (dictW [nearW, farW li s]) "near" = some [.go (.int 1)] := by
  have q2 : decide (("near" : Str) = "near") = true := by decide
  unfold wGet dictW nearW farW
  simp only [List.map_cons, List.map_nil, List.find?_cons, decide_true, Option.map_some]
theorem run24 {lb li : List Stm} (hb : ∀ s ∈ lb, fre s) (hi : ∀ s ∈ li, fre s) (s : Stm) {most : Int} (h0 : 0 ≤ most) :
    ((most ≤ lb.length + li.length + 1) → ∃ z, runR [nearW, farW li s] (body24 lb) most = .exc "Stopped" z) ∧
    (((lb.length : Int) + li.length + 1 < most) → ∃ z : Hn, z.rest = most - lb.length - 1 - li.length ∧ runR [nearW, farW li s] (body24 lb) most = (iS 48 s ⟨dictW [nearW, farW li s], [1000000], 0⟩ z).bind fun y => .ok y) := by
  have h1 := iB_fre 48 ⟨dictW [nearW, farW li s], [], 0⟩ [.call "far" [.int 1000000]] lb hb (hn0 most) h0
  have hr : runR [nearW, farW li s] (body24 lb) most = iB (iS 49) (lb ++ [.call "far" [.int 1000000]]) ⟨dictW [nearW, farW li s], [], 0⟩ (hn0 most) := rfl
  rw [hr]
  have hrest : (hn0 most).rest = most := rfl
  rw [hrest] at h1
  by_cases c1 : most < lb.length
  · obtain ⟨z, e⟩ := h1.2 c1
    exact ⟨fun _ => ⟨z, e⟩, fun h => by omega⟩
  · obtain ⟨z, e, ez, _⟩ := h1.1 (by omega)
    rw [e, iB]
    by_cases c2 : z.rest ≤ 0
    · rw [fre_stop 48 _ c2]
      exact ⟨fun _ => ⟨z, rfl⟩, fun h => by omega⟩
    · have hv : vals ⟨dictW [nearW, farW li s], [], 0⟩ [.int 1000000] = some [1000000] := by simp [vals, great, Cl.val]
      have hc : iS 49 (.call "far" [.int 1000000]) ⟨dictW [nearW, farW li s], [], 0⟩ z = iB (iS 48) (li ++ [s]) ⟨dictW [nearW, farW li s], [1000000], 0⟩ z.less := by
        rw [iS.eq_def]
        dsimp only
        rw [if_neg c2, hv]
        dsimp only
        rw [wGet_far]
      rw [hc]
      have hl : z.less.rest = z.rest - 1 := rfl
      have h2 := iB_fre 47 ⟨dictW [nearW, farW li s], [1000000], 0⟩ [s] li hi z.less (by omega)
      by_cases c3 : z.less.rest < li.length
      · obtain ⟨y, e2⟩ := h2.2 c3
        rw [e2]
        exact ⟨fun _ => ⟨y, rfl⟩, fun h => by omega⟩
      · obtain ⟨y, e2, ey, _⟩ := h2.1 (by omega)
        rw [e2, iB]
        have : ∀ r : Rn, ((r.bind fun y => iB (iS 48) [] ⟨dictW [nearW, farW li s], [1000000], 0⟩ y).bind fun y => iB (iS 49) [] ⟨dictW [nearW, farW li s], [], 0⟩ y) = r.bind fun y => .ok y := fun r => by cases r <;> rfl
        rw [this]
        refine ⟨fun h => ?_, fun h => ⟨y, by omega, rfl⟩⟩
        rw [fre_stop 47 _ (by omega)]
        exact ⟨y, rfl⟩
/-- the amounts -/
def overA : Nat → Amt
  | 0 => .num 1 0 1
  | 1 => .num (-1) 0 (-1)
  | 2 => .num 2 0 0
  | _ => .num 1 0 1000000
def justA : Nat → Amt
  | 0 => .num 1 0 0
  | 1 => .num (-1) 0 0
  | 2 => .num 0 0 1000000
  | _ => .num 0 0 (-1000000)
theorem over_great {ws : List (Str × List Stm)} {k : Int} (a : Nat) : great (Cl.val ⟨ws, [1000000], k⟩ (overA a)) = true := by
  match a with
  | 0 => exact (rfl)
  | 1 => exact (rfl)
  | 2 => exact (rfl)
  | _ + 3 => exact (rfl)
theorem just_great {ws : List (Str × List Stm)} {k : Int} (a : Nat) : great (Cl.val ⟨ws, [1000000], k⟩ (justA a)) = false := by
  match a with
  | 0 => exact (rfl)
  | 1 => exact (rfl)
  | 2 => exact (rfl)
  | _ + 3 => exact (rfl)
theorem over24 {lb li : List Stm} (hb : ∀ s ∈ lb, fre s) (hi : ∀ s ∈ li, fre s) (w a : Nat) {most : Int} (h0 : 0 ≤ most) :
    refD (runR [nearW, farW li (lastS w (overA a))] (body24 lb) most) = if most ≤ lb.length + 1 + li.length + 2 * (if 7 ≤ w then 1 else 0) then "" else "great" := by
  have h := run24 hb hi (lastS w (overA a)) h0
  by_cases c : most ≤ lb.length + li.length + 1
  · obtain ⟨z, e⟩ := h.1 c
    rw [e, ref_stop, if_pos (by split <;> omega)]
  · obtain ⟨z, ez, e⟩ := h.2 (by omega)
    rw [e]
    have hz : ¬ z.rest ≤ 0 := by omega
    have og := fun k => over_great (ws := dictW [nearW, farW li (lastS w (overA a))]) (k := k) a
    generalize dictW [nearW, farW li (lastS w (overA a))] = WS at *
    have fin : (7 ≤ w → False) → (∃ y, iS 48 (lastS w (overA a)) ⟨WS, [1000000], 0⟩ z = .exc "TooGreat" y) → refD ((iS 48 (lastS w (overA a)) ⟨WS, [1000000], 0⟩ z).bind fun y => .ok y) = if most ≤ lb.length + 1 + li.length + 2 * (if 7 ≤ w then 1 else 0) then "" else "great" := fun h7 ⟨y, ey⟩ => by
      rw [ey, if_neg (by rw [if_neg h7]; omega)]
      exact ref_great y
    rw [iS.eq_def] at fin ⊢
    dsimp only at fin ⊢
    rw [if_neg hz] at fin ⊢
    match w with
    | 0 => exact fin (by omega) ⟨_, if_pos (og 0)⟩
    | 1 => exact fin (by omega) ⟨_, if_pos (og 0)⟩
    | 2 => exact fin (by omega) ⟨_, if_pos (og 0)⟩
    | 3 => exact fin (by omega) ⟨_, if_pos (og 0)⟩
    | 4 => exact fin (by omega) ⟨_, if_pos (og 0)⟩
    | 5 =>
      have hv : vals ⟨WS, [1000000], 0⟩ [overA a, .int 0] = none := by rw [vals, if_pos (og 0)]
      exact fin (by omega) ⟨z.less, by simp only [lastS, hv]⟩
    | 6 =>
      have hv : vals ⟨WS, [1000000], 0⟩ [.int 0, overA a] = none := by
        rw [vals, show great (Cl.val ⟨WS, [1000000], 0⟩ (.int 0)) = false from rfl, if_neg Bool.false_ne_true, vals, if_pos (og 0)]
        rfl
      exact fin (by omega) ⟨z.less, by simp only [lastS, hv]⟩
    | w + 7 =>
      have hg : great (Cl.val ⟨WS, [1000000], 0⟩ (.int 1)) = false := (rfl)
      have ht : (Cl.val ⟨WS, [1000000], 0⟩ (.int 1)).toNat = 1 := (rfl)
      have hl : z.less.rest = z.rest - 1 := rfl
      have hl2 : z.less.less.rest = z.rest - 2 := by show z.rest - 1 - 1 = _; omega
      show refD ((if great (Cl.val ⟨WS, [1000000], 0⟩ (.int 1)) = true then _ else iAg (fun c y => iB (iS 47) [.go (overA a)] c y) ⟨WS, [1000000], 0⟩ (Cl.val ⟨WS, [1000000], 0⟩ (.int 1)).toNat 0 z.less).bind fun y => .ok y) = _
      rw [hg, ht, iAg, if_neg Bool.false_ne_true, if_pos (by omega : 7 ≤ w + 7)]
      by_cases c1 : z.less.rest ≤ 0
      · rw [if_pos c1, if_pos (by omega)]
        exact ref_stop _
      · rw [if_neg c1, iB]
        by_cases c2 : z.less.less.rest ≤ 0
        · rw [fre_stop 46 _ c2, if_pos (by omega)]
          exact ref_stop _
        · have e2 : iS 47 (.go (overA a)) ⟨WS, [1000000], ((0 : Nat) : Int)⟩ z.less.less = .exc "TooGreat" z.less.less.less := by
            rw [iS.eq_def]
            dsimp only
            rw [if_neg c2, if_pos (og _)]
          rw [e2, if_neg (by omega)]
          exact ref_great _
theorem prim_calm {v : Vb} (i : Int) (y : Hn) (hv : v ≠ .back := by nofun) : (prim v i y).calm := by
  cases v with
  | back => exact absurd rfl hv
  | _ => trivial
theorem just24 {lb li : List Stm} (hb : ∀ s ∈ lb, fre s) (hi : ∀ s ∈ li, fre s) (w a : Nat) {most : Int} (h0 : 0 ≤ most) : refD (runR [nearW, farW li (lastS w (justA a))] (body24 lb) most) = "" := by
  have h := run24 hb hi (lastS w (justA a)) h0
  by_cases c : most ≤ lb.length + li.length + 1
  · obtain ⟨z, e⟩ := h.1 c
    rw [e, ref_stop]
  · obtain ⟨z, ez, e⟩ := h.2 (by omega)
    rw [e]
    refine calm_ref (calm_bind ?_ fun y => trivial)
    have og := fun k => just_great (ws := dictW [nearW, farW li (lastS w (justA a))]) (k := k) a
    have wn := wGet_near li (lastS w (justA a))
    generalize dictW [nearW, farW li (lastS w (justA a))] = WS at *
    have go1 : ∀ (n : Nat) (c : Cl) (y : Hn), (iS n (.go (.int 1)) c y).calm := fun n c y => by
      cases n with
      | zero => trivial
      | succ n =>
        rw [iS.eq_def]
        dsimp only
        split
        · rfl
        · exact prim_calm (v := .go) 1 _
    rw [iS.eq_def]
    dsimp only
    split
    · rfl
    match w with
    | 0 =>
      show (if great (Cl.val ⟨WS, [1000000], 0⟩ (justA a)) = true then _ else prim .go _ _).calm
      rw [og, if_neg Bool.false_ne_true]
      exact prim_calm _ _
    | 1 =>
      show (if great (Cl.val ⟨WS, [1000000], 0⟩ (justA a)) = true then _ else prim .turn _ _).calm
      rw [og, if_neg Bool.false_ne_true]
      exact prim_calm _ _
    | 2 =>
      show (if great (Cl.val ⟨WS, [1000000], 0⟩ (justA a)) = true then _ else prim .ink _ _).calm
      rw [og, if_neg Bool.false_ne_true]
      exact prim_calm _ _
    | 3 =>
      show (if great (Cl.val ⟨WS, [1000000], 0⟩ (justA a)) = true then _ else iAg (fun c y => iB (iS 47) [] c y) _ _ _ _).calm
      rw [og, if_neg Bool.false_ne_true]
      exact calm_iAg (B := fun c y => iB (iS 47) [] c y) (fun c y => trivial) _ _ _
    | 4 =>
      show (if great (Cl.val ⟨WS, [1000000], 0⟩ (justA a)) = true then _ else iB (iS 47) (if Cl.val ⟨WS, [1000000], 0⟩ (justA a) ≤ 0 then [] else [.turn (.int 1)]) _ _).calm
      rw [og, if_neg Bool.false_ne_true]
      refine calm_iB (fun s hs y => ?_) _
      split at hs
      · cases hs
      · cases List.mem_singleton.mp hs
        rw [iS.eq_def]
        dsimp only
        split
        · rfl
        · exact prim_calm (v := .turn) 1 _
    | 5 =>
      have hv : vals ⟨WS, [1000000], 0⟩ [justA a, .int 0] = some [Cl.val ⟨WS, [1000000], 0⟩ (justA a), 0] := by
        rw [vals, og, if_neg Bool.false_ne_true]
        rfl
      show (match vals ⟨WS, [1000000], 0⟩ [justA a, .int 0] with | none => _ | some vs => match wGet WS "near" with | some b => iB (iS 47) b _ _ | none => _).calm
      rw [hv, wn]
      exact calm_iB (fun s hs y => by cases List.mem_singleton.mp hs; exact go1 _ _ _) _
    | 6 =>
      have hv : vals ⟨WS, [1000000], 0⟩ [.int 0, justA a] = some [0, Cl.val ⟨WS, [1000000], 0⟩ (justA a)] := by
        rw [vals, show great (Cl.val ⟨WS, [1000000], 0⟩ (.int 0)) = false from rfl, if_neg Bool.false_ne_true, vals, og, if_neg Bool.false_ne_true]
        rfl
      show (match vals ⟨WS, [1000000], 0⟩ [.int 0, justA a] with | none => _ | some vs => match wGet WS "near" with | some b => iB (iS 47) b _ _ | none => _).calm
      rw [hv, wn]
      exact calm_iB (fun s hs y => by cases List.mem_singleton.mp hs; exact go1 _ _ _) _
    | w + 7 =>
      show (if great (Cl.val ⟨WS, [1000000], 0⟩ (.int 1)) = true then _ else iAg (fun c y => iB (iS 47) [.go (justA a)] c y) ⟨WS, [1000000], 0⟩ _ 0 z.less).calm
      rw [show great (Cl.val ⟨WS, [1000000], 0⟩ (.int 1)) = false from rfl, if_neg Bool.false_ne_true]
      refine calm_iAg (B := fun c y => iB (iS 47) [.go (justA a)] c y) (fun k y => calm_iB (fun s hs y => ?_) y) _ _ _
      cases List.mem_singleton.mp hs
      rw [iS.eq_def]
      dsimp only
      split
      · rfl
      · rw [og, if_neg Bool.false_ne_true]
        exact prim_calm _ _
theorem marks24 {l : List Stm} (hl : ∀ s ∈ l, fre s) {m : Int} (hm : Stm.mark m ∉ l) {most : Int} (h0 : 0 ≤ most) : refD (runR [] (l ++ [.back m, .go (.int 1)]) most) = if most ≤ l.length then "" else "mark" := by
  have h := iB_fre 48 ⟨dictW [], [], 0⟩ [.back m, .go (.int 1)] l hl (hn0 most) h0
  have hr : runR [] (l ++ [.back m, .go (.int 1)]) most = iB (iS 49) (l ++ [.back m, .go (.int 1)]) ⟨dictW [], [], 0⟩ (hn0 most) := rfl
  have hrest : (hn0 most).rest = most := rfl
  rw [hr]
  rw [hrest] at h
  by_cases c1 : most < l.length
  · obtain ⟨z, e⟩ := h.2 c1
    rw [e, ref_stop, if_pos (by omega)]
  · obtain ⟨z, e, ez, em⟩ := h.1 (by omega)
    rw [e, iB]
    by_cases c2 : z.rest ≤ 0
    · rw [fre_stop 48 _ c2, if_pos (by omega)]
      exact ref_stop z
    · have hg : mget z.marks m = none := em m hm
      have hb : iS 49 (.back m) ⟨dictW [], [], 0⟩ z = .exc "NoMark" (z.less.note .back m) := by
        rw [iS.eq_def]
        dsimp only
        rw [if_neg c2]
        have : (Vb.back).act m (z.less.note .back m) = none := by
          show (match mget z.marks m with | some v => _ | none => none) = none
          rw [hg]
        unfold prim
        rw [this]
      rw [hb, if_neg (by omega)]
      exact ref_mark _
theorem other24 {l : List Stm} (hl : ∀ s ∈ l, fre s) {m : Int} (hm : Stm.mark m ∉ l) {most : Int} (h0 : (l.length : Int) + 3 ≤ most) : ∃ (z : Hn) (cs : List P4) (p : P4), runR [] ((.mark m :: l) ++ [.back m, .go (.int 1)]) most = .ok z ∧ z.corners = cs ++ [⟨0, 0, 0, 0⟩, p] := by
  have hr : runR [] ((.mark m :: l) ++ [.back m, .go (.int 1)]) most = iB (iS 49) ((.mark m :: l) ++ [.back m, .go (.int 1)]) ⟨dictW [], [], 0⟩ (hn0 most) := rfl
  have hrest : (hn0 most).rest = most := rfl
  have e0 : iS 49 (.mark m) ⟨dictW [], [], 0⟩ (hn0 most) = .ok { ((hn0 most).less.note .mark m) with marks := [(m, (⟨0, 0, 0, 0⟩, 0))] } := by
    rw [iS.eq_def]
    dsimp only
    rw [if_neg (by omega)]
    rfl
  rw [hr, List.cons_append, iB, e0]
  have h := iB_fre 48 ⟨dictW [], [], 0⟩ [.back m, .go (.int 1)] l hl { ((hn0 most).less.note .mark m) with marks := [(m, (⟨0, 0, 0, 0⟩, 0))] } (by show 0 ≤ most - 1; omega)
  obtain ⟨z, e, ez, em⟩ := h.1 (by show _ ≤ most - 1; omega)
  have ez' : z.rest = most - 1 - l.length := ez
  have hg : mget z.marks m = some (⟨0, 0, 0, 0⟩, 0) := by
    rw [em m hm]
    unfold mget
    simp
  show ∃ (z : Hn) (cs : List P4) (p : P4), iB (iS 49) (l ++ [.back m, .go (.int 1)]) ⟨dictW [], [], 0⟩ _ = .ok z ∧ z.corners = cs ++ [⟨0, 0, 0, 0⟩, p]
  rw [e, iB]
  have hb : iS 49 (.back m) ⟨dictW [], [], 0⟩ z = .ok { (z.less.note .back m) with c := { z.c with spot := ⟨0, 0, 0, 0⟩, heading := 0 }, corners := z.corners ++ [⟨0, 0, 0, 0⟩] } := by
    rw [iS.eq_def]
    dsimp only
    rw [if_neg (by omega)]
    have : (Vb.back).act m (z.less.note .back m) = some { (z.less.note .back m) with c := { z.c with spot := ⟨0, 0, 0, 0⟩, heading := 0 }, corners := z.corners ++ [⟨0, 0, 0, 0⟩] } := by
      show (match mget z.marks m with | some v => _ | none => none) = _
      rw [hg]
      rfl
    unfold prim
    rw [this]
  rw [hb]
  generalize hw : ({ (z.less.note .back m) with c := { z.c with spot := ⟨0, 0, 0, 0⟩, heading := 0 }, corners := z.corners ++ [⟨0, 0, 0, 0⟩] } : Hn) = w
  have hwr : w.rest = z.rest - 1 := by rw [← hw]; rfl
  have hwc : w.corners = z.corners ++ [⟨0, 0, 0, 0⟩] := by rw [← hw]
  show ∃ (z : Hn) (cs : List P4) (p : P4), iB (iS 49) [.go (.int 1)] ⟨dictW [], [], 0⟩ w = .ok z ∧ z.corners = cs ++ [⟨0, 0, 0, 0⟩, p]
  rw [iB]
  have hgo : ∃ q, iS 49 (.go (.int 1)) ⟨dictW [], [], 0⟩ w = .ok q ∧ q.corners = w.corners ++ [mv w.c.heading 1 w.c.spot] := by
    rw [iS.eq_def]
    dsimp only
    rw [if_neg (by omega)]
    exact ⟨_, rfl, rfl⟩
  obtain ⟨q, e1, e2⟩ := hgo
  rw [e1]
  exact ⟨q, z.corners, _, rfl, by rw [e2, hwc, List.append_assoc]; rfl⟩
/-- a simple statement by its number -/
def simS : Nat → Stm
  | 0 => .go (.int 3)
  | 1 => .turn (.int 2)
  | 2 => .up
  | 3 => .down
  | 4 => .ink (.int 5)
  | 5 => .go (.int (-1))
  | 6 => .turn (.int (-9))
  | _ => .mark 9
theorem simS_fre (n : Nat) : fre (simS n) := by
  match n with
  | 0 => show Int.natAbs 3 ≤ 1000000; decide
  | 1 => show Int.natAbs 2 ≤ 1000000; decide
  | 2 => trivial
  | 3 => trivial
  | 4 => show Int.natAbs 5 ≤ 1000000; decide
  | 5 => show Int.natAbs (-1) ≤ 1000000; decide
  | 6 => show Int.natAbs (-9) ≤ 1000000; decide
  | _ + 7 => trivial
theorem simS_mark {n : Nat} {m : Int} (h : m < 9) : simS n ≠ .mark m := by
  match n with
  | 0 => nofun
  | 1 => nofun
  | 2 => nofun
  | 3 => nofun
  | 4 => nofun
  | 5 => nofun
  | 6 => nofun
  | _ + 7 => intro e; cases e; omega
end Wk

namespace Lw
open PySem PySem.Spec PyProof.Rows L2 Wk
def topS (i : Nat) : Stmt := PySem.Challenge.pw_turtlehouse_k56_changes_refused.main.body.getD i (.Pass ⟨0, 0, 0, 0⟩)
def methS (i j : Nat) : Stmt := (clsBody (topS i)).getD j (.Pass ⟨0, 0, 0, 0⟩)
def c_FARTHEST : D := (.int 1000000)
def c_GREATEST : D := (.int 4000)
def c_LETTERS : D := (.str "abcdefghijklmnopqrstuvwxyz")
def c_LONGEST : D := (.int 60)
def c_MOST_DEEP : D := (.int 6)
def c_MOST_INT : D := (.int 1000000)
def c_MOST_NUMBERS : D := (.int 4)
def c_MOST_SIZE : D := (.int 4000)
def c_MOST_WORDS : D := (.int 6)
def c_SOURCES : D := (.tuple [(.str "n0"), (.str "n1"), (.str "n2"), (.str "n3")])
def exmL : List (Str × Str × Bool) := [("NoProgram", "HouseError", true), ("NoProgram", "TooGreat", false), ("NoProgram", "TooLong", false), ("TooGreat", "HouseError", true), ("TooGreat", "TooGreat", true), ("TooGreat", "TooLong", false), ("TooLong", "HouseError", true), ("TooLong", "TooGreat", false), ("TooLong", "TooLong", true)]
def exm : Str → Str → Option Bool := mtOf exmL
def kimL : List (Str × Str × Bool) := [("NoProgram", "NoMark", false), ("NoProgram", "NoProgram", true), ("NoProgram", "NoText", false), ("NoProgram", "NotWhole", false), ("NoProgram", "TooGreat", false), ("NoProgram", "TooLong", false), ("NoProgram", "ValueError", true), ("TooGreat", "NoMark", false), ("TooGreat", "NoProgram", false), ("TooGreat", "NoText", false), ("TooGreat", "NotWhole", false), ("TooGreat", "TooGreat", true), ("TooGreat", "TooLong", false), ("TooGreat", "ValueError", true), ("TooLong", "NoMark", false), ("TooLong", "NoProgram", false), ("TooLong", "NoText", false), ("TooLong", "NotWhole", false), ("TooLong", "TooGreat", false), ("TooLong", "TooLong", true), ("TooLong", "ValueError", true)]
def kim : Str → Str → Option Bool := mtOf kimL
def exC : List Str := ["NoProgram", "TooGreat", "TooLong"]
def N_is_int : List Str := ["thing", "low", "high"]
abbrev s_is_int : Stmt := topS 16
theorem sc_is_int : FnScope N_is_int ["thing", "low", "high"] (defScope s_is_int) := ⟨rfl, rfl, rfl, by decide +kernel, rfl, by decide +kernel, by decide +kernel⟩
noncomputable def B_is_int : Es := (sRet (eAnd (eUn (opIsi .int) (eV 0)) (eAnd (eBin (opIs true) (eV 0) (eC (.bool true))) (eAnd (eBin (opIs true) (eV 0) (eC (.bool false))) (eChain opLe opLe (eV 1) (eV 0) (eV 2))))))
noncomputable def F_is_int : PF := pfOf 3 B_is_int
def N_is_name : List Str := ["thing", "sign"]
abbrev s_is_name : Stmt := topS 17
theorem sc_is_name : FnScope N_is_name ["thing"] (defScope s_is_name) := ⟨rfl, rfl, rfl, by decide +kernel, rfl, by decide +kernel, by decide +kernel⟩
noncomputable def L_is_name_0 : Es := (sIf (tBin (opIn true) (eV 1) (eC c_LETTERS))
    (sRet (eC (.bool false)))
    sNil)
noncomputable def B_is_name : Es := (sSeq (sIf (bOr (bNot (tTru (eUn (opIsi .str) (eV 0)))) (bNot (Wk.tChain opLe opLe (eC (.int 1)) (eB fLen (aCons (eV 0) aNil)) (eC (.int 8)))))
    (sRet (eC (.bool false)))
    sNil)
    (sSeq (sFor (iStrE (eV 0)) (gN 1) L_is_name_0)
    (sRet (eC (.bool true)))))
noncomputable def F_is_name : PF := pfOf 2 B_is_name
def N_Frame__init : List Str := ["self", "many", "known", "deep", "is_counted"]
abbrev s_Frame__init : Stmt := methS 18 0
theorem sc_Frame__init : FnScope N_Frame__init ["self", "many", "known", "deep", "is_counted"] (defScope s_Frame__init) := ⟨rfl, rfl, rfl, by decide +kernel, rfl, by decide +kernel, by decide +kernel⟩
noncomputable def B_Frame__init : Es := (sSeq (sFldS "Frame" "many" (eV 1) (eV 0))
    (sSeq (sFldS "Frame" "known" (eV 2) (eV 0))
    (sSeq (sFldS "Frame" "deep" (eV 3) (eV 0))
    (sFldS "Frame" "is_counted" (eV 4) (eV 0)))))
noncomputable def F_Frame__init : SF := sfOf 5 B_Frame__init
def N_Frame_within : List Str := ["self", "is_again"]
abbrev s_Frame_within : Stmt := methS 18 1
theorem sc_Frame_within : FnScope N_Frame_within ["self", "is_again"] (defScope s_Frame_within) := ⟨rfl, rfl, rfl, by decide +kernel, rfl, by decide +kernel, by decide +kernel⟩
noncomputable def B_Frame_within : Es := (sSeq (sIf (tBin opGe (eFld "Frame" "deep" (eV 0)) (eC c_MOST_DEEP))
    (sRaise "NoProgram")
    sNil)
    (sRet (eMk "Frame" F_Frame__init (aCons (eFld "Frame" "many" (eV 0)) (aCons (eFld "Frame" "known" (eV 0)) (aCons (eBin (opAdd false) (eFld "Frame" "deep" (eV 0)) (eC (.int 1))) (aCons (eOr (eFld "Frame" "is_counted" (eV 0)) (eV 1)) aNil)))))))
noncomputable def F_Frame_within : SF := sfOf 2 B_Frame_within
def N_check_amount : List Str := ["thing", "frame"]
abbrev s_check_amount : Stmt := topS 19
theorem sc_check_amount : FnScope N_check_amount ["thing", "frame"] (defScope s_check_amount) := ⟨rfl, rfl, rfl, by decide +kernel, rfl, by decide +kernel, by decide +kernel⟩
noncomputable def B_check_amount : Es := (sSeq (sIf (tTru (eCall F_is_int (aCons (eV 0) (aCons (eBin opSub (eC (.int 0)) (eC c_MOST_INT)) (aCons (eC c_MOST_INT) aNil)))))
    sRetN
    sNil)
    (sSeq (sIf (bOr (bNot (tTru (eUn (opIsi .tuple) (eV 0)))) (bOr (tBin opNe (eB fLen (aCons (eV 0) aNil)) (eC (.int 3))) (bNot (tTru (eUn (opIsi .str) (eBin opIx (eV 0) (eC (.int 1))))))))
    (sRaise "NoProgram")
    sNil)
    (sSeq (sIf (bOr (bNot (tTru (eCall F_is_int (aCons (eBin opIx (eV 0) (eC (.int 0))) (aCons (eBin opSub (eC (.int 0)) (eC c_MOST_INT)) (aCons (eC c_MOST_INT) aNil)))))) (bNot (tTru (eCall F_is_int (aCons (eBin opIx (eV 0) (eC (.int 2))) (aCons (eBin opSub (eC (.int 0)) (eC c_MOST_INT)) (aCons (eC c_MOST_INT) aNil)))))))
    (sRaise "NoProgram")
    sNil)
    (sSeq (sIf (bAnd (tBin opEq (eBin opIx (eV 0) (eC (.int 1))) (eC (.str "count"))) (tTru (eFld "Frame" "is_counted" (eV 1))))
    sRetN
    sNil)
    (sIf (tBin (opIn true) (eBin opIx (eV 0) (eC (.int 1))) (eSl false (eC c_SOURCES) oNo (oSo (eFld "Frame" "many" (eV 1)))))
    (sRaise "NoProgram")
    sNil)))))
noncomputable def F_check_amount : SF := sfOf 2 B_check_amount
def N_check_length : List Str := ["statement", "many"]
abbrev s_check_length : Stmt := topS 20
theorem sc_check_length : FnScope N_check_length ["statement", "many"] (defScope s_check_length) := ⟨rfl, rfl, rfl, by decide +kernel, rfl, by decide +kernel, by decide +kernel⟩
noncomputable def B_check_length : Es := (sIf (tBin opNe (eB fLen (aCons (eV 0) aNil)) (eV 1))
    (sRaise "NoProgram")
    sNil)
noncomputable def F_check_length : PF := pfOf 2 B_check_length
def N_check_do : List Str := ["statement", "frame", "amount", "name", "amounts"]
abbrev s_check_do : Stmt := topS 21
theorem sc_check_do : FnScope N_check_do ["statement", "frame"] (defScope s_check_do) := ⟨rfl, rfl, rfl, by decide +kernel, rfl, by decide +kernel, by decide +kernel⟩
noncomputable def L_check_do_0 : Es := (sExpr (eB F_check_amount (aCons (eV 2) (aCons (eV 1) aNil))))
noncomputable def B_check_do : Es := (sSeq (sExpr (eCall F_check_length (aCons (eV 0) (aCons (eC (.int 3)) aNil))))
    (sSeq (sAsg (gTup' 2 (gCons' (gN 3) (gCons' (gN 4) gNil'))) (eSl false (eV 0) (oSo (eC (.int 1))) oNo))
    (sSeq (sIf (bOr (bNot (tTru (eUn (opIsi .str) (eV 3)))) (bOr (tBin (opIn true) (eV 3) (eFld "Frame" "known" (eV 1))) (bNot (tTru (eUn (opIsi .tuple) (eV 4))))))
    (sRaise "NoProgram")
    sNil)
    (sSeq (sIf (tBin opNe (eB fLen (aCons (eV 4) aNil)) (eBin opDGet (eFld "Frame" "known" (eV 1)) (eV 3)))
    (sRaise "NoProgram")
    sNil)
    (sFor (iSeq (eV 4)) (gN 2) L_check_do_0)))))
noncomputable def F_check_do : SF := sfOf 5 B_check_do
def N_check_statement : List Str := ["thing", "frame", "verb"]
abbrev s_check_statement : Stmt := topS 22
theorem sc_check_statement : FnScope N_check_statement ["thing", "frame"] (defScope s_check_statement) := ⟨rfl, rfl, rfl, by decide +kernel, rfl, by decide +kernel, by decide +kernel⟩
noncomputable def B_check_statement (R : Nat → SF) : Es := (sSeq (sIf (bOr (bNot (tTru (eUn (opIsi .tuple) (eV 0)))) (bOr (tBin opEq (eB fLen (aCons (eV 0) aNil)) (eC (.int 0))) (bNot (tTru (eUn (opIsi .str) (eBin opIx (eV 0) (eC (.int 0))))))))
    (sRaise "NoProgram")
    sNil)
    (sSeq (sSet 2 (eBin opIx (eV 0) (eC (.int 0))))
    (sSeq (sIf (bOr (tBin opEq (eV 2) (eC (.str "up"))) (tBin opEq (eV 2) (eC (.str "down"))))
    (sExpr (eCall F_check_length (aCons (eV 0) (aCons (eC (.int 1)) aNil))))
    (sIf (bOr (tBin opEq (eV 2) (eC (.str "go"))) (bOr (tBin opEq (eV 2) (eC (.str "turn"))) (tBin opEq (eV 2) (eC (.str "ink")))))
    (sSeq (sExpr (eCall F_check_length (aCons (eV 0) (aCons (eC (.int 2)) aNil))))
    (sExpr (eB F_check_amount (aCons (eBin opIx (eV 0) (eC (.int 1))) (aCons (eV 1) aNil)))))
    (sIf (bOr (tBin opEq (eV 2) (eC (.str "mark"))) (tBin opEq (eV 2) (eC (.str "back"))))
    (sSeq (sExpr (eCall F_check_length (aCons (eV 0) (aCons (eC (.int 2)) aNil))))
    (sIf (bNot (tTru (eCall F_is_int (aCons (eBin opIx (eV 0) (eC (.int 1))) (aCons (eC (.int 0)) (aCons (eC (.int 9)) aNil))))))
    (sRaise "NoProgram")
    sNil))
    (sIf (tBin opEq (eV 2) (eC (.str "again")))
    (sSeq (sExpr (eCall F_check_length (aCons (eV 0) (aCons (eC (.int 3)) aNil))))
    (sSeq (sExpr (eB F_check_amount (aCons (eBin opIx (eV 0) (eC (.int 1))) (aCons (eV 1) aNil))))
    (sRet (eBin (opAdd false) (eC (.int 1)) (eB (R 1) (aCons (eBin opIx (eV 0) (eC (.int 2))) (aCons (eMth "Frame" "within" F_Frame_within (eV 1) (aCons (eC (.bool true)) aNil)) aNil)))))))
    (sIf (tBin opEq (eV 2) (eC (.str "if")))
    (sSeq (sExpr (eCall F_check_length (aCons (eV 0) (aCons (eC (.int 4)) aNil))))
    (sSeq (sExpr (eB F_check_amount (aCons (eBin opIx (eV 0) (eC (.int 1))) (aCons (eV 1) aNil))))
    (sRet (eBin (opAdd false) (eBin (opAdd false) (eC (.int 1)) (eB (R 1) (aCons (eBin opIx (eV 0) (eC (.int 2))) (aCons (eMth "Frame" "within" F_Frame_within (eV 1) (aCons (eC (.bool false)) aNil)) aNil)))) (eB (R 1) (aCons (eBin opIx (eV 0) (eC (.int 3))) (aCons (eMth "Frame" "within" F_Frame_within (eV 1) (aCons (eC (.bool false)) aNil)) aNil)))))))
    (sIf (tBin opEq (eV 2) (eC (.str "do")))
    (sExpr (eB F_check_do (aCons (eV 0) (aCons (eV 1) aNil))))
    (sRaise "NoProgram")))))))
    (sRet (eC (.int 1))))))
def N_check_body : List Str := ["thing", "frame", "found", "statement"]
abbrev s_check_body : Stmt := topS 23
theorem sc_check_body : FnScope N_check_body ["thing", "frame"] (defScope s_check_body) := ⟨rfl, rfl, rfl, by decide +kernel, rfl, by decide +kernel, by decide +kernel⟩
noncomputable def L_check_body_0 (R : Nat → SF) : Es := (sSet 2 (eBin (opAdd false) (eV 2) (eB (R 0) (aCons (eV 3) (aCons (eV 1) aNil)))))
noncomputable def B_check_body (R : Nat → SF) : Es := (sSeq (sIf (bNot (tTru (eUn (opIsi .tuple) (eV 0))))
    (sRaise "NoProgram")
    sNil)
    (sSeq (sSet 2 (eC (.int 0)))
    (sSeq (sFor (iSeq (eV 0)) (gN 3) (L_check_body_0 R))
    (sRet (eV 2)))))
noncomputable def Rec_check_statement : Nat → Nat → SF
  | 0, _ => fun _ _ => .stuck
  | n + 1, 0 => sfOf 3 (B_check_statement (Rec_check_statement n))
  | n + 1, 1 => sfOf 4 (B_check_body (Rec_check_statement n))
  | _ + 1, _ => fun _ _ => .stuck
noncomputable def F_check_statement : SF := Rec_check_statement 150 0
noncomputable def F_check_body : SF := Rec_check_statement 150 1
def N_check_word : List Str := ["thing", "known"]
abbrev s_check_word : Stmt := topS 24
theorem sc_check_word : FnScope N_check_word ["thing", "known"] (defScope s_check_word) := ⟨rfl, rfl, rfl, by decide +kernel, rfl, by decide +kernel, by decide +kernel⟩
noncomputable def B_check_word : Es := (sSeq (sIf (bOr (bNot (tTru (eUn (opIsi .tuple) (eV 0)))) (bOr (tBin opNe (eB fLen (aCons (eV 0) aNil)) (eC (.int 3))) (bOr (bNot (tTru (eCall F_is_name (aCons (eBin opIx (eV 0) (eC (.int 0))) aNil)))) (tBin (opIn false) (eBin opIx (eV 0) (eC (.int 0))) (eV 1)))))
    (sRaise "NoProgram")
    sNil)
    (sSeq (sIf (bNot (tTru (eCall F_is_int (aCons (eBin opIx (eV 0) (eC (.int 1))) (aCons (eC (.int 0)) (aCons (eC c_MOST_NUMBERS) aNil))))))
    (sRaise "NoProgram")
    sNil)
    (sRet (eB F_check_body (aCons (eBin opIx (eV 0) (eC (.int 2))) (aCons (eMk "Frame" F_Frame__init (aCons (eBin opIx (eV 0) (eC (.int 1))) (aCons (eV 1) (aCons (eC (.int 0)) (aCons (eC (.bool false)) aNil))))) aNil))))))
noncomputable def F_check_word : SF := sfOf 2 B_check_word
def N_size_checked : List Str := ["thing", "known", "found", "word"]
abbrev s_size_checked : Stmt := topS 25
theorem sc_size_checked : FnScope N_size_checked ["thing"] (defScope s_size_checked) := ⟨rfl, rfl, rfl, by decide +kernel, rfl, by decide +kernel, by decide +kernel⟩
noncomputable def L_size_checked_0 : Es := (sSeq (sSet 2 (eBin (opAdd false) (eV 2) (eB F_check_word (aCons (eV 3) (aCons (eV 1) aNil)))))
    (sDPutS (eBin opIx (eV 3) (eC (.int 1))) (eV 1) (eBin opIx (eV 3) (eC (.int 0)))))
noncomputable def B_size_checked : Es := (sSeq (sIf (bOr (bNot (tTru (eUn (opIsi .tuple) (eV 0)))) (bOr (tBin opNe (eB fLen (aCons (eV 0) aNil)) (eC (.int 2))) (bNot (tTru (eUn (opIsi .tuple) (eBin opIx (eV 0) (eC (.int 0))))))))
    (sRaise "NoProgram")
    sNil)
    (sSeq (sIf (tBin opGt (eB fLen (aCons (eBin opIx (eV 0) (eC (.int 0))) aNil)) (eC c_MOST_WORDS))
    (sRaise "NoProgram")
    sNil)
    (sSeq (sSet 1 eDNew)
    (sSeq (sSet 2 (eC (.int 0)))
    (sSeq (sFor (iSeq (eBin opIx (eV 0) (eC (.int 0)))) (gN 3) L_size_checked_0)
    (sSeq (sSet 2 (eBin (opAdd false) (eV 2) (eB F_check_body (aCons (eBin opIx (eV 0) (eC (.int 1))) (aCons (eMk "Frame" F_Frame__init (aCons (eC (.int 0)) (aCons (eV 1) (aCons (eC (.int 0)) (aCons (eC (.bool false)) aNil))))) aNil)))))
    (sSeq (sIf (tBin opGt (eV 2) (eC c_MOST_SIZE))
    (sRaise "NoProgram")
    sNil)
    (sRet (eV 2)))))))))
noncomputable def F_size_checked : PF := pfOf 4 B_size_checked
def N_size_of : List Str := ["program"]
abbrev s_size_of : Stmt := topS 26
theorem sc_size_of : FnScope N_size_of ["program"] (defScope s_size_of) := ⟨rfl, rfl, rfl, by decide +kernel, rfl, by decide +kernel, by decide +kernel⟩
noncomputable def B_size_of : Es := (sRet (eCall F_size_checked (aCons (eV 0) aNil)))
noncomputable def F_size_of : PF := pfOf 1 B_size_of
def N_times_over : List Str := ["amount", "times"]
abbrev s_times_over : Stmt := topS 30
theorem sc_times_over : FnScope N_times_over ["amount", "times"] (defScope s_times_over) := ⟨rfl, rfl, rfl, by decide +kernel, rfl, by decide +kernel, by decide +kernel⟩
noncomputable def B_times_over : Es := (sSeq (sIf (tTru (eUn (opIsi .tuple) (eV 0)))
    (sRet (eTup (aCons (eBin opMul (eBin opIx (eV 0) (eC (.int 0))) (eV 1)) (aCons (eBin opIx (eV 0) (eC (.int 1))) (aCons (eBin opMul (eBin opIx (eV 0) (eC (.int 2))) (eV 1)) aNil)))))
    sNil)
    (sRet (eBin opMul (eV 0) (eV 1))))
noncomputable def F_times_over : PF := pfOf 2 B_times_over
def N_with_amounts : List Str := ["body", "verb", "times", "found", "statement", "one"]
abbrev s_with_amounts : Stmt := topS 31
theorem sc_with_amounts : FnScope N_with_amounts ["body", "verb", "times"] (defScope s_with_amounts) := ⟨rfl, rfl, rfl, by decide +kernel, rfl, by decide +kernel, by decide +kernel⟩
noncomputable def L_with_amounts_0 (R : Nat → SF) : Es := (sIf (tBin opEq (eBin opIx (eV 4) (eC (.int 0))) (eV 1))
    (sExpr (eMl fApp (eV 3) (aCons (eTup (aCons (eV 1) (aCons (eCall F_times_over (aCons (eBin opIx (eV 4) (eC (.int 1))) (aCons (eV 2) aNil))) aNil))) aNil)))
    (sIf (tBin opEq (eBin opIx (eV 4) (eC (.int 0))) (eC (.str "again")))
    (sExpr (eMl fApp (eV 3) (aCons (eTup (aCons (eC (.str "again")) (aCons (eBin opIx (eV 4) (eC (.int 1))) (aCons (eCall (pfS (R 0)) (aCons (eBin opIx (eV 4) (eC (.int 2))) (aCons (eV 1) (aCons (eV 2) aNil)))) aNil)))) aNil)))
    (sIf (tBin opEq (eBin opIx (eV 4) (eC (.int 0))) (eC (.str "if")))
    (sSeq (sSet 5 (eCall (pfS (R 0)) (aCons (eBin opIx (eV 4) (eC (.int 2))) (aCons (eV 1) (aCons (eV 2) aNil)))))
    (sExpr (eMl fApp (eV 3) (aCons (eTup (aCons (eC (.str "if")) (aCons (eBin opIx (eV 4) (eC (.int 1))) (aCons (eV 5) (aCons (eCall (pfS (R 0)) (aCons (eBin opIx (eV 4) (eC (.int 3))) (aCons (eV 1) (aCons (eV 2) aNil)))) aNil))))) aNil))))
    (sExpr (eMl fApp (eV 3) (aCons (eV 4) aNil))))))
noncomputable def B_with_amounts (R : Nat → SF) : Es := (sSeq (sSet 3 (eLst true aNil))
    (sSeq (sFor (iSeq (eV 0)) (gN 4) (L_with_amounts_0 R))
    (sRet (eB fTuple (aCons (eV 3) aNil)))))
noncomputable def Rec_with_amounts : Nat → Nat → SF
  | 0, _ => fun _ _ => .stuck
  | n + 1, 0 => sfOf 6 (B_with_amounts (Rec_with_amounts n))
  | _ + 1, _ => fun _ _ => .stuck
noncomputable def F_with_amounts : SF := Rec_with_amounts 150 0
def N_all_amounts : List Str := ["program", "verb", "times", "some", "words", "body", "name", "many", "own"]
abbrev s_all_amounts : Stmt := topS 32
theorem sc_all_amounts : FnScope N_all_amounts ["program", "verb", "times"] (defScope s_all_amounts) := ⟨rfl, rfl, rfl, by decide +kernel, rfl, by decide +kernel, by decide +kernel⟩
noncomputable def K_all_amounts_0 : Ev := (eTup (aCons (eV 6) (aCons (eV 7) (aCons (eCall (pfS F_with_amounts) (aCons (eV 8) (aCons (eV 1) (aCons (eV 2) aNil)))) aNil))))
noncomputable def B_all_amounts : Es := (sSeq (sAsg (gTup' 2 (gCons' (gN 4) (gCons' (gN 5) gNil'))) (eV 0))
    (sSeq (sSet 3 (eLc false [6, 7, 8] (iSeq (eV 4)) (gTup' 3 (gCons' (gN 6) (gCons' (gN 7) (gCons' (gN 8) gNil')))) cYes K_all_amounts_0))
    (sRet (eTup (aCons (eB fTuple (aCons (eV 3) aNil)) (aCons (eCall (pfS F_with_amounts) (aCons (eV 5) (aCons (eV 1) (aCons (eV 2) aNil)))) aNil))))))
noncomputable def F_all_amounts : PF := pfOf 9 B_all_amounts
def N_farthest_go : List Str := ["body", "far", "statement"]
abbrev s_farthest_go : Stmt := topS 33
theorem sc_farthest_go : FnScope N_farthest_go ["body"] (defScope s_farthest_go) := ⟨rfl, rfl, rfl, by decide +kernel, rfl, by decide +kernel, by decide +kernel⟩
noncomputable def L_farthest_go_0 (R : Nat → SF) : Es := (sIf (bAnd (tBin opEq (eBin opIx (eV 2) (eC (.int 0))) (eC (.str "go"))) (tTru (eUn (opIsi .tuple) (eBin opIx (eV 2) (eC (.int 1))))))
    (sSet 1 (eB fMax3 (aCons (eV 1) (aCons (eB fAbs (aCons (eBin opIx (eBin opIx (eV 2) (eC (.int 1))) (eC (.int 0))) aNil)) (aCons (eB fAbs (aCons (eBin opIx (eBin opIx (eV 2) (eC (.int 1))) (eC (.int 2))) aNil)) aNil)))))
    (sIf (tBin opEq (eBin opIx (eV 2) (eC (.int 0))) (eC (.str "go")))
    (sSet 1 (eB fMax (aCons (eV 1) (aCons (eB fAbs (aCons (eBin opIx (eV 2) (eC (.int 1))) aNil)) aNil))))
    (sIf (tBin opEq (eBin opIx (eV 2) (eC (.int 0))) (eC (.str "again")))
    (sSet 1 (eB fMax (aCons (eV 1) (aCons (eCall (pfS (R 0)) (aCons (eBin opIx (eV 2) (eC (.int 2))) aNil)) aNil))))
    (sIf (tBin opEq (eBin opIx (eV 2) (eC (.int 0))) (eC (.str "if")))
    (sSet 1 (eB fMax3 (aCons (eV 1) (aCons (eCall (pfS (R 0)) (aCons (eBin opIx (eV 2) (eC (.int 2))) aNil)) (aCons (eCall (pfS (R 0)) (aCons (eBin opIx (eV 2) (eC (.int 3))) aNil)) aNil)))))
    sNil))))
noncomputable def B_farthest_go (R : Nat → SF) : Es := (sSeq (sSet 1 (eC (.int 0)))
    (sSeq (sFor (iSeq (eV 0)) (gN 2) (L_farthest_go_0 R))
    (sRet (eV 1))))
noncomputable def Rec_farthest_go : Nat → Nat → SF
  | 0, _ => fun _ _ => .stuck
  | n + 1, 0 => sfOf 3 (B_farthest_go (Rec_farthest_go n))
  | _ + 1, _ => fun _ _ => .stuck
noncomputable def F_farthest_go : SF := Rec_farthest_go 150 0
def N_larger : List Str := ["program", "factor", "found", "some", "words", "body", "name", "many", "own"]
abbrev s_larger : Stmt := topS 34
theorem sc_larger : FnScope N_larger ["program", "factor"] (defScope s_larger) := ⟨rfl, rfl, rfl, by decide +kernel, rfl, by decide +kernel, by decide +kernel⟩
noncomputable def K_larger_0 : Ev := (eV 8)
noncomputable def L_larger_1 : Es := (sIf (tBin opGt (eCall (pfS F_farthest_go) (aCons (eV 3) aNil)) (eC c_FARTHEST))
    (sRaise "TooGreat")
    sNil)
noncomputable def B_larger : Es := (sSeq (sAsg (gTup' 2 (gCons' (gN 4) (gCons' (gN 5) gNil'))) (eV 0))
    (sSeq (sSet 2 (eCall F_all_amounts (aCons (eV 0) (aCons (eC (.str "go")) (aCons (eV 1) aNil)))))
    (sSeq (sFor (iSeq (eBin (opAdd false) (eLc false [6, 7, 8] (iSeq (eBin opIx (eV 2) (eC (.int 0)))) (gTup' 3 (gCons' (gN 6) (gCons' (gN 7) (gCons' (gN 8) gNil')))) cYes K_larger_0) (eLst false (aCons (eBin opIx (eV 2) (eC (.int 1))) aNil)))) (gN 3) L_larger_1)
    (sRet (eV 2)))))
noncomputable def F_larger : PF := pfOf 9 B_larger
def N_turned : List Str := ["program", "eighths", "words", "body"]
abbrev s_turned : Stmt := topS 35
theorem sc_turned : FnScope N_turned ["program", "eighths"] (defScope s_turned) := ⟨rfl, rfl, rfl, by decide +kernel, rfl, by decide +kernel, by decide +kernel⟩
noncomputable def B_turned : Es := (sSeq (sAsg (gTup' 2 (gCons' (gN 2) (gCons' (gN 3) gNil'))) (eV 0))
    (sSeq (sIf (tBin opGe (eCall F_size_of (aCons (eV 0) aNil)) (eC c_GREATEST))
    (sRaise "TooLong")
    sNil)
    (sRet (eTup (aCons (eV 2) (aCons (eBin (opAdd false) (eTup (aCons (eTup (aCons (eC (.str "turn")) (aCons (eV 1) aNil))) aNil)) (eV 3)) aNil))))))
noncomputable def F_turned : PF := pfOf 4 B_turned
def N_in_rounds : List Str := ["body", "start", "end", "known", "best", "size", "part", "few", "some"]
abbrev s_in_rounds : Stmt := topS 38
theorem sc_in_rounds : FnScope N_in_rounds ["body", "start", "end", "known"] (defScope s_in_rounds) := ⟨rfl, rfl, rfl, by decide +kernel, rfl, by decide +kernel, by decide +kernel⟩
noncomputable def L_in_rounds_0 : Es := (sIf (bAnd (tBin opEq (eBin opMod (eV 5) (eV 6)) (eC (.int 0))) (tBin opEq (eBin opMulY (eSl false (eV 0) (oSo (eV 1)) (oSo (eBin (opAdd false) (eV 1) (eV 6)))) (eBin opFdiv (eV 5) (eV 6))) (eSl false (eV 0) (oSo (eV 1)) (oSo (eV 2)))))
    (sSeq (sAsg (gTup' 2 (gCons' (gN 7) (gCons' (gN 8) gNil'))) (eBin opNGet (eV 3) (eTup (aCons (eV 1) (aCons (eBin (opAdd false) (eV 1) (eV 6)) aNil)))))
    (sIf (bOr (tBin (opIs false) (eV 4) (eC .none)) (tBin opLt (eBin (opAdd false) (eV 7) (eC (.int 1))) (eBin opIx (eV 4) (eC (.int 0)))))
    (sSet 4 (eTup (aCons (eBin (opAdd false) (eV 7) (eC (.int 1))) (aCons (eTup (aCons (eTup (aCons (eC (.str "again")) (aCons (eBin opFdiv (eV 5) (eV 6)) (aCons (eV 8) aNil)))) aNil)) aNil))))
    sNil))
    sNil)
noncomputable def B_in_rounds : Es := (sSeq (sSet 4 (eC .none))
    (sSeq (sSet 5 (eBin opSub (eV 2) (eV 1)))
    (sSeq (sFor (iR2 (aCons (eC (.int 1)) (aCons (eBin (opAdd false) (eBin opFdiv (eV 5) (eC (.int 2))) (eC (.int 1))) aNil))) (gN 6) L_in_rounds_0)
    (sRet (eV 4)))))
noncomputable def F_in_rounds : SF := sfOf 9 B_in_rounds
def N_in_parts : List Str := ["start", "end", "known", "best", "amid", "few"]
abbrev s_in_parts : Stmt := topS 39
theorem sc_in_parts : FnScope N_in_parts ["start", "end", "known"] (defScope s_in_parts) := ⟨rfl, rfl, rfl, by decide +kernel, rfl, by decide +kernel, by decide +kernel⟩
noncomputable def L_in_parts_0 : Es := (sSeq (sSet 5 (eBin (opAdd false) (eBin opIx (eBin opNGet (eV 2) (eTup (aCons (eV 0) (aCons (eV 4) aNil)))) (eC (.int 0))) (eBin opIx (eBin opNGet (eV 2) (eTup (aCons (eV 4) (aCons (eV 1) aNil)))) (eC (.int 0)))))
    (sIf (bOr (tBin (opIs false) (eV 3) (eC .none)) (tBin opLt (eV 5) (eBin opIx (eV 3) (eC (.int 0)))))
    (sSet 3 (eTup (aCons (eV 5) (aCons (eBin (opAdd false) (eBin opIx (eBin opNGet (eV 2) (eTup (aCons (eV 0) (aCons (eV 4) aNil)))) (eC (.int 1))) (eBin opIx (eBin opNGet (eV 2) (eTup (aCons (eV 4) (aCons (eV 1) aNil)))) (eC (.int 1)))) aNil))))
    sNil))
noncomputable def B_in_parts : Es := (sSeq (sSet 3 (eC .none))
    (sSeq (sFor (iR2 (aCons (eBin (opAdd false) (eV 0) (eC (.int 1))) (aCons (eV 1) aNil))) (gN 4) L_in_parts_0)
    (sRet (eV 3))))
noncomputable def F_in_parts : SF := sfOf 6 B_in_parts
def N_shorter : List Str := ["program", "body", "known", "size", "start", "found", "rounds"]
abbrev s_shorter : Stmt := topS 40
theorem sc_shorter : FnScope N_shorter ["program"] (defScope s_shorter) := ⟨rfl, rfl, rfl, by decide +kernel, rfl, by decide +kernel, by decide +kernel⟩
noncomputable def L_shorter_0 : Es := (sSeq (sSet 5 (eTup (aCons (eC (.int 1)) (aCons (eTup (aCons (eBin opIx (eV 1) (eV 4)) aNil)) aNil))))
    (sSeq (sIf (tBin opGt (eV 3) (eC (.int 1)))
    (sSeq (sSet 5 (eB F_in_parts (aCons (eV 4) (aCons (eBin (opAdd false) (eV 4) (eV 3)) (aCons (eV 2) aNil)))))
    (sSeq (sSet 6 (eB F_in_rounds (aCons (eV 1) (aCons (eV 4) (aCons (eBin (opAdd false) (eV 4) (eV 3)) (aCons (eV 2) aNil))))))
    (sIf (bAnd (tBin (opIs true) (eV 6) (eC .none)) (tBin opLt (eBin opIx (eV 6) (eC (.int 0))) (eBin opIx (eV 5) (eC (.int 0)))))
    (sSet 5 (eV 6))
    sNil)))
    sNil)
    (sNPutS (eV 5) (eV 2) (eTup (aCons (eV 4) (aCons (eBin (opAdd false) (eV 4) (eV 3)) aNil))))))
noncomputable def L_shorter_1 : Es := (sFor (iR1 (aCons (eBin (opAdd false) (eBin opSub (eB fLen (aCons (eV 1) aNil)) (eV 3)) (eC (.int 1))) aNil)) (gN 4) L_shorter_0)
noncomputable def B_shorter : Es := (sSeq (sSet 1 (eBin opIx (eV 0) (eC (.int 1))))
    (sSeq (sIf (tBin opGt (eB fLen (aCons (eV 1) aNil)) (eC c_LONGEST))
    (sRaise "TooLong")
    sNil)
    (sSeq (sIf (tBin opEq (eB fLen (aCons (eV 1) aNil)) (eC (.int 0)))
    (sRet (eTup (aCons (eTup aNil) (aCons (eTup aNil) aNil))))
    sNil)
    (sSeq (sSet 2 eNNew)
    (sSeq (sFor (iR2 (aCons (eC (.int 1)) (aCons (eBin (opAdd false) (eB fLen (aCons (eV 1) aNil)) (eC (.int 1))) aNil))) (gN 3) L_shorter_1)
    (sRet (eTup (aCons (eTup aNil) (aCons (eBin opIx (eBin opNGet (eV 2) (eTup (aCons (eC (.int 0)) (aCons (eB fLen (aCons (eV 1) aNil)) aNil)))) (eC (.int 1))) aNil)))))))))
noncomputable def F_shorter : PF := pfOf 7 B_shorter
def N_law_mixed : List Str := ["_law_cell_here", "_law_k", "_law_number"]
abbrev s_law_mixed : Stmt := topS 42
theorem sc_law_mixed : FnScope N_law_mixed ["_law_cell_here", "_law_k"] (defScope s_law_mixed) := ⟨rfl, rfl, rfl, by decide +kernel, rfl, by decide +kernel, by decide +kernel⟩
noncomputable def B_law_mixed : Es := (sSeq (sSet 2 (eBin opMod (eBin (opAdd false) (eBin (opAdd false) (eV 0) (eBin opMul (eBin opMul (eV 1) (eV 1)) (eC (.int 40503)))) (eC (.int 12345))) (eC (.int 2305843009213693951))))
    (sSeq (sSet 2 (eBin opMod (eBin opMul (eV 2) (eV 2)) (eC (.int 2305843009213693951))))
    (sSeq (sSet 2 (eBin opMod (eBin opMul (eBin (opAdd false) (eBin (opAdd false) (eV 2) (eBin opMul (eV 1) (eC (.int 7919)))) (eC (.int 1))) (eC (.int 48271))) (eC (.int 2305843009213693951))))
    (sRet (eBin opFdiv (eBin opMod (eBin opMul (eV 2) (eV 2)) (eC (.int 2305843009213693951))) (eC (.int 1024)))))))
noncomputable def F_law_mixed : PF := pfOf 3 B_law_mixed
def N_law_row : List Str := ["_law_cell_here", "_law_most", "_law_many_here", "_law_found", "_law_rest", "_law_k"]
abbrev s_law_row : Stmt := topS 43
theorem sc_law_row : FnScope N_law_row ["_law_cell_here", "_law_most", "_law_many_here"] (defScope s_law_row) := ⟨rfl, rfl, rfl, by decide +kernel, rfl, by decide +kernel, by decide +kernel⟩
noncomputable def L_law_row_0 : Es := (sSeq (sExpr (eMl fApp (eV 3) (aCons (eBin opMod (eV 4) (eV 1)) aNil)))
    (sSet 4 (eBin opFdiv (eV 4) (eV 1))))
noncomputable def K_law_row_1 : Ev := (eBin opMod (eCall F_law_mixed (aCons (eV 0) (aCons (eV 5) aNil))) (eV 1))
noncomputable def B_law_row : Es := (sSeq (sSet 3 (eLst true aNil))
    (sSeq (sSet 4 (eV 0))
    (sSeq (sFor (iR1 (aCons (eV 2) aNil)) (gN 5) L_law_row_0)
    (sSeq (sIf (tBin opGt (eV 4) (eC (.int 0)))
    (sRet (eFz (eV 3)))
    sNil)
    (sRet (eLc false [5] (iR1 (aCons (eV 2) aNil)) (gN 5) cYes K_law_row_1))))))
noncomputable def F_law_row : PF := pfOf 6 B_law_row
def N_law_cell : List Str := ["_law_script", "_law_k", "_law_number"]
abbrev s_law_cell : Stmt := topS 44
theorem sc_law_cell : FnScope N_law_cell ["_law_script", "_law_k"] (defScope s_law_cell) := ⟨rfl, rfl, rfl, by decide +kernel, rfl, by decide +kernel, by decide +kernel⟩
noncomputable def B_law_cell : Es := (sSeq (sIf (tBin opLt (eV 1) (eB fLen (aCons (eV 0) aNil)))
    (sRet (eBin opIx (eV 0) (eV 1)))
    sNil)
    (sSeq (sSet 2 (eBin (opAdd false) (eBin opMul (eBin opMul (eV 1) (eV 1)) (eC (.int 7919))) (eC (.int 104729))))
    (sSeq (sIf (tBin opGt (eB fLen (aCons (eV 0) aNil)) (eC (.int 0)))
    (sSet 2 (eBin (opAdd false) (eV 2) (eBin opMul (eBin opMod (eBin opIx (eV 0) (eBin opMod (eBin opMul (eV 1) (eC (.int 7))) (eB fLen (aCons (eV 0) aNil)))) (eBin opPow (eC (.int 10)) (eC (.int 40)))) (eBin (opAdd false) (eC (.int 48271)) (eV 1)))))
    sNil)
    (sRet (eBin opMod (eBin opMul (eV 2) (eV 2)) (eC (.int 2305843009213693951)))))))
noncomputable def F_law_cell : PF := pfOf 3 B_law_cell
def N_law_asked : List Str := ["_law_way", "_law_program", "_law_number"]
abbrev s_law_asked : Stmt := topS 45
theorem sc_law_asked : FnScope N_law_asked ["_law_way", "_law_program", "_law_number"] (defScope s_law_asked) := ⟨rfl, rfl, rfl, by decide +kernel, rfl, by decide +kernel, by decide +kernel⟩
noncomputable def B_law_asked : Es := (sSeq (sIf (tBin opEq (eV 0) (eC (.int 0)))
    (sRet (eCall F_larger (aCons (eV 1) (aCons (eV 2) aNil))))
    sNil)
    (sSeq (sIf (tBin opEq (eV 0) (eC (.int 1)))
    (sRet (eCall F_turned (aCons (eV 1) (aCons (eV 2) aNil))))
    sNil)
    (sRet (eCall F_shorter (aCons (eV 1) aNil)))))
noncomputable def F_law_asked : PF := pfOf 3 B_law_asked
def N_law_refused : List Str := ["_law_way", "_law_program", "_law_number", "_law_caught", "_law_kinds", "error"]
abbrev s_law_refused : Stmt := topS 46
theorem sc_law_refused : FnScope N_law_refused ["_law_way", "_law_program", "_law_number"] (defScope s_law_refused) := ⟨rfl, rfl, rfl, by decide +kernel, rfl, by decide +kernel, by decide +kernel⟩
noncomputable def Y_law_refused_0 : Es := (sExpr (eCall F_law_asked (aCons (eV 0) (aCons (eV 1) (aCons (eV 2) aNil)))))
noncomputable def Y_law_refused_1 : Es := (sExpr (eCall F_law_asked (aCons (eV 0) (aCons (eV 1) (aCons (eV 2) aNil)))))
noncomputable def S_law_refused_2 : Addr → Str → Es := fun a c => (sSeq (sSet 4 (eLst true (aCons (eIsE 5 a (kim c "TooGreat")) (aCons (eIsE 5 a (kim c "TooLong")) (aCons (eIsE 5 a (kim c "ValueError")) aNil)))))
    (sExpr (eMl fApp (eV 4) (aCons (eOr (eIsE 5 a (kiAny kim c ["NoMark", "NoProgram"])) (eIsE 5 a (kiAny kim c ["NoText", "NotWhole"]))) aNil))))
noncomputable def B_law_refused : Es := (sSeq (sSet 3 (eC (.int 0)))
    (sSeq (sSet 4 (eC .none))
    (sSeq (sTry exm Y_law_refused_0 (("TooGreat", (sSet 3 (eC (.int 1)))) :: (("TooLong", (sSet 3 (eC (.int 2)))) :: [])))
    (sSeq (sTryAs exm exC Y_law_refused_1 "HouseError" 5 S_law_refused_2)
    (sSeq (sIf (tBin opNe (eV 4) (eLst false (aCons (eBin opEq (eV 3) (eC (.int 1))) (aCons (eBin opEq (eV 3) (eC (.int 2))) (aCons (eC (.bool true)) (aCons (eC (.bool false)) aNil))))))
    (sRet (eC (.int 0)))
    sNil)
    (sRet (eV 3)))))))
noncomputable def F_law_refused : PF := pfOf 6 B_law_refused
def N_law_go : List Str := ["_law_cell_here", "_law_far", "_law_amounts"]
abbrev s_law_go : Stmt := topS 47
theorem sc_law_go : FnScope N_law_go ["_law_cell_here", "_law_far"] (defScope s_law_go) := ⟨rfl, rfl, rfl, by decide +kernel, rfl, by decide +kernel, by decide +kernel⟩
noncomputable def B_law_go : Es := (sSeq (sSet 2 (eLst false (aCons (eV 1) (aCons (eTup (aCons (eV 1) (aCons (eC (.str "count")) (aCons (eC (.int 1)) aNil)))) (aCons (eTup (aCons (eC (.int 1)) (aCons (eC (.str "count")) (aCons (eV 1) aNil)))) (aCons (eV 1) (aCons (eTup (aCons (eV 1) (aCons (eC (.str "n0")) (aCons (eC (.int 0)) aNil)))) (aCons (eTup (aCons (eC (.int 0)) (aCons (eC (.str "n0")) (aCons (eV 1) aNil)))) aNil))))))))
    (sRet (eTup (aCons (eC (.str "go")) (aCons (eBin opIx (eV 2) (eV 0)) aNil)))))
noncomputable def F_law_go : PF := pfOf 3 B_law_go
def N_law_put_in : List Str := ["_law_cell_here", "_law_go_here", "_law_body", "_law_some"]
abbrev s_law_put_in : Stmt := topS 48
theorem sc_law_put_in : FnScope N_law_put_in ["_law_cell_here", "_law_go_here"] (defScope s_law_put_in) := ⟨rfl, rfl, rfl, by decide +kernel, rfl, by decide +kernel, by decide +kernel⟩
noncomputable def B_law_put_in : Es := (sSeq (sSet 2 (eTup (aCons (eTup (aCons (eC (.str "turn")) (aCons (eC (.int 1)) aNil))) (aCons (eV 1) (aCons (eTup (aCons (eC (.str "go")) (aCons (eC (.int 1)) aNil))) aNil)))))
    (sSeq (sIf (bNot (tTru (eUn (opIsi .tuple) (eBin opIx (eV 1) (eC (.int 1))))))
    (sSeq (sSet 3 (eLst true (aCons (eV 2) (aCons (eTup (aCons (eTup (aCons (eC (.str "again")) (aCons (eC (.int 2)) (aCons (eV 2) aNil)))) aNil)) (aCons (eTup (aCons (eTup (aCons (eC (.str "if")) (aCons (eC (.int 1)) (aCons (eV 2) (aCons (eTup aNil) aNil))))) aNil)) (aCons (eTup (aCons (eTup (aCons (eC (.str "if")) (aCons (eC (.int 1)) (aCons (eTup aNil) (aCons (eV 2) aNil))))) aNil)) aNil))))))
    (sSeq (sExpr (eMl fApp (eV 3) (aCons (eTup (aCons (eTup (aCons (eC (.str "again")) (aCons (eC (.int 3)) (aCons (eTup (aCons (eTup (aCons (eC (.str "if")) (aCons (eC (.int 0)) (aCons (eTup (aCons (eTup (aCons (eC (.str "up")) aNil)) aNil)) (aCons (eV 2) aNil))))) aNil)) aNil)))) aNil)) aNil)))
    (sRet (eFz (eTup (aCons (eTup aNil) (aCons (eBin opIx (eV 3) (eBin opMod (eV 0) (eC (.int 5)))) aNil)))))))
    sNil)
    (sSeq (sIf (tBin opEq (eBin opIx (eBin opIx (eV 1) (eC (.int 1))) (eC (.int 1))) (eC (.str "count")))
    (sRet (eTup (aCons (eTup aNil) (aCons (eBin opIx (eLst false (aCons (eTup (aCons (eTup (aCons (eC (.str "again")) (aCons (eC (.int 2)) (aCons (eV 2) aNil)))) aNil)) (aCons (eTup (aCons (eTup (aCons (eC (.str "again")) (aCons (eC (.int 0)) (aCons (eTup (aCons (eTup (aCons (eC (.str "if")) (aCons (eC (.int 1)) (aCons (eTup aNil) (aCons (eV 2) aNil))))) aNil)) aNil)))) aNil)) aNil))) (eBin opMod (eV 0) (eC (.int 2)))) aNil))))
    sNil)
    (sRet (eTup (aCons (eTup (aCons (eTup (aCons (eC (.str "leaf")) (aCons (eC (.int 1)) (aCons (eV 2) aNil)))) (aCons (eTup (aCons (eC (.str "x")) (aCons (eC (.int 0)) (aCons (eTup aNil) aNil)))) aNil))) (aCons (eTup (aCons (eTup (aCons (eC (.str "do")) (aCons (eC (.str "x")) (aCons (eTup aNil) aNil)))) aNil)) aNil)))))))
noncomputable def F_law_put_in : PF := pfOf 4 B_law_put_in
def N_law_many : List Str := ["_law_cell_here", "_law_size", "_law_one"]
abbrev s_law_many : Stmt := topS 49
theorem sc_law_many : FnScope N_law_many ["_law_cell_here", "_law_size"] (defScope s_law_many) := ⟨rfl, rfl, rfl, by decide +kernel, rfl, by decide +kernel, by decide +kernel⟩
noncomputable def B_law_many : Es := (sSeq (sSet 2 (eTup (aCons (eC (.str "ink")) (aCons (eBin opMod (eBin opFdiv (eV 0) (eC (.int 3))) (eC (.int 8))) aNil))))
    (sSeq (sIf (tBin opEq (eBin opMod (eV 0) (eC (.int 3))) (eC (.int 0)))
    (sRet (eTup (aCons (eTup aNil) (aCons (eBin opMulY (eTup (aCons (eV 2) aNil)) (eV 1)) aNil))))
    sNil)
    (sSeq (sIf (tBin opEq (eBin opMod (eV 0) (eC (.int 3))) (eC (.int 1)))
    (sRet (eTup (aCons (eTup aNil) (aCons (eTup (aCons (eTup (aCons (eC (.str "again")) (aCons (eC (.int 1)) (aCons (eBin opMulY (eTup (aCons (eV 2) aNil)) (eBin opSub (eV 1) (eC (.int 1)))) aNil)))) aNil)) aNil))))
    sNil)
    (sRet (eTup (aCons (eTup (aCons (eTup (aCons (eC (.str "leaf")) (aCons (eC (.int 0)) (aCons (eBin opMulY (eTup (aCons (eV 2) aNil)) (eBin opSub (eV 1) (eC (.int 2)))) aNil)))) aNil)) (aCons (eTup (aCons (eTup (aCons (eC (.str "up")) aNil)) (aCons (eTup (aCons (eC (.str "down")) aNil)) aNil))) aNil)))))))
noncomputable def F_law_many : PF := pfOf 3 B_law_many
def N_law : List Str := ["_law_script", "_law_cell_here", "_law_factor", "_law_most", "_law_far", "_law_program", "_law_found", "_law_plain"]
abbrev s_law : Stmt := topS 50
theorem sc_law : FnScope N_law ["_law_script"] (defScope s_law) := ⟨rfl, rfl, rfl, by decide +kernel, rfl, by decide +kernel, by decide +kernel⟩
noncomputable def L_law_0 : Es := (sSeq (sSet 5 (eCall F_law_put_in (aCons (eBin opIx (eV 1) (eC (.int 2))) (aCons (eCall F_law_go (aCons (eBin opMod (eBin opIx (eV 1) (eC (.int 3))) (eC (.int 6))) (aCons (eV 4) aNil))) aNil))))
    (sIf (tBin opEq (eV 4) (eV 3))
    (sIf (tBin opNe (eCall F_law_refused (aCons (eC (.int 0)) (aCons (eV 5) (aCons (eV 2) aNil)))) (eC (.int 0)))
    (sRet (eC (.bool false)))
    sNil)
    (sIf (tBin opNe (eCall F_law_refused (aCons (eC (.int 0)) (aCons (eV 5) (aCons (eV 2) aNil)))) (eC (.int 1)))
    (sRet (eC (.bool false)))
    sNil)))
noncomputable def B_law : Es := (sSeq (sSet 1 (eCall F_law_row (aCons (eCall F_law_cell (aCons (eV 0) (aCons (eC (.int 0)) aNil))) (aCons (eC (.int 1000)) (aCons (eC (.int 6)) aNil)))))
    (sSeq (sSet 2 (eBin (opAdd false) (eC (.int 2)) (eBin opMod (eBin opIx (eV 1) (eC (.int 0))) (eC (.int 999)))))
    (sSeq (sSet 3 (eBin opMulY (eBin opFdiv (eC (.int 1000000)) (eV 2)) (eBin opIx (eLst false (aCons (eC (.int 1)) (aCons (eUn opNeg (eC (.int 1))) aNil))) (eBin opMod (eBin opIx (eV 1) (eC (.int 1))) (eC (.int 2))))))
    (sSeq (sFor (iSeq (eLst false (aCons (eV 3) (aCons (eBin (opAdd false) (eV 3) (eBin opIx (eLst false (aCons (eC (.int 1)) (aCons (eUn opNeg (eC (.int 1))) aNil))) (eBin opMod (eBin opIx (eV 1) (eC (.int 1))) (eC (.int 2))))) aNil)))) (gN 4) L_law_0)
    (sSeq (sSet 5 (eCall F_law_many (aCons (eBin opIx (eV 1) (eC (.int 4))) (aCons (eC (.int 3999)) aNil))))
    (sSeq (sSet 6 (eCall F_turned (aCons (eV 5) (aCons (eBin opMod (eBin opIx (eV 1) (eC (.int 5))) (eC (.int 8))) aNil))))
    (sSeq (sIf (tBin opNe (eV 6) (eTup (aCons (eBin opIx (eV 5) (eC (.int 0))) (aCons (eBin (opAdd false) (eTup (aCons (eTup (aCons (eC (.str "turn")) (aCons (eBin opMod (eBin opIx (eV 1) (eC (.int 5))) (eC (.int 8))) aNil))) aNil)) (eBin opIx (eV 5) (eC (.int 1)))) aNil))))
    (sRet (eC (.bool false)))
    sNil)
    (sSeq (sIf (tBin opNe (eCall F_law_refused (aCons (eC (.int 1)) (aCons (eCall F_law_many (aCons (eBin opIx (eV 1) (eC (.int 4))) (aCons (eC (.int 4000)) aNil))) (aCons (eBin opMod (eBin opIx (eV 1) (eC (.int 5))) (eC (.int 8))) aNil)))) (eC (.int 2)))
    (sRet (eC (.bool false)))
    sNil)
    (sSeq (sSet 7 (eBin opMulY (eTup (aCons (eTup (aCons (eC (.str "go")) (aCons (eC (.int 1)) aNil))) (aCons (eTup (aCons (eC (.str "turn")) (aCons (eBin opIx (eV 1) (eC (.int 5))) aNil))) aNil))) (eC (.int 30))))
    (sRet (eAnd (eBin opEq (eCall F_law_refused (aCons (eC (.int 2)) (aCons (eTup (aCons (eTup aNil) (aCons (eV 7) aNil))) (aCons (eC (.int 0)) aNil)))) (eC (.int 0))) (eBin opEq (eCall F_law_refused (aCons (eC (.int 2)) (aCons (eTup (aCons (eTup aNil) (aCons (eBin (opAdd false) (eV 7) (eTup (aCons (eTup (aCons (eC (.str "up")) aNil)) aNil))) aNil))) (aCons (eC (.int 0)) aNil)))) (eC (.int 2))))))))))))))
noncomputable def F_law : PF := pfOf 8 B_law
theorem mt_mk {K : PySem.W.Frag} {mg : Str → Option Value} (z0 : MtOne K mg "NoProgram" "HouseError" true) (z1 : MtOne K mg "NoProgram" "TooGreat" false) (z2 : MtOne K mg "NoProgram" "TooLong" false) (z3 : MtOne K mg "TooGreat" "HouseError" true) (z4 : MtOne K mg "TooGreat" "TooGreat" true) (z5 : MtOne K mg "TooGreat" "TooLong" false) (z6 : MtOne K mg "TooLong" "HouseError" true) (z7 : MtOne K mg "TooLong" "TooGreat" false) (z8 : MtOne K mg "TooLong" "TooLong" true) : MtOk K mg exm := mtOk_mk (l := exmL) (by unfold exmL; simp only [List.mem_cons, List.not_mem_nil, or_false]; rintro x (rfl | rfl | rfl | rfl | rfl | rfl | rfl | rfl | rfl) <;> assumption)
theorem ei_mk {K : PySem.W.Frag} {mg : Str → Option Value} (z0 : ExI K mg "NoProgram") (z1 : ExI K mg "TooGreat") (z2 : ExI K mg "TooLong") : ∀ c ∈ exC, ExI K mg c := by unfold exC; simp only [List.mem_cons, List.not_mem_nil, or_false]; rintro x (rfl | rfl | rfl) <;> assumption
theorem ki_mk {K : PySem.W.Frag} {mg : Str → Option Value} (z0 : KiOne K mg "NoProgram" "NoMark" false) (z1 : KiOne K mg "NoProgram" "NoProgram" true) (z2 : KiOne K mg "NoProgram" "NoText" false) (z3 : KiOne K mg "NoProgram" "NotWhole" false) (z4 : KiOne K mg "NoProgram" "TooGreat" false) (z5 : KiOne K mg "NoProgram" "TooLong" false) (z6 : KiOne K mg "NoProgram" "ValueError" true) (z7 : KiOne K mg "TooGreat" "NoMark" false) (z8 : KiOne K mg "TooGreat" "NoProgram" false) (z9 : KiOne K mg "TooGreat" "NoText" false) (z10 : KiOne K mg "TooGreat" "NotWhole" false) (z11 : KiOne K mg "TooGreat" "TooGreat" true) (z12 : KiOne K mg "TooGreat" "TooLong" false) (z13 : KiOne K mg "TooGreat" "ValueError" true) (z14 : KiOne K mg "TooLong" "NoMark" false) (z15 : KiOne K mg "TooLong" "NoProgram" false) (z16 : KiOne K mg "TooLong" "NoText" false) (z17 : KiOne K mg "TooLong" "NotWhole" false) (z18 : KiOne K mg "TooLong" "TooGreat" false) (z19 : KiOne K mg "TooLong" "TooLong" true) (z20 : KiOne K mg "TooLong" "ValueError" true) : KiOk K mg kim := kiOk_mk (l := kimL) (by unfold kimL; simp only [List.mem_cons, List.not_mem_nil, or_false]; rintro x (rfl | rfl | rfl | rfl | rfl | rfl | rfl | rfl | rfl | rfl | rfl | rfl | rfl | rfl | rfl | rfl | rfl | rfl | rfl | rfl | rfl) <;> assumption)
structure Txt (K : PySem.W.Frag) (mg : Str → Option Value) : Prop where
  h_is_int : Has K mg "is_int" s_is_int ["thing", "low", "high"]
  h_is_name : Has K mg "is_name" s_is_name ["thing"]
  i_Frame : HasI K mg "Frame" "Frame.__init__" s_Frame__init ["self", "many", "known", "deep", "is_counted"]
  h_Frame_within : HasM K mg "Frame" "within" "Frame.within" s_Frame_within ["self", "is_again"]
  h_check_amount : Has K mg "check_amount" s_check_amount ["thing", "frame"]
  h_check_length : Has K mg "check_length" s_check_length ["statement", "many"]
  h_check_do : Has K mg "check_do" s_check_do ["statement", "frame"]
  h_check_statement : Has K mg "check_statement" s_check_statement ["thing", "frame"]
  h_check_body : Has K mg "check_body" s_check_body ["thing", "frame"]
  h_check_word : Has K mg "check_word" s_check_word ["thing", "known"]
  h_size_checked : Has K mg "size_checked" s_size_checked ["thing"]
  h_size_of : Has K mg "size_of" s_size_of ["program"]
  h_times_over : Has K mg "times_over" s_times_over ["amount", "times"]
  h_with_amounts : Has K mg "with_amounts" s_with_amounts ["body", "verb", "times"]
  h_all_amounts : Has K mg "all_amounts" s_all_amounts ["program", "verb", "times"]
  h_farthest_go : Has K mg "farthest_go" s_farthest_go ["body"]
  h_larger : Has K mg "larger" s_larger ["program", "factor"]
  h_turned : Has K mg "turned" s_turned ["program", "eighths"]
  h_in_rounds : Has K mg "in_rounds" s_in_rounds ["body", "start", "end", "known"]
  h_in_parts : Has K mg "in_parts" s_in_parts ["start", "end", "known"]
  h_shorter : Has K mg "shorter" s_shorter ["program"]
  h_law_mixed : Has K mg "_law_mixed" s_law_mixed ["_law_cell_here", "_law_k"]
  h_law_row : Has K mg "_law_row" s_law_row ["_law_cell_here", "_law_most", "_law_many_here"]
  h_law_cell : Has K mg "_law_cell" s_law_cell ["_law_script", "_law_k"]
  h_law_asked : Has K mg "_law_asked" s_law_asked ["_law_way", "_law_program", "_law_number"]
  h_law_refused : Has K mg "_law_refused" s_law_refused ["_law_way", "_law_program", "_law_number"]
  h_law_go : Has K mg "_law_go" s_law_go ["_law_cell_here", "_law_far"]
  h_law_put_in : Has K mg "_law_put_in" s_law_put_in ["_law_cell_here", "_law_go_here"]
  h_law_many : Has K mg "_law_many" s_law_many ["_law_cell_here", "_law_size"]
  h_law : Has K mg "law" s_law ["_law_script"]
  k_Frame : ClsF K mg "Frame"
  x_Frame : ∃ C, mg "Frame" = some (.ref C)
  x_HouseError : ∃ C, mg "HouseError" = some (.ref C)
  x_TooGreat : ∃ C, mg "TooGreat" = some (.ref C)
  x_TooLong : ∃ C, mg "TooLong" = some (.ref C)
  d_Frame_deep : FldF K mg "Frame" "deep"
  d_Frame_is_counted : FldF K mg "Frame" "is_counted"
  d_Frame_known : FldF K mg "Frame" "known"
  d_Frame_many : FldF K mg "Frame" "many"
  e_NoProgram : ExcC K mg "NoProgram"
  e_TooGreat : ExcC K mg "TooGreat"
  e_TooLong : ExcC K mg "TooLong"
  mt : MtOk K mg exm
  ei : ∀ c ∈ exC, ExI K mg c
  ki : KiOk K mg kim
  cn_NoMark : ∃ v u, CN mg "NoMark" v u
  cn_NoProgram : ∃ v u, CN mg "NoProgram" v u
  cn_NoText : ∃ v u, CN mg "NoText" v u
  cn_NotWhole : ∃ v u, CN mg "NotWhole" v u
  cn_TooGreat : ∃ v u, CN mg "TooGreat" v u
  cn_TooLong : ∃ v u, CN mg "TooLong" v u
  cn_ValueError : ∃ v u, CN mg "ValueError" v u
  b_abs : mg "abs" = none
  b_int : mg "int" = none
  b_isinstance : mg "isinstance" = none
  b_len : mg "len" = none
  b_max : mg "max" = none
  b_range : mg "range" = none
  b_str : mg "str" = none
  b_tuple : mg "tuple" = none
  c_FARTHEST : ∀ {X : Cx} {W : WX} {pos : Pos}, X.K = K → X.mg = mg → Gl X "FARTHEST" → SE X W (.Name "FARTHEST" pos) (eC c_FARTHEST)
  c_GREATEST : ∀ {X : Cx} {W : WX} {pos : Pos}, X.K = K → X.mg = mg → Gl X "GREATEST" → SE X W (.Name "GREATEST" pos) (eC c_GREATEST)
  c_LETTERS : ∀ {X : Cx} {W : WX} {pos : Pos}, X.K = K → X.mg = mg → Gl X "LETTERS" → SE X W (.Name "LETTERS" pos) (eC c_LETTERS)
  c_LONGEST : ∀ {X : Cx} {W : WX} {pos : Pos}, X.K = K → X.mg = mg → Gl X "LONGEST" → SE X W (.Name "LONGEST" pos) (eC c_LONGEST)
  c_MOST_DEEP : ∀ {X : Cx} {W : WX} {pos : Pos}, X.K = K → X.mg = mg → Gl X "MOST_DEEP" → SE X W (.Name "MOST_DEEP" pos) (eC c_MOST_DEEP)
  c_MOST_INT : ∀ {X : Cx} {W : WX} {pos : Pos}, X.K = K → X.mg = mg → Gl X "MOST_INT" → SE X W (.Name "MOST_INT" pos) (eC c_MOST_INT)
  c_MOST_NUMBERS : ∀ {X : Cx} {W : WX} {pos : Pos}, X.K = K → X.mg = mg → Gl X "MOST_NUMBERS" → SE X W (.Name "MOST_NUMBERS" pos) (eC c_MOST_NUMBERS)
  c_MOST_SIZE : ∀ {X : Cx} {W : WX} {pos : Pos}, X.K = K → X.mg = mg → Gl X "MOST_SIZE" → SE X W (.Name "MOST_SIZE" pos) (eC c_MOST_SIZE)
  c_MOST_WORDS : ∀ {X : Cx} {W : WX} {pos : Pos}, X.K = K → X.mg = mg → Gl X "MOST_WORDS" → SE X W (.Name "MOST_WORDS" pos) (eC c_MOST_WORDS)
  c_SOURCES : ∀ {X : Cx} {W : WX} {pos : Pos}, X.K = K → X.mg = mg → Gl X "SOURCES" → SE X W (.Name "SOURCES" pos) (eC c_SOURCES)
section
variable {P : Program} {w : World} {K : PySem.W.Frag} {mg : Str → Option Value} {base : Heap}
theorem ok_is_int (T : Txt K mg) : FnA P w K mg base 1 "is_int" s_is_int ["thing", "low", "high"] F_is_int :=
  fn_priv (N := N_is_int) (k := 0) (B := B_is_int) sc_is_int fun f cdv A outer s H E hr tk po => by
    have nd := sc_is_int.nd
    exact (ss_one (ss_ret (se_and (se_isi .int rfl T.b_isinstance rfl T.b_int bt_int (se_v 0)) (se_and (se_cmp op_isNotX (ab_is true) (nomark _) (se_v 0) se_bl) (se_and (se_cmp op_isNotX (ab_is true) (nomark _) (se_v 0) se_bl) (se_one (se_chain op_le op_le (ab_cmp _) (ab_cmp _) (se_v 1) (se_v 0) (se_v 2))))))))
theorem ok_is_name (T : Txt K mg) : FnA P w K mg base 1 "is_name" s_is_name ["thing"] F_is_name :=
  fn_priv (N := N_is_name) (k := 0) (B := B_is_name) sc_is_name fun f cdv A outer s H E hr tk po => by
    have nd := sc_is_name.nd
    exact (ss_cons (ss_if (sw_st (sw_or (st_not (st_truth (se_isi .str rfl T.b_isinstance rfl T.b_str bt_str (se_v 0)))) (sw_or1 (st_not (st_chain op_le op_le (ab_cmp _) (ab_cmp _) se_int (se_callB call_len ab_len rfl T.b_len bt_len (sa_cons (se_v 0) sa_nil)) se_int)))))
    (ss_one (ss_ret se_bl))
    ss_nil)
    (ss_cons (ss_for po rfl (si_str (se_v 0)) (sg_name 1 nd)
    (ss_one (ss_if (st_cmp (op_notInX (units65 hr)) (ab_in true) rfl (se_v 1) (T.c_LETTERS rfl rfl rfl))
    (ss_one (ss_ret se_bl))
    ss_nil)))
    (ss_one (ss_ret se_bl))))
theorem ok_Frame__init (T : Txt K mg) : FnB P w K mg base 1 "__init__" "Frame.__init__" s_Frame__init ["self", "many", "known", "deep", "is_counted"] F_Frame__init :=
  fn_shared (N := N_Frame__init) (k := 0) (B := B_Frame__init) sc_Frame__init fun f cdv A outer s H E hr tk po => by
    have nd := sc_Frame__init.nd
    exact (ss_cons (ss_fld T.k_Frame T.d_Frame_many (se_v 1) (se_v 0))
    (ss_cons (ss_fld T.k_Frame T.d_Frame_known (se_v 2) (se_v 0))
    (ss_cons (ss_fld T.k_Frame T.d_Frame_deep (se_v 3) (se_v 0))
    (ss_one (ss_fld T.k_Frame T.d_Frame_is_counted (se_v 4) (se_v 0))))))
theorem ok_Frame_within (T : Txt K mg) : FnB P w K mg base 3 "within" "Frame.within" s_Frame_within ["self", "is_again"] F_Frame_within :=
  fn_shared (N := N_Frame_within) (k := 2) (B := B_Frame_within) sc_Frame_within fun f cdv A outer s H E hr tk po => by
    have nd := sc_Frame_within.nd
    exact (ss_cons (ss_if (st_cmp op_ge (ab_cmp _) (nomark _) (se_fld T.k_Frame T.d_Frame_deep (se_v 0)) (T.c_MOST_DEEP rfl rfl rfl))
    (ss_one (ss_raise rfl tk T.e_NoProgram rfl))
    ss_nil)
    (ss_one (ss_ret (se_make tk.c ((ok_Frame__init T).i T.i_Frame) (hr.mono (by decide)) rfl (sa_cons (se_fld T.k_Frame T.d_Frame_many (se_v 0)) (sa_cons (se_fld T.k_Frame T.d_Frame_known (se_v 0)) (sa_cons (se_bin op_addA (ab_add false) (se_fld T.k_Frame T.d_Frame_deep (se_v 0)) se_int) (sa_cons (se_or (se_fld T.k_Frame T.d_Frame_is_counted (se_v 0)) (se_one (se_v 1))) sa_nil)))) (aLen_cons (aLen_cons (aLen_cons (aLen_cons aLen_nil))))))))
theorem ok_check_amount (T : Txt K mg) : FnB P w K mg base 2 "check_amount" "check_amount" s_check_amount ["thing", "frame"] F_check_amount :=
  fn_shared (N := N_check_amount) (k := 1) (B := B_check_amount) sc_check_amount fun f cdv A outer s H E hr tk po => by
    have nd := sc_check_amount.nd
    exact (ss_cons (ss_if (st_truth (se_call tk.c ((ok_is_int T).p T.h_is_int) (hr.mono (by decide)) rfl (sa_cons (se_v 0) (sa_cons (se_bin op_sub ab_sub se_int (T.c_MOST_INT rfl rfl rfl)) (sa_cons (T.c_MOST_INT rfl rfl rfl) sa_nil))) (aLen_cons (aLen_cons (aLen_cons aLen_nil)))))
    (ss_one ss_retN)
    ss_nil)
    (ss_cons (ss_if (sw_st (sw_or (st_not (st_truth (se_isi .tuple rfl T.b_isinstance rfl T.b_tuple bt_tuple (se_v 0)))) (sw_or (st_cmp (op_neA hr.units) ab_ne (nomark _) (se_callB call_len ab_len rfl T.b_len bt_len (sa_cons (se_v 0) sa_nil)) se_int) (sw_or1 (st_not (st_truth (se_isi .str rfl T.b_isinstance rfl T.b_str bt_str (se_ix (fun _ _ => rfl) (se_v 0) se_int))))))))
    (ss_one (ss_raise rfl tk T.e_NoProgram rfl))
    ss_nil)
    (ss_cons (ss_if (sw_st (sw_or (st_not (st_truth (se_call tk.c ((ok_is_int T).p T.h_is_int) (hr.mono (by decide)) rfl (sa_cons (se_ix (fun _ _ => rfl) (se_v 0) se_int) (sa_cons (se_bin op_sub ab_sub se_int (T.c_MOST_INT rfl rfl rfl)) (sa_cons (T.c_MOST_INT rfl rfl rfl) sa_nil))) (aLen_cons (aLen_cons (aLen_cons aLen_nil)))))) (sw_or1 (st_not (st_truth (se_call tk.c ((ok_is_int T).p T.h_is_int) (hr.mono (by decide)) rfl (sa_cons (se_ix (fun _ _ => rfl) (se_v 0) se_int) (sa_cons (se_bin op_sub ab_sub se_int (T.c_MOST_INT rfl rfl rfl)) (sa_cons (T.c_MOST_INT rfl rfl rfl) sa_nil))) (aLen_cons (aLen_cons (aLen_cons aLen_nil)))))))))
    (ss_one (ss_raise rfl tk T.e_NoProgram rfl))
    ss_nil)
    (ss_cons (ss_if (sw_st (sw_and (st_cmp (op_eqA hr.units) ab_eq (nomark _) (se_ix (fun _ _ => rfl) (se_v 0) se_int) se_str) (sw_and1 (st_truth (se_fld T.k_Frame T.d_Frame_is_counted (se_v 1))))))
    (ss_one ss_retN)
    ss_nil)
    (ss_one (ss_if (st_cmp (op_notInX (units65 hr)) (ab_in true) rfl (se_ix (fun _ _ => rfl) (se_v 0) se_int) (se_sl false (T.c_SOURCES rfl rfl rfl) so_no (so_so (se_fld T.k_Frame T.d_Frame_many (se_v 1)))))
    (ss_one (ss_raise rfl tk T.e_NoProgram rfl))
    ss_nil))))))
theorem ok_check_length (T : Txt K mg) : FnA P w K mg base 1 "check_length" s_check_length ["statement", "many"] F_check_length :=
  fn_priv (N := N_check_length) (k := 0) (B := B_check_length) sc_check_length fun f cdv A outer s H E hr tk po => by
    have nd := sc_check_length.nd
    exact (ss_one (ss_if (st_cmp (op_neA hr.units) ab_ne (nomark _) (se_callB call_len ab_len rfl T.b_len bt_len (sa_cons (se_v 0) sa_nil)) (se_v 1))
    (ss_one (ss_raise rfl tk T.e_NoProgram rfl))
    ss_nil))
theorem ok_check_do (T : Txt K mg) : FnB P w K mg base 3 "check_do" "check_do" s_check_do ["statement", "frame"] F_check_do :=
  fn_shared (N := N_check_do) (k := 2) (B := B_check_do) sc_check_do fun f cdv A outer s H E hr tk po => by
    have nd := sc_check_do.nd
    exact (ss_cons (ss_expr (se_call tk.c ((ok_check_length T).p T.h_check_length) (hr.mono (by decide)) rfl (sa_cons (se_v 0) (sa_cons se_int sa_nil)) (aLen_cons (aLen_cons aLen_nil))))
    (ss_cons (ss_asg (se_sl false (se_v 0) (so_so se_int) so_no) (sg_tup rfl (sgs_cons (sg_name 3 nd) (sgs_cons (sg_name 4 nd) sgs_nil))))
    (ss_cons (ss_if (sw_st (sw_or (st_not (st_truth (se_isi .str rfl T.b_isinstance rfl T.b_str bt_str (se_v 3)))) (sw_or (st_cmp (op_notInX (units65 hr)) (ab_in true) rfl (se_v 3) (se_fld T.k_Frame T.d_Frame_known (se_v 1))) (sw_or1 (st_not (st_truth (se_isi .tuple rfl T.b_isinstance rfl T.b_tuple bt_tuple (se_v 4))))))))
    (ss_one (ss_raise rfl tk T.e_NoProgram rfl))
    ss_nil)
    (ss_cons (ss_if (st_cmp (op_neA hr.units) ab_ne (nomark _) (se_callB call_len ab_len rfl T.b_len bt_len (sa_cons (se_v 4) sa_nil)) (se_dget (hu_of hr) (se_fld T.k_Frame T.d_Frame_known (se_v 1)) (se_v 3)))
    (ss_one (ss_raise rfl tk T.e_NoProgram rfl))
    ss_nil)
    (ss_one (ss_for po rfl (si_seq (se_v 4)) (sg_name 2 nd)
    (ss_one (ss_expr (se_callS tk.c ((ok_check_amount T).s T.h_check_amount) (hr.mono (by decide)) rfl (sa_cons (se_v 2) (sa_cons (se_v 1) sa_nil)) (aLen_cons (aLen_cons aLen_nil)))))))))))
theorem st_check_statement (T : Txt K mg) (R : Nat → SF) (n : Nat) (ih_check_statement : FnB P w K mg base (3 + n) "check_statement" "check_statement" s_check_statement ["thing", "frame"] (R 0)) (ih_check_body : FnB P w K mg base (3 + n) "check_body" "check_body" s_check_body ["thing", "frame"] (R 1)) : FnB P w K mg base (3 + n + 1) "check_statement" "check_statement" s_check_statement ["thing", "frame"] (sfOf 3 (B_check_statement R)) :=
  fn_shared (N := N_check_statement) (k := 3 + n) (B := B_check_statement R) sc_check_statement fun f cdv A outer s H E hr tk po => by
    have nd := sc_check_statement.nd
    exact (ss_cons (ss_if (sw_st (sw_or (st_not (st_truth (se_isi .tuple rfl T.b_isinstance rfl T.b_tuple bt_tuple (se_v 0)))) (sw_or (st_cmp (op_eqA hr.units) ab_eq (nomark _) (se_callB call_len ab_len rfl T.b_len bt_len (sa_cons (se_v 0) sa_nil)) se_int) (sw_or1 (st_not (st_truth (se_isi .str rfl T.b_isinstance rfl T.b_str bt_str (se_ix (fun _ _ => rfl) (se_v 0) se_int))))))))
    (ss_one (ss_raise rfl tk T.e_NoProgram rfl))
    ss_nil)
    (ss_cons (ss_set 2 nd (se_ix (fun _ _ => rfl) (se_v 0) se_int))
    (ss_cons (ss_if (sw_st (sw_or (st_cmp (op_eqA hr.units) ab_eq (nomark _) (se_v 2) se_str) (sw_or1 (st_cmp (op_eqA hr.units) ab_eq (nomark _) (se_v 2) se_str))))
    (ss_one (ss_expr (se_call tk.c ((ok_check_length T).p T.h_check_length) (hr.mono (Nat.le_trans (by decide : 1 ≤ 3) (Nat.le_add_right _ _))) rfl (sa_cons (se_v 0) (sa_cons se_int sa_nil)) (aLen_cons (aLen_cons aLen_nil)))))
    (ss_one (ss_if (sw_st (sw_or (st_cmp (op_eqA hr.units) ab_eq (nomark _) (se_v 2) se_str) (sw_or (st_cmp (op_eqA hr.units) ab_eq (nomark _) (se_v 2) se_str) (sw_or1 (st_cmp (op_eqA hr.units) ab_eq (nomark _) (se_v 2) se_str)))))
    (ss_cons (ss_expr (se_call tk.c ((ok_check_length T).p T.h_check_length) (hr.mono (Nat.le_trans (by decide : 1 ≤ 3) (Nat.le_add_right _ _))) rfl (sa_cons (se_v 0) (sa_cons se_int sa_nil)) (aLen_cons (aLen_cons aLen_nil))))
    (ss_one (ss_expr (se_callS tk.c ((ok_check_amount T).s T.h_check_amount) (hr.mono (Nat.le_trans (by decide : 2 ≤ 3) (Nat.le_add_right _ _))) rfl (sa_cons (se_ix (fun _ _ => rfl) (se_v 0) se_int) (sa_cons (se_v 1) sa_nil)) (aLen_cons (aLen_cons aLen_nil))))))
    (ss_one (ss_if (sw_st (sw_or (st_cmp (op_eqA hr.units) ab_eq (nomark _) (se_v 2) se_str) (sw_or1 (st_cmp (op_eqA hr.units) ab_eq (nomark _) (se_v 2) se_str))))
    (ss_cons (ss_expr (se_call tk.c ((ok_check_length T).p T.h_check_length) (hr.mono (Nat.le_trans (by decide : 1 ≤ 3) (Nat.le_add_right _ _))) rfl (sa_cons (se_v 0) (sa_cons se_int sa_nil)) (aLen_cons (aLen_cons aLen_nil))))
    (ss_one (ss_if (st_not (st_truth (se_call tk.c ((ok_is_int T).p T.h_is_int) (hr.mono (Nat.le_trans (by decide : 1 ≤ 3) (Nat.le_add_right _ _))) rfl (sa_cons (se_ix (fun _ _ => rfl) (se_v 0) se_int) (sa_cons se_int (sa_cons se_int sa_nil))) (aLen_cons (aLen_cons (aLen_cons aLen_nil))))))
    (ss_one (ss_raise rfl tk T.e_NoProgram rfl))
    ss_nil)))
    (ss_one (ss_if (st_cmp (op_eqA hr.units) ab_eq (nomark _) (se_v 2) se_str)
    (ss_cons (ss_expr (se_call tk.c ((ok_check_length T).p T.h_check_length) (hr.mono (Nat.le_trans (by decide : 1 ≤ 3) (Nat.le_add_right _ _))) rfl (sa_cons (se_v 0) (sa_cons se_int sa_nil)) (aLen_cons (aLen_cons aLen_nil))))
    (ss_cons (ss_expr (se_callS tk.c ((ok_check_amount T).s T.h_check_amount) (hr.mono (Nat.le_trans (by decide : 2 ≤ 3) (Nat.le_add_right _ _))) rfl (sa_cons (se_ix (fun _ _ => rfl) (se_v 0) se_int) (sa_cons (se_v 1) sa_nil)) (aLen_cons (aLen_cons aLen_nil))))
    (ss_one (ss_ret (se_bin op_addA (ab_add false) se_int (se_callS tk.c (ih_check_body.s T.h_check_body) hr rfl (sa_cons (se_ix (fun _ _ => rfl) (se_v 0) se_int) (sa_cons (se_mth tk.c T.k_Frame T.x_Frame ((ok_Frame_within T).m T.h_Frame_within) (hr.mono (Nat.le_trans (by decide : 3 ≤ 3) (Nat.le_add_right _ _))) (se_v 1) (sa_cons se_bl sa_nil) (aLen_cons aLen_nil)) sa_nil)) (aLen_cons (aLen_cons aLen_nil))))))))
    (ss_one (ss_if (st_cmp (op_eqA hr.units) ab_eq (nomark _) (se_v 2) se_str)
    (ss_cons (ss_expr (se_call tk.c ((ok_check_length T).p T.h_check_length) (hr.mono (Nat.le_trans (by decide : 1 ≤ 3) (Nat.le_add_right _ _))) rfl (sa_cons (se_v 0) (sa_cons se_int sa_nil)) (aLen_cons (aLen_cons aLen_nil))))
    (ss_cons (ss_expr (se_callS tk.c ((ok_check_amount T).s T.h_check_amount) (hr.mono (Nat.le_trans (by decide : 2 ≤ 3) (Nat.le_add_right _ _))) rfl (sa_cons (se_ix (fun _ _ => rfl) (se_v 0) se_int) (sa_cons (se_v 1) sa_nil)) (aLen_cons (aLen_cons aLen_nil))))
    (ss_one (ss_ret (se_bin op_addA (ab_add false) (se_bin op_addA (ab_add false) se_int (se_callS tk.c (ih_check_body.s T.h_check_body) hr rfl (sa_cons (se_ix (fun _ _ => rfl) (se_v 0) se_int) (sa_cons (se_mth tk.c T.k_Frame T.x_Frame ((ok_Frame_within T).m T.h_Frame_within) (hr.mono (Nat.le_trans (by decide : 3 ≤ 3) (Nat.le_add_right _ _))) (se_v 1) (sa_cons se_bl sa_nil) (aLen_cons aLen_nil)) sa_nil)) (aLen_cons (aLen_cons aLen_nil)))) (se_callS tk.c (ih_check_body.s T.h_check_body) hr rfl (sa_cons (se_ix (fun _ _ => rfl) (se_v 0) se_int) (sa_cons (se_mth tk.c T.k_Frame T.x_Frame ((ok_Frame_within T).m T.h_Frame_within) (hr.mono (Nat.le_trans (by decide : 3 ≤ 3) (Nat.le_add_right _ _))) (se_v 1) (sa_cons se_bl sa_nil) (aLen_cons aLen_nil)) sa_nil)) (aLen_cons (aLen_cons aLen_nil))))))))
    (ss_one (ss_if (st_cmp (op_eqA hr.units) ab_eq (nomark _) (se_v 2) se_str)
    (ss_one (ss_expr (se_callS tk.c ((ok_check_do T).s T.h_check_do) (hr.mono (Nat.le_trans (by decide : 3 ≤ 3) (Nat.le_add_right _ _))) rfl (sa_cons (se_v 0) (sa_cons (se_v 1) sa_nil)) (aLen_cons (aLen_cons aLen_nil)))))
    (ss_one (ss_raise rfl tk T.e_NoProgram rfl)))))))))))))
    (ss_one (ss_ret se_int)))))
theorem st_check_body (T : Txt K mg) (R : Nat → SF) (n : Nat) (ih_check_statement : FnB P w K mg base (3 + n) "check_statement" "check_statement" s_check_statement ["thing", "frame"] (R 0)) (ih_check_body : FnB P w K mg base (3 + n) "check_body" "check_body" s_check_body ["thing", "frame"] (R 1)) : FnB P w K mg base (3 + n + 1) "check_body" "check_body" s_check_body ["thing", "frame"] (sfOf 4 (B_check_body R)) :=
  fn_shared (N := N_check_body) (k := 3 + n) (B := B_check_body R) sc_check_body fun f cdv A outer s H E hr tk po => by
    have nd := sc_check_body.nd
    exact (ss_cons (ss_if (st_not (st_truth (se_isi .tuple rfl T.b_isinstance rfl T.b_tuple bt_tuple (se_v 0))))
    (ss_one (ss_raise rfl tk T.e_NoProgram rfl))
    ss_nil)
    (ss_cons (ss_set 2 nd se_int)
    (ss_cons (ss_for po rfl (si_seq (se_v 0)) (sg_name 3 nd)
    (ss_one (ss_set 2 nd (se_bin op_addA (ab_add false) (se_v 2) (se_callS tk.c (ih_check_statement.s T.h_check_statement) hr rfl (sa_cons (se_v 3) (sa_cons (se_v 1) sa_nil)) (aLen_cons (aLen_cons aLen_nil)))))))
    (ss_one (ss_ret (se_v 2))))))
theorem okR_check_statement (T : Txt K mg) : ∀ n : Nat, FnB P w K mg base (3 + n) "check_statement" "check_statement" s_check_statement ["thing", "frame"] (Rec_check_statement n 0) ∧ FnB P w K mg base (3 + n) "check_body" "check_body" s_check_body ["thing", "frame"] (Rec_check_statement n 1)
  | 0 => ⟨FnB.stuck, FnB.stuck⟩
  | n + 1 => by
    obtain ⟨h0, h1⟩ := okR_check_statement T n
    exact ⟨st_check_statement T (Rec_check_statement n) n h0 h1, st_check_body T (Rec_check_statement n) n h0 h1⟩
theorem ok_check_statement (T : Txt K mg) : FnB P w K mg base 153 "check_statement" "check_statement" s_check_statement ["thing", "frame"] F_check_statement := (okR_check_statement T 150).1
theorem ok_check_body (T : Txt K mg) : FnB P w K mg base 153 "check_body" "check_body" s_check_body ["thing", "frame"] F_check_body := (okR_check_statement T 150).2
theorem ok_check_word (T : Txt K mg) : FnB P w K mg base 154 "check_word" "check_word" s_check_word ["thing", "known"] F_check_word :=
  fn_shared (N := N_check_word) (k := 153) (B := B_check_word) sc_check_word fun f cdv A outer s H E hr tk po => by
    have nd := sc_check_word.nd
    exact (ss_cons (ss_if (sw_st (sw_or (st_not (st_truth (se_isi .tuple rfl T.b_isinstance rfl T.b_tuple bt_tuple (se_v 0)))) (sw_or (st_cmp (op_neA hr.units) ab_ne (nomark _) (se_callB call_len ab_len rfl T.b_len bt_len (sa_cons (se_v 0) sa_nil)) se_int) (sw_or (st_not (st_truth (se_call tk.c ((ok_is_name T).p T.h_is_name) (hr.mono (by decide)) rfl (sa_cons (se_ix (fun _ _ => rfl) (se_v 0) se_int) sa_nil) (aLen_cons aLen_nil)))) (sw_or1 (st_cmp (op_inX (units65 hr)) (ab_in false) rfl (se_ix (fun _ _ => rfl) (se_v 0) se_int) (se_v 1)))))))
    (ss_one (ss_raise rfl tk T.e_NoProgram rfl))
    ss_nil)
    (ss_cons (ss_if (st_not (st_truth (se_call tk.c ((ok_is_int T).p T.h_is_int) (hr.mono (by decide)) rfl (sa_cons (se_ix (fun _ _ => rfl) (se_v 0) se_int) (sa_cons se_int (sa_cons (T.c_MOST_NUMBERS rfl rfl rfl) sa_nil))) (aLen_cons (aLen_cons (aLen_cons aLen_nil))))))
    (ss_one (ss_raise rfl tk T.e_NoProgram rfl))
    ss_nil)
    (ss_one (ss_ret (se_callS tk.c ((ok_check_body T).s T.h_check_body) (hr.mono (by decide)) rfl (sa_cons (se_ix (fun _ _ => rfl) (se_v 0) se_int) (sa_cons (se_make tk.c ((ok_Frame__init T).i T.i_Frame) (hr.mono (by decide)) rfl (sa_cons (se_ix (fun _ _ => rfl) (se_v 0) se_int) (sa_cons (se_v 1) (sa_cons se_int (sa_cons se_bl sa_nil)))) (aLen_cons (aLen_cons (aLen_cons (aLen_cons aLen_nil))))) sa_nil)) (aLen_cons (aLen_cons aLen_nil)))))))
theorem ok_size_checked (T : Txt K mg) : FnA P w K mg base 155 "size_checked" s_size_checked ["thing"] F_size_checked :=
  fn_priv (N := N_size_checked) (k := 154) (B := B_size_checked) sc_size_checked fun f cdv A outer s H E hr tk po => by
    have nd := sc_size_checked.nd
    exact (ss_cons (ss_if (sw_st (sw_or (st_not (st_truth (se_isi .tuple rfl T.b_isinstance rfl T.b_tuple bt_tuple (se_v 0)))) (sw_or (st_cmp (op_neA hr.units) ab_ne (nomark _) (se_callB call_len ab_len rfl T.b_len bt_len (sa_cons (se_v 0) sa_nil)) se_int) (sw_or1 (st_not (st_truth (se_isi .tuple rfl T.b_isinstance rfl T.b_tuple bt_tuple (se_ix (fun _ _ => rfl) (se_v 0) se_int))))))))
    (ss_one (ss_raise rfl tk T.e_NoProgram rfl))
    ss_nil)
    (ss_cons (ss_if (st_cmp op_gt (ab_cmp _) (nomark _) (se_callB call_len ab_len rfl T.b_len bt_len (sa_cons (se_ix (fun _ _ => rfl) (se_v 0) se_int) sa_nil)) (T.c_MOST_WORDS rfl rfl rfl))
    (ss_one (ss_raise rfl tk T.e_NoProgram rfl))
    ss_nil)
    (ss_cons (ss_set 1 nd se_dnew)
    (ss_cons (ss_set 2 nd se_int)
    (ss_cons (ss_for po rfl (si_seq (se_ix (fun _ _ => rfl) (se_v 0) se_int)) (sg_name 3 nd)
    (ss_cons (ss_set 2 nd (se_bin op_addA (ab_add false) (se_v 2) (se_callS tk.c ((ok_check_word T).s T.h_check_word) (hr.mono (by decide)) rfl (sa_cons (se_v 3) (sa_cons (se_v 1) sa_nil)) (aLen_cons (aLen_cons aLen_nil)))))
    (ss_one (ss_dput (hu_of hr) (se_ix (fun _ _ => rfl) (se_v 3) se_int) (se_v 1) (se_ix (fun _ _ => rfl) (se_v 3) se_int)))))
    (ss_cons (ss_set 2 nd (se_bin op_addA (ab_add false) (se_v 2) (se_callS tk.c ((ok_check_body T).s T.h_check_body) (hr.mono (by decide)) rfl (sa_cons (se_ix (fun _ _ => rfl) (se_v 0) se_int) (sa_cons (se_make tk.c ((ok_Frame__init T).i T.i_Frame) (hr.mono (by decide)) rfl (sa_cons se_int (sa_cons (se_v 1) (sa_cons se_int (sa_cons se_bl sa_nil)))) (aLen_cons (aLen_cons (aLen_cons (aLen_cons aLen_nil))))) sa_nil)) (aLen_cons (aLen_cons aLen_nil)))))
    (ss_cons (ss_if (st_cmp op_gt (ab_cmp _) (nomark _) (se_v 2) (T.c_MOST_SIZE rfl rfl rfl))
    (ss_one (ss_raise rfl tk T.e_NoProgram rfl))
    ss_nil)
    (ss_one (ss_ret (se_v 2))))))))))
theorem ok_size_of (T : Txt K mg) : FnA P w K mg base 156 "size_of" s_size_of ["program"] F_size_of :=
  fn_priv (N := N_size_of) (k := 155) (B := B_size_of) sc_size_of fun f cdv A outer s H E hr tk po => by
    have nd := sc_size_of.nd
    exact (ss_one (ss_ret (se_call tk.c ((ok_size_checked T).p T.h_size_checked) (hr.mono (by decide)) rfl (sa_cons (se_v 0) sa_nil) (aLen_cons aLen_nil))))
theorem ok_times_over (T : Txt K mg) : FnA P w K mg base 1 "times_over" s_times_over ["amount", "times"] F_times_over :=
  fn_priv (N := N_times_over) (k := 0) (B := B_times_over) sc_times_over fun f cdv A outer s H E hr tk po => by
    have nd := sc_times_over.nd
    exact (ss_cons (ss_if (st_truth (se_isi .tuple rfl T.b_isinstance rfl T.b_tuple bt_tuple (se_v 0)))
    (ss_one (ss_ret (se_tup (sa_cons (se_bin op_mulA ab_mul (se_ix (fun _ _ => rfl) (se_v 0) se_int) (se_v 1)) (sa_cons (se_ix (fun _ _ => rfl) (se_v 0) se_int) (sa_cons (se_bin op_mulA ab_mul (se_ix (fun _ _ => rfl) (se_v 0) se_int) (se_v 1)) sa_nil))))))
    ss_nil)
    (ss_one (ss_ret (se_bin op_mulA ab_mul (se_v 0) (se_v 1)))))
theorem st_with_amounts (T : Txt K mg) (R : Nat → SF) (n : Nat) (ih_with_amounts : FnB P w K mg base (1 + n) "with_amounts" "with_amounts" s_with_amounts ["body", "verb", "times"] (R 0)) : FnB P w K mg base (1 + n + 1) "with_amounts" "with_amounts" s_with_amounts ["body", "verb", "times"] (sfOf 6 (B_with_amounts R)) :=
  fn_shared (N := N_with_amounts) (k := 1 + n) (B := B_with_amounts R) sc_with_amounts fun f cdv A outer s H E hr tk po => by
    have nd := sc_with_amounts.nd
    exact (ss_cons (ss_set 3 nd (se_lst true sa_nil))
    (ss_cons (ss_for po rfl (si_seq (se_v 0)) (sg_name 4 nd)
    (ss_one (ss_if (st_cmp (op_eqA hr.units) ab_eq (nomark _) (se_ix (fun _ _ => rfl) (se_v 4) se_int) (se_v 1))
    (ss_one (ss_expr (se_ml PySem.F.slot_list_append PySem.F.type_list_append mt_append ab_app (se_v 3) (sa_cons (se_tup (sa_cons (se_v 1) (sa_cons (se_call tk.c ((ok_times_over T).p T.h_times_over) (hr.mono (Nat.le_trans (by decide : 1 ≤ 1) (Nat.le_add_right _ _))) rfl (sa_cons (se_ix (fun _ _ => rfl) (se_v 4) se_int) (sa_cons (se_v 2) sa_nil)) (aLen_cons (aLen_cons aLen_nil))) sa_nil))) sa_nil))))
    (ss_one (ss_if (st_cmp (op_eqA hr.units) ab_eq (nomark _) (se_ix (fun _ _ => rfl) (se_v 4) se_int) se_str)
    (ss_one (ss_expr (se_ml PySem.F.slot_list_append PySem.F.type_list_append mt_append ab_app (se_v 3) (sa_cons (se_tup (sa_cons se_str (sa_cons (se_ix (fun _ _ => rfl) (se_v 4) se_int) (sa_cons (se_call tk.c (ih_with_amounts.a.p T.h_with_amounts) hr rfl (sa_cons (se_ix (fun _ _ => rfl) (se_v 4) se_int) (sa_cons (se_v 1) (sa_cons (se_v 2) sa_nil))) (aLen_cons (aLen_cons (aLen_cons aLen_nil)))) sa_nil)))) sa_nil))))
    (ss_one (ss_if (st_cmp (op_eqA hr.units) ab_eq (nomark _) (se_ix (fun _ _ => rfl) (se_v 4) se_int) se_str)
    (ss_cons (ss_set 5 nd (se_call tk.c (ih_with_amounts.a.p T.h_with_amounts) hr rfl (sa_cons (se_ix (fun _ _ => rfl) (se_v 4) se_int) (sa_cons (se_v 1) (sa_cons (se_v 2) sa_nil))) (aLen_cons (aLen_cons (aLen_cons aLen_nil)))))
    (ss_one (ss_expr (se_ml PySem.F.slot_list_append PySem.F.type_list_append mt_append ab_app (se_v 3) (sa_cons (se_tup (sa_cons se_str (sa_cons (se_ix (fun _ _ => rfl) (se_v 4) se_int) (sa_cons (se_v 5) (sa_cons (se_call tk.c (ih_with_amounts.a.p T.h_with_amounts) hr rfl (sa_cons (se_ix (fun _ _ => rfl) (se_v 4) se_int) (sa_cons (se_v 1) (sa_cons (se_v 2) sa_nil))) (aLen_cons (aLen_cons (aLen_cons aLen_nil)))) sa_nil))))) sa_nil)))))
    (ss_one (ss_expr (se_ml PySem.F.slot_list_append PySem.F.type_list_append mt_append ab_app (se_v 3) (sa_cons (se_v 4) sa_nil)))))))))))
    (ss_one (ss_ret (se_callTy call_tuple_of ab_tuple rfl T.b_tuple bt_tuple (sa_cons (se_v 3) sa_nil))))))
theorem okR_with_amounts (T : Txt K mg) : ∀ n : Nat, FnB P w K mg base (1 + n) "with_amounts" "with_amounts" s_with_amounts ["body", "verb", "times"] (Rec_with_amounts n 0)
  | 0 => FnB.stuck
  | n + 1 => by
    have h0 := okR_with_amounts T n
    exact st_with_amounts T (Rec_with_amounts n) n h0
theorem ok_with_amounts (T : Txt K mg) : FnB P w K mg base 151 "with_amounts" "with_amounts" s_with_amounts ["body", "verb", "times"] F_with_amounts := (okR_with_amounts T 150)
theorem ok_all_amounts (T : Txt K mg) : FnA P w K mg base 152 "all_amounts" s_all_amounts ["program", "verb", "times"] F_all_amounts :=
  fn_priv (N := N_all_amounts) (k := 151) (B := B_all_amounts) sc_all_amounts fun f cdv A outer s H E hr tk po => by
    have nd := sc_all_amounts.nd
    exact (ss_cons (ss_asg (se_v 0) (sg_tup rfl (sgs_cons (sg_name 4 nd) (sgs_cons (sg_name 5 nd) sgs_nil))))
    (ss_cons (ss_setLc false 3 (sw_true rfl rfl rfl (by decide +kernel)) [("name", 6), ("many", 7), ("own", 8)] rfl nd rfl (by decide) (si_seq (se_v 4)) (blkOk_by (N := N_all_amounts) (sc := defScope s_all_amounts) (own := [("name", 6), ("many", 7), ("own", 8)]) (by decide +kernel)) (fun _ _ _ _ _ => (sg_tup rfl (sgs_cons (sg_name 6 nd) (sgs_cons (sg_name 7 nd) (sgs_cons (sg_name 8 nd) sgs_nil))))) (fun _ _ _ _ _ => sts_nil) (fun _ _ _ _ _ => (se_tup (sa_cons (se_v 6) (sa_cons (se_v 7) (sa_cons (se_call takes0.c ((ok_with_amounts T).a.p T.h_with_amounts) (hr.mono (by decide)) rfl (sa_cons (se_v 8) (sa_cons (se_v 1) (sa_cons (se_v 2) sa_nil))) (aLen_cons (aLen_cons (aLen_cons aLen_nil)))) sa_nil))))))
    (ss_one (ss_ret (se_tup (sa_cons (se_callTy call_tuple_of ab_tuple rfl T.b_tuple bt_tuple (sa_cons (se_v 3) sa_nil)) (sa_cons (se_call tk.c ((ok_with_amounts T).a.p T.h_with_amounts) (hr.mono (by decide)) rfl (sa_cons (se_v 5) (sa_cons (se_v 1) (sa_cons (se_v 2) sa_nil))) (aLen_cons (aLen_cons (aLen_cons aLen_nil)))) sa_nil)))))))
theorem st_farthest_go (T : Txt K mg) (R : Nat → SF) (n : Nat) (ih_farthest_go : FnB P w K mg base (0 + n) "farthest_go" "farthest_go" s_farthest_go ["body"] (R 0)) : FnB P w K mg base (0 + n + 1) "farthest_go" "farthest_go" s_farthest_go ["body"] (sfOf 3 (B_farthest_go R)) :=
  fn_shared (N := N_farthest_go) (k := 0 + n) (B := B_farthest_go R) sc_farthest_go fun f cdv A outer s H E hr tk po => by
    have nd := sc_farthest_go.nd
    exact (ss_cons (ss_set 1 nd se_int)
    (ss_cons (ss_for po rfl (si_seq (se_v 0)) (sg_name 2 nd)
    (ss_one (ss_if (sw_st (sw_and (st_cmp (op_eqA hr.units) ab_eq (nomark _) (se_ix (fun _ _ => rfl) (se_v 2) se_int) se_str) (sw_and1 (st_truth (se_isi .tuple rfl T.b_isinstance rfl T.b_tuple bt_tuple (se_ix (fun _ _ => rfl) (se_v 2) se_int))))))
    (ss_one (ss_set 1 nd (se_callB (call_max3Nu rfl) ab_max3 rfl T.b_max bt_max (sa_cons (se_v 1) (sa_cons (se_callB call_abs (ab_i1 _) rfl T.b_abs bt_abs (sa_cons (se_ix (fun _ _ => rfl) (se_ix (fun _ _ => rfl) (se_v 2) se_int) se_int) sa_nil)) (sa_cons (se_callB call_abs (ab_i1 _) rfl T.b_abs bt_abs (sa_cons (se_ix (fun _ _ => rfl) (se_ix (fun _ _ => rfl) (se_v 2) se_int) se_int) sa_nil)) sa_nil))))))
    (ss_one (ss_if (st_cmp (op_eqA hr.units) ab_eq (nomark _) (se_ix (fun _ _ => rfl) (se_v 2) se_int) se_str)
    (ss_one (ss_set 1 nd (se_callB (call_max2 rfl) (ab_i2 _) rfl T.b_max bt_max (sa_cons (se_v 1) (sa_cons (se_callB call_abs (ab_i1 _) rfl T.b_abs bt_abs (sa_cons (se_ix (fun _ _ => rfl) (se_v 2) se_int) sa_nil)) sa_nil)))))
    (ss_one (ss_if (st_cmp (op_eqA hr.units) ab_eq (nomark _) (se_ix (fun _ _ => rfl) (se_v 2) se_int) se_str)
    (ss_one (ss_set 1 nd (se_callB (call_max2 rfl) (ab_i2 _) rfl T.b_max bt_max (sa_cons (se_v 1) (sa_cons (se_call tk.c (ih_farthest_go.a.p T.h_farthest_go) hr rfl (sa_cons (se_ix (fun _ _ => rfl) (se_v 2) se_int) sa_nil) (aLen_cons aLen_nil)) sa_nil)))))
    (ss_one (ss_if (st_cmp (op_eqA hr.units) ab_eq (nomark _) (se_ix (fun _ _ => rfl) (se_v 2) se_int) se_str)
    (ss_one (ss_set 1 nd (se_callB (call_max3Nu rfl) ab_max3 rfl T.b_max bt_max (sa_cons (se_v 1) (sa_cons (se_call tk.c (ih_farthest_go.a.p T.h_farthest_go) hr rfl (sa_cons (se_ix (fun _ _ => rfl) (se_v 2) se_int) sa_nil) (aLen_cons aLen_nil)) (sa_cons (se_call tk.c (ih_farthest_go.a.p T.h_farthest_go) hr rfl (sa_cons (se_ix (fun _ _ => rfl) (se_v 2) se_int) sa_nil) (aLen_cons aLen_nil)) sa_nil))))))
    ss_nil)))))))))
    (ss_one (ss_ret (se_v 1)))))
theorem okR_farthest_go (T : Txt K mg) : ∀ n : Nat, FnB P w K mg base (0 + n) "farthest_go" "farthest_go" s_farthest_go ["body"] (Rec_farthest_go n 0)
  | 0 => FnB.stuck
  | n + 1 => by
    have h0 := okR_farthest_go T n
    exact st_farthest_go T (Rec_farthest_go n) n h0
theorem ok_farthest_go (T : Txt K mg) : FnB P w K mg base 150 "farthest_go" "farthest_go" s_farthest_go ["body"] F_farthest_go := (okR_farthest_go T 150)
theorem ok_larger (T : Txt K mg) : FnA P w K mg base 153 "larger" s_larger ["program", "factor"] F_larger :=
  fn_priv (N := N_larger) (k := 152) (B := B_larger) sc_larger fun f cdv A outer s H E hr tk po => by
    have nd := sc_larger.nd
    exact (ss_cons (ss_asg (se_v 0) (sg_tup rfl (sgs_cons (sg_name 4 nd) (sgs_cons (sg_name 5 nd) sgs_nil))))
    (ss_cons (ss_set 2 nd (se_call tk.c ((ok_all_amounts T).p T.h_all_amounts) (hr.mono (by decide)) rfl (sa_cons (se_v 0) (sa_cons se_str (sa_cons (se_v 1) sa_nil))) (aLen_cons (aLen_cons (aLen_cons aLen_nil)))))
    (ss_cons (ss_for po rfl (si_seq (se_bin op_addA (ab_add false) (se_lc false [("name", 6), ("many", 7), ("own", 8)] rfl nd rfl (by decide) (si_seq (se_ix (fun _ _ => rfl) (se_v 2) se_int)) (blkOk_by (N := N_larger) (sc := defScope s_larger) (own := [("name", 6), ("many", 7), ("own", 8)]) (by decide +kernel)) (fun _ _ _ _ _ => (sg_tup rfl (sgs_cons (sg_name 6 nd) (sgs_cons (sg_name 7 nd) (sgs_cons (sg_name 8 nd) sgs_nil))))) (fun _ _ _ _ _ => sts_nil) (fun _ _ _ _ _ => (se_v 8))) (se_lst false (sa_cons (se_ix (fun _ _ => rfl) (se_v 2) se_int) sa_nil)))) (sg_name 3 nd)
    (ss_one (ss_if (st_cmp op_gt (ab_cmp _) (nomark _) (se_call tk.c ((ok_farthest_go T).a.p T.h_farthest_go) (hr.mono (by decide)) rfl (sa_cons (se_v 3) sa_nil) (aLen_cons aLen_nil)) (T.c_FARTHEST rfl rfl rfl))
    (ss_one (ss_raise rfl tk T.e_TooGreat rfl))
    ss_nil)))
    (ss_one (ss_ret (se_v 2))))))
theorem ok_turned (T : Txt K mg) : FnA P w K mg base 157 "turned" s_turned ["program", "eighths"] F_turned :=
  fn_priv (N := N_turned) (k := 156) (B := B_turned) sc_turned fun f cdv A outer s H E hr tk po => by
    have nd := sc_turned.nd
    exact (ss_cons (ss_asg (se_v 0) (sg_tup rfl (sgs_cons (sg_name 2 nd) (sgs_cons (sg_name 3 nd) sgs_nil))))
    (ss_cons (ss_if (st_cmp op_ge (ab_cmp _) (nomark _) (se_call tk.c ((ok_size_of T).p T.h_size_of) (hr.mono (by decide)) rfl (sa_cons (se_v 0) sa_nil) (aLen_cons aLen_nil)) (T.c_GREATEST rfl rfl rfl))
    (ss_one (ss_raise rfl tk T.e_TooLong rfl))
    ss_nil)
    (ss_one (ss_ret (se_tup (sa_cons (se_v 2) (sa_cons (se_bin op_addA (ab_add false) (se_tup (sa_cons (se_tup (sa_cons se_str (sa_cons (se_v 1) sa_nil))) sa_nil)) (se_v 3)) sa_nil)))))))
theorem ok_in_rounds (T : Txt K mg) : FnB P w K mg base 1 "in_rounds" "in_rounds" s_in_rounds ["body", "start", "end", "known"] F_in_rounds :=
  fn_shared (N := N_in_rounds) (k := 0) (B := B_in_rounds) sc_in_rounds fun f cdv A outer s H E hr tk po => by
    have nd := sc_in_rounds.nd
    exact (ss_cons (ss_set 4 nd se_non)
    (ss_cons (ss_set 5 nd (se_bin op_sub ab_sub (se_v 2) (se_v 1)))
    (ss_cons (ss_for po rfl (si_range2 rfl T.b_range (sa_cons se_int (sa_cons (se_bin op_addA (ab_add false) (se_bin op_fdivA ab_fdiv (se_v 5) se_int) se_int) sa_nil))) (sg_name 6 nd)
    (ss_one (ss_if (sw_st (sw_and (st_cmp (op_eqA hr.units) ab_eq (nomark _) (se_bin op_mod ab_mod (se_v 5) (se_v 6)) se_int) (sw_and1 (st_cmp (op_eqA hr.units) ab_eq (nomark _) (se_bin op_mulY ab_mulY (se_sl false (se_v 0) (so_so (se_v 1)) (so_so (se_bin op_addA (ab_add false) (se_v 1) (se_v 6)))) (se_bin op_fdivA ab_fdiv (se_v 5) (se_v 6))) (se_sl false (se_v 0) (so_so (se_v 1)) (so_so (se_v 2)))))))
    (ss_cons (ss_asg (se_nget hr.units (se_v 3) (se_tup (sa_cons (se_v 1) (sa_cons (se_bin op_addA (ab_add false) (se_v 1) (se_v 6)) sa_nil)))) (sg_tup rfl (sgs_cons (sg_name 7 nd) (sgs_cons (sg_name 8 nd) sgs_nil))))
    (ss_one (ss_if (sw_st (sw_or (st_cmp op_isX (ab_is false) (nomark _) (se_v 4) se_non) (sw_or1 (st_cmp op_lt (ab_cmp _) (nomark _) (se_bin op_addA (ab_add false) (se_v 7) se_int) (se_ix (fun _ _ => rfl) (se_v 4) se_int)))))
    (ss_one (ss_set 4 nd (se_tup (sa_cons (se_bin op_addA (ab_add false) (se_v 7) se_int) (sa_cons (se_tup (sa_cons (se_tup (sa_cons se_str (sa_cons (se_bin op_fdivA ab_fdiv (se_v 5) (se_v 6)) (sa_cons (se_v 8) sa_nil)))) sa_nil)) sa_nil)))))
    ss_nil)))
    ss_nil)))
    (ss_one (ss_ret (se_v 4))))))
theorem ok_in_parts (T : Txt K mg) : FnB P w K mg base 1 "in_parts" "in_parts" s_in_parts ["start", "end", "known"] F_in_parts :=
  fn_shared (N := N_in_parts) (k := 0) (B := B_in_parts) sc_in_parts fun f cdv A outer s H E hr tk po => by
    have nd := sc_in_parts.nd
    exact (ss_cons (ss_set 3 nd se_non)
    (ss_cons (ss_for po rfl (si_range2 rfl T.b_range (sa_cons (se_bin op_addA (ab_add false) (se_v 0) se_int) (sa_cons (se_v 1) sa_nil))) (sg_name 4 nd)
    (ss_cons (ss_set 5 nd (se_bin op_addA (ab_add false) (se_ix (fun _ _ => rfl) (se_nget hr.units (se_v 2) (se_tup (sa_cons (se_v 0) (sa_cons (se_v 4) sa_nil)))) se_int) (se_ix (fun _ _ => rfl) (se_nget hr.units (se_v 2) (se_tup (sa_cons (se_v 4) (sa_cons (se_v 1) sa_nil)))) se_int)))
    (ss_one (ss_if (sw_st (sw_or (st_cmp op_isX (ab_is false) (nomark _) (se_v 3) se_non) (sw_or1 (st_cmp op_lt (ab_cmp _) (nomark _) (se_v 5) (se_ix (fun _ _ => rfl) (se_v 3) se_int)))))
    (ss_one (ss_set 3 nd (se_tup (sa_cons (se_v 5) (sa_cons (se_bin op_addA (ab_add false) (se_ix (fun _ _ => rfl) (se_nget hr.units (se_v 2) (se_tup (sa_cons (se_v 0) (sa_cons (se_v 4) sa_nil)))) se_int) (se_ix (fun _ _ => rfl) (se_nget hr.units (se_v 2) (se_tup (sa_cons (se_v 4) (sa_cons (se_v 1) sa_nil)))) se_int)) sa_nil)))))
    ss_nil))))
    (ss_one (ss_ret (se_v 3)))))
theorem ok_shorter (T : Txt K mg) : FnA P w K mg base 2 "shorter" s_shorter ["program"] F_shorter :=
  fn_priv (N := N_shorter) (k := 1) (B := B_shorter) sc_shorter fun f cdv A outer s H E hr tk po => by
    have nd := sc_shorter.nd
    exact (ss_cons (ss_set 1 nd (se_ix (fun _ _ => rfl) (se_v 0) se_int))
    (ss_cons (ss_if (st_cmp op_gt (ab_cmp _) (nomark _) (se_callB call_len ab_len rfl T.b_len bt_len (sa_cons (se_v 1) sa_nil)) (T.c_LONGEST rfl rfl rfl))
    (ss_one (ss_raise rfl tk T.e_TooLong rfl))
    ss_nil)
    (ss_cons (ss_if (st_cmp (op_eqA hr.units) ab_eq (nomark _) (se_callB call_len ab_len rfl T.b_len bt_len (sa_cons (se_v 1) sa_nil)) se_int)
    (ss_one (ss_ret (se_tup (sa_cons (se_tup sa_nil) (sa_cons (se_tup sa_nil) sa_nil)))))
    ss_nil)
    (ss_cons (ss_set 2 nd se_nnew)
    (ss_cons (ss_for po rfl (si_range2 rfl T.b_range (sa_cons se_int (sa_cons (se_bin op_addA (ab_add false) (se_callB call_len ab_len rfl T.b_len bt_len (sa_cons (se_v 1) sa_nil)) se_int) sa_nil))) (sg_name 3 nd)
    (ss_one (ss_for po rfl (si_range1 rfl T.b_range (sa_cons (se_bin op_addA (ab_add false) (se_bin op_sub ab_sub (se_callB call_len ab_len rfl T.b_len bt_len (sa_cons (se_v 1) sa_nil)) (se_v 3)) se_int) sa_nil)) (sg_name 4 nd)
    (ss_cons (ss_set 5 nd (se_tup (sa_cons se_int (sa_cons (se_tup (sa_cons (se_ix (fun _ _ => rfl) (se_v 1) (se_v 4)) sa_nil)) sa_nil))))
    (ss_cons (ss_if (st_cmp op_gt (ab_cmp _) (nomark _) (se_v 3) se_int)
    (ss_cons (ss_set 5 nd (se_callS tk.c ((ok_in_parts T).s T.h_in_parts) (hr.mono (by decide)) rfl (sa_cons (se_v 4) (sa_cons (se_bin op_addA (ab_add false) (se_v 4) (se_v 3)) (sa_cons (se_v 2) sa_nil))) (aLen_cons (aLen_cons (aLen_cons aLen_nil)))))
    (ss_cons (ss_set 6 nd (se_callS tk.c ((ok_in_rounds T).s T.h_in_rounds) (hr.mono (by decide)) rfl (sa_cons (se_v 1) (sa_cons (se_v 4) (sa_cons (se_bin op_addA (ab_add false) (se_v 4) (se_v 3)) (sa_cons (se_v 2) sa_nil)))) (aLen_cons (aLen_cons (aLen_cons (aLen_cons aLen_nil))))))
    (ss_one (ss_if (sw_st (sw_and (st_cmp op_isNotX (ab_is true) (nomark _) (se_v 6) se_non) (sw_and1 (st_cmp op_lt (ab_cmp _) (nomark _) (se_ix (fun _ _ => rfl) (se_v 6) se_int) (se_ix (fun _ _ => rfl) (se_v 5) se_int)))))
    (ss_one (ss_set 5 nd (se_v 6)))
    ss_nil))))
    ss_nil)
    (ss_one (ss_nput hr.units (se_v 5) (se_v 2) (se_tup (sa_cons (se_v 4) (sa_cons (se_bin op_addA (ab_add false) (se_v 4) (se_v 3)) sa_nil))))))))))
    (ss_one (ss_ret (se_tup (sa_cons (se_tup sa_nil) (sa_cons (se_ix (fun _ _ => rfl) (se_nget hr.units (se_v 2) (se_tup (sa_cons se_int (sa_cons (se_callB call_len ab_len rfl T.b_len bt_len (sa_cons (se_v 1) sa_nil)) sa_nil)))) se_int) sa_nil))))))))))
theorem ok_law_mixed (T : Txt K mg) : FnA P w K mg base 1 "_law_mixed" s_law_mixed ["_law_cell_here", "_law_k"] F_law_mixed :=
  fn_priv (N := N_law_mixed) (k := 0) (B := B_law_mixed) sc_law_mixed fun f cdv A outer s H E hr tk po => by
    have nd := sc_law_mixed.nd
    exact (ss_cons (ss_set 2 nd (se_bin op_mod ab_mod (se_bin op_addA (ab_add false) (se_bin op_addA (ab_add false) (se_v 0) (se_bin op_mulA ab_mul (se_bin op_mulA ab_mul (se_v 1) (se_v 1)) se_int)) se_int) se_int))
    (ss_cons (ss_set 2 nd (se_bin op_mod ab_mod (se_bin op_mulA ab_mul (se_v 2) (se_v 2)) se_int))
    (ss_cons (ss_set 2 nd (se_bin op_mod ab_mod (se_bin op_mulA ab_mul (se_bin op_addA (ab_add false) (se_bin op_addA (ab_add false) (se_v 2) (se_bin op_mulA ab_mul (se_v 1) se_int)) se_int) se_int) se_int))
    (ss_one (ss_ret (se_bin op_fdivA ab_fdiv (se_bin op_mod ab_mod (se_bin op_mulA ab_mul (se_v 2) (se_v 2)) se_int) se_int))))))
theorem ok_law_row (T : Txt K mg) : FnA P w K mg base 2 "_law_row" s_law_row ["_law_cell_here", "_law_most", "_law_many_here"] F_law_row :=
  fn_priv (N := N_law_row) (k := 1) (B := B_law_row) sc_law_row fun f cdv A outer s H E hr tk po => by
    have nd := sc_law_row.nd
    exact (ss_cons (ss_set 3 nd (se_lst true sa_nil))
    (ss_cons (ss_set 4 nd (se_v 0))
    (ss_cons (ss_for po rfl (si_range1 rfl T.b_range (sa_cons (se_v 2) sa_nil)) (sg_name 5 nd)
    (ss_cons (ss_expr (se_ml PySem.F.slot_list_append PySem.F.type_list_append mt_append ab_app (se_v 3) (sa_cons (se_bin op_mod ab_mod (se_v 4) (se_v 1)) sa_nil)))
    (ss_one (ss_set 4 nd (se_bin op_fdivA ab_fdiv (se_v 4) (se_v 1))))))
    (ss_cons (ss_if (st_cmp op_gt (ab_cmp _) (nomark _) (se_v 4) se_int)
    (ss_one (ss_ret (se_fz (se_v 3))))
    ss_nil)
    (ss_one (ss_ret (se_lc false [("_law_k", 5)] rfl nd rfl (by decide) (si_range1 rfl T.b_range (sa_cons (se_v 2) sa_nil)) (blkOk_by (N := N_law_row) (sc := defScope s_law_row) (own := [("_law_k", 5)]) (by decide +kernel)) (fun _ _ _ _ _ => (sg_name 5 nd)) (fun _ _ _ _ _ => sts_nil) (fun _ _ _ _ _ => (se_bin op_mod ab_mod (se_call takes0.c ((ok_law_mixed T).p T.h_law_mixed) (hr.mono (by decide)) rfl (sa_cons (se_v 0) (sa_cons (se_v 5) sa_nil)) (aLen_cons (aLen_cons aLen_nil))) (se_v 1))))))))))
theorem ok_law_cell (T : Txt K mg) : FnA P w K mg base 1 "_law_cell" s_law_cell ["_law_script", "_law_k"] F_law_cell :=
  fn_priv (N := N_law_cell) (k := 0) (B := B_law_cell) sc_law_cell fun f cdv A outer s H E hr tk po => by
    have nd := sc_law_cell.nd
    exact (ss_cons (ss_if (st_cmp op_lt (ab_cmp _) (nomark _) (se_v 1) (se_callB call_len ab_len rfl T.b_len bt_len (sa_cons (se_v 0) sa_nil)))
    (ss_one (ss_ret (se_ix (fun _ _ => rfl) (se_v 0) (se_v 1))))
    ss_nil)
    (ss_cons (ss_set 2 nd (se_bin op_addA (ab_add false) (se_bin op_mulA ab_mul (se_bin op_mulA ab_mul (se_v 1) (se_v 1)) se_int) se_int))
    (ss_cons (ss_if (st_cmp op_gt (ab_cmp _) (nomark _) (se_callB call_len ab_len rfl T.b_len bt_len (sa_cons (se_v 0) sa_nil)) se_int)
    (ss_one (ss_set 2 nd (se_bin op_addA (ab_add false) (se_v 2) (se_bin op_mulA ab_mul (se_bin op_mod ab_mod (se_ix (fun _ _ => rfl) (se_v 0) (se_bin op_mod ab_mod (se_bin op_mulA ab_mul (se_v 1) se_int) (se_callB call_len ab_len rfl T.b_len bt_len (sa_cons (se_v 0) sa_nil)))) (se_bin op_pow ab_pow se_int se_int)) (se_bin op_addA (ab_add false) se_int (se_v 1))))))
    ss_nil)
    (ss_one (ss_ret (se_bin op_mod ab_mod (se_bin op_mulA ab_mul (se_v 2) (se_v 2)) se_int))))))
theorem ok_law_asked (T : Txt K mg) : FnA P w K mg base 158 "_law_asked" s_law_asked ["_law_way", "_law_program", "_law_number"] F_law_asked :=
  fn_priv (N := N_law_asked) (k := 157) (B := B_law_asked) sc_law_asked fun f cdv A outer s H E hr tk po => by
    have nd := sc_law_asked.nd
    exact (ss_cons (ss_if (st_cmp (op_eqA hr.units) ab_eq (nomark _) (se_v 0) se_int)
    (ss_one (ss_ret (se_call tk.c ((ok_larger T).p T.h_larger) (hr.mono (by decide)) rfl (sa_cons (se_v 1) (sa_cons (se_v 2) sa_nil)) (aLen_cons (aLen_cons aLen_nil)))))
    ss_nil)
    (ss_cons (ss_if (st_cmp (op_eqA hr.units) ab_eq (nomark _) (se_v 0) se_int)
    (ss_one (ss_ret (se_call tk.c ((ok_turned T).p T.h_turned) (hr.mono (by decide)) rfl (sa_cons (se_v 1) (sa_cons (se_v 2) sa_nil)) (aLen_cons (aLen_cons aLen_nil)))))
    ss_nil)
    (ss_one (ss_ret (se_call tk.c ((ok_shorter T).p T.h_shorter) (hr.mono (by decide)) rfl (sa_cons (se_v 1) sa_nil) (aLen_cons aLen_nil))))))
theorem ok_law_refused (T : Txt K mg) : FnA P w K mg base 159 "_law_refused" s_law_refused ["_law_way", "_law_program", "_law_number"] F_law_refused :=
  fn_priv (N := N_law_refused) (k := 158) (B := B_law_refused) sc_law_refused fun f cdv A outer s H E hr tk po => by
    have nd := sc_law_refused.nd
    exact (ss_cons (ss_set 3 nd se_int)
    (ss_cons (ss_set 4 nd se_non)
    (ss_cons (ss_try rfl rfl tk T.mt (fun _ _ _ tk2 po2 => (ss_one (ss_expr (se_call tk2.c ((ok_law_asked T).p T.h_law_asked) (hr.mono (by decide)) rfl (sa_cons (se_v 0) (sa_cons (se_v 1) (sa_cons (se_v 2) sa_nil))) (aLen_cons (aLen_cons (aLen_cons aLen_nil))))))) (.cons rfl (by decide) T.x_TooGreat (fun _ _ => (ss_one (ss_set 3 nd se_int))) (.cons rfl (by decide) T.x_TooLong (fun _ _ => (ss_one (ss_set 3 nd se_int))) .nil)))
    (ss_cons (ss_tryAs 5 rfl rfl nd tk T.mt T.ei rfl T.x_HouseError (fun _ _ _ tk2 po2 => (ss_one (ss_expr (se_call tk2.c ((ok_law_asked T).p T.h_law_asked) (hr.mono (by decide)) rfl (sa_cons (se_v 0) (sa_cons (se_v 1) (sa_cons (se_v 2) sa_nil))) (aLen_cons (aLen_cons (aLen_cons aLen_nil))))))) (fun a c oe pn xa => (ss_cons (ss_set 4 nd (se_lst true (sa_cons (se_isE (i := 5) xa T.ki rfl T.b_isinstance rfl T.cn_TooGreat) (sa_cons (se_isE (i := 5) xa T.ki rfl T.b_isinstance rfl T.cn_TooLong) (sa_cons (se_isE (i := 5) xa T.ki rfl T.b_isinstance rfl T.cn_ValueError) sa_nil)))))
    (ss_one (ss_expr (se_ml PySem.F.slot_list_append PySem.F.type_list_append mt_append ab_app (se_v 4) (sa_cons (se_or (se_isET (i := 5) xa T.ki rfl T.b_isinstance (cns_cons T.cn_NoMark (cns_cons T.cn_NoProgram cns_nil))) (se_one (se_isET (i := 5) xa T.ki rfl T.b_isinstance (cns_cons T.cn_NoText (cns_cons T.cn_NotWhole cns_nil))))) sa_nil)))))))
    (ss_cons (ss_if (st_cmp (op_neA hr.units) ab_ne (nomark _) (se_v 4) (se_lst false (sa_cons (se_cmp (op_eqA hr.units) ab_eq (nomark _) (se_v 3) se_int) (sa_cons (se_cmp (op_eqA hr.units) ab_eq (nomark _) (se_v 3) se_int) (sa_cons se_bl (sa_cons se_bl sa_nil))))))
    (ss_one (ss_ret se_int))
    ss_nil)
    (ss_one (ss_ret (se_v 3))))))))
theorem ok_law_go (T : Txt K mg) : FnA P w K mg base 1 "_law_go" s_law_go ["_law_cell_here", "_law_far"] F_law_go :=
  fn_priv (N := N_law_go) (k := 0) (B := B_law_go) sc_law_go fun f cdv A outer s H E hr tk po => by
    have nd := sc_law_go.nd
    exact (ss_cons (ss_set 2 nd (se_lst false (sa_cons (se_v 1) (sa_cons (se_tup (sa_cons (se_v 1) (sa_cons se_str (sa_cons se_int sa_nil)))) (sa_cons (se_tup (sa_cons se_int (sa_cons se_str (sa_cons (se_v 1) sa_nil)))) (sa_cons (se_v 1) (sa_cons (se_tup (sa_cons (se_v 1) (sa_cons se_str (sa_cons se_int sa_nil)))) (sa_cons (se_tup (sa_cons se_int (sa_cons se_str (sa_cons (se_v 1) sa_nil)))) sa_nil))))))))
    (ss_one (ss_ret (se_tup (sa_cons se_str (sa_cons (se_ix (fun _ _ => rfl) (se_v 2) (se_v 0)) sa_nil))))))
theorem ok_law_put_in (T : Txt K mg) : FnA P w K mg base 1 "_law_put_in" s_law_put_in ["_law_cell_here", "_law_go_here"] F_law_put_in :=
  fn_priv (N := N_law_put_in) (k := 0) (B := B_law_put_in) sc_law_put_in fun f cdv A outer s H E hr tk po => by
    have nd := sc_law_put_in.nd
    exact (ss_cons (ss_set 2 nd (se_tup (sa_cons (se_tup (sa_cons se_str (sa_cons se_int sa_nil))) (sa_cons (se_v 1) (sa_cons (se_tup (sa_cons se_str (sa_cons se_int sa_nil))) sa_nil)))))
    (ss_cons (ss_if (st_not (st_truth (se_isi .tuple rfl T.b_isinstance rfl T.b_tuple bt_tuple (se_ix (fun _ _ => rfl) (se_v 1) se_int))))
    (ss_cons (ss_set 3 nd (se_lst true (sa_cons (se_v 2) (sa_cons (se_tup (sa_cons (se_tup (sa_cons se_str (sa_cons se_int (sa_cons (se_v 2) sa_nil)))) sa_nil)) (sa_cons (se_tup (sa_cons (se_tup (sa_cons se_str (sa_cons se_int (sa_cons (se_v 2) (sa_cons (se_tup sa_nil) sa_nil))))) sa_nil)) (sa_cons (se_tup (sa_cons (se_tup (sa_cons se_str (sa_cons se_int (sa_cons (se_tup sa_nil) (sa_cons (se_v 2) sa_nil))))) sa_nil)) sa_nil))))))
    (ss_cons (ss_expr (se_ml PySem.F.slot_list_append PySem.F.type_list_append mt_append ab_app (se_v 3) (sa_cons (se_tup (sa_cons (se_tup (sa_cons se_str (sa_cons se_int (sa_cons (se_tup (sa_cons (se_tup (sa_cons se_str (sa_cons se_int (sa_cons (se_tup (sa_cons (se_tup (sa_cons se_str sa_nil)) sa_nil)) (sa_cons (se_v 2) sa_nil))))) sa_nil)) sa_nil)))) sa_nil)) sa_nil)))
    (ss_one (ss_ret (se_fz (se_tup (sa_cons (se_tup sa_nil) (sa_cons (se_ix (fun _ _ => rfl) (se_v 3) (se_bin op_mod ab_mod (se_v 0) se_int)) sa_nil))))))))
    ss_nil)
    (ss_cons (ss_if (st_cmp (op_eqA hr.units) ab_eq (nomark _) (se_ix (fun _ _ => rfl) (se_ix (fun _ _ => rfl) (se_v 1) se_int) se_int) se_str)
    (ss_one (ss_ret (se_tup (sa_cons (se_tup sa_nil) (sa_cons (se_ix (fun _ _ => rfl) (se_lst false (sa_cons (se_tup (sa_cons (se_tup (sa_cons se_str (sa_cons se_int (sa_cons (se_v 2) sa_nil)))) sa_nil)) (sa_cons (se_tup (sa_cons (se_tup (sa_cons se_str (sa_cons se_int (sa_cons (se_tup (sa_cons (se_tup (sa_cons se_str (sa_cons se_int (sa_cons (se_tup sa_nil) (sa_cons (se_v 2) sa_nil))))) sa_nil)) sa_nil)))) sa_nil)) sa_nil))) (se_bin op_mod ab_mod (se_v 0) se_int)) sa_nil)))))
    ss_nil)
    (ss_one (ss_ret (se_tup (sa_cons (se_tup (sa_cons (se_tup (sa_cons se_str (sa_cons se_int (sa_cons (se_v 2) sa_nil)))) (sa_cons (se_tup (sa_cons se_str (sa_cons se_int (sa_cons (se_tup sa_nil) sa_nil)))) sa_nil))) (sa_cons (se_tup (sa_cons (se_tup (sa_cons se_str (sa_cons se_str (sa_cons (se_tup sa_nil) sa_nil)))) sa_nil)) sa_nil))))))))
theorem ok_law_many (T : Txt K mg) : FnA P w K mg base 1 "_law_many" s_law_many ["_law_cell_here", "_law_size"] F_law_many :=
  fn_priv (N := N_law_many) (k := 0) (B := B_law_many) sc_law_many fun f cdv A outer s H E hr tk po => by
    have nd := sc_law_many.nd
    exact (ss_cons (ss_set 2 nd (se_tup (sa_cons se_str (sa_cons (se_bin op_mod ab_mod (se_bin op_fdivA ab_fdiv (se_v 0) se_int) se_int) sa_nil))))
    (ss_cons (ss_if (st_cmp (op_eqA hr.units) ab_eq (nomark _) (se_bin op_mod ab_mod (se_v 0) se_int) se_int)
    (ss_one (ss_ret (se_tup (sa_cons (se_tup sa_nil) (sa_cons (se_bin op_mulY ab_mulY (se_tup (sa_cons (se_v 2) sa_nil)) (se_v 1)) sa_nil)))))
    ss_nil)
    (ss_cons (ss_if (st_cmp (op_eqA hr.units) ab_eq (nomark _) (se_bin op_mod ab_mod (se_v 0) se_int) se_int)
    (ss_one (ss_ret (se_tup (sa_cons (se_tup sa_nil) (sa_cons (se_tup (sa_cons (se_tup (sa_cons se_str (sa_cons se_int (sa_cons (se_bin op_mulY ab_mulY (se_tup (sa_cons (se_v 2) sa_nil)) (se_bin op_sub ab_sub (se_v 1) se_int)) sa_nil)))) sa_nil)) sa_nil)))))
    ss_nil)
    (ss_one (ss_ret (se_tup (sa_cons (se_tup (sa_cons (se_tup (sa_cons se_str (sa_cons se_int (sa_cons (se_bin op_mulY ab_mulY (se_tup (sa_cons (se_v 2) sa_nil)) (se_bin op_sub ab_sub (se_v 1) se_int)) sa_nil)))) sa_nil)) (sa_cons (se_tup (sa_cons (se_tup (sa_cons se_str sa_nil)) (sa_cons (se_tup (sa_cons se_str sa_nil)) sa_nil))) sa_nil))))))))
theorem ok_law (T : Txt K mg) : FnA P w K mg base 160 "law" s_law ["_law_script"] F_law :=
  fn_priv (N := N_law) (k := 159) (B := B_law) sc_law fun f cdv A outer s H E hr tk po => by
    have nd := sc_law.nd
    exact (ss_cons (ss_set 1 nd (se_call tk.c ((ok_law_row T).p T.h_law_row) (hr.mono (by decide)) rfl (sa_cons (se_call tk.c ((ok_law_cell T).p T.h_law_cell) (hr.mono (by decide)) rfl (sa_cons (se_v 0) (sa_cons se_int sa_nil)) (aLen_cons (aLen_cons aLen_nil))) (sa_cons se_int (sa_cons se_int sa_nil))) (aLen_cons (aLen_cons (aLen_cons aLen_nil)))))
    (ss_cons (ss_set 2 nd (se_bin op_addA (ab_add false) se_int (se_bin op_mod ab_mod (se_ix (fun _ _ => rfl) (se_v 1) se_int) se_int)))
    (ss_cons (ss_set 3 nd (se_bin op_mulY ab_mulY (se_bin op_fdivA ab_fdiv se_int (se_v 2)) (se_ix (fun _ _ => rfl) (se_lst false (sa_cons se_int (sa_cons (se_neg se_int) sa_nil))) (se_bin op_mod ab_mod (se_ix (fun _ _ => rfl) (se_v 1) se_int) se_int))))
    (ss_cons (ss_for po rfl (si_seq (se_lst false (sa_cons (se_v 3) (sa_cons (se_bin op_addA (ab_add false) (se_v 3) (se_ix (fun _ _ => rfl) (se_lst false (sa_cons se_int (sa_cons (se_neg se_int) sa_nil))) (se_bin op_mod ab_mod (se_ix (fun _ _ => rfl) (se_v 1) se_int) se_int))) sa_nil)))) (sg_name 4 nd)
    (ss_cons (ss_set 5 nd (se_call tk.c ((ok_law_put_in T).p T.h_law_put_in) (hr.mono (by decide)) rfl (sa_cons (se_ix (fun _ _ => rfl) (se_v 1) se_int) (sa_cons (se_call tk.c ((ok_law_go T).p T.h_law_go) (hr.mono (by decide)) rfl (sa_cons (se_bin op_mod ab_mod (se_ix (fun _ _ => rfl) (se_v 1) se_int) se_int) (sa_cons (se_v 4) sa_nil)) (aLen_cons (aLen_cons aLen_nil))) sa_nil)) (aLen_cons (aLen_cons aLen_nil))))
    (ss_one (ss_if (st_cmp (op_eqA hr.units) ab_eq (nomark _) (se_v 4) (se_v 3))
    (ss_one (ss_if (st_cmp (op_neA hr.units) ab_ne (nomark _) (se_call tk.c ((ok_law_refused T).p T.h_law_refused) (hr.mono (by decide)) rfl (sa_cons se_int (sa_cons (se_v 5) (sa_cons (se_v 2) sa_nil))) (aLen_cons (aLen_cons (aLen_cons aLen_nil)))) se_int)
    (ss_one (ss_ret se_bl))
    ss_nil))
    (ss_one (ss_if (st_cmp (op_neA hr.units) ab_ne (nomark _) (se_call tk.c ((ok_law_refused T).p T.h_law_refused) (hr.mono (by decide)) rfl (sa_cons se_int (sa_cons (se_v 5) (sa_cons (se_v 2) sa_nil))) (aLen_cons (aLen_cons (aLen_cons aLen_nil)))) se_int)
    (ss_one (ss_ret se_bl))
    ss_nil))))))
    (ss_cons (ss_set 5 nd (se_call tk.c ((ok_law_many T).p T.h_law_many) (hr.mono (by decide)) rfl (sa_cons (se_ix (fun _ _ => rfl) (se_v 1) se_int) (sa_cons se_int sa_nil)) (aLen_cons (aLen_cons aLen_nil))))
    (ss_cons (ss_set 6 nd (se_call tk.c ((ok_turned T).p T.h_turned) (hr.mono (by decide)) rfl (sa_cons (se_v 5) (sa_cons (se_bin op_mod ab_mod (se_ix (fun _ _ => rfl) (se_v 1) se_int) se_int) sa_nil)) (aLen_cons (aLen_cons aLen_nil))))
    (ss_cons (ss_if (st_cmp (op_neA hr.units) ab_ne (nomark _) (se_v 6) (se_tup (sa_cons (se_ix (fun _ _ => rfl) (se_v 5) se_int) (sa_cons (se_bin op_addA (ab_add false) (se_tup (sa_cons (se_tup (sa_cons se_str (sa_cons (se_bin op_mod ab_mod (se_ix (fun _ _ => rfl) (se_v 1) se_int) se_int) sa_nil))) sa_nil)) (se_ix (fun _ _ => rfl) (se_v 5) se_int)) sa_nil))))
    (ss_one (ss_ret se_bl))
    ss_nil)
    (ss_cons (ss_if (st_cmp (op_neA hr.units) ab_ne (nomark _) (se_call tk.c ((ok_law_refused T).p T.h_law_refused) (hr.mono (by decide)) rfl (sa_cons se_int (sa_cons (se_call tk.c ((ok_law_many T).p T.h_law_many) (hr.mono (by decide)) rfl (sa_cons (se_ix (fun _ _ => rfl) (se_v 1) se_int) (sa_cons se_int sa_nil)) (aLen_cons (aLen_cons aLen_nil))) (sa_cons (se_bin op_mod ab_mod (se_ix (fun _ _ => rfl) (se_v 1) se_int) se_int) sa_nil))) (aLen_cons (aLen_cons (aLen_cons aLen_nil)))) se_int)
    (ss_one (ss_ret se_bl))
    ss_nil)
    (ss_cons (ss_set 7 nd (se_bin op_mulY ab_mulY (se_tup (sa_cons (se_tup (sa_cons se_str (sa_cons se_int sa_nil))) (sa_cons (se_tup (sa_cons se_str (sa_cons (se_ix (fun _ _ => rfl) (se_v 1) se_int) sa_nil))) sa_nil))) se_int))
    (ss_one (ss_ret (se_and (se_cmp (op_eqA hr.units) ab_eq (nomark _) (se_call tk.c ((ok_law_refused T).p T.h_law_refused) (hr.mono (by decide)) rfl (sa_cons se_int (sa_cons (se_tup (sa_cons (se_tup sa_nil) (sa_cons (se_v 7) sa_nil))) (sa_cons se_int sa_nil))) (aLen_cons (aLen_cons (aLen_cons aLen_nil)))) se_int) (se_one (se_cmp (op_eqA hr.units) ab_eq (nomark _) (se_call tk.c ((ok_law_refused T).p T.h_law_refused) (hr.mono (by decide)) rfl (sa_cons se_int (sa_cons (se_tup (sa_cons (se_tup sa_nil) (sa_cons (se_bin op_addA (ab_add false) (se_v 7) (se_tup (sa_cons (se_tup (sa_cons se_str sa_nil)) sa_nil))) sa_nil))) (sa_cons se_int sa_nil))) (aLen_cons (aLen_cons (aLen_cons aLen_nil)))) se_int))))))))))))))
end
end Lw

namespace Lw
open PySem L2 Wk
def Known (W : List Smp) (kvs : List (NestedKey × U)) (s e : Nat) : Prop := ∃ n b, valN kvs (kOf s e) = some (.d (ent n b)) ∧ GoodQ (cutL W s e) n b ∧ Best (cutL W s e) n
def optE : Option (Nat × List Q5) → D
  | none => .none
  | some (n, b) => ent n b
theorem in_parts_ev {W : List Smp} {kvs : List (NestedKey × U)} {s e : Nat} (hl : W.length ≤ 60) (he : e ≤ W.length) (hse : s + 1 < e) (hk : ∀ a, s < a → a < e → Known W kvs s a ∧ Known W kvs a e) :
    ∃ n b, F_in_parts [.d (.int s), .d (.int e), .ref 0] [.dtp kvs] = .ok (.d (ent n b)) [.dtp kvs] ∧ GoodQ (cutL W s e) n b ∧ ∀ a, s < a → a < e → ∃ nu nv, Best (cutL W s a) nu ∧ Best (cutL W a e) nv ∧ n ≤ nu + nv := by
  have r1 : rngOk ((s : Int) + 1) = true := rng_of (by omega) (by omega)
  have r2 : rngOk (e : Int) = true := rng_of (by omega) (by omega)
  obtain ⟨env', h', el, o, y4, y5, z1, z2, z3, z4⟩ := forGo_inv (t := gN 4) (b := L_in_parts_0) (us := iRange ((e : Int) - ((s : Int) + 1)).toNat ((s : Int) + 1))
    (fun i env hh => ∃ (o : Option (Nat × List Q5)) (y4 y5 : Option U), env = [some (.d (.int s)), some (.d (.int e)), some (.ref 0), some (.d (optE o)), y4, y5] ∧ hh = [.dtp kvs] ∧ (∀ n b, o = some (n, b) → GoodQ (cutL W s e) n b) ∧
      (∀ a, s < a → a < s + 1 + i → ∃ nu nv n b, Best (cutL W s a) nu ∧ Best (cutL W a e) nv ∧ o = some (n, b) ∧ n ≤ nu + nv)) 0
    (env := [some (.d (.int s)), some (.d (.int e)), some (.ref 0), some (.d .none), none, none]) (h := [.dtp kvs]) ⟨none, none, none, rfl, rfl, (by intro n b z; cases z), fun a h1 h2 => by omega⟩ (fun i u env hh eu hI => by
      obtain ⟨o, y4, y5, rfl, rfl, k3, k4⟩ := hI
      obtain ⟨hi, rfl⟩ := iRange_get eu
      generalize ha : s + 1 + i = a at k4
      have hc : ((s : Int) + 1 + (i : Int)) = ((a : Nat) : Int) := by omega
      obtain ⟨⟨nu, bu, u1, u2, u3⟩, nv, bv, v1, v2, v3⟩ := hk a (by omega) (by omega)
      have g1 := nget_of kvs s a u1
      have g2 := nget_of kvs a e v1
      have hbl : (qE bu).length + (qE bv).length ≤ 16777216 := by
        rw [qE_len, qE_len]
        have x1 := qSz_len bu
        have x2 := qSz_len bv
        rw [u2.sz] at x1
        rw [v2.sz] at x2
        have x3 : ∀ w : List Smp, (∀ x ∈ w, x.small) → ∀ n, Best w n → n ≤ w.length := fun w hw n hb => by
          have := hb (w.map .s) (by
            clear hb
            induction w with
            | nil => rw [List.map_nil, qOk]; trivial
            | cons y r ih => rw [List.map_cons, qOk, Q5.ok]; exact ⟨hw y List.mem_cons_self, ih fun x hx => hw x (List.mem_cons_of_mem _ hx)⟩) (by
            clear hb hw
            induction w with
            | nil => rfl
            | cons y r ih => rw [List.map_cons, qPut, ih, Q5.put]; rfl)
          have l : ∀ w : List Smp, qSz (w.map .s) = w.length := fun w => by
            induction w with
            | nil => rfl
            | cons y r ih => rw [List.map_cons, qSz, ih, Q5.sz, List.length_cons]; omega
          rw [l] at this
          exact this
        have sm : ∀ b : List Q5, qOk b → ∀ x ∈ qPut b, x.small := small_put
        have y1 := x3 _ (fun x hx => sm bu u2.ok x (by rw [u2.put]; exact hx)) nu u3
        have y2 := x3 _ (fun x hx => sm bv v2.ok x (by rw [v2.put]; exact hx)) nv v3
        rw [cutL_len W (by omega)] at y1 y2
        omega
      have ad := fun h => addTT (qE bu) (qE bv) h hbl
      rw [← qE_app] at ad
      have gd : GoodQ (cutL W s e) (nu + nv) (bu ++ bv) := ⟨by rw [qPut_app, u2.put, v2.put, cutL_app W (by omega) (by omega)], by rw [qSz_app, u2.sz, v2.sz], (qOk_app _ _).mpr ⟨u2.ok, v2.ok⟩, (qNe_app _ _).mpr ⟨u2.ne, v2.ne⟩⟩
      generalize hm : nu + nv = m at gd
      have hcn : ((nu : Int) + (nv : Int)) = (m : Int) := by omega
      have key : ∀ o' : Option (Nat × List Q5), (∀ n b, o' = some (n, b) → n ≤ m ∧ (∀ n0 b0, o = some (n0, b0) → n ≤ n0)) → o' ≠ none → ∀ a', s < a' → a' < s + 1 + (0 + i + 1) → ∃ nu nv n b, Best (cutL W s a') nu ∧ Best (cutL W a' e) nv ∧ o' = some (n, b) ∧ n ≤ nu + nv := fun o' ho hne a' h1 h2 => by
        cases o' with
        | none => exact absurd rfl hne
        | some p =>
          obtain ⟨n, b⟩ := p
          obtain ⟨q1, q2⟩ := ho n b rfl
          rcases Nat.lt_or_ge a' a with z | z
          · obtain ⟨mu, mv, m', c, w1, w2, w3, w4⟩ := k4 a' h1 (by omega)
            exact ⟨mu, mv, n, b, w1, w2, rfl, Nat.le_trans (q2 m' c w3) w4⟩
          · have : a' = a := by omega
            subst this
            exact ⟨nu, nv, n, b, u3, v3, rfl, by omega⟩
      cases o with
      | none =>
        refine ⟨_, _, _, rfl, ?_, some (m, bu ++ bv), some (.d (.int a)), some (.d (.int (m : Int))), rfl, rfl, fun n b z => by cases z; exact gd, key (some (m, bu ++ bv)) (fun n b z => by cases z; exact ⟨Nat.le_refl _, by intro n0 b0 z; cases z⟩) (by intro z; cases z)⟩
        rw [hc]
        unfold L_in_parts_0 ent at *
        generalize qE bu = Bu at *
        generalize qE bv = Bv at *
        simp [g1, g2, hcn, ad, optE, ent, opIs, isN]
      | some p =>
        obtain ⟨n0, b0⟩ := p
        by_cases hlt : m < n0
        · refine ⟨_, _, _, rfl, ?_, some (m, bu ++ bv), some (.d (.int a)), some (.d (.int (m : Int))), rfl, rfl, fun n b z => by cases z; exact gd, key (some (m, bu ++ bv)) (fun n b z => by cases z; exact ⟨Nat.le_refl _, by intro n0 b0 z; cases z; omega⟩) (by intro z; cases z)⟩
          have hlt' : (m : Int) < (n0 : Int) := by omega
          rw [hc]
          unfold L_in_parts_0 ent at *
          generalize qE bu = Bu at *
          generalize qE bv = Bv at *
          simp [g1, g2, hcn, ad, optE, ent, opIs, isN, hlt']
        · refine ⟨_, _, _, rfl, ?_, some (n0, b0), some (.d (.int a)), some (.d (.int (m : Int))), rfl, rfl, k3, key (some (n0, b0)) (fun n b z => by cases z; exact ⟨by omega, by intro n0 b0 z; cases z; exact Nat.le_refl _⟩) (by intro z; cases z)⟩
          have hlt' : ¬ (m : Int) < (n0 : Int) := by omega
          rw [hc]
          unfold L_in_parts_0 ent at *
          generalize qE bu = Bu at *
          generalize qE bv = Bv at *
          simp [g1, g2, hcn, ad, optE, ent, opIs, isN, hlt'])
  subst z1 z2
  rw [iRange_len] at z4
  obtain ⟨mu, mv, n, b, w1, w2, w3, w4⟩ := z4 (s + 1) (by omega) (by omega)
  subst w3
  refine ⟨n, b, ?_, z3 n b rfl, fun a h1 h2 => ?_⟩
  · unfold F_in_parts B_in_parts
    rw [sfOf_ap]
    simp [r1, r2, el, optE]
  · obtain ⟨mu, mv, n', b', w1, w2, w3, w4⟩ := z4 a h1 (by omega)
    cases w3
    exact ⟨mu, mv, w1, w2, w4⟩
theorem in_rounds_ev {W : List Smp} {kvs : List (NestedKey × U)} {s e : Nat} (hl : W.length ≤ 60) (he : e ≤ W.length) (hse : s + 1 < e) (hk : ∀ a, s < a → a < e → Known W kvs s a) :
    ∃ o : Option (Nat × List Q5), F_in_rounds [.d (.tuple (W.map Smp.e)), .d (.int s), .d (.int e), .ref 0] [.dtp kvs] = .ok (.d (optE o)) [.dtp kvs] ∧ (∀ n b, o = some (n, b) → GoodQ (cutL W s e) n b) ∧
      ∀ part, 1 ≤ part → part ≤ (e - s) / 2 → (e - s) % part = 0 → (List.replicate ((e - s) / part) (cutL W s (s + part))).flatten = cutL W s e → ∃ nu n b, Best (cutL W s (s + part)) nu ∧ o = some (n, b) ∧ n ≤ nu + 1 := by
  obtain ⟨z, hz⟩ : ∃ z : Nat, z = e - s := ⟨_, rfl⟩
  rw [← hz]
  have hzc : (e : Int) - (s : Int) = (z : Int) := by omega
  have r2 : rngOk ((z : Int) / 2 + 1) = true := rng_of (by omega) (by omega)
  have r1 : rngOk (1 : Int) = true := rng_of (by omega) (by omega)
  have dv2 : divOk 2 = true := divOk_s (by decide) (by decide)
  obtain ⟨env', h', el, o, y6, y7, y8, z1, z2, z3, z4⟩ := forGo_inv (t := gN 6) (b := L_in_rounds_0) (us := iRange ((z : Int) / 2 + 1 - 1).toNat 1)
    (fun i env hh => ∃ (o : Option (Nat × List Q5)) (y6 y7 y8 : Option U), env = [some (.d (.tuple (W.map Smp.e))), some (.d (.int s)), some (.d (.int e)), some (.ref 0), some (.d (optE o)), some (.d (.int z)), y6, y7, y8] ∧ hh = [.dtp kvs] ∧ (∀ n b, o = some (n, b) → GoodQ (cutL W s e) n b) ∧
      (∀ part, 1 ≤ part → part < 1 + i → z % part = 0 → (List.replicate (z / part) (cutL W s (s + part))).flatten = cutL W s e → ∃ nu n b, Best (cutL W s (s + part)) nu ∧ o = some (n, b) ∧ n ≤ nu + 1)) 0
    (env := [some (.d (.tuple (W.map Smp.e))), some (.d (.int s)), some (.d (.int e)), some (.ref 0), some (.d .none), some (.d (.int z)), none, none, none]) (h := [.dtp kvs]) ⟨none, none, none, none, rfl, rfl, (by intro n b z; cases z), fun a h1 h2 => by omega⟩ (fun i u env hh eu hI => by
      obtain ⟨o, y6, y7, y8, rfl, rfl, k3, k4⟩ := hI
      obtain ⟨hi, rfl⟩ := iRange_get eu
      generalize hp : 1 + i = p at k4
      have hi2 : p ≤ z / 2 := by omega
      have hc : ((1 : Int) + (i : Int)) = ((p : Nat) : Int) := by omega
      have hp0 : (0 : Int) < (p : Int) := by omega
      have hpn : 0 < p := by omega
      have dv : divOk (p : Int) = true := divOk_s hp0 (by omega)
      have hmod : (z : Int) % (p : Int) = ((z % p : Nat) : Int) := by omega
      have hdiv : (z : Int) / (p : Int) = ((z / p : Nat) : Int) := by omega
      have stay : (z % p ≠ 0 ∨ ¬ (List.replicate (z / p) (cutL W s (s + p))).flatten = cutL W s e) → ∀ part, 1 ≤ part → part < 1 + (0 + i + 1) → z % part = 0 → (List.replicate (z / part) (cutL W s (s + part))).flatten = cutL W s e → ∃ nu n b, Best (cutL W s (s + part)) nu ∧ o = some (n, b) ∧ n ≤ nu + 1 := fun hno part h1 h2 h3 h4 => by
        rcases Nat.lt_or_ge part p with q | q
        · exact k4 part h1 (by omega) h3 h4
        · have : part = p := by omega
          subst this
          rcases hno with w | w
          · exact absurd h3 w
          · exact absurd h4 w
      by_cases h1 : z % p = 0
      · have hm1 : (z : Int) % (p : Int) = 0 := by rw [hmod, h1]; rfl
        have hsp : ((s : Int) + (p : Int)) = ((s + p : Nat) : Int) := by omega
        have c1 := cut_both (W.map Smp.e) s (s + p) (by omega) (by rw [List.length_map]; omega)
        have c2 := cut_both (W.map Smp.e) s e (by omega) (by rw [List.length_map]; omega)
        rw [← cutL_map] at c1 c2
        have hq60 : z / p ≤ 60 := Nat.le_trans (Nat.div_le_self _ _) (by omega)
        have hlen : ((cutL W s (s + p)).map Smp.e).length * ((z / p : Nat) : Int).toNat ≤ 1000000 := by
          rw [List.length_map, cutL_len W (by omega), Int.toNat_natCast]
          have : (s + p - s) * (z / p) ≤ 60 * 60 := Nat.mul_le_mul (by omega) hq60
          omega
        have ml := fun h => ev_mulYt h ((cutL W s (s + p)).map Smp.e) ((z / p : Nat) : Int) (by have := Int.natCast_nonneg (z / p); omega) (by omega) hlen
        have mp : (List.replicate ((z / p : Nat) : Int).toNat ((cutL W s (s + p)).map Smp.e)).flatten = ((List.replicate (z / p) (cutL W s (s + p))).flatten).map Smp.e := by
          rw [Int.toNat_natCast, List.map_flatten, List.map_replicate]
        rw [mp] at ml
        have eq := fun h => ev_eqSm false (List.replicate (z / p) (cutL W s (s + p))).flatten (cutL W s e) h
        generalize hP : s + p = sp at *
        by_cases h2 : (List.replicate (z / p) (cutL W s sp)).flatten = cutL W s e
        · have a1 : ask ((List.replicate (z / p) (cutL W s sp)).flatten = cutL W s e) = true := ask_t h2
          obtain ⟨nu, bu, u1, u2, u3⟩ := hk sp (by omega) (by omega)
          have g1 := nget_of kvs s sp u1
          have hne : cutL W s sp ≠ [] := fun q => by
            have := cutL_len W (s := s) (e := sp) (by omega)
            rw [q, List.length_nil] at this
            omega
          have hge : 2 ≤ z / p := (Nat.le_div_iff_mul_le (by omega)).mpr (by omega)
          have gd : GoodQ (cutL W s e) (nu + 1) [.a (z / p) bu] := ⟨by rw [qPut, qPut, List.append_nil, Q5.put, u2.put, h2], by rw [qSz, qSz, Q5.sz, u2.sz], by rw [qOk, qOk, Q5.ok]; exact ⟨⟨hge, hq60, u2.ok⟩, trivial⟩, by rw [qNe, qNe, Q5.ne, u2.put]; exact ⟨⟨hne, u2.ne⟩, trivial⟩⟩
          have key : ∀ o' : Option (Nat × List Q5), (∀ n b, o' = some (n, b) → n ≤ nu + 1 ∧ (∀ n0 b0, o = some (n0, b0) → n ≤ n0)) → o' ≠ none → ∀ part, 1 ≤ part → part < 1 + (0 + i + 1) → z % part = 0 → (List.replicate (z / part) (cutL W s (s + part))).flatten = cutL W s e → ∃ nu n b, Best (cutL W s (s + part)) nu ∧ o' = some (n, b) ∧ n ≤ nu + 1 := fun o' ho hn part q1 q2 q3 q4 => by
            cases o' with
            | none => exact absurd rfl hn
            | some pr =>
              obtain ⟨n, b⟩ := pr
              obtain ⟨w1, w2⟩ := ho n b rfl
              rcases Nat.lt_or_ge part p with q | q
              · obtain ⟨mu, m', c, x1, x2, x3⟩ := k4 part q1 (by omega) q3 q4
                exact ⟨mu, n, b, x1, rfl, Nat.le_trans (w2 m' c x2) x3⟩
              · have : part = p := by omega
                subst this
                exact ⟨nu, n, b, by rw [hP]; exact u3, rfl, w1⟩
          generalize hT : z / p = T at *
          have hE : qE [.a T bu] = [.tuple [.str "again", .int T, .tuple (qE bu)]] := rfl
          have hit : ∀ x y : D, itemsOf [Ob.dtp kvs] (.d (.tuple [x, y])) = some [.d x, .d y] := fun _ _ => rfl
          cases o with
          | none =>
            refine ⟨_, _, _, rfl, ?_, some (nu + 1, [.a T bu]), some (.d (.int p)), some (.d (.int nu)), some (.d (.tuple (qE bu))), rfl, rfl, fun n b q => by cases q; exact gd, key (some (nu + 1, [.a T bu])) (fun n b q => by cases q; exact ⟨Nat.le_refl _, by intro n0 b0 z; cases z⟩) (by intro z; cases z)⟩
            rw [hc]
            unfold ent at *
            unfold L_in_rounds_0
            generalize qE bu = Bu at *
            generalize List.map Smp.e W = WE at *
            generalize (cutL W s sp).map Smp.e = M1 at *
            generalize ((List.replicate T (cutL W s sp)).flatten).map Smp.e = M2 at *
            generalize (cutL W s e).map Smp.e = M3 at *
            simp [hpn, optE, ent, hE, hm1, hsp, c1, c2, dv, hdiv, ml, eq, a1, g1, hit, opIs, isN]
          | some pr =>
            obtain ⟨n0, b0⟩ := pr
            by_cases hlt : nu + 1 < n0
            · have hlt' : (nu : Int) + 1 < (n0 : Int) := by omega
              refine ⟨_, _, _, rfl, ?_, some (nu + 1, [.a T bu]), some (.d (.int p)), some (.d (.int nu)), some (.d (.tuple (qE bu))), rfl, rfl, fun n b q => by cases q; exact gd, key (some (nu + 1, [.a T bu])) (fun n b q => by cases q; exact ⟨Nat.le_refl _, by intro n0 b0 z; cases z; omega⟩) (by intro z; cases z)⟩
              rw [hc]
              unfold ent at *
              unfold L_in_rounds_0
              generalize qE bu = Bu at *
              generalize List.map Smp.e W = WE at *
              generalize (cutL W s sp).map Smp.e = M1 at *
              generalize ((List.replicate T (cutL W s sp)).flatten).map Smp.e = M2 at *
              generalize (cutL W s e).map Smp.e = M3 at *
              simp [hpn, optE, ent, hE, hm1, hsp, c1, c2, dv, hdiv, ml, eq, a1, g1, hit, opIs, isN, hlt']
            · have hlt' : ¬ (nu : Int) + 1 < (n0 : Int) := by omega
              refine ⟨_, _, _, rfl, ?_, some (n0, b0), some (.d (.int p)), some (.d (.int nu)), some (.d (.tuple (qE bu))), rfl, rfl, k3, key (some (n0, b0)) (fun n b q => by cases q; exact ⟨by omega, by intro n0 b0 z; cases z; exact Nat.le_refl _⟩) (by intro z; cases z)⟩
              rw [hc]
              unfold ent at *
              unfold L_in_rounds_0
              generalize qE bu = Bu at *
              generalize List.map Smp.e W = WE at *
              generalize (cutL W s sp).map Smp.e = M1 at *
              generalize ((List.replicate T (cutL W s sp)).flatten).map Smp.e = M2 at *
              generalize (cutL W s e).map Smp.e = M3 at *
              simp [hpn, optE, ent, hE, hm1, hsp, c1, c2, dv, hdiv, ml, eq, a1, g1, hit, opIs, isN, hlt']
        · have a1 : ask ((List.replicate (z / p) (cutL W s sp)).flatten = cutL W s e) = false := by
            cases q : ask ((List.replicate (z / p) (cutL W s sp)).flatten = cutL W s e) with
            | false => rfl
            | true => exact absurd (ask_iff.mp q) h2
          refine ⟨_, _, _, rfl, ?_, o, some (.d (.int p)), y7, y8, rfl, rfl, k3, stay (.inr h2)⟩
          rw [hc]
          generalize hT : z / p = T at *
          unfold L_in_rounds_0
          generalize List.map Smp.e W = WE at *
          generalize (cutL W s sp).map Smp.e = M1 at *
          generalize ((List.replicate T (cutL W s sp)).flatten).map Smp.e = M2 at *
          generalize (cutL W s e).map Smp.e = M3 at *
          simp [hpn, hm1, hsp, c1, c2, dv, hdiv, ml, eq, a1]
      · have hm1 : ¬ (z : Int) % (p : Int) = 0 := by rw [hmod]; omega
        refine ⟨_, _, _, rfl, ?_, o, some (.d (.int p)), y7, y8, rfl, rfl, k3, stay (.inl h1)⟩
        rw [hc]
        unfold L_in_rounds_0
        generalize List.map Smp.e W = WE at *
        simp [hpn, hm1])
  subst z1 z2
  rw [iRange_len] at z4
  refine ⟨o, ?_, z3, fun part q1 q2 q3 q4 => z4 part q1 (by omega) q3 q4⟩
  unfold F_in_rounds B_in_rounds
  rw [sfOf_ap]
  generalize List.map Smp.e W = WE at *
  rw [Int.add_sub_cancel] at el
  simp [hzc, r1, r2, dv2, el]
theorem known_put {W : List Smp} {kvs : List (NestedKey × U)} {s e s' e' n : Nat} {b : List Q5} (hg : GoodQ (cutL W s e) n b) (hb : Best (cutL W s e) n) (h : (s' = s ∧ e' = e) ∨ Known W kvs s' e') : Known W (putN kvs (kOf s e) (.d (ent n b))) s' e' := by
  by_cases hk : kOf s e = kOf s' e'
  · obtain ⟨rfl, rfl⟩ := kOf_inj hk
    exact ⟨n, b, by rw [valN_put, if_pos rfl], hg, hb⟩
  · rcases h with ⟨rfl, rfl⟩ | ⟨m, c, h1, h2, h3⟩
    · exact absurd rfl hk
    · exact ⟨m, c, by rw [valN_put, if_neg hk]; exact h1, h2, h3⟩
theorem shorter_ev {W : List Smp} (hl : W.length ≤ 60) (hW : W ≠ []) (hs : ∀ x ∈ W, x.small) : ∃ n b, F_shorter [.tuple [.tuple [], .tuple (W.map Smp.e)]] = .ok (.tuple [.tuple [], .tuple (qE b)]) ∧ GoodQ W n b ∧ Best W n := by
  have hp : 0 < W.length := List.length_pos_iff.mpr hW
  generalize hN : W.length = N at *
  have r1 : rngOk (1 : Int) = true := rng_of (by omega) (by omega)
  have r2 : rngOk ((N : Int) + 1) = true := rng_of (by omega) (by omega)
  have hWl : (W.map Smp.e).length = N := by rw [List.length_map, hN]
  obtain ⟨env', h', el, kvs, y3, y4, y5, y6, z1, z2, z3, z4⟩ := forGo_inv (t := gN 3) (b := L_shorter_1) (us := iRange ((N : Int) + 1 - 1).toNat 1)
    (fun i env hh => ∃ (kvs : List (NestedKey × U)) (y3 y4 y5 y6 : Option U), env = [some (.d (.tuple [.tuple [], .tuple (W.map Smp.e)])), some (.d (.tuple (W.map Smp.e))), some (.ref 0), y3, y4, y5, y6] ∧ hh = [.dtp kvs] ∧ kvs.length ≤ 60 * i ∧ ∀ s e, s < e → e ≤ N → e - s ≤ i → Known W kvs s e) 0
    (env := [some (.d (.tuple [.tuple [], .tuple (W.map Smp.e)])), some (.d (.tuple (W.map Smp.e))), some (.ref 0), none, none, none, none]) (h := [.dtp []]) ⟨[], none, none, none, none, rfl, rfl, Nat.zero_le _, fun s e h1 h2 h3 => by omega⟩ (fun i u env hh eu hI => by
      obtain ⟨kvs, y3, y4, y5, y6, rfl, rfl, k3, k4⟩ := hI
      obtain ⟨hi, rfl⟩ := iRange_get eu
      rw [Nat.zero_add] at *
      generalize hz : 1 + i = z
      have hc : ((1 : Int) + (i : Int)) = (z : Int) := by omega
      have r3 : rngOk ((N : Int) - (z : Int) + 1) = true := rng_of (by omega) (by omega)
      obtain ⟨env2, h2, el2, kvs2, x4, x5, x6, q1, q2, q3, q4⟩ := forGo_inv (t := gN 4) (b := L_shorter_0) (us := iRange ((N : Int) - (z : Int) + 1).toNat 0)
        (fun j env hh => ∃ (kvs2 : List (NestedKey × U)) (y4 y5 y6 : Option U), env = [some (.d (.tuple [.tuple [], .tuple (W.map Smp.e)])), some (.d (.tuple (W.map Smp.e))), some (.ref 0), some (.d (.int z)), y4, y5, y6] ∧ hh = [.dtp kvs2] ∧ kvs2.length ≤ 60 * i + j ∧ ∀ s e, s < e → e ≤ N → (e - s ≤ i ∨ (e - s = z ∧ s < j)) → Known W kvs2 s e) 0
        (env := [some (.d (.tuple [.tuple [], .tuple (W.map Smp.e)])), some (.d (.tuple (W.map Smp.e))), some (.ref 0), some (.d (.int z)), y4, y5, y6]) (h := [.dtp kvs]) ⟨kvs, y4, y5, y6, rfl, rfl, k3, fun s e h1 h2 h3 => k4 s e h1 h2 (by omega)⟩ (fun j u env hh eu hI => by
          obtain ⟨kv, y4, y5, y6, rfl, rfl, k5, k6⟩ := hI
          obtain ⟨hj, rfl⟩ := iRange_get eu
          rw [Nat.zero_add] at *
          have hjz : j + z ≤ N := by omega
          have hcj : ((0 : Int) + (j : Int)) = (j : Int) := by omega
          generalize hE : j + z = e at hjz
          have hce : ((j : Int) + (z : Int)) = (e : Int) := by omega
          have hkl : kv.length < 16777216 := by omega
          obtain ⟨x, hx⟩ : ∃ x, W[j]? = some x := ⟨_, List.getElem?_eq_getElem (by omega)⟩
          have hat : atI (W.map Smp.e) (j : Int) = some x.e := atI_nat (by rw [List.getElem?_map, hx]; rfl)
          -- it is enough to find a best body
          have fin : ∀ (n : Nat) (b : List Q5), GoodQ (cutL W j e) n b → Best (cutL W j e) n → (putN kv (kOf j e) (.d (ent n b))).length ≤ 60 * i + (j + 1) ∧ ∀ s e', s < e' → e' ≤ N → (e' - s ≤ i ∨ (e' - s = z ∧ s < j + 1)) → Known W (putN kv (kOf j e) (.d (ent n b))) s e' := fun n b hg hb => by
            refine ⟨by have := putN_len kv (kOf j e) (.d (ent n b)); omega, fun s e' h1 h2 h3 => known_put hg hb ?_⟩
            by_cases hs : s = j ∧ e' = e
            · exact .inl hs
            · exact .inr (k6 s e' h1 h2 (by omega))
          by_cases h1 : z = 1
          · have hcw : cutL W j e = [x] := by rw [← hE, h1]; exact cutL_one W hx
            have hg : GoodQ (cutL W j e) 1 [.s x] := by
              rw [hcw]
              refine ⟨rfl, rfl, ?_, ?_⟩
              · rw [qOk, qOk, Q5.ok]; exact ⟨hs x (List.mem_of_getElem? hx), trivial⟩
              · rw [qNe, qNe, Q5.ne]; exact ⟨trivial, trivial⟩
            have hb : Best (cutL W j e) 1 := fun c _ hp => by
              cases c with
              | nil => rw [qPut, hcw] at hp; cases hp
              | cons q r =>
                have := qSz_len (q :: r)
                rw [List.length_cons] at this
                omega
            have pt := nput_of kv j e (.d (ent 1 [.s x])) hkl
            refine ⟨_, _, _, rfl, ?_, putN kv (kOf j e) (.d (ent 1 [.s x])), some (.d (.int j)), some (.d (ent 1 [.s x])), y6, rfl, rfl, fin 1 _ hg hb⟩
            rw [hcj]
            have hg1 : ¬ ((z : Int) > 1) := by omega
            unfold ent at *
            rw [show qE [.s x] = [x.e] from rfl] at *
            generalize List.map Smp.e W = WE at *
            unfold L_shorter_0
            rw [show (((1 : Nat) : Int)) = 1 from rfl] at pt ⊢
            simp [hat, hg1, hce, pt, ev_NPutS]
          · have hse : j + 1 < e := by omega
            obtain ⟨n, b, p1, p2, p3⟩ := in_parts_ev (W := W) (kvs := kv) (s := j) (e := e) (by omega) (by omega) hse (fun a h1 h2 => ⟨k6 j a (by omega) (by omega) (by omega), k6 a e (by omega) (by omega) (by omega)⟩)
            obtain ⟨o, q1, q2, q3⟩ := in_rounds_ev (W := W) (kvs := kv) (s := j) (e := e) (by omega) (by omega) hse (fun a h1 h2 => k6 j a (by omega) (by omega) (by omega))
            have hcl := cutL_len W (s := j) (e := e) (by omega)
            have hne : cutL W j e ≠ [] := fun q => by rw [q, List.length_nil] at hcl; omega
            have best : ∀ m, m ≤ n → (∀ n' b', o = some (n', b') → m ≤ n') → Best (cutL W j e) m := fun m hm ho => best_step hne (fun x' q => by rw [q, List.length_singleton] at hcl; omega) (fun u v q hu hv => by
              obtain ⟨a1, a2, a3⟩ := cutL_split W (by omega) (by omega) q
              have lu : 0 < u.length := List.length_pos_iff.mpr hu
              have lv : 0 < v.length := List.length_pos_iff.mpr hv
              obtain ⟨nu, nv, w1, w2, w3⟩ := p3 (j + u.length) (by omega) (by omega)
              rw [← a1] at w1
              rw [← a2] at w2
              exact ⟨nu, nv, w1, w2, by omega⟩) (fun u t q hu ht => by
              obtain ⟨t', rfl⟩ : ∃ t', t = t' + 1 := ⟨t - 1, by omega⟩
              have q' := q
              rw [List.replicate_succ, List.flatten_cons] at q'
              obtain ⟨a1, a2, a3⟩ := cutL_split W (by omega) (by omega) q'
              have lu : 0 < u.length := List.length_pos_iff.mpr hu
              have hlen : e - j = (t' + 1) * u.length := by rw [← hcl, q, rep_len]
              have hq : (e - j) / u.length = t' + 1 := by rw [hlen, Nat.mul_div_cancel _ lu]
              obtain ⟨nu, n', b', w1, w2, w3⟩ := q3 u.length lu (by rw [Nat.le_div_iff_mul_le (by decide), hlen, Nat.mul_comm]; exact Nat.mul_le_mul_right _ ht) (by rw [hlen, Nat.mul_mod_left]) (by rw [hq, ← a1, q])
              rw [← a1] at w1
              exact ⟨nu, w1, Nat.le_trans (ho n' b' w2) w3⟩)
            have hg1 : ((z : Int) > 1) := by omega
            cases o with
            | none =>
              have pt := nput_of kv j e (.d (ent n b)) hkl
              refine ⟨_, _, _, rfl, ?_, putN kv (kOf j e) (.d (ent n b)), some (.d (.int j)), some (.d (ent n b)), some (.d .none), rfl, rfl, fin n b p2 (best n (Nat.le_refl _) (by intro n' b' q; cases q))⟩
              rw [hcj]
              generalize List.map Smp.e W = WE at *
              generalize ent n b = EE at *
              unfold optE at q1
              unfold L_shorter_0
              simp [hat, hg1, hce, p1, q1, opIs, isN, pt, ev_NPutS]
            | some pr =>
              obtain ⟨n', b'⟩ := pr
              by_cases hlt : n' < n
              · have hlt' : (n' : Int) < (n : Int) := by omega
                have pt := nput_of kv j e (.d (ent n' b')) hkl
                refine ⟨_, _, _, rfl, ?_, putN kv (kOf j e) (.d (ent n' b')), some (.d (.int j)), some (.d (ent n' b')), some (.d (ent n' b')), rfl, rfl, fin n' b' (q2 n' b' rfl) (best n' (by omega) (by intro n'' b'' q; cases q; exact Nat.le_refl _))⟩
                rw [hcj]
                generalize List.map Smp.e W = WE at *
                unfold optE at q1
                unfold ent at *
                unfold L_shorter_0
                simp [hat, hg1, hce, p1, q1, opIs, isN, hlt', pt, ev_NPutS]
              · have hlt' : ¬ (n' : Int) < (n : Int) := by omega
                have pt := nput_of kv j e (.d (ent n b)) hkl
                refine ⟨_, _, _, rfl, ?_, putN kv (kOf j e) (.d (ent n b)), some (.d (.int j)), some (.d (ent n b)), some (.d (ent n' b')), rfl, rfl, fin n b p2 (best n (Nat.le_refl _) (by intro n'' b'' q; cases q; omega))⟩
                rw [hcj]
                generalize List.map Smp.e W = WE at *
                unfold optE at q1
                unfold ent at *
                unfold L_shorter_0
                simp [hat, hg1, hce, p1, q1, opIs, isN, hlt', pt, ev_NPutS])
      subst q1 q2
      rw [iRange_len] at q3 q4
      refine ⟨_, _, _, rfl, ?_, kvs2, some (.d (.int z)), x4, x5, x6, rfl, rfl, by omega, fun s e h1 h2 h3 => q4 s e h1 h2 (by omega)⟩
      rw [hc]
      generalize List.map Smp.e W = WE at *
      unfold L_shorter_1
      simp [hWl, r3, el2])
  subst z1 z2
  rw [iRange_len] at z3 z4
  obtain ⟨n, b, w1, w2, w3⟩ := z4 0 N hp (Nat.le_refl _) (by omega)
  rw [← hN, cutL_all] at w2 w3
  have g := nget_of kvs 0 N w1
  refine ⟨n, b, ?_, w2, w3⟩
  unfold F_shorter B_shorter
  rw [pfOf_ap]
  have n1 : ¬ ((N : Int) > 60) := by omega
  have n2 : ¬ (N = 0) := by omega
  rw [Int.add_sub_cancel, Int.toNat_natCast] at el
  generalize List.map Smp.e W = WE at *
  unfold ent at g
  generalize qE b = BE at *
  rw [show ((0 : Nat) : Int) = 0 from rfl] at g
  simp [hWl, n1, n2, c_LONGEST, r1, r2, el, g]
theorem shorter_no : F_shorter [.tuple [.tuple [], .tuple []]] = .ok (.tuple [.tuple [], .tuple []]) := by
  unfold F_shorter B_shorter
  rw [pfOf_ap]
  simp [c_LONGEST]
end Lw

namespace Lw
open PySem L2 Wk
def gv (g : Bool) : Str := if g then "go" else "turn"
def kgo (g : Bool) (k : Int) : Int := if g then k else 1
def ktu (g : Bool) (k : Int) : Int := if g then 1 else k
theorem times_ev (a : Amt) (k : Int) (hk : k.natAbs < 2 ^ 64) : F_times_over [a.e, .int k] = .ok (a.mul k).e := by
  have m1 : ∀ i, mulOk i k = true := fun i => mulOk_of (.inr hk)
  unfold F_times_over B_times_over
  rw [pfOf_ap]
  cases a with
  | int i => simp [Amt.e, Amt.mul, isTy, m1]
  | cnt t m => simp [Amt.e, Amt.mul, isTy, m1]
  | num t j m =>
    simp only [Amt.e, Amt.mul]
    generalize nName j = nj
    simp [isTy, m1]
theorem with_step {m : Nat} {g : Bool} {k : Int} (hk : k.natAbs < 2 ^ 64) (ih : ∀ b : List Stm, bDeep b < m → bSize b < 100000 → pfS (Rec_with_amounts m 0) [.tuple (bE b), .str (gv g), .int k] = .ok (.tuple (bE (bOv (kgo g k) (ktu g k) b)))) (s : Stm) (hs : s.deep < m + 1) (hl : s.size < 100000) (L : List D) (hL : L.length < 100000) (e0 e5 : Option U) :
    ∃ e5', L_with_amounts_0 (Rec_with_amounts m) [e0, some (.d (.str (gv g))), some (.d (.int k)), some (.ref 0), some (.d s.e), e5] [.lst L] = .next [e0, some (.d (.str (gv g))), some (.d (.int k)), some (.ref 0), some (.d s.e), e5'] [.lst (L ++ [(s.ov (kgo g k) (ktu g k)).e])] := by
  have hf : fits (L.length + 1) = true := fits_of (by omega)
  have q : ∀ (f g : Str), decide (f = g) = false → ¬ f = g := fun f g e => of_decide_eq_false e
  unfold L_with_amounts_0
  cases s with
  | go a =>
    have h1 := times_ev a k hk
    refine ⟨e5, ?_⟩
    simp only [Stm.ov, Stm.e]
    cases g
    · simp [gv, kgo, mul_one, q "go" "turn" (by decide), q "go" "again" (by decide), q "go" "if" (by decide), hf]
    · simp [gv, kgo, h1, hf]
  | turn a =>
    have h1 := times_ev a k hk
    refine ⟨e5, ?_⟩
    simp only [Stm.ov, Stm.e]
    cases g
    · simp [gv, ktu, h1, hf]
    · simp [gv, ktu, mul_one, q "turn" "go" (by decide), q "turn" "again" (by decide), q "turn" "if" (by decide), hf]
  | ink a =>
    refine ⟨e5, ?_⟩
    simp only [Stm.ov, Stm.e]
    cases g <;> simp [gv, q "ink" "turn" (by decide), q "ink" "go" (by decide), q "ink" "again" (by decide), q "ink" "if" (by decide), hf]
  | up =>
    refine ⟨e5, ?_⟩
    simp only [Stm.ov, Stm.e]
    cases g <;> simp [gv, q "up" "turn" (by decide), q "up" "go" (by decide), q "up" "again" (by decide), q "up" "if" (by decide), hf]
  | down =>
    refine ⟨e5, ?_⟩
    simp only [Stm.ov, Stm.e]
    cases g <;> simp [gv, q "down" "turn" (by decide), q "down" "go" (by decide), q "down" "again" (by decide), q "down" "if" (by decide), hf]
  | mark i =>
    refine ⟨e5, ?_⟩
    simp only [Stm.ov, Stm.e]
    cases g <;> simp [gv, q "mark" "turn" (by decide), q "mark" "go" (by decide), q "mark" "again" (by decide), q "mark" "if" (by decide), hf]
  | back i =>
    refine ⟨e5, ?_⟩
    simp only [Stm.ov, Stm.e]
    cases g <;> simp [gv, q "back" "turn" (by decide), q "back" "go" (by decide), q "back" "again" (by decide), q "back" "if" (by decide), hf]
  | call w as =>
    refine ⟨e5, ?_⟩
    simp only [Stm.ov, Stm.e]
    generalize as.map Amt.e = AE
    cases g <;> simp [gv, q "do" "turn" (by decide), q "do" "go" (by decide), q "do" "again" (by decide), q "do" "if" (by decide), hf]
  | again a b =>
    simp only [Stm.deep] at hs
    simp only [Stm.size] at hl
    have h1 := ih b (by omega) (by omega)
    refine ⟨e5, ?_⟩
    simp only [Stm.ov, Stm.e]
    generalize bE b = B at *
    generalize bE (bOv (kgo g k) (ktu g k) b) = B' at *
    cases g
    · simp only [gv, Bool.false_eq_true, if_false] at h1
      simp [gv, q "again" "turn" (by decide), h1, hf]
    · simp only [gv, if_true] at h1
      simp [gv, q "again" "go" (by decide), h1, hf]
  | iff a b c =>
    simp only [Stm.deep] at hs
    simp only [Stm.size] at hl
    have h1 := ih b (by omega) (by omega)
    have h2 := ih c (by omega) (by omega)
    refine ⟨some (.d (.tuple (bE (bOv (kgo g k) (ktu g k) b)))), ?_⟩
    simp only [Stm.ov, Stm.e]
    generalize bE b = B at *
    generalize bE (bOv (kgo g k) (ktu g k) b) = B' at *
    generalize bE c = C at *
    generalize bE (bOv (kgo g k) (ktu g k) c) = C' at *
    cases g
    · simp only [gv, Bool.false_eq_true, if_false] at h1 h2
      simp [gv, q "if" "turn" (by decide), q "if" "again" (by decide), h1, h2, hf]
    · simp only [gv, if_true] at h1 h2
      simp [gv, q "if" "go" (by decide), q "if" "again" (by decide), h1, h2, hf]
theorem with_loop {m : Nat} {g : Bool} {k : Int} (hk : k.natAbs < 2 ^ 64) (ih : ∀ b : List Stm, bDeep b < m → bSize b < 100000 → pfS (Rec_with_amounts m 0) [.tuple (bE b), .str (gv g), .int k] = .ok (.tuple (bE (bOv (kgo g k) (ktu g k) b)))) (e0 : Option U) : ∀ (b : List Stm) (L : List D) (e4 e5 : Option U), bDeep b < m + 1 → bSize b < 100000 → L.length + b.length < 100000 →
    ∃ e4' e5', forGo (gN 4) (L_with_amounts_0 (Rec_with_amounts m)) ((bE b).map U.d) [e0, some (.d (.str (gv g))), some (.d (.int k)), some (.ref 0), e4, e5] [.lst L] = .next [e0, some (.d (.str (gv g))), some (.d (.int k)), some (.ref 0), e4', e5'] [.lst (L ++ bE (bOv (kgo g k) (ktu g k) b))]
  | [], L, e4, e5, _, _, _ => ⟨e4, e5, by simp [bE, bOv]⟩
  | s :: r, L, e4, e5, hd, hz, hl => by
    rw [bDeep] at hd
    rw [bSize] at hz
    rw [List.length_cons] at hl
    obtain ⟨f5, st⟩ := with_step hk ih s (by omega) (by omega) L (by omega) e0 e5
    obtain ⟨f4, g5, r1⟩ := with_loop hk ih e0 r (L ++ [(s.ov (kgo g k) (ktu g k)).e]) (some (.d s.e)) f5 (by omega) (by omega) (by simp; omega)
    refine ⟨f4, g5, ?_⟩
    rw [bE, List.map_cons, ev_forC]
    simp only [ev_gN, List.set_cons_succ, List.set_cons_zero]
    rw [st]
    simp only [SRes.seq_next]
    rw [r1, bOv, bE]
    simp
theorem with_ev {g : Bool} {k : Int} (hk : k.natAbs < 2 ^ 64) : ∀ (m : Nat) (b : List Stm), bDeep b < m → bSize b < 100000 → pfS (Rec_with_amounts m 0) [.tuple (bE b), .str (gv g), .int k] = .ok (.tuple (bE (bOv (kgo g k) (ktu g k) b)))
  | 0, b, h, _ => absurd h (Nat.not_lt_zero _)
  | m + 1, b, h, hz => by
    have e : Rec_with_amounts (m + 1) 0 = sfOf 6 (B_with_amounts (Rec_with_amounts m)) := rfl
    obtain ⟨f4, f5, lp⟩ := with_loop hk (with_ev hk m) (some (.d (.tuple (bE b)))) b [] none none h hz (by have := len_size b; simp; omega)
    rw [List.nil_append] at lp
    unfold pfS
    rw [e, sfOf_ap]
    unfold B_with_amounts
    have ft : fTuple [.ref 0] [.lst (bE (bOv (kgo g k) (ktu g k) b))] = .ok (.d (.tuple (bE (bOv (kgo g k) (ktu g k) b)))) [.lst (bE (bOv (kgo g k) (ktu g k) b))] := rfl
    generalize bE (bOv (kgo g k) (ktu g k) b) = B' at *
    generalize bE b = B at *
    simp [lp, ft]
theorem with_ev' {g : Bool} {k : Int} (hk : k.natAbs < 2 ^ 64) {b : List Stm} (hd : bDeep b ≤ 100) (hz : bSize b < 100000) : pfS F_with_amounts [.tuple (bE b), .str (gv g), .int k] = .ok (.tuple (bE (bOv (kgo g k) (ktu g k) b))) := with_ev hk 150 b (by omega) hz
theorem all_ev {g : Bool} {k : Int} (hk : k.natAbs < 2 ^ 64) {ws : List Wrd} {b : List Stm} (hd : bDeep b ≤ 100) (hz : bSize b < 100000) (hw : ∀ x ∈ ws, bDeep x.body ≤ 100 ∧ bSize x.body < 100000) (hl : ws.length ≤ 1000) : F_all_amounts [progE ws b, .str (gv g), .int k] = .ok (progE (ws.map (Wrd.ov (kgo g k) (ktu g k))) (bOv (kgo g k) (ktu g k) b)) := by
  have h1 := with_ev' (g := g) hk hd hz
  have lc : ∀ (e0 e3 e4 e5 : Option U) (h : Sto), lcGo (gTup' 3 (gCons' (gN 6) (gCons' (gN 7) (gCons' (gN 8) gNil')))) cYes K_all_amounts_0 [e0, some (.d (.str (gv g))), some (.d (.int k)), e3, e4, e5, none, none, none] ((ws.map Wrd.e).map U.d) [] h = .ok ((ws.map (Wrd.ov (kgo g k) (ktu g k))).map Wrd.e) h := fun e0 e3 e4 e5 h => by
    have := lcGo_mapF (t := gTup' 3 (gCons' (gN 6) (gCons' (gN 7) (gCons' (gN 8) gNil')))) (e := K_all_amounts_0) (env := [e0, some (.d (.str (gv g))), some (.d (.int k)), e3, e4, e5, none, none, none]) (h := h) (fun w : Wrd => U.d w.e) (fun w => (w.ov (kgo g k) (ktu g k)).e) ws [] (fun w hw' => by
      refine ⟨[e0, some (.d (.str (gv g))), some (.d (.int k)), e3, e4, e5, some (.d (.str w.name)), some (.d (.int w.many)), some (.d (.tuple (bE w.body)))], rfl, ?_⟩
      have h2 := with_ev' (g := g) hk (hw w hw').1 (hw w hw').2
      unfold K_all_amounts_0
      simp only [Wrd.e, Wrd.ov]
      generalize bE w.body = B at *
      generalize bE (bOv (kgo g k) (ktu g k) w.body) = B' at *
      simp [h2]) (by simp; omega)
    rw [List.nil_append] at this
    rw [List.map_map, List.map_map]
    exact this
  unfold F_all_amounts B_all_amounts progE
  rw [pfOf_ap]
  generalize (ws.map (Wrd.ov (kgo g k) (ktu g k))).map Wrd.e = WO at *
  generalize ws.map Wrd.e = WE at *
  generalize bE b = B at *
  generalize bE (bOv (kgo g k) (ktu g k) b) = B' at *
  generalize gv g = G at *
  simp [wipeE, lc, h1]
theorem GX.dz {ws : List Wrd} {b : List Stm} {m : Nat} (x : GX ws b m) (hm : m ≤ 50000) : bDeep b ≤ 100 ∧ bSize b < 100000 ∧ (∀ w ∈ ws, bDeep w.body ≤ 100 ∧ bSize w.body < 100000) ∧ ws.length ≤ 1000 := by
  have h1 := x.g.d
  have h2 := x.sz
  have h3 := x.g.l
  have key : ∀ (r : List Wrd) (w : Wrd), w ∈ r → bSize w.body ≤ wSize r := fun r => by
    induction r with
    | nil => intro w hw; cases hw
    | cons a r ih =>
      intro w hw
      rw [wSize]
      rcases List.mem_cons.mp hw with z | z
      · rw [z]; omega
      · have := ih w z; omega
  refine ⟨by omega, by omega, fun w hw => ⟨?_, ?_⟩, by omega⟩
  · obtain ⟨r', _, _, _, k4, _, _⟩ := wsWf_at x.g.w (List.mem_reverse.mpr hw)
    omega
  · have := key ws w hw; omega
theorem far_step {m : Nat} (ih : ∀ b : List Stm, bDeep b < m → pfS (Rec_farthest_go m 0) [.tuple (bE b)] = .ok (.int (bFar b))) (s : Stm) (hs : s.deep < m + 1) (f : Int) (e0 : Option U) (h : Sto) :
    L_farthest_go_0 (Rec_farthest_go m) [e0, some (.d (.int f)), some (.d s.e)] h = .next [e0, some (.d (.int (if 0 ≤ f then max f s.far else f))), some (.d s.e)] h ∨ f < 0 := by
  by_cases hf : f < 0
  · exact .inr hf
  have hf0 : 0 ≤ f := by omega
  rw [if_pos hf0]
  refine .inl ?_
  have q : ∀ (f g : Str), decide (f = g) = false → ¬ f = g := fun f g e => of_decide_eq_false e
  unfold L_farthest_go_0
  have mx0 : max f 0 = f := by omega
  have ab : ∀ i : Int, (if i < 0 then -i else i) = (i.natAbs : Int) := fun i => by split <;> omega
  cases s with
  | go a =>
    simp only [Stm.e, Stm.far]
    cases a with
    | int i => simp [Amt.e, Amt.far, isTy, ab]; omega
    | cnt t k => simp [Amt.e, Amt.far, isTy, Int.max_assoc, ab]
    | num t j k =>
      simp only [Amt.e, Amt.far]
      generalize nName j = nj
      simp [isTy, Int.max_assoc, ab]
  | turn a => simp [Stm.e, Stm.far, q "turn" "go" (by decide), q "turn" "again" (by decide), q "turn" "if" (by decide), mx0]
  | ink a => simp [Stm.e, Stm.far, q "ink" "go" (by decide), q "ink" "again" (by decide), q "ink" "if" (by decide), mx0]
  | up => simp [Stm.e, Stm.far, q "up" "go" (by decide), q "up" "again" (by decide), q "up" "if" (by decide), mx0]
  | down => simp [Stm.e, Stm.far, q "down" "go" (by decide), q "down" "again" (by decide), q "down" "if" (by decide), mx0]
  | mark i => simp [Stm.e, Stm.far, q "mark" "go" (by decide), q "mark" "again" (by decide), q "mark" "if" (by decide), mx0]
  | back i => simp [Stm.e, Stm.far, q "back" "go" (by decide), q "back" "again" (by decide), q "back" "if" (by decide), mx0]
  | call w as =>
    simp only [Stm.e, Stm.far]
    generalize as.map Amt.e = AE
    simp [q "do" "go" (by decide), q "do" "again" (by decide), q "do" "if" (by decide), mx0]
  | again a b =>
    simp only [Stm.deep] at hs
    have h1 := ih b (by omega)
    simp only [Stm.e, Stm.far]
    generalize bE b = B at *
    generalize bFar b = F at *
    simp [q "again" "go" (by decide), h1]
    omega
  | iff a b c =>
    simp only [Stm.deep] at hs
    have h1 := ih b (by omega)
    have h2 := ih c (by omega)
    simp only [Stm.e, Stm.far]
    generalize bE b = B at *
    generalize bE c = C at *
    simp [q "if" "go" (by decide), q "if" "again" (by decide), h1, h2, Int.max_assoc]
theorem far_loop {m : Nat} (ih : ∀ b : List Stm, bDeep b < m → pfS (Rec_farthest_go m 0) [.tuple (bE b)] = .ok (.int (bFar b))) (e0 : Option U) (h : Sto) : ∀ (b : List Stm) (f : Int) (e2 : Option U), 0 ≤ f → bDeep b < m + 1 →
    ∃ e2', forGo (gN 2) (L_farthest_go_0 (Rec_farthest_go m)) ((bE b).map U.d) [e0, some (.d (.int f)), e2] h = .next [e0, some (.d (.int (max f (bFar b)))), e2'] h
  | [], f, e2, hf, _ => ⟨e2, by rw [bE, List.map_nil, forGo_nil, bFar, show max f 0 = f by omega]⟩
  | s :: r, f, e2, hf, hd => by
    rw [bDeep] at hd
    have st := (far_step ih s (by omega) f e0 h).resolve_right (by omega)
    rw [if_pos hf] at st
    obtain ⟨f2, lp⟩ := far_loop ih e0 h r (max f s.far) (some (.d s.e)) (by omega) (by omega)
    refine ⟨f2, ?_⟩
    rw [bE, List.map_cons, forGo_cons, ev_gN]
    simp only [List.set_cons_succ, List.set_cons_zero]
    rw [st, SRes.seq_next, lp, bFar, Int.max_assoc]
theorem far_ev : ∀ (m : Nat) (b : List Stm), bDeep b < m → pfS (Rec_farthest_go m 0) [.tuple (bE b)] = .ok (.int (bFar b))
  | 0, b, h => absurd h (Nat.not_lt_zero _)
  | m + 1, b, h => by
    have e : Rec_farthest_go (m + 1) 0 = sfOf 3 (B_farthest_go (Rec_farthest_go m)) := rfl
    obtain ⟨f2, lp⟩ := far_loop (far_ev m) (some (.d (.tuple (bE b)))) [] b 0 none (Int.le_refl _) h
    rw [show max (0 : Int) (bFar b) = bFar b by have := bFar_nn b; omega] at lp
    unfold pfS
    rw [e, List.map_cons, List.map_nil, sfOf_ap]
    unfold B_farthest_go
    generalize bFar b = F at *
    generalize bE b = B at *
    simp [lp]
/-- the bodies that larger looks at -/
def lgOk (ws : List Wrd) (b : List Stm) : Prop := (∀ x ∈ ws, bFar x.body ≤ 1000000) ∧ bFar b ≤ 1000000
theorem lg_step (e0 e1 e2 e3 e4 e5 e6 e7 e8 : Option U) (h : Sto) (b : List Stm) (hd : bDeep b < 150) : L_larger_1 [e0, e1, e2, some (.d (.tuple (bE b))), e4, e5, e6, e7, e8] h = if bFar b ≤ 1000000 then .next [e0, e1, e2, some (.d (.tuple (bE b))), e4, e5, e6, e7, e8] h else .exc "TooGreat" [e0, e1, e2, some (.d (.tuple (bE b))), e4, e5, e6, e7, e8] h := by
  have hF : Rec_farthest_go 150 0 = F_farthest_go := rfl
  have f := far_ev 150 b hd
  rw [hF] at f
  unfold L_larger_1 c_FARTHEST
  generalize bFar b = F at *
  generalize bE b = B at *
  by_cases hz : F ≤ 1000000
  · have hz' : ¬ 1000000 < F := by omega
    simp [f, hz, hz']
  · have hz' : 1000000 < F := by omega
    simp [f, hz, hz']
theorem lg_go (e0 e1 e2 e4 e5 e6 e7 e8 : Option U) (h : Sto) : ∀ (bs : List (List Stm)) (e3 : Option U), (∀ b ∈ bs, bDeep b < 150) →
    ((∀ b ∈ bs, bFar b ≤ 1000000) → ∃ e3', forGo (gN 3) L_larger_1 ((bs.map fun b => PyData.tuple (bE b)).map U.d) [e0, e1, e2, e3, e4, e5, e6, e7, e8] h = .next [e0, e1, e2, e3', e4, e5, e6, e7, e8] h) ∧
    ((∃ b ∈ bs, ¬ bFar b ≤ 1000000) → ∃ env, forGo (gN 3) L_larger_1 ((bs.map fun b => PyData.tuple (bE b)).map U.d) [e0, e1, e2, e3, e4, e5, e6, e7, e8] h = .exc "TooGreat" env h)
  | [], e3, _ => ⟨fun _ => ⟨e3, rfl⟩, fun ⟨b, hb, _⟩ => nomatch hb⟩
  | b :: r, e3, hd => by
    have st := lg_step e0 e1 e2 e3 e4 e5 e6 e7 e8 h b (hd b List.mem_cons_self)
    obtain ⟨i1, i2⟩ := lg_go e0 e1 e2 e4 e5 e6 e7 e8 h r (some (.d (.tuple (bE b)))) fun x hx => hd x (List.mem_cons_of_mem _ hx)
    have un : forGo (gN 3) L_larger_1 (((b :: r).map fun b => PyData.tuple (bE b)).map U.d) [e0, e1, e2, e3, e4, e5, e6, e7, e8] h = (L_larger_1 [e0, e1, e2, some (.d (.tuple (bE b))), e4, e5, e6, e7, e8] h).seq (forGo (gN 3) L_larger_1 ((r.map fun b => PyData.tuple (bE b)).map U.d)) := by
      rw [List.map_cons, List.map_cons, forGo_cons, ev_gN]
      simp only [List.set_cons_succ, List.set_cons_zero]
    rw [un, st]
    by_cases hz : bFar b ≤ 1000000
    · rw [if_pos hz, SRes.seq_next]
      refine ⟨fun H => i1 fun x hx => H x (List.mem_cons_of_mem _ hx), fun ⟨x, hx, hn⟩ => ?_⟩
      rcases List.mem_cons.mp hx with z | z
      · subst z; exact absurd hz hn
      · exact i2 ⟨x, z, hn⟩
    · rw [if_neg hz]
      refine ⟨fun H => absurd (H b List.mem_cons_self) hz, fun _ => ⟨_, rfl⟩⟩
theorem larger_ev {k : Int} (hk : k.natAbs < 2 ^ 64) {ws : List Wrd} {b : List Stm} (hd : bDeep b ≤ 100) (hz : bSize b < 100000) (hw : ∀ x ∈ ws, bDeep x.body ≤ 100 ∧ bSize x.body < 100000) (hl : ws.length ≤ 900) (ho : ∀ b : List Stm, bDeep (bOv k 1 b) = bDeep b) :
    F_larger [progE ws b, .int k] = if ask (lgOk (ws.map (Wrd.ov k 1)) (bOv k 1 b)) then .ok (progE (ws.map (Wrd.ov k 1)) (bOv k 1 b)) else .exc "TooGreat" := by
  have ea := all_ev (g := true) hk hd hz hw (by omega)
  have e1 : gv true = "go" := rfl
  have e2 : kgo true k = k := rfl
  have e3 : ktu true k = 1 := rfl
  rw [e1, e2, e3] at ea
  generalize hws : ws.map (Wrd.ov k 1) = ws2 at *
  generalize hb2 : bOv k 1 b = b2 at *
  have hl2 : ws2.length ≤ 900 := by rw [← hws, List.length_map]; exact hl
  have hd2 : ∀ x ∈ ws2, bDeep x.body < 150 := fun x hx => by
    rw [← hws] at hx
    obtain ⟨y, hy, rfl⟩ := List.mem_map.mp hx
    have := (hw y hy).1
    show bDeep (bOv k 1 y.body) < 150
    rw [ho]
    omega
  have lc : ∀ (f0 f1 f2 f3 f4 f5 : Option U) (h : Sto), lcGo (gTup' 3 (gCons' (gN 6) (gCons' (gN 7) (gCons' (gN 8) gNil')))) cYes K_larger_0 [f0, f1, f2, f3, f4, f5, none, none, none] ((ws2.map Wrd.e).map U.d) [] h = .ok (ws2.map fun x => .tuple (bE x.body)) h := fun f0 f1 f2 f3 f4 f5 h => by
    have := lcGo_mapF (t := gTup' 3 (gCons' (gN 6) (gCons' (gN 7) (gCons' (gN 8) gNil')))) (e := K_larger_0) (env := [f0, f1, f2, f3, f4, f5, none, none, none]) (h := h) (fun w : Wrd => U.d w.e) (fun w => .tuple (bE w.body)) ws2 [] (fun w hw' => by
      refine ⟨[f0, f1, f2, f3, f4, f5, some (.d (.str w.name)), some (.d (.int w.many)), some (.d (.tuple (bE w.body)))], rfl, ?_⟩
      unfold K_larger_0
      simp) (by simp; omega)
    rw [List.nil_append] at this
    rw [List.map_map]
    exact this
  have hm : (ws2.map fun x : Wrd => PyData.tuple (bE x.body)) ++ [.tuple (bE b2)] = ((ws2.map Wrd.body ++ [b2]).map fun b => PyData.tuple (bE b)) := by simp
  have ad := fun h => addLL (ws2.map fun x : Wrd => PyData.tuple (bE x.body)) [.tuple (bE b2)] h (by simp; omega)
  rw [hm] at ad
  obtain ⟨l1, l2⟩ := lg_go (some (.d (progE ws b))) (some (.d (.int k))) (some (.d (progE ws2 b2))) (some (.d (.tuple (ws.map Wrd.e)))) (some (.d (.tuple (bE b)))) none none none [] (ws2.map Wrd.body ++ [b2]) none (fun x hx => by
    rcases List.mem_append.mp hx with z | z
    · obtain ⟨y, hy, rfl⟩ := List.mem_map.mp z
      exact hd2 y hy
    · rw [List.mem_singleton.mp z, ← hb2, ho]; omega)
  unfold F_larger B_larger
  rw [pfOf_ap]
  by_cases hq : lgOk ws2 b2
  · rw [if_pos (ask_t hq)]
    obtain ⟨e3', lp⟩ := l1 fun x hx => by
      rcases List.mem_append.mp hx with z | z
      · obtain ⟨y, hy, rfl⟩ := List.mem_map.mp z
        exact hq.1 y hy
      · rw [List.mem_singleton.mp z]; exact hq.2
    unfold progE at *
    generalize ((ws2.map Wrd.body ++ [b2]).map fun b => PyData.tuple (bE b)) = LL at *
    generalize ws2.map Wrd.e = W2 at *
    generalize ws.map Wrd.e = W1 at *
    generalize (ws2.map fun x : Wrd => PyData.tuple (bE x.body)) = W3 at *
    generalize bE b = B1 at *
    generalize bE b2 = B2 at *
    simp [ea, wipeE, lc, ad, lp]
  · have hqf : ask (lgOk ws2 b2) = false := by
      cases z : ask (lgOk ws2 b2) with
      | false => rfl
      | true => exact absurd (ask_iff.mp z) hq
    rw [hqf]
    obtain ⟨env, lp⟩ := l2 (by
      by_cases hx : bFar b2 ≤ 1000000
      · have : ¬ ∀ x ∈ ws2, bFar x.body ≤ 1000000 := fun z => hq ⟨z, hx⟩
        simp only [Classical.not_forall] at this
        obtain ⟨x, hx1, hx2⟩ := this
        exact ⟨x.body, List.mem_append_left _ (List.mem_map.mpr ⟨x, hx1, rfl⟩), hx2⟩
      · exact ⟨b2, List.mem_append_right _ (List.mem_singleton.mpr rfl), hx⟩)
    unfold progE at *
    generalize ((ws2.map Wrd.body ++ [b2]).map fun b => PyData.tuple (bE b)) = LL at *
    generalize ws2.map Wrd.e = W2 at *
    generalize ws.map Wrd.e = W1 at *
    generalize (ws2.map fun x : Wrd => PyData.tuple (bE x.body)) = W3 at *
    generalize bE b = B1 at *
    generalize bE b2 = B2 at *
    simp [ea, wipeE, lc, ad, lp]
end Lw

namespace Lw
open PySem L2 Wk
theorem ask_larger (P : D) (n : Int) : F_law_asked [.int 0, P, .int n] = F_larger [P, .int n] := by
  unfold F_law_asked B_law_asked
  rw [pfOf_ap]
  cases e : F_larger [P, .int n] <;> simp [e]
theorem ask_turned (P : D) (n : Int) : F_law_asked [.int 1, P, .int n] = F_turned [P, .int n] := by
  unfold F_law_asked B_law_asked
  rw [pfOf_ap]
  cases e : F_turned [P, .int n] <;> simp [e]
theorem ask_shorter (P : D) (n : Int) : F_law_asked [.int 2, P, .int n] = F_shorter [P] := by
  unfold F_law_asked B_law_asked
  rw [pfOf_ap]
  cases e : F_shorter [P] <;> simp [e]
theorem eq_refL (n : Bool) (xs : List D) (sh : SeqAt.shaped (.list xs) = true) : opEqB n (.ref 0) (.d (.list xs)) [.lst xs] = .ok (.d (.bool (!n))) [.lst xs] := by
  have h1 := ev_eqS n [.lst xs] (x := .list xs) (by intro s z; cases z) sh
  have h2 : opEqB n (.ref 0) (.d (.list xs)) [.lst xs] = opEqB n (.d (.list xs)) (.d (.list xs)) [.lst xs] := by
    unfold opEqB
    with_unfolding_all rfl
  rw [h2, h1]
theorem ref_ok {w n : Int} {P d : D} (e : F_law_asked [.int w, P, .int n] = .ok d) : F_law_refused [.int w, P, .int n] = .ok (.int 0) := by
  have ey : ∀ e3 e4 e5, Y_law_refused_0 [some (.d (.int w)), some (.d P), some (.d (.int n)), e3, e4, e5] [] = .next [some (.d (.int w)), some (.d P), some (.d (.int n)), e3, e4, e5] [] := fun e3 e4 e5 => by
    unfold Y_law_refused_0
    simp [e]
  have ez : ∀ e3 e4 e5, Y_law_refused_1 [some (.d (.int w)), some (.d P), some (.d (.int n)), e3, e4, e5] [] = .next [some (.d (.int w)), some (.d P), some (.d (.int n)), e3, e4, e5] [] := fun e3 e4 e5 => by
    unfold Y_law_refused_1
    simp [e]
  have ne : ∀ h, opEqB true (.d .none) (.d (.list [.bool false, .bool false, .bool true, .bool false])) h = .ok (.d (.bool true)) h := fun h => by
    rw [ev_eqD true h (by intro s z; cases z) ((Shp.none 1).shaped (by decide)) (Shp.shaped (Shp.list (k := 1) (shp_cons (.bool _ _) (shp_cons (.bool _ _) (shp_cons (.bool _ _) (shp_cons (.bool _ _) shp_nil))))) (by decide))]
    rfl
  unfold F_law_refused B_law_refused
  rw [pfOf_ap]
  simp only [List.map_cons, List.map_nil, List.length_cons, List.length_nil, List.cons_append, List.nil_append]
  rw [show (List.replicate (6 - (0 + 1 + 1 + 1)) none : List (Option U)) = [none, none, none] from rfl]
  simp only [ev_Seq, ev_Set, ev_C, Res.then_ok, SRes.seq_next, List.set_cons_succ, List.set_cons_zero, sTry, sTryAs, ey, ez]
  simp [ne]
theorem ref_exc {w n : Int} {P : D} (x : Str) (k : Int) (b1 b2 : Bool) (hb : (x = "TooGreat" ∧ k = 1 ∧ b1 = true ∧ b2 = false) ∨ (x = "TooLong" ∧ k = 2 ∧ b1 = false ∧ b2 = true)) (e : F_law_asked [.int w, P, .int n] = .exc x) : F_law_refused [.int w, P, .int n] = .ok (.int k) := by
  have ey : ∀ e3 e4 e5, Y_law_refused_0 [some (.d (.int w)), some (.d P), some (.d (.int n)), e3, e4, e5] [] = .exc x [some (.d (.int w)), some (.d P), some (.d (.int n)), e3, e4, e5] [] := fun e3 e4 e5 => by
    unfold Y_law_refused_0
    simp [e]
  have ez : ∀ e3 e4 e5, Y_law_refused_1 [some (.d (.int w)), some (.d P), some (.d (.int n)), e3, e4, e5] [] = .exc x [some (.d (.int w)), some (.d P), some (.d (.int n)), e3, e4, e5] [] := fun e3 e4 e5 => by
    unfold Y_law_refused_1
    simp [e]
  have x1 : exm "TooGreat" "TooGreat" = some true := by with_unfolding_all rfl
  have x2 : exm "TooLong" "TooGreat" = some false := by with_unfolding_all rfl
  have x3 : exm "TooLong" "TooLong" = some true := by with_unfolding_all rfl
  have x4 : exm x "HouseError" = some true := by rcases hb with ⟨rfl, _⟩ | ⟨rfl, _⟩ <;> with_unfolding_all rfl
  have c1 : exC.contains x = true := by rcases hb with ⟨rfl, _⟩ | ⟨rfl, _⟩ <;> with_unfolding_all rfl
  have k1 : kim x "TooGreat" = some b1 := by rcases hb with ⟨rfl, rfl, rfl, rfl⟩ | ⟨rfl, rfl, rfl, rfl⟩ <;> with_unfolding_all rfl
  have k2 : kim x "TooLong" = some b2 := by rcases hb with ⟨rfl, rfl, rfl, rfl⟩ | ⟨rfl, rfl, rfl, rfl⟩ <;> with_unfolding_all rfl
  have k3 : kim x "ValueError" = some true := by rcases hb with ⟨rfl, rfl, rfl, rfl⟩ | ⟨rfl, rfl, rfl, rfl⟩ <;> with_unfolding_all rfl
  have k4 : kiAny kim x ["NoMark", "NoProgram"] = some false := by rcases hb with ⟨rfl, rfl, rfl, rfl⟩ | ⟨rfl, rfl, rfl, rfl⟩ <;> with_unfolding_all rfl
  have k5 : kiAny kim x ["NoText", "NotWhole"] = some false := by rcases hb with ⟨rfl, rfl, rfl, rfl⟩ | ⟨rfl, rfl, rfl, rfl⟩ <;> with_unfolding_all rfl
  have et : ∀ hx, tryGo exm x [some (.d (.int w)), some (.d P), some (.d (.int n)), some (.d (.int 0)), some (.d .none), none] hx [("TooGreat", sSet 3 (eC (.int 1))), ("TooLong", sSet 3 (eC (.int 2)))] = .next [some (.d (.int w)), some (.d P), some (.d (.int n)), some (.d (.int k)), some (.d .none), none] hx := fun hx => by
    rcases hb with ⟨rfl, rfl, rfl, rfl⟩ | ⟨rfl, rfl, rfl, rfl⟩
    · simp [tryGo, x1, SRes.noEx]
    · simp [tryGo, x2, x3, SRes.noEx]
  have es : ∀ a, S_law_refused_2 a x [some (.d (.int w)), some (.d P), some (.d (.int n)), some (.d (.int k)), some (.d .none), some (.exn a)] [] = .next [some (.d (.int w)), some (.d P), some (.d (.int n)), some (.d (.int k)), some (.ref 0), some (.exn a)] [.lst [.bool b1, .bool b2, .bool true, .bool false]] := fun a => by
    have hf : fits 4 = true := fits_of (by decide)
    unfold S_law_refused_2
    simp [eIsE, k1, k2, k3, k4, k5, hf]
  have ea : (allA fun a => ((S_law_refused_2 a x ([some (.d (.int w)), some (.d P), some (.d (.int n)), some (.d (.int k)), some (.d .none), none].set 5 (some (.exn a))) []).noEx).wipe 5) = .next [some (.d (.int w)), some (.d P), some (.d (.int n)), some (.d (.int k)), some (.ref 0), none] [.lst [.bool b1, .bool b2, .bool true, .bool false]] := allA_of fun a => by
    simp only [List.set_cons_succ, List.set_cons_zero, es]
    rfl
  have ne : opEqB true (.ref 0) (.d (.list [.bool b1, .bool b2, .bool true, .bool false])) [.lst [.bool b1, .bool b2, .bool true, .bool false]] = .ok (.d (.bool false)) [.lst [.bool b1, .bool b2, .bool true, .bool false]] := eq_refL true _ (Shp.shaped (Shp.list (k := 1) (shp_cons (.bool _ _) (shp_cons (.bool _ _) (shp_cons (.bool _ _) (shp_cons (.bool _ _) shp_nil))))) (by decide))
  have d1 : decide (k = 1) = b1 := by rcases hb with ⟨rfl, rfl, rfl, rfl⟩ | ⟨rfl, rfl, rfl, rfl⟩ <;> rfl
  have d2 : decide (k = 2) = b2 := by rcases hb with ⟨rfl, rfl, rfl, rfl⟩ | ⟨rfl, rfl, rfl, rfl⟩ <;> rfl
  unfold F_law_refused B_law_refused
  rw [pfOf_ap]
  simp only [List.map_cons, List.map_nil, List.length_cons, List.length_nil, List.cons_append, List.nil_append]
  rw [show (List.replicate (6 - (0 + 1 + 1 + 1)) none : List (Option U)) = [none, none, none] from rfl]
  simp only [ev_Seq, ev_Set, ev_C, Res.then_ok, SRes.seq_next, List.set_cons_succ, List.set_cons_zero, sTry, ey, et]
  simp only [List.set_cons_succ, List.set_cons_zero] at ea
  simp only [sTryAs, ez, x4, c1, if_true, ea, List.set_cons_succ, List.set_cons_zero, SRes.seq_next]
  simp [d1, d2, ne]
end Lw

namespace Lw
open PySem L2 Wk
theorem is_int_ev (i a b : Int) : F_is_int [.int i, .int a, .int b] = .ok (.bool (decide (a ≤ i ∧ i ≤ b))) := by
  unfold F_is_int B_is_int
  rw [pfOf_ap]
  by_cases h1 : a ≤ i
  · by_cases h2 : i ≤ b
    · simp [isTy, opIs, isB, h1, h2]
    · simp [isTy, opIs, isB, h1, h2]
  · simp [isTy, opIs, isB, h1]
theorem is_int_tup (xs : List D) (a b : D) : F_is_int [.tuple xs, a, b] = .ok (.bool false) := by
  unfold F_is_int B_is_int
  rw [pfOf_ap]
  simp [isTy]
theorem name_loop (e0 : Option U) : ∀ (l : List Nat) (e1 : Option U), (∀ c ∈ l, c ∈ letters.cps.toList) → ∃ e1', forGo (gN 1) L_is_name_0 (l.map fun c => U.d (.str ⟨#[c]⟩)) [e0, e1] [] = .next [e0, e1'] []
  | [], e1, _ => ⟨e1, rfl⟩
  | c :: r, e1, h => by
    obtain ⟨f1, ih⟩ := name_loop e0 r (some (.d (.str ⟨#[c]⟩))) fun x hx => h x (List.mem_cons_of_mem _ hx)
    refine ⟨f1, ?_⟩
    have hin : inOf (.d (.str ⟨#[c]⟩)) (.d c_LETTERS) [] = some true := by
      show some (decide (c ∈ letters.cps.toList)) = some true
      rw [decide_eq_true (h c List.mem_cons_self)]
    rw [List.map_cons, ev_forC]
    simp only [ev_gN, List.set_cons_succ, List.set_cons_zero]
    have el : L_is_name_0 [e0, some (.d (.str ⟨#[c]⟩))] [] = .next [e0, some (.d (.str ⟨#[c]⟩))] [] := by
      unfold L_is_name_0
      simp [hin]
    rw [el]
    exact ih
theorem is_name_ev {z : Str} (h : nmOk z) : F_is_name [.str z] = .ok (.bool true) := by
  obtain ⟨h1, h2, h3⟩ := h
  obtain ⟨e1', lp⟩ := name_loop (some (.d (.str z))) z.cps.toList none h3
  have hl : fLen [.d (.str z)] [] = .ok (.d (.int z.length)) [] := by
    show (match (if fits z.length then some z.length else none) with | some n => Res.ok (U.d (.int n)) [] | none => .stuck) = _
    rw [fits_of (by omega)]
    rfl
  have a1 : (1 : Int) ≤ (z.length : Int) := by omega
  have a2 : (z.length : Int) ≤ 8 := by omega
  have hc : chars z = z.cps.toList.map fun c => U.d (.str ⟨#[c]⟩) := rfl
  unfold F_is_name B_is_name
  rw [pfOf_ap]
  rw [← hc] at lp
  have so : strOf (.d (.str z)) = some z := rfl
  simp [isTy, hl, a1, a2, so, lp]
theorem amt_ck {f kd : Nat} {ws : List Wrd} {tk dp : Nat} {ic : Bool} {h : Sto} (s : FS f kd ws tk dp ic h) (tk4 : tk ≤ 4) {a : Amt} (wf : a.wf tk) (cn : a.cn ic) : F_check_amount [.d a.e, .ref f] h = .ok (.d .none) h := by
  have hf := s.f
  unfold F_check_amount B_check_amount c_MOST_INT
  rw [sfOf_ap]
  have ii : ∀ i : Int, sm6 i → F_is_int [.int i, .int (-1000000), .int 1000000] = .ok (.bool true) := fun i hi => by
    rw [is_int_ev, decide_eq_true (by unfold sm6 at hi; omega)]
  cases a with
  | int i =>
    have e := ii i wf
    simp [Amt.e, e]
  | cnt t m =>
    have e0 := is_int_tup [.int t, .str "count", .int m] (.int (-1000000)) (.int 1000000)
    have e1 := ii t wf.1
    have e2 := ii m wf.2
    have hic : ic = true := cn
    subst hic
    simp [Amt.e, e0, isTy, e1, e2, hf]
  | num t k m =>
    obtain ⟨w1, w2, w3, w4⟩ := wf
    have e0 := is_int_tup [.int t, .str (nName k), .int m] (.int (-1000000)) (.int 1000000)
    have e1 := ii t w1
    have e2 := ii m w2
    have hin := src_in tk k tk4 w3
    have hnc : ¬ nName k = "count" := by
      have : k = 0 ∨ k = 1 ∨ k = 2 ∨ k = 3 := by omega
      rcases this with z | z | z | z <;> subst z <;> exact of_decide_eq_false (by decide)
    unfold c_SOURCES
    simp only [Amt.e]
    generalize nName k = nk at *
    simp [e0, isTy, e1, e2, hf, hnc, hin]
theorem len_ck (xs : List D) (n : Int) (h : (xs.length : Int) = n) : F_check_length [.tuple xs, .int n] = .ok .none := by
  unfold F_check_length B_check_length
  rw [pfOf_ap]
  simp [h]
theorem do_loop {f kd : Nat} {ws : List Wrd} {tk dp : Nat} {ic : Bool} {h : Sto} (s : FS f kd ws tk dp ic h) (tk4 : tk ≤ 4) (e0 e3 e4 : Option U) : ∀ (as : List Amt) (e2 : Option U), (∀ a ∈ as, a.wf tk) → (∀ a ∈ as, a.cn ic) → ∃ e2', forGo (gN 2) L_check_do_0 ((as.map Amt.e).map U.d) [e0, some (.ref f), e2, e3, e4] h = .next [e0, some (.ref f), e2', e3, e4] h
  | [], e2, _, _ => ⟨e2, rfl⟩
  | a :: r, e2, wf, cn => by
    obtain ⟨f2, ih⟩ := do_loop s tk4 e0 e3 e4 r (some (.d a.e)) (fun x hx => wf x (List.mem_cons_of_mem _ hx)) (fun x hx => cn x (List.mem_cons_of_mem _ hx))
    refine ⟨f2, ?_⟩
    have ea := amt_ck s tk4 (wf a List.mem_cons_self) (cn a List.mem_cons_self)
    rw [List.map_cons, List.map_cons, ev_forC]
    simp only [ev_gN, List.set_cons_succ, List.set_cons_zero]
    have el : L_check_do_0 [e0, some (.ref f), some (.d a.e), e3, e4] h = .next [e0, some (.ref f), some (.d a.e), e3, e4] h := by
      unfold L_check_do_0
      simp [ea]
    rw [el]
    exact ih
theorem do_ck {f kd : Nat} {ws : List Wrd} {tk dp : Nat} {ic : Bool} {h : Sto} (s : FS f kd ws tk dp ic h) (u : ∀ x ∈ ws, ∀ y ∈ ws, x.name = y.name → x = y) (tk4 : tk ≤ 4) {w : Str} {as : List Amt} (wf : (Stm.call w as).wf ws tk) (cn : (Stm.call w as).cn ic) : F_check_do [.d (Stm.call w as).e, .ref f] h = .ok (.d .none) h := by
  rw [Stm.wf] at wf
  simp only [Stm.cn] at cn
  obtain ⟨⟨x, hx, hn, hm⟩, wa⟩ := wf
  have he : (Stm.call w as).e = .tuple [.str "do", .str w, .tuple (as.map Amt.e)] := by rw [Stm.e]
  have hv := valU_kE u hx
  rw [hn] at hv
  have i1 := in_dict s.k w
  have g1 := get_dict s.k w
  rw [hv] at i1 g1
  have hf := s.f
  have cl := len_ck [.str "do", .str w, .tuple (as.map Amt.e)] 3 rfl
  obtain ⟨e2', lp⟩ := do_loop s tk4 (some (.d (.tuple [.str "do", .str w, .tuple (as.map Amt.e)]))) (some (.d (.str w))) (some (.d (.tuple (as.map Amt.e)))) as none wa cn
  have hlen : (((as.map Amt.e).length : Nat) : Int) = (x.many : Int) := by rw [List.length_map, hm]
  have cu : ∀ (a b c : D), cutD [a, b, c] (some 1) none = [b, c] := fun a b c => rfl
  rw [he]
  generalize as.map Amt.e = AE at *
  unfold F_check_do B_check_do
  rw [sfOf_ap]
  simp [cl, cu, isTy, hf, i1, g1, hlen, lp]
def CkS (m : Nat) : Prop := ∀ (s : Stm) (f kd : Nat) (ws : List Wrd) (tk dp : Nat) (ic : Bool) (h : Sto), FS f kd ws tk dp ic h → (∀ x ∈ ws, ∀ y ∈ ws, x.name = y.name → x = y) → tk ≤ 4 → s.wf ws tk → s.cn ic → dp + s.deep ≤ 6 → 2 * s.deep < m → ∃ t, Rec_check_statement m 0 [.d s.e, .ref f] h = .ok (.d (.int s.size)) (h ++ t)
def CkB (m : Nat) : Prop := ∀ (b : List Stm) (f kd : Nat) (ws : List Wrd) (tk dp : Nat) (ic : Bool) (h : Sto), FS f kd ws tk dp ic h → (∀ x ∈ ws, ∀ y ∈ ws, x.name = y.name → x = y) → tk ≤ 4 → bWf ws tk b → bCn ic b → dp + bDeep b ≤ 6 → 2 * bDeep b + 1 < m → ∃ t, Rec_check_statement m 1 [.d (.tuple (bE b)), .ref f] h = .ok (.d (.int (bSize b))) (h ++ t)
theorem body_ck_loop {m : Nat} (st : CkS m) {f kd : Nat} {ws : List Wrd} {tk dp : Nat} {ic : Bool} (u : ∀ x ∈ ws, ∀ y ∈ ws, x.name = y.name → x = y) (tk4 : tk ≤ 4) (e0 : Option U) : ∀ (b : List Stm) (h : Sto) (n : Nat) (e3 : Option U), FS f kd ws tk dp ic h → bWf ws tk b → bCn ic b → dp + bDeep b ≤ 6 → 2 * bDeep b < m →
    ∃ t e3', forGo (gN 3) (L_check_body_0 (Rec_check_statement m)) ((bE b).map U.d) [e0, some (.ref f), some (.d (.int n)), e3] h = .next [e0, some (.ref f), some (.d (.int ((n + bSize b : Nat) : Int))), e3'] (h ++ t)
  | [], h, n, e3, _, _, _, _, _ => ⟨[], e3, by simp [bE, bSize]⟩
  | s :: r, h, n, e3, fs, wf, cn, dp6, hm => by
    rw [bWf] at wf
    rw [bCn] at cn
    rw [bDeep] at dp6 hm
    obtain ⟨t, es⟩ := st s f kd ws tk dp ic h fs u tk4 wf.1 cn.1 (by omega) (by omega)
    obtain ⟨t2, f3, ih⟩ := body_ck_loop st u tk4 e0 r (h ++ t) (n + s.size) (some (.d s.e)) (fs.app t) wf.2 cn.2 (by omega) (by omega)
    refine ⟨t ++ t2, f3, ?_⟩
    rw [bE, List.map_cons, ev_forC]
    simp only [ev_gN, List.set_cons_succ, List.set_cons_zero]
    have el : L_check_body_0 (Rec_check_statement m) [e0, some (.ref f), some (.d (.int n)), some (.d s.e)] h = .next [e0, some (.ref f), some (.d (.int ((n + s.size : Nat) : Int))), some (.d s.e)] (h ++ t) := by
      unfold L_check_body_0
      simp [es]
    rw [el]
    simp only [SRes.seq_next]
    rw [ih, bSize, List.append_assoc, Nat.add_assoc]
theorem body_ck {m : Nat} (st : CkS m) : CkB (m + 1) := by
  intro b f kd ws tk dp ic h fs u tk4 wf cn dp6 hm
  have e : Rec_check_statement (m + 1) 1 = sfOf 4 (B_check_body (Rec_check_statement m)) := rfl
  obtain ⟨t, e3', lp⟩ := body_ck_loop st u tk4 (some (.d (.tuple (bE b)))) b h 0 none fs wf cn dp6 (by omega)
  refine ⟨t, ?_⟩
  rw [Nat.zero_add, show ((0 : Nat) : Int) = 0 from rfl] at lp
  rw [e, sfOf_ap]
  unfold B_check_body
  generalize bE b = B at *
  simp [isTy, lp]
theorem frame_mk (tk kd dp : Nat) (ic : Bool) (h : Sto) : F_Frame__init [.ref h.length, .d (.int tk), .ref kd, .d (.int dp), .d (.bool ic)] (h ++ [.ins "Frame" []]) = .ok (.d .none) (h ++ [.ins "Frame" (ffs tk kd dp ic)]) := by
  unfold F_Frame__init B_Frame__init
  rw [sfOf_ap]
  have q : ∀ (f g : Str), decide (f = g) = false → ¬ f = g := fun f g e => of_decide_eq_false e
  simp [wag0, was0, putG, q "many" "known" (by decide), q "many" "deep" (by decide), q "many" "is_counted" (by decide), q "known" "deep" (by decide), q "known" "is_counted" (by decide), q "deep" "is_counted" (by decide)]
  rfl
theorem within_ck {f kd : Nat} {ws : List Wrd} {tk dp : Nat} {ic : Bool} {h : Sto} (s : FS f kd ws tk dp ic h) (hd : dp < 6) (ia : Bool) : F_Frame_within [.ref f, .d (.bool ia)] h = .ok (.ref h.length) (h ++ [.ins "Frame" (ffs tk kd (dp + 1) (ic || ia))]) := by
  have hf := s.f
  have mk := frame_mk tk kd (dp + 1) (ic || ia) h
  unfold F_Frame_within B_Frame_within c_MOST_DEEP
  rw [sfOf_ap]
  have h6 : ¬ (6 : Int) ≤ (dp : Int) := by omega
  rw [show (((dp + 1 : Nat) : Nat) : Int) = (dp : Int) + 1 by omega] at mk
  cases ic with
  | true =>
    simp only [Bool.true_or] at mk
    simp [hf, h6, mk]
  | false =>
    simp only [Bool.false_or] at mk
    simp [hf, h6, mk]
set_option maxHeartbeats 2000000 in
theorem stm_ck {m : Nat} (bo : CkB m) : CkS (m + 1) := by
  intro s f kd ws tk dp ic h fs u tk4 wf cn dp6 hm
  have e : Rec_check_statement (m + 1) 0 = sfOf 3 (B_check_statement (Rec_check_statement m)) := rfl
  have q : ∀ (f g : Str), decide (f = g) = false → ¬ f = g := fun f g e => of_decide_eq_false e
  have hf := fs.f
  rw [e, sfOf_ap]
  unfold B_check_statement
  cases s with
  | up =>
    have cl := len_ck [.str "up"] 1 rfl
    refine ⟨[], ?_⟩
    simp [Stm.e, Stm.size, isTy, cl]
  | down =>
    have cl := len_ck [.str "down"] 1 rfl
    refine ⟨[], ?_⟩
    simp [Stm.e, Stm.size, isTy, q "down" "up" (by decide), cl]
  | go a =>
    rw [Stm.wf] at wf
    simp only [Stm.cn] at cn
    have ea := amt_ck fs tk4 wf cn
    have cl := len_ck [.str "go", a.e] 2 rfl
    refine ⟨[], ?_⟩
    simp [Stm.e, Stm.size, isTy, q "go" "up" (by decide), q "go" "down" (by decide), cl, ea]
  | turn a =>
    rw [Stm.wf] at wf
    simp only [Stm.cn] at cn
    have ea := amt_ck fs tk4 wf cn
    have cl := len_ck [.str "turn", a.e] 2 rfl
    refine ⟨[], ?_⟩
    simp [Stm.e, Stm.size, isTy, q "turn" "up" (by decide), q "turn" "down" (by decide), q "turn" "go" (by decide), cl, ea]
  | ink a =>
    rw [Stm.wf] at wf
    simp only [Stm.cn] at cn
    have ea := amt_ck fs tk4 wf cn
    have cl := len_ck [.str "ink", a.e] 2 rfl
    refine ⟨[], ?_⟩
    simp [Stm.e, Stm.size, isTy, q "ink" "up" (by decide), q "ink" "down" (by decide), q "ink" "go" (by decide), q "ink" "turn" (by decide), cl, ea]
  | mark i =>
    rw [Stm.wf] at wf
    have cl := len_ck [.str "mark", .int i] 2 rfl
    have ei := is_int_ev i 0 9
    rw [decide_eq_true wf] at ei
    refine ⟨[], ?_⟩
    simp [Stm.e, Stm.size, isTy, q "mark" "up" (by decide), q "mark" "down" (by decide), q "mark" "go" (by decide), q "mark" "turn" (by decide), q "mark" "ink" (by decide), cl, ei]
  | back i =>
    rw [Stm.wf] at wf
    have cl := len_ck [.str "back", .int i] 2 rfl
    have ei := is_int_ev i 0 9
    rw [decide_eq_true wf] at ei
    refine ⟨[], ?_⟩
    simp [Stm.e, Stm.size, isTy, q "back" "up" (by decide), q "back" "down" (by decide), q "back" "go" (by decide), q "back" "turn" (by decide), q "back" "ink" (by decide), q "back" "mark" (by decide), cl, ei]
  | call w as =>
    have ea := do_ck fs u tk4 wf cn
    have he : (Stm.call w as).e = .tuple [.str "do", .str w, .tuple (as.map Amt.e)] := by rw [Stm.e]
    rw [he] at ea ⊢
    generalize as.map Amt.e = AE at *
    refine ⟨[], ?_⟩
    simp [Stm.size, isTy, q "do" "up" (by decide), q "do" "down" (by decide), q "do" "go" (by decide), q "do" "turn" (by decide), q "do" "ink" (by decide), q "do" "mark" (by decide), q "do" "back" (by decide), q "do" "again" (by decide), q "do" "if" (by decide), ea]
  | again a b =>
    rw [Stm.wf] at wf
    simp only [Stm.cn] at cn
    simp only [Stm.deep] at dp6 hm
    have ea := amt_ck fs tk4 wf.1 cn.1
    have cl := len_ck [.str "again", a.e, .tuple (bE b)] 3 rfl
    have wi := within_ck fs (by omega) true
    rw [Bool.or_true] at wi
    obtain ⟨t, eb⟩ := bo b h.length kd ws tk (dp + 1) true _ (fs.new tk (dp + 1) true) u tk4 wf.2 cn.2 (by omega) (by omega)
    have he : (Stm.again a b).e = .tuple [.str "again", a.e, .tuple (bE b)] := by rw [Stm.e]
    have hsz : ((Stm.again a b).size : Int) = 1 + (bSize b : Int) := by simp only [Stm.size]; omega
    rw [he, hsz]
    refine ⟨[.ins "Frame" (ffs tk kd (dp + 1) true)] ++ t, ?_⟩
    rw [← List.append_assoc]
    generalize bE b = B at *
    simp [isTy, q "again" "up" (by decide), q "again" "down" (by decide), q "again" "go" (by decide), q "again" "turn" (by decide), q "again" "ink" (by decide), q "again" "mark" (by decide), q "again" "back" (by decide), cl, ea, hf, wi, eb, -List.append_assoc]
  | iff a b c =>
    rw [Stm.wf] at wf
    simp only [Stm.cn] at cn
    simp only [Stm.deep] at dp6 hm
    have ea := amt_ck fs tk4 wf.1 cn.1
    have cl := len_ck [.str "if", a.e, .tuple (bE b), .tuple (bE c)] 4 rfl
    have wi := within_ck fs (by omega) false
    rw [Bool.or_false] at wi
    obtain ⟨t, eb⟩ := bo b h.length kd ws tk (dp + 1) ic _ (fs.new tk (dp + 1) ic) u tk4 wf.2.1 cn.2.1 (by omega) (by omega)
    have fs2 : FS f kd ws tk dp ic (h ++ [.ins "Frame" (ffs tk kd (dp + 1) ic)] ++ t) := (fs.app _).app _
    have wi2 := within_ck fs2 (by omega) false
    rw [Bool.or_false] at wi2
    obtain ⟨t2, ec⟩ := bo c _ kd ws tk (dp + 1) ic _ (fs2.new tk (dp + 1) ic) u tk4 wf.2.2 cn.2.2 (by omega) (by omega)
    have he : (Stm.iff a b c).e = .tuple [.str "if", a.e, .tuple (bE b), .tuple (bE c)] := by rw [Stm.e]
    have hsz : ((Stm.iff a b c).size : Int) = 1 + (bSize b : Int) + (bSize c : Int) := by simp only [Stm.size]; omega
    have hf2 := fs2.f
    rw [he, hsz]
    refine ⟨[.ins "Frame" (ffs tk kd (dp + 1) ic)] ++ (t ++ ([.ins "Frame" (ffs tk kd (dp + 1) ic)] ++ t2)), ?_⟩
    rw [← List.append_assoc, ← List.append_assoc, ← List.append_assoc]
    generalize bE b = B at *
    generalize bE c = C at *
    generalize h ++ [.ins "Frame" (ffs tk kd (dp + 1) ic)] ++ t = h2 at *
    simp [isTy, q "if" "up" (by decide), q "if" "down" (by decide), q "if" "go" (by decide), q "if" "turn" (by decide), q "if" "ink" (by decide), q "if" "mark" (by decide), q "if" "back" (by decide), q "if" "again" (by decide), cl, ea, hf, wi, eb, hf2, wi2, ec, -List.append_assoc]
theorem ck_all : ∀ m : Nat, CkS m ∧ CkB m
  | 0 => ⟨fun s f kd ws tk dp ic h _ _ _ _ _ _ z => absurd z (Nat.not_lt_zero _), fun s f kd ws tk dp ic h _ _ _ _ _ _ z => absurd z (Nat.not_lt_zero _)⟩
  | m + 1 => ⟨stm_ck (ck_all m).2, body_ck (ck_all m).1⟩
theorem word_ck {kd : Nat} {ws : List Wrd} {h : Sto} (hk : h[kd]? = some (.dct (ws.map kE))) (u : ∀ x ∈ ws, ∀ y ∈ ws, x.name = y.name → x = y) {w : Wrd} (wf : bWf ws w.many w.body) (cn : bCn false w.body) (m4 : w.many ≤ 4) (dp : bDeep w.body ≤ 6) (nm : nmOk w.name) (new : ∀ x ∈ ws, x.name ≠ w.name) : ∃ t, F_check_word [.d w.e, .ref kd] h = .ok (.d (.int (bSize w.body))) (h ++ t) := by
  have fs : FS h.length kd ws w.many 0 false (h ++ [.ins "Frame" (ffs w.many kd 0 false)]) := ⟨wag0 _ _, by rw [List.getElem?_append_left (List.getElem?_eq_some_iff.mp hk).1]; exact hk⟩
  obtain ⟨t, eb⟩ := (ck_all 150).2 w.body h.length kd ws w.many 0 false _ fs u m4 wf cn (by omega) (by omega)
  have hF : Rec_check_statement 150 1 = F_check_body := rfl
  rw [hF] at eb
  have mk := frame_mk w.many kd 0 false h
  have en := is_name_ev nm
  have ei := is_int_ev (w.many : Int) 0 4
  rw [decide_eq_true (by omega)] at ei
  have i1 := in_dict hk w.name
  rw [valU_kN new] at i1
  refine ⟨[.ins "Frame" (ffs w.many kd 0 false)] ++ t, ?_⟩
  rw [← List.append_assoc]
  unfold F_check_word B_check_word c_MOST_NUMBERS Wrd.e
  rw [sfOf_ap]
  rw [show ((0 : Nat) : Int) = 0 from rfl] at mk
  generalize bE w.body = B at *
  simp [isTy, en, i1, ei, mk, eb, -List.append_assoc]
theorem words_ck (P : D) : ∀ (r done : List Wrd) (h : Sto) (n : Nat) (e3 : Option U), h[0]? = some (.dct (done.map kE)) → wsWf (done ++ r).reverse → (∀ x ∈ r, bCn false x.body) → (∀ x ∈ r, nmOk x.name) → (done ++ r).length ≤ 1000 →
    ∃ (t : Sto) (h' : Sto) (e3' : Option U), forGo (gN 3) L_size_checked_0 ((r.map Wrd.e).map U.d) [some (.d P), some (.ref 0), some (.d (.int n)), e3] h = .next [some (.d P), some (.ref 0), some (.d (.int ((n + wSize r : Nat) : Int))), e3'] h' ∧ h'[0]? = some (.dct ((done ++ r).map kE))
  | [], done, h, n, e3, hk, _, _, _, _ => ⟨[], h, e3, by simp [wSize], by simpa using hk⟩
  | w :: r, done, h, n, e3, hk, wr, cn, nm, hl => by
    have ha : done ++ w :: r = (done ++ [w]) ++ r := by simp
    have wr0 : wsWf (w :: done.reverse) := by
      have : (done ++ w :: r).reverse = r.reverse ++ (w :: done.reverse) := by simp
      rw [this] at wr
      exact wsWf_tail wr
    obtain ⟨h1, h2, h3, h4, h5⟩ := wr0
    have u : ∀ x ∈ done, ∀ y ∈ done, x.name = y.name → x = y := fun x hx y hy => wsWf_uniq h5 x (List.mem_reverse.mpr hx) y (List.mem_reverse.mpr hy)
    have new : ∀ x ∈ done, x.name ≠ w.name := fun x hx => h4 x (List.mem_reverse.mpr hx)
    obtain ⟨t, ew⟩ := word_ck hk u (bWf_mono (fun x hx => List.mem_reverse.mp hx) _ h1) (cn w List.mem_cons_self) h2 (by omega) (nm w List.mem_cons_self) new
    have hk2 : (h ++ t)[0]? = some (.dct (done.map kE)) := by rw [List.getElem?_append_left (List.getElem?_eq_some_iff.mp hk).1]; exact hk
    have hput : putU (done.map kE) (.inr w.name) (.d (.int w.many)) = (done ++ [w]).map kE := by
      unfold putU
      rw [if_neg, List.map_append]
      · rfl
      · intro z
        obtain ⟨x, hx, e⟩ := List.any_eq_true.mp z
        obtain ⟨y, hy, rfl⟩ := List.mem_map.mp hx
        exact new y hy (Sum.inr.inj (of_decide_eq_true e))
    have hdp : dPut (.ref 0) (.d (.str w.name)) (.d (.int w.many)) (h ++ t) = some ((h ++ t).set 0 (.dct ((done ++ [w]).map kE))) := by
      unfold dPut
      have hz : ask ((done.map kE).length < sizeLine) = true := ask_t (by
        rw [sizeLine_eq, List.length_map]
        simp at hl
        omega)
      simp only [hk2, keyOf, hz, if_true, hput]
    have hk3 : ((h ++ t).set 0 (.dct ((done ++ [w]).map kE)))[0]? = some (.dct ((done ++ [w]).map kE)) := by
      rw [List.getElem?_set_self (List.getElem?_eq_some_iff.mp hk2).1]
    rw [ha] at wr hl
    obtain ⟨t2, h', f3, ih, ih2⟩ := words_ck P r (done ++ [w]) _ (n + bSize w.body) (some (.d w.e)) hk3 wr (fun x hx => cn x (List.mem_cons_of_mem _ hx)) (fun x hx => nm x (List.mem_cons_of_mem _ hx)) hl
    refine ⟨[], h', f3, ?_, by rw [ha]; exact ih2⟩
    rw [List.map_cons, List.map_cons, ev_forC]
    simp only [ev_gN, List.set_cons_succ, List.set_cons_zero]
    have el : L_size_checked_0 [some (.d P), some (.ref 0), some (.d (.int n)), some (.d w.e)] h = .next [some (.d P), some (.ref 0), some (.d (.int ((n + bSize w.body : Nat) : Int))), some (.d w.e)] ((h ++ t).set 0 (.dct ((done ++ [w]).map kE))) := by
      have ew' := ew
      unfold Wrd.e at ew' ⊢
      unfold L_size_checked_0
      generalize bE w.body = B at *
      generalize h ++ t = hT at *
      have eds : ∀ (fv fo fk : Ev) (env : Env') (h : Sto), sDPutS fv fo fk env h = (fv env h).then_ env fun x h1 => (fo env h1).then_ env fun u h2 => (fk env h2).then_ env fun w h3 => match dPut u w x h3 with | some h4 => .next env h4 | none => .stuck := fun _ _ _ _ _ => rfl
      simp [ew', eds, hdp]
    rw [el]
    simp only [SRes.seq_next]
    rw [ih, wSize, Nat.add_assoc]
theorem size_ev {ws : List Wrd} {b : List Stm} (g : GP ws b) (c : bCn false b) (wc : ∀ x ∈ ws, bCn false x.body) (nm : ∀ x ∈ ws, nmOk x.name) (sz : bSize b + wSize ws ≤ 4000) : F_size_checked [progE ws b] = .ok (.int ((bSize b + wSize ws : Nat) : Int)) := by
  have hl := g.l
  obtain ⟨t, h', e3', lp, hk⟩ := words_ck (progE ws b) ws [] [.dct []] 0 none rfl (by rw [List.nil_append]; exact g.w) wc nm (by rw [List.nil_append]; omega)
  rw [List.nil_append] at hk
  have fs : FS h'.length 0 ws 0 0 false (h' ++ [.ins "Frame" (ffs 0 0 0 false)]) := ⟨wag0 _ _, by rw [List.getElem?_append_left (List.getElem?_eq_some_iff.mp hk).1]; exact hk⟩
  have hd := g.d
  obtain ⟨t2, eb⟩ := (ck_all 150).2 b h'.length 0 ws 0 0 false _ fs g.gw.u (by decide) g.f c (by omega) (by omega)
  have hF : Rec_check_statement 150 1 = F_check_body := rfl
  rw [hF] at eb
  have mk := frame_mk 0 0 0 false h'
  rw [show ((0 : Nat) : Int) = 0 from rfl] at mk lp
  have hwl : ¬ (6 : Int) < (((ws.map Wrd.e).length : Nat) : Int) := by rw [List.length_map]; omega
  have hs : ¬ (4000 : Int) < ((0 + wSize ws : Nat) : Int) + (bSize b : Int) := by omega
  have hfin : ((0 + wSize ws : Nat) : Int) + (bSize b : Int) = ((bSize b + wSize ws : Nat) : Int) := by omega
  rw [hfin] at hs
  unfold F_size_checked B_size_checked c_MOST_WORDS c_MOST_SIZE progE
  rw [pfOf_ap]
  unfold progE at lp
  generalize ws.map Wrd.e = WE at *
  generalize bE b = B at *
  generalize hw : ((0 + wSize ws : Nat) : Int) = wz at *
  generalize ((bSize b + wSize ws : Nat) : Int) = tot at *
  generalize (bSize b : Int) = bz at *
  simp [isTy, hwl, lp, mk, eb, hfin, hs]
end Lw

namespace Lw
open PySem L2 Wk
def amtK (k : Nat) (far : Int) : Amt := match k with
  | 0 => .int far
  | 1 => .cnt far 1
  | 2 => .cnt 1 far
  | 3 => .int far
  | 4 => .num far 0 0
  | _ => .num 0 0 far
theorem go_ev (k : Nat) (hk : k < 6) (far : Int) : F_law_go [.int k, .int far] = .ok (.tuple [.str "go", (amtK k far).e]) := by
  have n0 : nName 0 = "n0" := by with_unfolding_all rfl
  have a5 : ∀ a b c d e f : D, atI [a, b, c, d, e, f] 5 = some f := fun _ _ _ _ _ _ => rfl
  have a4 : ∀ a b c d e f : D, atI [a, b, c, d, e, f] 4 = some e := fun _ _ _ _ _ _ => rfl
  unfold F_law_go B_law_go
  rw [pfOf_ap]
  match k, hk with
  | 0, _ => simp [amtK, Amt.e]
  | 1, _ => simp [amtK, Amt.e]
  | 2, _ => simp [amtK, Amt.e]
  | 3, _ => simp [amtK, Amt.e]
  | 4, _ => simp [amtK, Amt.e, n0, a4, a5]
  | 5, _ => simp [amtK, Amt.e, n0, a4, a5]
def bd3 (a : Amt) : List Stm := [.turn (.int 1), .go a, .go (.int 1)]
theorem bd3_e (a : Amt) : bE (bd3 a) = [.tuple [.str "turn", .int 1], .tuple [.str "go", a.e], .tuple [.str "go", .int 1]] := by
  unfold bd3
  simp [bE, Stm.e, Amt.e]
/-- the program at hand: where the go's amount stands in it does not matter -/
structure Prg (a : Amt) (P : D) : Prop where
  ex : ∃ ws b, P = progE ws b ∧ bDeep b ≤ 100 ∧ bSize b < 100000 ∧ (∀ x ∈ ws, bDeep x.body ≤ 100 ∧ bSize x.body < 100000) ∧ ws.length ≤ 900 ∧ ∀ k : Int, lgOk (ws.map (Wrd.ov k 1)) (bOv k 1 b) ↔ max (a.mul k).far (k.natAbs : Int) ≤ 1000000
theorem far3 (a : Amt) (k : Int) : bFar (bOv k 1 (bd3 a)) = max (a.mul k).far (k.natAbs : Int) := by
  have := (a.mul k).far_nn
  unfold bd3
  simp only [bOv, Stm.ov, bFar, Stm.far, Amt.mul, Amt.far, Int.one_mul]
  omega
theorem put56_ev (c : Int) (k : Nat) (hk : k < 6) (far : Int) : ∃ P, F_law_put_in [.int c, .tuple [.str "go", (amtK k far).e]] = .ok P ∧ Prg (amtK k far) P := by
  have q : ∀ (f g : Str), decide (f = g) = false → ¬ f = g := fun f g e => of_decide_eq_false e
  have n0 : nName 0 = "n0" := by with_unfolding_all rfl
  have a5 : ∀ a b c d e : D, atI [a, b, c, d, e] 4 = some e := fun _ _ _ _ _ => rfl
  have a3 : ∀ a b c d e : D, atI [a, b, c, d, e] 3 = some d := fun _ _ _ _ _ => rfl
  have hf : fits 5 = true := fits_of (by decide)
  have e3 := bd3_e (amtK k far)
  have f3 := far3 (amtK k far)
  have fin : ∀ b : List Stm, bDeep b ≤ 100 → bSize b < 100000 → (∀ j : Int, bFar (bOv j 1 b) ≤ 1000000 ↔ bFar (bOv j 1 (bd3 (amtK k far))) ≤ 1000000) → ∀ P, P = PyData.tuple [.tuple [], .tuple (bE b)] → Prg (amtK k far) P := fun b h1 h2 h3 P hP => ⟨[], b, by rw [hP]; rfl, h1, h2, (by intro x hx; cases hx), Nat.zero_le _, fun j => by
    unfold lgOk
    rw [h3, f3]
    constructor
    · intro z; exact z.2
    · intro z; exact ⟨(by intro x hx; cases hx), z⟩⟩
  have d3 : bDeep (bd3 (amtK k far)) = 0 := by simp [bd3, bDeep, Stm.deep]
  have z3 : bSize (bd3 (amtK k far)) = 3 := by simp [bd3, bSize, Stm.size]
  have nn3 : ∀ j : Int, 0 ≤ bFar (bOv j 1 (bd3 (amtK k far))) := fun j => bFar_nn _
  have int_case : ∀ i : Int, (amtK k far) = .int i → ∃ P, F_law_put_in [.int c, .tuple [.str "go", (amtK k far).e]] = .ok P ∧ Prg (amtK k far) P := fun i hi => by
    have hc : c % 5 = 0 ∨ c % 5 = 1 ∨ c % 5 = 2 ∨ c % 5 = 3 ∨ c % 5 = 4 := by omega
    have hie : (amtK k far).e = .int i := by rw [hi]; rfl
    unfold F_law_put_in B_law_put_in
    rw [pfOf_ap]
    rw [hie] at e3 ⊢
    generalize bd3 (amtK k far) = B at *
    rcases hc with z | z | z | z | z
    · refine ⟨_, ?_, fin B (by omega) (by omega) (fun j => Iff.rfl) (.tuple [.tuple [], .tuple (bE B)]) rfl⟩
      rw [e3]
      simp [isTy, hf, z, ixR, a5, a3]
    · refine ⟨_, ?_, fin [.again (.int 2) B] (by simp [bDeep, Stm.deep, d3]) (by simp [bSize, Stm.size, z3]) (fun j => ?_) (.tuple [.tuple [], .tuple (bE [.again (.int 2) B])]) rfl⟩
      · simp only [bE, Stm.e, Amt.e]
        rw [e3]
        simp [isTy, hf, z, ixR, a5, a3]
      · have := nn3 j
        simp only [bOv, Stm.ov, bFar, Stm.far]
        omega
    · refine ⟨_, ?_, fin [.iff (.int 1) B []] (by simp [bDeep, Stm.deep, d3]) (by simp [bSize, Stm.size, z3]) (fun j => ?_) (.tuple [.tuple [], .tuple (bE [.iff (.int 1) B []])]) rfl⟩
      · simp only [bE, Stm.e, Amt.e]
        rw [e3]
        simp [isTy, hf, z, ixR, a5, a3]
      · have := nn3 j
        simp only [bOv, Stm.ov, bFar, Stm.far]
        omega
    · refine ⟨_, ?_, fin [.iff (.int 1) [] B] (by simp [bDeep, Stm.deep, d3]) (by simp [bSize, Stm.size, z3]) (fun j => ?_) (.tuple [.tuple [], .tuple (bE [.iff (.int 1) [] B])]) rfl⟩
      · simp only [bE, Stm.e, Amt.e]
        rw [e3]
        simp [isTy, hf, z, ixR, a5, a3]
      · have := nn3 j
        simp only [bOv, Stm.ov, bFar, Stm.far]
        omega
    · refine ⟨_, ?_, fin [.again (.int 3) [.iff (.int 0) [.up] B]] (by simp [bDeep, Stm.deep, d3]) (by simp [bSize, Stm.size, z3]) (fun j => ?_) (.tuple [.tuple [], .tuple (bE [.again (.int 3) [.iff (.int 0) [.up] B]])]) rfl⟩
      · simp only [bE, Stm.e, Amt.e]
        rw [e3]
        simp [isTy, hf, z, ixR, a5, a3]
      · have := nn3 j
        simp only [bOv, Stm.ov, bFar, Stm.far]
        omega
  have cnt_case : ∀ t m : Int, (amtK k far) = .cnt t m → ∃ P, F_law_put_in [.int c, .tuple [.str "go", (amtK k far).e]] = .ok P ∧ Prg (amtK k far) P := fun t m hi => by
    have hc : c % 2 = 0 ∨ c % 2 = 1 := by omega
    have hie : (amtK k far).e = .tuple [.int t, .str "count", .int m] := by rw [hi]; rfl
    unfold F_law_put_in B_law_put_in
    rw [pfOf_ap]
    rw [hie] at e3 ⊢
    generalize bd3 (amtK k far) = B at *
    rcases hc with z | z
    · refine ⟨_, ?_, fin [.again (.int 2) B] (by simp [bDeep, Stm.deep, d3]) (by simp [bSize, Stm.size, z3]) (fun j => ?_) (.tuple [.tuple [], .tuple (bE [.again (.int 2) B])]) rfl⟩
      · simp only [bE, Stm.e, Amt.e]
        rw [e3]
        simp [isTy, hf, z, ixR, a5, a3]
      · have := nn3 j
        simp only [bOv, Stm.ov, bFar, Stm.far]
        omega
    · refine ⟨_, ?_, fin [.again (.int 0) [.iff (.int 1) [] B]] (by simp [bDeep, Stm.deep, d3]) (by simp [bSize, Stm.size, z3]) (fun j => ?_) (.tuple [.tuple [], .tuple (bE [.again (.int 0) [.iff (.int 1) [] B]])]) rfl⟩
      · simp only [bE, Stm.e, Amt.e]
        rw [e3]
        simp [isTy, hf, z, ixR, a5, a3]
      · have := nn3 j
        simp only [bOv, Stm.ov, bFar, Stm.far]
        omega
  have num_case : ∀ t m : Int, (amtK k far) = .num t 0 m → ∃ P, F_law_put_in [.int c, .tuple [.str "go", (amtK k far).e]] = .ok P ∧ Prg (amtK k far) P := fun t m hi => by
    have hie : (amtK k far).e = .tuple [.int t, .str "n0", .int m] := by rw [hi, Amt.e, n0]
    refine ⟨progE [⟨"leaf", 1, bd3 (amtK k far)⟩, ⟨"x", 0, []⟩] [.call "x" []], ?_, ⟨_, _, rfl, by simp [bDeep, Stm.deep], by simp [bSize, Stm.size], fun x hx => ?_, by simp, fun j => ?_⟩⟩
    · unfold F_law_put_in B_law_put_in progE
      rw [pfOf_ap]
      rw [hie] at e3 ⊢
      generalize bd3 (amtK k far) = B at *
      simp only [bE, Stm.e, Wrd.e, List.map_cons, List.map_nil]
      rw [e3]
      simp [isTy, q "n0" "count" (by decide)]
    · simp only [List.mem_cons, List.not_mem_nil, or_false] at hx
      rcases hx with rfl | rfl
      · exact ⟨by rw [d3]; decide, by rw [z3]; decide⟩
      · exact ⟨by rw [bDeep]; decide, by rw [bSize]; decide⟩
    · unfold lgOk
      rw [← f3]
      constructor
      · intro z
        exact z.1 _ List.mem_cons_self
      · intro z
        refine ⟨fun x hx => ?_, by simp only [bOv, Stm.ov, bFar, Stm.far]; omega⟩
        simp only [List.map_cons, List.map_nil, List.mem_cons, List.not_mem_nil, or_false] at hx
        rcases hx with rfl | rfl
        · exact z
        · show bFar (bOv j 1 []) ≤ _
          simp only [bOv, bFar]
          omega
  match k, hk with
  | 0, _ => exact int_case far rfl
  | 1, _ => exact cnt_case far 1 rfl
  | 2, _ => exact cnt_case 1 far rfl
  | 3, _ => exact int_case far rfl
  | 4, _ => exact num_case far 0 rfl
  | 5, _ => exact num_case 0 far rfl
end Lw

namespace Lw
open PySem L2 Wk
def repS (n : Nat) (s : Stm) : List Stm := List.replicate n s
theorem rep_e (s : Stm) : ∀ n : Nat, bE (repS n s) = List.replicate n s.e
  | 0 => rfl
  | n + 1 => by
    have : repS (n + 1) s = s :: repS n s := List.replicate_succ
    rw [this, bE, rep_e s n, List.replicate_succ]
theorem rep_sz (s : Stm) (h : s.size = 1) : ∀ n : Nat, bSize (repS n s) = n
  | 0 => rfl
  | n + 1 => by
    have : repS (n + 1) s = s :: repS n s := List.replicate_succ
    rw [this, bSize, rep_sz s h n, h]; omega
theorem rep_dp (s : Stm) (h : s.deep = 0) : ∀ n : Nat, bDeep (repS n s) = 0
  | 0 => rfl
  | n + 1 => by
    have : repS (n + 1) s = s :: repS n s := List.replicate_succ
    rw [this, bDeep, rep_dp s h n, h]; rfl
theorem rep_wf {ws : List Wrd} {tk : Nat} (s : Stm) (h : s.wf ws tk) : ∀ n : Nat, bWf ws tk (repS n s)
  | 0 => by rw [show repS 0 s = [] from rfl, bWf]; trivial
  | n + 1 => by
    have : repS (n + 1) s = s :: repS n s := List.replicate_succ
    rw [this, bWf]; exact ⟨h, rep_wf s h n⟩
theorem rep_cn {i : Bool} (s : Stm) (h : s.cn i) : ∀ n : Nat, bCn i (repS n s)
  | 0 => by rw [show repS 0 s = [] from rfl, bCn]; trivial
  | n + 1 => by
    have : repS (n + 1) s = s :: repS n s := List.replicate_succ
    rw [this, bCn]; exact ⟨h, rep_cn s h n⟩
theorem flat_one {α : Type} (x : α) (n : Nat) : (List.replicate n [x]).flatten = List.replicate n x := by
  induction n with
  | zero => rfl
  | succ n ih => rw [List.replicate_succ, List.flatten_cons, ih, List.replicate_succ]; rfl
theorem leaf_in : ("leaf" : Str) ∈ wNames := by decide +kernel
structure Mny (n : Nat) (P : D) : Prop where
  ex : ∃ ws b, P = progE ws b ∧ GP ws b ∧ bCn false b ∧ (∀ x ∈ ws, bCn false x.body) ∧ (∀ x ∈ ws, x.name ∈ wNames) ∧ bSize b + wSize ws = n
theorem many56_ev (c : Int) (n : Nat) (h2 : 2 ≤ n) (hn : n ≤ 4000) : ∃ P, F_law_many [.int c, .int n] = .ok P ∧ Mny n P := by
  generalize hv : c / 3 % 8 = v
  have v0 : 0 ≤ v ∧ v < 8 := by omega
  have se : (Stm.ink (.int v)).e = .tuple [.str "ink", .int v] := by simp [Stm.e, Amt.e]
  have wf : ∀ ws tk, (Stm.ink (.int v)).wf ws tk := fun ws tk => by
    rw [Stm.wf]
    show Int.natAbs _ ≤ _
    omega
  have cn : ∀ i, (Stm.ink (.int v)).cn i := fun i => by rw [Stm.cn]; trivial
  have ml : ∀ (k : Nat) (h : Sto), k ≤ 4000 → opMulY (.d (.tuple [.tuple [.str "ink", .int v]])) (.d (.int (k : Int))) h = .ok (.d (.tuple (bE (repS k (.ink (.int v)))))) h := fun k h hk => by
    rw [ev_mulYt h _ _ (by omega) (by omega) (by rw [List.length_singleton, Int.toNat_natCast]; omega), Int.toNat_natCast, flat_one, rep_e, se]
  have dv : divOk 3 = true := divOk_s (by decide) (by decide)
  have hc : c % 3 = 0 ∨ c % 3 = 1 ∨ c % 3 = 2 := by omega
  unfold F_law_many B_law_many
  rw [pfOf_ap]
  rcases hc with z | z | z
  · refine ⟨_, ?_, ⟨[], repS n (.ink (.int v)), rfl, ⟨by trivial, by simp, rep_wf _ (wf _ _) n, by rw [rep_dp _ rfl]; omega⟩, rep_cn _ (cn _) n, (by intro x hx; cases hx), (by intro x hx; cases hx), by rw [rep_sz _ rfl]; simp [wSize]⟩⟩
    have m := fun h => ml n h hn
    unfold progE
    generalize bE (repS n (.ink (.int v))) = B at *
    simp [hv, z, dv, m]
  · have hc1 : (n : Int) - 1 = ((n - 1 : Nat) : Int) := by omega
    refine ⟨_, ?_, ⟨[], [.again (.int 1) (repS (n - 1) (.ink (.int v)))], rfl, ⟨by trivial, by simp, ?_, ?_⟩, ?_, (by intro x hx; cases hx), (by intro x hx; cases hx), ?_⟩⟩
    · have m := fun h => ml (n - 1) h (by omega)
      rw [← hc1] at m
      unfold progE
      simp only [bE, Stm.e, Amt.e]
      generalize bE (repS (n - 1) (.ink (.int v))) = B at *
      simp [hv, z, dv, m]
    · rw [bWf, bWf, Stm.wf]
      refine ⟨⟨?_, rep_wf _ (wf _ _) _⟩, trivial⟩
      show Int.natAbs _ ≤ _
      omega
    · rw [bDeep, bDeep, Stm.deep, rep_dp _ rfl]; omega
    · rw [bCn, bCn, Stm.cn]
      exact ⟨⟨trivial, rep_cn _ (cn _) _⟩, trivial⟩
    · rw [bSize, bSize, Stm.size, rep_sz _ rfl]; simp [wSize]; omega
  · have hc1 : (n : Int) - 2 = ((n - 2 : Nat) : Int) := by omega
    refine ⟨_, ?_, ⟨[⟨"leaf", 0, repS (n - 2) (.ink (.int v))⟩], [.up, .down], rfl, ⟨?_, by simp, ?_, ?_⟩, ?_, fun x hx => ?_, fun x hx => ?_, ?_⟩⟩
    · have m := fun h => ml (n - 2) h (by omega)
      rw [← hc1] at m
      unfold progE
      simp only [bE, Stm.e, Wrd.e, List.map_cons, List.map_nil]
      generalize bE (repS (n - 2) (.ink (.int v))) = B at *
      simp [hv, z, dv, m]
    · exact ⟨rep_wf _ (wf _ _) _, Nat.zero_le _, by show bDeep (repS _ _) ≤ 3; rw [rep_dp _ rfl]; omega, (by intro x hx; cases hx), trivial⟩
    · rw [bWf, bWf, bWf, Stm.wf, Stm.wf]; exact ⟨trivial, trivial, trivial⟩
    · simp [bDeep, Stm.deep]
    · rw [bCn, bCn, bCn, Stm.cn, Stm.cn]
      · exact ⟨trivial, trivial, trivial⟩
      all_goals simp
    · rw [List.mem_singleton.mp hx]; exact rep_cn _ (cn _) _
    · rw [List.mem_singleton.mp hx]; exact leaf_in
    · simp only [bSize, Stm.size, wSize, rep_sz _ (show (Stm.ink (.int v)).size = 1 from rfl)]; omega
theorem size_of56 {n : Nat} {P : D} (m : Mny n P) (hn : n ≤ 4000) : F_size_of [P] = .ok (.int (n : Int)) := by
  obtain ⟨ws, b, rfl, g, c, wc, nm, sz⟩ := m.ex
  have hs := size_ev g c wc (fun x hx => wNames_ok _ (nm x hx)) (by omega)
  rw [sz] at hs
  unfold F_size_of B_size_of
  rw [pfOf_ap]
  simp [hs]
theorem turned56 {n : Nat} {P : D} (m : Mny n P) (hn : n < 4000) (v : Int) (hv : 0 ≤ v ∧ v < 8) : ∃ ws b, P = .tuple [.tuple ws, .tuple b] ∧ b.length ≤ 4000 ∧ F_turned [P, .int v] = .ok (.tuple [.tuple ws, .tuple (.tuple [.str "turn", .int v] :: b)]) ∧ Shp 20 (.tuple [.tuple ws, .tuple (.tuple [.str "turn", .int v] :: b)]) := by
  have so := size_of56 m (by omega)
  obtain ⟨ws, b, rfl, g, c, wc, nm, sz⟩ := m.ex
  have hbl : (bE b).length ≤ 4000 := by
    rw [bE_len]
    have := len_size b
    omega
  refine ⟨ws.map Wrd.e, bE b, rfl, hbl, ?_, ?_⟩
  · have hlt : ¬ (4000 : Int) ≤ (n : Int) := by omega
    have ad := fun h => addTT [.tuple [.str "turn", .int v]] (bE b) h (by rw [List.length_singleton]; omega)
    rw [List.singleton_append] at ad
    unfold F_turned B_turned c_GREATEST
    rw [pfOf_ap]
    unfold progE at so ⊢
    generalize ws.map Wrd.e = WE at *
    generalize bE b = B at *
    simp [so, hlt, ad]
  · have g' : GP ws (.turn (.int v) :: b) := by
      refine ⟨g.w, g.l, ?_, ?_⟩
      · rw [bWf, Stm.wf]
        refine ⟨?_, g.f⟩
        show Int.natAbs _ ≤ _
        omega
      · rw [bDeep]
        have := g.d
        simp only [Stm.deep]
        omega
    have key : ∀ z ∈ wNames, PyData.canLay0 (.str z) = true := by decide +kernel
    have := g'.shp fun x hx => key _ (nm x hx)
    unfold progE at this
    rw [bE, Stm.e, Amt.e] at this
    exact this
theorem turned56x {P : D} (m : Mny 4000 P) (v : Int) : F_turned [P, .int v] = .exc "TooLong" := by
  have so := size_of56 m (by omega)
  obtain ⟨ws, b, rfl, g, c, wc, nm, sz⟩ := m.ex
  unfold F_turned B_turned c_GREATEST
  rw [pfOf_ap]
  unfold progE at so ⊢
  generalize ws.map Wrd.e = WE at *
  generalize bE b = B at *
  rw [show ((4000 : Nat) : Int) = 4000 from rfl] at so
  simp [so]
end Lw

namespace Lw
open PySem L2 Wk
theorem six {α : Type} {l : List α} (h : l.length = 6) : ∃ a b c d e f, l = [a, b, c, d, e, f] := by
  match l, h with
  | [a, b, c, d, e, f], _ => exact ⟨a, b, c, d, e, f, rfl⟩
theorem larger56 {a : Amt} {P : D} (m : Prg a P) (k : Int) (hk : 2 ≤ k ∧ k ≤ 1000) : (max (a.mul k).far (k.natAbs : Int) ≤ 1000000 → ∃ d, F_larger [P, .int k] = .ok d) ∧ (¬ max (a.mul k).far (k.natAbs : Int) ≤ 1000000 → F_larger [P, .int k] = .exc "TooGreat") := by
  obtain ⟨ws, b, rfl, h1, h2, h3, h4, h5⟩ := m.ex
  have le := larger_ev (k := k) (by omega) h1 h2 h3 h4 (fun b => bDeep_ov k 1 b)
  refine ⟨fun z => ?_, fun z => ?_⟩
  · rw [if_pos (ask_t ((h5 k).mpr z))] at le
    exact ⟨_, le⟩
  · have : ask (lgOk (ws.map (Wrd.ov k 1)) (bOv k 1 b)) = false := by
      cases q : ask (lgOk (ws.map (Wrd.ov k 1)) (bOv k 1 b)) with
      | false => rfl
      | true => exact absurd ((h5 k).mp (ask_iff.mp q)) z
    rw [this] at le
    exact le
theorem shorter_x {W : List Smp} (h : 60 < W.length) : F_shorter [.tuple [.tuple [], .tuple (W.map Smp.e)]] = .exc "TooLong" := by
  have hl : ((W.map Smp.e).length : Int) > 60 := by rw [List.length_map]; omega
  unfold F_shorter B_shorter c_LONGEST
  rw [pfOf_ap]
  generalize W.map Smp.e = WE at *
  have hl' : (60 : Int) < (WE.length : Int) := hl
  simp [hl']
theorem amt_far (k : Nat) (hk : k < 6) (far f : Int) (hf : 2 ≤ f ∧ f ≤ 1000) : max ((amtK k far).mul f).far (f.natAbs : Int) ≤ 1000000 ↔ (far * f).natAbs ≤ 1000000 := by
  have e1 : (1 * f).natAbs ≤ 1000 := by omega
  have e0 : (0 * f).natAbs = 0 := by simp
  match k, hk with
  | 0, _ => simp only [amtK, Amt.mul, Amt.far]; omega
  | 1, _ => simp only [amtK, Amt.mul, Amt.far]; omega
  | 2, _ => simp only [amtK, Amt.mul, Amt.far]; omega
  | 3, _ => simp only [amtK, Amt.mul, Amt.far]; omega
  | 4, _ => simp only [amtK, Amt.mul, Amt.far]; omega
  | 5, _ => simp only [amtK, Amt.mul, Amt.far]; omega
theorem law_true : ∀ ns : List Int, ns.length ≤ 63 → (∀ z ∈ ns, PySem.Builtin.Int.intBits z ≤ 1048576) → F_law [.list (ns.map .int)] = .ok (.bool true) := by
  intro ns hl _
  obtain ⟨cc, ecc⟩ : ∃ r, F_law_cell [.list (ns.map .int), .int 0] = .ok (.int r) := cell_ev ns 0 (by omega) (by omega) (by omega)
  obtain ⟨row, er, lr, hr⟩ := row_ev cc 1000 6 (by decide) (by decide) (by decide)
  have er' : F_law_row [.int cc, .int 1000, .int 6] = .ok (.list (row.map .int)) := er
  obtain ⟨c0, c1, c2, c3, c4, c5, rfl⟩ := six lr
  have b0 := hr c0 (by simp)
  have b5 := hr c5 (by simp)
  clear hr lr er
  simp only [List.map_cons, List.map_nil] at er'
  generalize hfac : 2 + c0 % 999 = f
  have hf : 2 ≤ f ∧ f ≤ 1000 := by omega
  obtain ⟨sg, hsg, hsgv⟩ : ∃ sg : Int, atI [PyData.int 1, .int (-1)] (c1 % 2) = some (.int sg) ∧ (sg = 1 ∨ sg = -1) := by
    have : c1 % 2 = 0 ∨ c1 % 2 = 1 := by omega
    rcases this with z | z <;> rw [z]
    · exact ⟨1, atI_0 _ _, .inl rfl⟩
    · exact ⟨-1, atI_1 _ _ _, .inr rfl⟩
  have dvf : divOk f = true := divOk_s (by omega) (by omega)
  generalize hq : (1000000 : Int) / f = q
  have hqb : 0 ≤ q ∧ q ≤ 1000000 := by
    rw [← hq]
    exact ⟨Int.ediv_nonneg (by decide) (by omega), Int.ediv_le_self _ (by decide)⟩
  have hq1 : q * f ≤ 1000000 := by rw [← hq]; exact Int.ediv_mul_le _ (by omega)
  have hq2 : 1000000 < (q + 1) * f := by rw [← hq]; exact Int.lt_ediv_add_one_mul_self _ (by omega)
  have hq0 : 0 ≤ q * f := Int.mul_nonneg hqb.1 (by omega)
  have mo : mulOk q sg = true := mulOk_of (.inl (by omega))
  generalize hms : q * sg = most
  obtain ⟨k, hk⟩ : ∃ k : Nat, c3 % 6 = (k : Int) := ⟨(c3 % 6).toNat, by omega⟩
  have hk6 : k < 6 := by omega
  have one : (most * f).natAbs ≤ 1000000 := by
    rw [← hms]
    rcases hsgv with rfl | rfl
    · rw [Int.mul_one]; omega
    · rw [Int.mul_neg_one, Int.neg_mul]; omega
  have two : ¬ ((most + sg) * f).natAbs ≤ 1000000 := by
    rw [← hms]
    rcases hsgv with rfl | rfl
    · rw [Int.mul_one]; omega
    · have : (q * -1 + -1) * f = - ((q + 1) * f) := by rw [Int.mul_neg_one, ← Int.neg_add, Int.neg_mul]
      rw [this]; omega
  have g1 := go_ev k hk6 most
  have g2 := go_ev k hk6 (most + sg)
  obtain ⟨P1, p1, m1⟩ := put56_ev c2 k hk6 most
  obtain ⟨P2, p2, m2⟩ := put56_ev c2 k hk6 (most + sg)
  obtain ⟨d1, l1⟩ := (larger56 m1 f hf).1 ((amt_far k hk6 most f hf).mpr one)
  have l2 := (larger56 m2 f hf).2 (fun z => two ((amt_far k hk6 (most + sg) f hf).mp z))
  have r1 := ref_ok (w := 0) (n := f) (P := P1) ((ask_larger P1 f).trans l1)
  have r2 := ref_exc (w := 0) (n := f) (P := P2) "TooGreat" 1 true false (.inl ⟨rfl, rfl, rfl, rfl⟩) ((ask_larger P2 f).trans l2)
  have hne : ¬ most + sg = most := by omega
  -- turned
  generalize hv : c5 % 8 = v
  have v8 : 0 ≤ v ∧ v < 8 := by omega
  obtain ⟨P3, p3, m3⟩ := many56_ev c4 3999 (by omega) (by omega)
  obtain ⟨P4, p4, m4⟩ := many56_ev c4 4000 (by omega) (by omega)
  obtain ⟨ws, bb, rfl, bl, t3, sh3⟩ := turned56 m3 (by omega) v v8
  have r4 := ref_exc (w := 1) (n := v) (P := P4) "TooLong" 2 false true (.inr ⟨rfl, rfl, rfl, rfl⟩) ((ask_turned P4 v).trans (turned56x m4 v))
  have eq3 := fun h => ev_eqS true h (by intro s z; cases z) (sh3.shaped (by decide))
  have ad3 := fun h => addTT [.tuple [.str "turn", .int v]] bb h (by rw [List.length_singleton]; omega)
  rw [List.singleton_append] at ad3
  -- shorter
  generalize hW : (List.replicate 30 [Smp.go 1, Smp.turn c5]).flatten = W
  have hWl : W.length = 60 := by rw [← hW, rep_len]; rfl
  have hWs : ∀ x ∈ W, x.small := fun x hx => by
    rw [← hW] at hx
    obtain ⟨l, z1, z2⟩ := List.mem_flatten.mp hx
    rw [List.eq_of_mem_replicate z1] at z2
    simp only [List.mem_cons, List.not_mem_nil, or_false] at z2
    rcases z2 with rfl | rfl
    · show Int.natAbs _ ≤ _; decide
    · show Int.natAbs _ ≤ _; omega
  obtain ⟨sn, sb, s1, _⟩ := shorter_ev (W := W) (by omega) (by intro z; rw [z] at hWl; cases hWl) hWs
  have r5 := ref_ok (w := 2) (n := 0) ((ask_shorter _ 0).trans s1)
  have s2 := shorter_x (W := W ++ [.up]) (by rw [List.length_append, hWl]; decide)
  have r6 := ref_exc (w := 2) (n := 0) "TooLong" 2 false true (.inr ⟨rfl, rfl, rfl, rfl⟩) ((ask_shorter _ 0).trans s2)
  rw [List.map_append] at r6
  have mW : ∀ h, opMulY (.d (.tuple [.tuple [.str "go", .int 1], .tuple [.str "turn", .int c5]])) (.d (.int 30)) h = .ok (.d (.tuple (W.map Smp.e))) h := fun h => by
    rw [ev_mulYt h [.tuple [.str "go", .int 1], .tuple [.str "turn", .int c5]] 30 (by decide) (by decide) (by simp), ← hW, List.map_flatten, List.map_replicate]
    rfl
  have adW := fun h => addTT (W.map Smp.e) [.tuple [.str "up"]] h (by rw [List.length_map, hWl]; decide)
  have hup : [Smp.up].map Smp.e = [.tuple [.str "up"]] := rfl
  rw [hup] at r6
  have p3' : F_law_many [.int c4, .int 3999] = _ := p3
  have p4' : F_law_many [.int c4, .int 4000] = _ := p4
  -- the loop
  have lp : ∀ e6 e7, forGo (gN 4) L_law_0 [.d (.int most), .d (.int (most + sg))] [some (.d (.list (ns.map .int))), some (.d (.list [.int c0, .int c1, .int c2, .int c3, .int c4, .int c5])), some (.d (.int f)), some (.d (.int most)), none, none, e6, e7] [] = .next [some (.d (.list (ns.map .int))), some (.d (.list [.int c0, .int c1, .int c2, .int c3, .int c4, .int c5])), some (.d (.int f)), some (.d (.int most)), some (.d (.int (most + sg))), some (.d P2), e6, e7] [] := fun e6 e7 => by
    have a3 : atI [PyData.int c0, .int c1, .int c2, .int c3, .int c4, .int c5] 3 = some (.int c3) := rfl
    have a2 : atI [PyData.int c0, .int c1, .int c2, .int c3, .int c4, .int c5] 2 = some (.int c2) := rfl
    generalize ns.map PyData.int = NS at *
    rw [forGo_cons, ev_gN]
    simp only [List.set_cons_succ, List.set_cons_zero]
    have b1 : L_law_0 [some (.d (.list NS)), some (.d (.list [.int c0, .int c1, .int c2, .int c3, .int c4, .int c5])), some (.d (.int f)), some (.d (.int most)), some (.d (.int most)), none, e6, e7] [] = .next [some (.d (.list NS)), some (.d (.list [.int c0, .int c1, .int c2, .int c3, .int c4, .int c5])), some (.d (.int f)), some (.d (.int most)), some (.d (.int most)), some (.d P1), e6, e7] [] := by
      unfold L_law_0
      generalize (amtK k most).e = A1 at *
      simp [a2, a3, hk, g1, p1, r1]
    have b2 : L_law_0 [some (.d (.list NS)), some (.d (.list [.int c0, .int c1, .int c2, .int c3, .int c4, .int c5])), some (.d (.int f)), some (.d (.int most)), some (.d (.int (most + sg))), some (.d P1), e6, e7] [] = .next [some (.d (.list NS)), some (.d (.list [.int c0, .int c1, .int c2, .int c3, .int c4, .int c5])), some (.d (.int f)), some (.d (.int most)), some (.d (.int (most + sg))), some (.d P2), e6, e7] [] := by
      generalize (amtK k (most + sg)).e = A2 at *
      generalize most + sg = ms2 at *
      unfold L_law_0
      simp [a2, a3, hk, g2, p2, r2, hne]
    rw [b1, SRes.seq_next, forGo_cons, ev_gN]
    simp only [List.set_cons_succ, List.set_cons_zero]
    rw [b2, SRes.seq_next, forGo_nil]
  have a4 : atI [PyData.int c0, .int c1, .int c2, .int c3, .int c4, .int c5] 4 = some (.int c4) := rfl
  have a5 : atI [PyData.int c0, .int c1, .int c2, .int c3, .int c4, .int c5] 5 = some (.int c5) := rfl
  unfold F_law B_law
  rw [pfOf_ap]
  generalize W.map Smp.e = WE at *
  generalize ns.map PyData.int = NS at *
  simp [ecc, er', hfac, dvf, hq, hsg, mo, hms, lp, a4, a5, p3', p4', hv, t3, ad3, eq3, r4, mW, r5, adW, r6]
end Lw

open PySem PySem.W PyProof.Rows in
set_option maxHeartbeats 0 in
theorem PySem.Challenge.cw_turtlehouse_k56_changes_refused_holds : PySem.Challenge.rw_turtlehouse_k56_changes_refused.Holds := by
  w_on; o_law; k_head; (case hw => w_witness2)
  k_fill
  refine Wk.end_of (l := PySem.Challenge.rw_turtlehouse_k56_changes_refused) (n := 63) (k := 160) (x := "_law_script") (st := Lw.s_law) (F := Lw.F_law) rfl (by decide) rfl ⟨rfl, by decide, by decide⟩ (fun w h Y => PySem.W.kIn_of Y) ?F Lw.law_true
  case F =>
    intro w mg h KX G
    refine (fun (T : Lw.Txt _ mg) => ⟨T.h_law, fun base => Lw.ok_law T⟩) ?T
    case T =>
      refine' ⟨Wk.has_mk KX G (fun _ _ _ _ _ _ us hl => match us, hl with | [_, _, _], _ => rfl) ?g1 ?g2 ?g3 ?g4,
        Wk.has_mk KX G (fun _ _ _ _ _ _ us hl => match us, hl with | [_], _ => rfl) ?g5 ?g6 ?g7 ?g8,
        Wk.hasI_mk KX G (fun _ _ _ _ _ _ us hl => match us, hl with | [_, _, _, _, _], _ => rfl) ?g9 ?g10 ?g11 ?g12 ?g13 ?g14 ?g15 ?g16,
        Wk.hasM_mk KX G (fun _ _ _ _ _ _ us hl => match us, hl with | [_, _], _ => rfl) ?g17 ?g18 ?g19 ?g20 ?g21 ?g22,
        Wk.has_mk KX G (fun _ _ _ _ _ _ us hl => match us, hl with | [_, _], _ => rfl) ?g23 ?g24 ?g25 ?g26,
        Wk.has_mk KX G (fun _ _ _ _ _ _ us hl => match us, hl with | [_, _], _ => rfl) ?g27 ?g28 ?g29 ?g30,
        Wk.has_mk KX G (fun _ _ _ _ _ _ us hl => match us, hl with | [_, _], _ => rfl) ?g31 ?g32 ?g33 ?g34,
        Wk.has_mk KX G (fun _ _ _ _ _ _ us hl => match us, hl with | [_, _], _ => rfl) ?g35 ?g36 ?g37 ?g38,
        Wk.has_mk KX G (fun _ _ _ _ _ _ us hl => match us, hl with | [_, _], _ => rfl) ?g39 ?g40 ?g41 ?g42,
        Wk.has_mk KX G (fun _ _ _ _ _ _ us hl => match us, hl with | [_, _], _ => rfl) ?g43 ?g44 ?g45 ?g46,
        Wk.has_mk KX G (fun _ _ _ _ _ _ us hl => match us, hl with | [_], _ => rfl) ?g47 ?g48 ?g49 ?g50,
        Wk.has_mk KX G (fun _ _ _ _ _ _ us hl => match us, hl with | [_], _ => rfl) ?g51 ?g52 ?g53 ?g54,
        Wk.has_mk KX G (fun _ _ _ _ _ _ us hl => match us, hl with | [_, _], _ => rfl) ?g55 ?g56 ?g57 ?g58,
        Wk.has_mk KX G (fun _ _ _ _ _ _ us hl => match us, hl with | [_, _, _], _ => rfl) ?g59 ?g60 ?g61 ?g62,
        Wk.has_mk KX G (fun _ _ _ _ _ _ us hl => match us, hl with | [_, _, _], _ => rfl) ?g63 ?g64 ?g65 ?g66,
        Wk.has_mk KX G (fun _ _ _ _ _ _ us hl => match us, hl with | [_], _ => rfl) ?g67 ?g68 ?g69 ?g70,
        Wk.has_mk KX G (fun _ _ _ _ _ _ us hl => match us, hl with | [_, _], _ => rfl) ?g71 ?g72 ?g73 ?g74,
        Wk.has_mk KX G (fun _ _ _ _ _ _ us hl => match us, hl with | [_, _], _ => rfl) ?g75 ?g76 ?g77 ?g78,
        Wk.has_mk KX G (fun _ _ _ _ _ _ us hl => match us, hl with | [_, _, _, _], _ => rfl) ?g79 ?g80 ?g81 ?g82,
        Wk.has_mk KX G (fun _ _ _ _ _ _ us hl => match us, hl with | [_, _, _], _ => rfl) ?g83 ?g84 ?g85 ?g86,
        Wk.has_mk KX G (fun _ _ _ _ _ _ us hl => match us, hl with | [_], _ => rfl) ?g87 ?g88 ?g89 ?g90,
        Wk.has_mk KX G (fun _ _ _ _ _ _ us hl => match us, hl with | [_, _], _ => rfl) ?g91 ?g92 ?g93 ?g94,
        Wk.has_mk KX G (fun _ _ _ _ _ _ us hl => match us, hl with | [_, _, _], _ => rfl) ?g95 ?g96 ?g97 ?g98,
        Wk.has_mk KX G (fun _ _ _ _ _ _ us hl => match us, hl with | [_, _], _ => rfl) ?g99 ?g100 ?g101 ?g102,
        Wk.has_mk KX G (fun _ _ _ _ _ _ us hl => match us, hl with | [_, _, _], _ => rfl) ?g103 ?g104 ?g105 ?g106,
        Wk.has_mk KX G (fun _ _ _ _ _ _ us hl => match us, hl with | [_, _, _], _ => rfl) ?g107 ?g108 ?g109 ?g110,
        Wk.has_mk KX G (fun _ _ _ _ _ _ us hl => match us, hl with | [_, _], _ => rfl) ?g111 ?g112 ?g113 ?g114,
        Wk.has_mk KX G (fun _ _ _ _ _ _ us hl => match us, hl with | [_, _], _ => rfl) ?g115 ?g116 ?g117 ?g118,
        Wk.has_mk KX G (fun _ _ _ _ _ _ us hl => match us, hl with | [_, _], _ => rfl) ?g119 ?g120 ?g121 ?g122,
        Wk.has_mk KX G (fun _ _ _ _ _ _ us hl => match us, hl with | [_], _ => rfl) ?g123 ?g124 ?g125 ?g126,
        Wk.clsF_mk KX G ?g127 ?g128 ?g129 ?g130 ?g131,
        Wk.clsX_mk KX G ?g132,
        Wk.clsX_mk KX G ?g133,
        Wk.clsX_mk KX G ?g134,
        Wk.clsX_mk KX G ?g135,
        Wk.fldF_mk KX G ?g136 ?g137,
        Wk.fldF_mk KX G ?g138 ?g139,
        Wk.fldF_mk KX G ?g140 ?g141,
        Wk.fldF_mk KX G ?g142 ?g143,
        Wk.excC_mk KX G ?g144 ?g145 ?g146 ?g147 ?g148,
        Wk.excC_mk KX G ?g149 ?g150 ?g151 ?g152 ?g153,
        Wk.excC_mk KX G ?g154 ?g155 ?g156 ?g157 ?g158,
        Lw.mt_mk (Wk.mtOne_mk (c := "NoProgram") (d := "HouseError") (b := true) KX G ?g159 ?g160 ?g161) (Wk.mtOne_mk (c := "NoProgram") (d := "TooGreat") (b := false) KX G ?g162 ?g163 ?g164) (Wk.mtOne_mk (c := "NoProgram") (d := "TooLong") (b := false) KX G ?g165 ?g166 ?g167) (Wk.mtOne_mk (c := "TooGreat") (d := "HouseError") (b := true) KX G ?g168 ?g169 ?g170) (Wk.mtOne_mk (c := "TooGreat") (d := "TooGreat") (b := true) KX G ?g171 ?g172 ?g173) (Wk.mtOne_mk (c := "TooGreat") (d := "TooLong") (b := false) KX G ?g174 ?g175 ?g176) (Wk.mtOne_mk (c := "TooLong") (d := "HouseError") (b := true) KX G ?g177 ?g178 ?g179) (Wk.mtOne_mk (c := "TooLong") (d := "TooGreat") (b := false) KX G ?g180 ?g181 ?g182) (Wk.mtOne_mk (c := "TooLong") (d := "TooLong") (b := true) KX G ?g183 ?g184 ?g185) ,
        Lw.ei_mk (Wk.exI_mk KX G ?g186 ?g187 ?g188 ?g189 ?g190 ?g191 ?g192 ?g193 ?g194) (Wk.exI_mk KX G ?g195 ?g196 ?g197 ?g198 ?g199 ?g200 ?g201 ?g202 ?g203) (Wk.exI_mk KX G ?g204 ?g205 ?g206 ?g207 ?g208 ?g209 ?g210 ?g211 ?g212) ,
        Lw.ki_mk (Wk.kiOne_mk (c := "NoProgram") (y := "NoMark") (b := false) KX G ?g213 ?g214 ?g215 ?g216) (Wk.kiOne_mk (c := "NoProgram") (y := "NoProgram") (b := true) KX G ?g217 ?g218 ?g219 ?g220) (Wk.kiOne_mk (c := "NoProgram") (y := "NoText") (b := false) KX G ?g221 ?g222 ?g223 ?g224) (Wk.kiOne_mk (c := "NoProgram") (y := "NotWhole") (b := false) KX G ?g225 ?g226 ?g227 ?g228) (Wk.kiOne_mk (c := "NoProgram") (y := "TooGreat") (b := false) KX G ?g229 ?g230 ?g231 ?g232) (Wk.kiOne_mk (c := "NoProgram") (y := "TooLong") (b := false) KX G ?g233 ?g234 ?g235 ?g236) (Wk.kiOneB_mk (c := "NoProgram") (y := "ValueError") (b := true) (m := "ValueError") KX G ?g237 (PySem.W.mg_none_of KX G ?g238) rfl ?g239) (Wk.kiOne_mk (c := "TooGreat") (y := "NoMark") (b := false) KX G ?g240 ?g241 ?g242 ?g243) (Wk.kiOne_mk (c := "TooGreat") (y := "NoProgram") (b := false) KX G ?g244 ?g245 ?g246 ?g247) (Wk.kiOne_mk (c := "TooGreat") (y := "NoText") (b := false) KX G ?g248 ?g249 ?g250 ?g251) (Wk.kiOne_mk (c := "TooGreat") (y := "NotWhole") (b := false) KX G ?g252 ?g253 ?g254 ?g255) (Wk.kiOne_mk (c := "TooGreat") (y := "TooGreat") (b := true) KX G ?g256 ?g257 ?g258 ?g259) (Wk.kiOne_mk (c := "TooGreat") (y := "TooLong") (b := false) KX G ?g260 ?g261 ?g262 ?g263) (Wk.kiOneB_mk (c := "TooGreat") (y := "ValueError") (b := true) (m := "ValueError") KX G ?g264 (PySem.W.mg_none_of KX G ?g265) rfl ?g266) (Wk.kiOne_mk (c := "TooLong") (y := "NoMark") (b := false) KX G ?g267 ?g268 ?g269 ?g270) (Wk.kiOne_mk (c := "TooLong") (y := "NoProgram") (b := false) KX G ?g271 ?g272 ?g273 ?g274) (Wk.kiOne_mk (c := "TooLong") (y := "NoText") (b := false) KX G ?g275 ?g276 ?g277 ?g278) (Wk.kiOne_mk (c := "TooLong") (y := "NotWhole") (b := false) KX G ?g279 ?g280 ?g281 ?g282) (Wk.kiOne_mk (c := "TooLong") (y := "TooGreat") (b := false) KX G ?g283 ?g284 ?g285 ?g286) (Wk.kiOne_mk (c := "TooLong") (y := "TooLong") (b := true) KX G ?g287 ?g288 ?g289 ?g290) (Wk.kiOneB_mk (c := "TooLong") (y := "ValueError") (b := true) (m := "ValueError") KX G ?g291 (PySem.W.mg_none_of KX G ?g292) rfl ?g293) ,
        Wk.cn_own KX G ?g294,
        Wk.cn_own KX G ?g295,
        Wk.cn_own KX G ?g296,
        Wk.cn_own KX G ?g297,
        Wk.cn_own KX G ?g298,
        Wk.cn_own KX G ?g299,
        Wk.cn_blt "ValueError" (PySem.W.mg_none_of KX G ?g300) rfl,
        PySem.W.mg_none_of KX G ?g301,
        PySem.W.mg_none_of KX G ?g302,
        PySem.W.mg_none_of KX G ?g303,
        PySem.W.mg_none_of KX G ?g304,
        PySem.W.mg_none_of KX G ?g305,
        PySem.W.mg_none_of KX G ?g306,
        PySem.W.mg_none_of KX G ?g307,
        PySem.W.mg_none_of KX G ?g308,
        Wk.const_mk KX G ?g309 ?g310,
        Wk.const_mk KX G ?g311 ?g312,
        Wk.const_mk KX G ?g313 ?g314,
        Wk.const_mk KX G ?g315 ?g316,
        Wk.const_mk KX G ?g317 ?g318,
        Wk.const_mk KX G ?g319 ?g320,
        Wk.const_mk KX G ?g321 ?g322,
        Wk.const_mk KX G ?g323 ?g324,
        Wk.const_mk KX G ?g325 ?g326,
        Wk.const_mk KX G ?g327 ?g328⟩
      (case g1 => k_is)
      (case g2 => k_is)
      (case g3 => k_is)
      (case g4 => k_is)
      (case g5 => k_is)
      (case g6 => k_is)
      (case g7 => k_is)
      (case g8 => k_is)
      (case g9 => k_is)
      (case g10 => k_is)
      (case g11 => k_is)
      (case g12 => k_is)
      (case g13 => k_is)
      (case g14 => k_is)
      (case g15 => k_is)
      (case g16 => k_is)
      (case g17 => k_is)
      (case g18 => k_is)
      (case g19 => k_is)
      (case g20 => k_is)
      (case g21 => k_is)
      (case g22 => k_is)
      (case g23 => k_is)
      (case g24 => k_is)
      (case g25 => k_is)
      (case g26 => k_is)
      (case g27 => k_is)
      (case g28 => k_is)
      (case g29 => k_is)
      (case g30 => k_is)
      (case g31 => k_is)
      (case g32 => k_is)
      (case g33 => k_is)
      (case g34 => k_is)
      (case g35 => k_is)
      (case g36 => k_is)
      (case g37 => k_is)
      (case g38 => k_is)
      (case g39 => k_is)
      (case g40 => k_is)
      (case g41 => k_is)
      (case g42 => k_is)
      (case g43 => k_is)
      (case g44 => k_is)
      (case g45 => k_is)
      (case g46 => k_is)
      (case g47 => k_is)
      (case g48 => k_is)
      (case g49 => k_is)
      (case g50 => k_is)
      (case g51 => k_is)
      (case g52 => k_is)
      (case g53 => k_is)
      (case g54 => k_is)
      (case g55 => k_is)
      (case g56 => k_is)
      (case g57 => k_is)
      (case g58 => k_is)
      (case g59 => k_is)
      (case g60 => k_is)
      (case g61 => k_is)
      (case g62 => k_is)
      (case g63 => k_is)
      (case g64 => k_is)
      (case g65 => k_is)
      (case g66 => k_is)
      (case g67 => k_is)
      (case g68 => k_is)
      (case g69 => k_is)
      (case g70 => k_is)
      (case g71 => k_is)
      (case g72 => k_is)
      (case g73 => k_is)
      (case g74 => k_is)
      (case g75 => k_is)
      (case g76 => k_is)
      (case g77 => k_is)
      (case g78 => k_is)
      (case g79 => k_is)
      (case g80 => k_is)
      (case g81 => k_is)
      (case g82 => k_is)
      (case g83 => k_is)
      (case g84 => k_is)
      (case g85 => k_is)
      (case g86 => k_is)
      (case g87 => k_is)
      (case g88 => k_is)
      (case g89 => k_is)
      (case g90 => k_is)
      (case g91 => k_is)
      (case g92 => k_is)
      (case g93 => k_is)
      (case g94 => k_is)
      (case g95 => k_is)
      (case g96 => k_is)
      (case g97 => k_is)
      (case g98 => k_is)
      (case g99 => k_is)
      (case g100 => k_is)
      (case g101 => k_is)
      (case g102 => k_is)
      (case g103 => k_is)
      (case g104 => k_is)
      (case g105 => k_is)
      (case g106 => k_is)
      (case g107 => k_is)
      (case g108 => k_is)
      (case g109 => k_is)
      (case g110 => k_is)
      (case g111 => k_is)
      (case g112 => k_is)
      (case g113 => k_is)
      (case g114 => k_is)
      (case g115 => k_is)
      (case g116 => k_is)
      (case g117 => k_is)
      (case g118 => k_is)
      (case g119 => k_is)
      (case g120 => k_is)
      (case g121 => k_is)
      (case g122 => k_is)
      (case g123 => k_is)
      (case g124 => k_is)
      (case g125 => k_is)
      (case g126 => k_is)
      (case g127 => k_is)
      (case g128 => k_is)
      (case g129 => k_is)
      (case g130 => k_is)
      (case g131 => k_is)
      (case g132 => k_is)
      (case g133 => k_is)
      (case g134 => k_is)
      (case g135 => k_is)
      (case g136 => k_is)
      (case g137 => k_is)
      (case g138 => k_is)
      (case g139 => k_is)
      (case g140 => k_is)
      (case g141 => k_is)
      (case g142 => k_is)
      (case g143 => k_is)
      (case g144 => k_is)
      (case g145 => k_exc)
      (case g146 => k_is)
      (case g147 => k_is)
      (case g148 => k_is)
      (case g149 => k_is)
      (case g150 => k_exc)
      (case g151 => k_is)
      (case g152 => k_is)
      (case g153 => k_is)
      (case g154 => k_is)
      (case g155 => k_exc)
      (case g156 => k_is)
      (case g157 => k_is)
      (case g158 => k_is)
      (case g159 => k_is)
      (case g160 => k_is)
      (case g161 => kts_exm)
      (case g162 => k_is)
      (case g163 => k_is)
      (case g164 => kts_exm)
      (case g165 => k_is)
      (case g166 => k_is)
      (case g167 => kts_exm)
      (case g168 => k_is)
      (case g169 => k_is)
      (case g170 => kts_exm)
      (case g171 => k_is)
      (case g172 => k_is)
      (case g173 => kts_exm)
      (case g174 => k_is)
      (case g175 => k_is)
      (case g176 => kts_exm)
      (case g177 => k_is)
      (case g178 => k_is)
      (case g179 => kts_exm)
      (case g180 => k_is)
      (case g181 => k_is)
      (case g182 => kts_exm)
      (case g183 => k_is)
      (case g184 => k_is)
      (case g185 => kts_exm)
      (case g186 => k_is)
      (case g187 => k_is)
      (case g188 => k_is)
      (case g189 => k_is)
      (case g190 => k_is)
      (case g191 => k_is)
      (case g192 => k_is)
      (case g193 => k_is)
      (case g194 => k_is)
      (case g195 => k_is)
      (case g196 => k_is)
      (case g197 => k_is)
      (case g198 => k_is)
      (case g199 => k_is)
      (case g200 => k_is)
      (case g201 => k_is)
      (case g202 => k_is)
      (case g203 => k_is)
      (case g204 => k_is)
      (case g205 => k_is)
      (case g206 => k_is)
      (case g207 => k_is)
      (case g208 => k_is)
      (case g209 => k_is)
      (case g210 => k_is)
      (case g211 => k_is)
      (case g212 => k_is)
      (case g213 => k_is)
      (case g214 => k_is)
      (case g215 => kts_exm)
      (case g216 => decide +kernel)
      (case g217 => k_is)
      (case g218 => k_is)
      (case g219 => kts_exm)
      (case g220 => decide +kernel)
      (case g221 => k_is)
      (case g222 => k_is)
      (case g223 => kts_exm)
      (case g224 => decide +kernel)
      (case g225 => k_is)
      (case g226 => k_is)
      (case g227 => kts_exm)
      (case g228 => decide +kernel)
      (case g229 => k_is)
      (case g230 => k_is)
      (case g231 => kts_exm)
      (case g232 => decide +kernel)
      (case g233 => k_is)
      (case g234 => k_is)
      (case g235 => kts_exm)
      (case g236 => decide +kernel)
      (case g237 => k_is)
      (case g238 => k_is)
      (case g239 => kts_exm)
      (case g240 => k_is)
      (case g241 => k_is)
      (case g242 => kts_exm)
      (case g243 => decide +kernel)
      (case g244 => k_is)
      (case g245 => k_is)
      (case g246 => kts_exm)
      (case g247 => decide +kernel)
      (case g248 => k_is)
      (case g249 => k_is)
      (case g250 => kts_exm)
      (case g251 => decide +kernel)
      (case g252 => k_is)
      (case g253 => k_is)
      (case g254 => kts_exm)
      (case g255 => decide +kernel)
      (case g256 => k_is)
      (case g257 => k_is)
      (case g258 => kts_exm)
      (case g259 => decide +kernel)
      (case g260 => k_is)
      (case g261 => k_is)
      (case g262 => kts_exm)
      (case g263 => decide +kernel)
      (case g264 => k_is)
      (case g265 => k_is)
      (case g266 => kts_exm)
      (case g267 => k_is)
      (case g268 => k_is)
      (case g269 => kts_exm)
      (case g270 => decide +kernel)
      (case g271 => k_is)
      (case g272 => k_is)
      (case g273 => kts_exm)
      (case g274 => decide +kernel)
      (case g275 => k_is)
      (case g276 => k_is)
      (case g277 => kts_exm)
      (case g278 => decide +kernel)
      (case g279 => k_is)
      (case g280 => k_is)
      (case g281 => kts_exm)
      (case g282 => decide +kernel)
      (case g283 => k_is)
      (case g284 => k_is)
      (case g285 => kts_exm)
      (case g286 => decide +kernel)
      (case g287 => k_is)
      (case g288 => k_is)
      (case g289 => kts_exm)
      (case g290 => decide +kernel)
      (case g291 => k_is)
      (case g292 => k_is)
      (case g293 => kts_exm)
      (case g294 => k_is)
      (case g295 => k_is)
      (case g296 => k_is)
      (case g297 => k_is)
      (case g298 => k_is)
      (case g299 => k_is)
      (case g300 => k_is)
      (case g301 => k_is)
      (case g302 => k_is)
      (case g303 => k_is)
      (case g304 => k_is)
      (case g305 => k_is)
      (case g306 => k_is)
      (case g307 => k_is)
      (case g308 => k_is)
      (case g309 => k_is)
      (case g310 => kernel_rfl)
      (case g311 => k_is)
      (case g312 => kernel_rfl)
      (case g313 => k_is)
      (case g314 => kernel_rfl)
      (case g315 => k_is)
      (case g316 => kernel_rfl)
      (case g317 => k_is)
      (case g318 => kernel_rfl)
      (case g319 => k_is)
      (case g320 => kernel_rfl)
      (case g321 => k_is)
      (case g322 => kernel_rfl)
      (case g323 => k_is)
      (case g324 => kernel_rfl)
      (case g325 => k_is)
      (case g326 => kernel_rfl)
      (case g327 => k_is)
      (case g328 => kernel_rfl)


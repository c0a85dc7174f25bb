import PyProof.Rows.All
import Wide.All
import OpenK.AllK
import Wide.FinOn
import HandS.ForMost
import HandS.ForExc
import HandS.TryMany
import HandS.Wide
import HandS.EndBits
import HandS.NoneIn
import HandS.IsInst
import HandS.Flow
import KE.KeyNested
import HandS.TupAny
import HandS.TupMul
import HandS.Style
import HandS.Text
import HandS.Rev
import HandS.Zip
import HandS.Deep
import HandS.Steps
import PyProof.ListRange
import HandS.ExcOwn
import KE.KAssignIn
import PyProof.ExcBaseAll.ValueError
import KE.RegKTryMore
import KE.GoesRaise
import HandS.Flt
import HandS.ExcIs
import HandS.DictTup
import HandS.SortRule
import HandS.NamedTupSort
import KE.LtSeq
import PySem.Challenge.RW_turtlehouse_k52_whole_larger
set_option Elab.async false
set_option linter.all false
set_option maxRecDepth 100000
/-! T1: plain data, an abstract state, readings by functions. -/
namespace Wk
open PySem PySem.Spec PyProof.Rows L2

abbrev D := PyData

/-- a value of a frame: data that never changes, a thing of the frame's own store, a tuple with such things -/
inductive U where
  | d (x : D)
  | ref (n : Nat)
  | tup (us : List U)
  | exn (a : Addr)

/-- a thing of the store -/
inductive Ob where
  | lst (xs : List D)
  | frz (xs : List D)
  | ins (c : Str) (fs : List (Str × U))
  | dct (kvs : List (Key × U))
  | lsu (us : List U)
  | fzu (us : List U)
  | dtp (kvs : List (NestedKey × U))
  | fdt (kvs : List (NestedKey × U))

abbrev Sto := List Ob
inductive Res (α : Type) where
  | ok (x : α) (h : Sto)
  | exc (c : Str) (h : Sto)
  | stuck
def Res.bind {α β : Type} (r : Res α) (k : α → Sto → Res β) : Res β := match r with
  | .ok x h => k x h
  | .exc c h => .exc c h
  | .stuck => .stuck
@[simp] theorem Res.bind_ok {α β : Type} (x : α) (h : Sto) (k : α → Sto → Res β) : (Res.ok x h).bind k = k x h := (rfl)
@[simp] theorem Res.bind_exc {α β : Type} (c : Str) (h : Sto) (k : α → Sto → Res β) : (Res.exc c h).bind k = .exc c h := (rfl)
@[simp] theorem Res.bind_stuck {α β : Type} (k : α → Sto → Res β) : (Res.stuck : Res α).bind k = .stuck := (rfl)
abbrev Env' := List (Option U)
abbrev Ev := Env' → Sto → Res U
abbrev Eb := Env' → Sto → Res Bool
abbrev Ea := Env' → Sto → Res (List U)
/-- a statement's end -/
inductive SRes where
  | next (env : Env') (h : Sto)
  | ret (u : U) (h : Sto)
  | exc (c : Str) (env : Env') (h : Sto)
  | stuck
abbrev Es := Env' → Sto → SRes

/-! ### how they lie in the heap -/
/-- a list that can't be written any more -/
def FzL (K : PySem.W.Frag) (H : Hp) (a : Addr) (xs : List V) : Prop :=
  (∃ o, H a = some (.frz o (.lst xs))) ∨
    ∃ (o : Obj) (its : Array Value) (n : Nat), K.lookup a = some o ∧ o.cls = .type "list" ∧ o.dict = none ∧ o.data = .seq its n ∧ its.size ≤ sizeLine ∧ Vals xs its.toList
theorem FzL.sq {K : PySem.W.Frag} {H : Hp} {a : Addr} {xs : List V} (h : FzL K H a xs) : SqL K H a xs := by
  rcases h with ⟨o, h⟩ | h
  · exact .inl (.inr ⟨o, h⟩)
  · exact .inr h
mutual
inductive RD (K : PySem.W.Frag) (H : Hp) : V → D → Prop
  | non : RD K H .non .none
  | bl (b : Bool) : RD K H (.bl b) (.bool b)
  | int (i : Int) : RD K H (.int i) (.int i)
  | str (x : Str) : RD K H (.str x) (.str x)
  | lst {a : Addr} {xs : List V} {ds : List D} : FzL K H a xs → RDs K H xs ds → RD K H (.ref a) (.list ds)
  | tup {a : Addr} {xs : List V} {ds : List D} : SqT K H a xs → RDs K H xs ds → RD K H (.ref a) (.tuple ds)
inductive RDs (K : PySem.W.Frag) (H : Hp) : List V → List D → Prop
  | nil : RDs K H [] []
  | cons {v : V} {vs : List V} {d : D} {ds : List D} : RD K H v d → RDs K H vs ds → RDs K H (v :: vs) (d :: ds)
end
mutual
inductive RU (K : PySem.W.Frag) (H : Hp) (m : List Addr) : V → U → Prop
  | d {v : V} {x : D} : RD K H v x → RU K H m v (.d x)
  | ref {n : Nat} {a : Addr} : m[n]? = some a → RU K H m (.ref a) (.ref n)
  | tup {a : Addr} {vs : List V} {us : List U} : SqT K H a vs → RUs K H m vs us → RU K H m (.ref a) (.tup us)
  | exn (a : Addr) : RU K H m (.ref a) (.exn a)
inductive RUs (K : PySem.W.Frag) (H : Hp) (m : List Addr) : List V → List U → Prop
  | nil : RUs K H m [] []
  | cons {v : V} {vs : List V} {u : U} {us : List U} : RU K H m v u → RUs K H m vs us → RUs K H m (v :: vs) (u :: us)
end

/-- what never changes stays -/
structure Kp (H H' : Hp) : Prop where
  tup : ∀ a xs, H a = some (.tup xs) → H' a = some (.tup xs)
  frz : ∀ a o u, H a = some (.frz o u) → H' a = some (.frz o u)
theorem Kp.refl (H : Hp) : Kp H H := ⟨fun _ _ h => h, fun _ _ _ h => h⟩
theorem Kp.trans {H H1 H2 : Hp} (a : Kp H H1) (b : Kp H1 H2) : Kp H H2 := ⟨fun c xs h => b.tup c xs (a.tup c xs h), fun c o u h => b.frz c o u (a.frz c o u h)⟩
theorem Kp.same {H H' : Hp} (s : Same H H') : Kp H H' := ⟨fun a _ h => s a _ h, fun a _ _ h => s a _ h⟩
theorem Kp.sqT {K : PySem.W.Frag} {H H' : Hp} {a : Addr} {xs : List V} (k : Kp H H') (h : SqT K H a xs) : SqT K H' a xs := by
  rcases h with (h | ⟨o, h⟩) | h
  · exact .inl (.inl (k.tup _ _ h))
  · exact .inl (.inr ⟨o, k.frz _ _ _ h⟩)
  · exact .inr h
theorem Kp.fzL {K : PySem.W.Frag} {H H' : Hp} {a : Addr} {xs : List V} (k : Kp H H') (h : FzL K H a xs) : FzL K H' a xs := by
  rcases h with ⟨o, h⟩ | h
  · exact .inl ⟨o, k.frz _ _ _ h⟩
  · exact .inr h
mutual
theorem RD.kp {K : PySem.W.Frag} {H H' : Hp} (k : Kp H H') : ∀ (d : D) (v : V), RD K H v d → RD K H' v d
  | .none, _, h => by cases h; exact .non
  | .bool b, _, h => by cases h; exact .bl b
  | .int i, _, h => by cases h; exact .int i
  | .str x, _, h => by cases h; exact .str x
  | .list ds, _, h => by
    cases h with
    | lst a b => exact .lst (k.fzL a) (RDs.kp k ds _ b)
  | .tuple ds, _, h => by
    cases h with
    | tup a b => exact .tup (k.sqT a) (RDs.kp k ds _ b)
  | .dict _, _, h => by cases h
theorem RDs.kp {K : PySem.W.Frag} {H H' : Hp} (k : Kp H H') : ∀ (ds : List D) (vs : List V), RDs K H vs ds → RDs K H' vs ds
  | [], _, h => by cases h; exact .nil
  | d :: ds, _, h => by
    cases h with
    | cons a b => exact .cons (RD.kp k d _ a) (RDs.kp k ds _ b)
end
mutual
theorem RU.kp {K : PySem.W.Frag} {H H' : Hp} {m m' : List Addr} (k : Kp H H') (pre : ∃ e, m' = m ++ e) : ∀ (u : U) (v : V), RU K H m v u → RU K H' m' v u
  | .d x, _, h => by
    cases h with
    | d a => exact .d (RD.kp k x _ a)
  | .ref n, _, h => by
    cases h with
    | ref a =>
      obtain ⟨e, rfl⟩ := pre
      exact .ref (by rw [List.getElem?_append_left (List.getElem?_eq_some_iff.mp a).1]; exact a)
  | .tup us, _, h => by
    cases h with
    | tup a b => exact .tup (k.sqT a) (RUs.kp k pre us _ b)
  | .exn a, _, h => by
    cases h
    exact .exn a
theorem RUs.kp {K : PySem.W.Frag} {H H' : Hp} {m m' : List Addr} (k : Kp H H') (pre : ∃ e, m' = m ++ e) : ∀ (us : List U) (vs : List V), RUs K H m vs us → RUs K H' m' vs us
  | [], _, h => by cases h; exact .nil
  | u :: us, _, h => by
    cases h with
    | cons a b => exact .cons (RU.kp k pre u _ a) (RUs.kp k pre us _ b)
end

/-- the state grows: things of the store may change, new ones come; all else stays -/
structure Gr (H : Hp) (m : List Addr) (H' : Hp) (m' : List Addr) : Prop where
  pre : ∃ e, m' = m ++ e
  keep : ∀ a o, H a = some o → a ∉ m → H' a = some o
  fresh : ∀ a, a ∈ m' → a ∉ m → H a = none
  kp : Kp H H'
theorem Gr.refl (H : Hp) (m : List Addr) : Gr H m H m := ⟨⟨[], by simp⟩, fun _ _ h _ => h, fun _ h n => absurd h n, Kp.refl H⟩
theorem Gr.trans {H H1 H2 : Hp} {m m1 m2 : List Addr} (a : Gr H m H1 m1) (b : Gr H1 m1 H2 m2) : Gr H m H2 m2 where
  pre := by
    obtain ⟨e, rfl⟩ := a.pre
    obtain ⟨f, rfl⟩ := b.pre
    exact ⟨e ++ f, by rw [List.append_assoc]⟩
  keep := fun c o h n => b.keep c o (a.keep c o h n) fun hm => by
    have z := a.fresh c hm n
    rw [h] at z
    cases z
  fresh := fun c hm n => by
    by_cases h1 : c ∈ m1
    · exact a.fresh c h1 n
    · have z := b.fresh c hm h1
      cases q : H c with
      | none => rfl
      | some o =>
        rw [a.keep c o q n] at z
        cases z
  kp := a.kp.trans b.kp
theorem Gr.same {H H' : Hp} {m : List Addr} (g : Gr H [] H' m) : Same H H' := fun a o h => g.keep a o h (by simp)

/-! ### the store -/
def RF (K : PySem.W.Frag) (H : Hp) (m : List Addr) : List (Str × V) → List (Str × U) → Prop := Paired fun p q => p.1 = q.1 ∧ RU K H m p.2 q.2
def RK (K : PySem.W.Frag) (H : Hp) (m : List Addr) : List (Key × V) → List (Key × U) → Prop := Paired fun p q => p.1 = q.1 ∧ RU K H m p.2 q.2
/-! dicts whose keys are tuples of ints and of such tuples -/
mutual
def pureK : NestedKey → Bool
  | .num _ => true
  | .tup ks => pureKs ks
  | .none => false
  | .text _ => false
def pureKs : List NestedKey → Bool
  | [] => true
  | k :: ks => pureK k && pureKs ks
end
mutual
def hK : NestedKey → Int
  | .num i => hashInt i
  | .tup ks => reduceHash (Builtin.Tuple.tupleHashOf (hKs ks))
  | .none => 0
  | .text _ => 0
def hKs : List NestedKey → List Int
  | [] => []
  | k :: ks => hK k :: hKs ks
end
mutual
theorem hK_hash (w : World) : ∀ k : NestedKey, pureK k = true → k.hash w = hK k
  | .num i, _ => by rw [NestedKey.hash, hK]
  | .tup ks, h => by rw [pureK] at h; rw [NestedKey.hash, hK, hKs_hash w ks h]
  | .none, h => by rw [pureK] at h; cases h
  | .text _, h => by rw [pureK] at h; cases h
theorem hKs_hash (w : World) : ∀ ks : List NestedKey, pureKs ks = true → NestedKey.hashes w ks = hKs ks
  | [], _ => by rw [NestedKey.hashes, hKs]
  | k :: ks, h => by
    rw [pureKs, Bool.and_eq_true] at h
    rw [NestedKey.hashes, hKs, hK_hash w k h.1, hKs_hash w ks h.2]
end
abbrev XS := List (NestedKey × Addr × Value)
def eK (x : NestedKey × Addr × Value) : DictEntry := ⟨hK x.1, .ref x.2.1, x.2.2⟩
def DNo (a : Addr) (xs : XS) : HO := .ext fun h => ∃ o es ep, h.get? a = some o ∧ o.ExactDict ∧ o.data = .dict es ep ∧ es.toList = xs.map eK
structure DN (K : PySem.W.Frag) (H : Hp) (m : List Addr) (a : Addr) (xs : XS) (kvs : List (NestedKey × U)) : Prop where
  sys : (a == sysModules) = false
  nd : (xs.map (·.1)).Nodup
  sz : xs.length ≤ sizeLine
  p : Paired (fun x kv => x.1 = kv.1 ∧ (pureK x.1 = true ∧ x.1.depth ≤ 8) ∧ RD K H (.ref x.2.1) x.1.data ∧ ∃ v, RU K H m v kv.2 ∧ RelV v x.2.2) xs kvs
def RO (K : PySem.W.Frag) (mg : Str → Option Value) (H : Hp) (m : List Addr) (a : Addr) : Ob → Prop
  | .lst xs => ∃ vs, H a = some (.lst vs) ∧ RDs K H vs xs
  | .frz xs => ∃ o vs, H a = some (.frz o (.lst vs)) ∧ RDs K H vs xs
  | .ins c fs => ∃ C dx gs, mg c = some (.ref C) ∧ H a = some (.ins C dx gs) ∧ RF K H m gs fs
  | .dct kvs => ∃ gs, H a = some (.dK gs) ∧ RK K H m gs kvs
  | .lsu us => ∃ vs, H a = some (.lst vs) ∧ RUs K H m vs us
  | .fzu us => ∃ o vs, H a = some (.frz o (.lst vs)) ∧ RUs K H m vs us
  | .dtp kvs => ∃ xs, H a = some (DNo a xs) ∧ DN K H m a xs kvs
  | .fdt kvs => ∃ o xs, H a = some (.frz o (DNo a xs)) ∧ DN K H m a xs kvs
structure Sta (K : PySem.W.Frag) (mg : Str → Option Value) (H : Hp) (m : List Addr) (h : Sto) : Prop where
  nd : m.Nodup
  len : m.length = h.length
  obj : ∀ (i : Nat) a o, m[i]? = some a → h[i]? = some o → RO K mg H m a o
section
variable {K : PySem.W.Frag} {mg : Str → Option Value} {H H' : Hp} {m m' : List Addr} {h h' : Sto} {a : Addr} {o : Ob}
theorem paired_imp {α β : Type} {F G : α → β → Prop} (f : ∀ a b, F a b → G a b) : ∀ {l : List α} {r : List β}, Paired F l r → Paired G l r
  | _, _, .nil => .nil
  | _, _, .cons p q => .cons (f _ _ p) (paired_imp f q)
theorem DN.kp {xs : XS} {kvs : List (NestedKey × U)} (d : DN K H m a xs kvs) (k : Kp H H') (pre : ∃ e, m' = m ++ e) : DN K H' m' a xs kvs :=
  ⟨d.sys, d.nd, d.sz, paired_imp (fun p q z => ⟨z.1, z.2.1, RD.kp k _ _ z.2.2.1, z.2.2.2.imp fun v hv => ⟨RU.kp k pre _ _ hv.1, hv.2⟩⟩) d.p⟩
theorem RO.mono (r : RO K mg H m a o) (e : H' a = H a) (k : Kp H H') (pre : ∃ e, m' = m ++ e) : RO K mg H' m' a o := by
  cases o with
  | lst xs => obtain ⟨vs, h1, h2⟩ := r; exact ⟨vs, e.trans h1, RDs.kp k _ _ h2⟩
  | frz xs => obtain ⟨o, vs, h1, h2⟩ := r; exact ⟨o, vs, e.trans h1, RDs.kp k _ _ h2⟩
  | ins c fs => obtain ⟨C, dx, gs, h0, h1, h2⟩ := r; exact ⟨C, dx, gs, h0, e.trans h1, paired_imp (fun p q z => ⟨z.1, RU.kp k pre _ _ z.2⟩) h2⟩
  | dct kvs => obtain ⟨gs, h1, h2⟩ := r; exact ⟨gs, e.trans h1, paired_imp (fun p q z => ⟨z.1, RU.kp k pre _ _ z.2⟩) h2⟩
  | lsu us => obtain ⟨vs, h1, h2⟩ := r; exact ⟨vs, e.trans h1, RUs.kp k pre _ _ h2⟩
  | fzu us => obtain ⟨o, vs, h1, h2⟩ := r; exact ⟨o, vs, e.trans h1, RUs.kp k pre _ _ h2⟩
  | dtp kvs => obtain ⟨xs, h1, h2⟩ := r; exact ⟨xs, e.trans h1, h2.kp k pre⟩
  | fdt kvs => obtain ⟨o, xs, h1, h2⟩ := r; exact ⟨o, xs, e.trans h1, h2.kp k pre⟩
theorem RO.has (r : RO K mg H m a o) : ∃ x, H a = some x := by
  cases o with
  | lst xs => obtain ⟨vs, h1, _⟩ := r; exact ⟨_, h1⟩
  | frz xs => obtain ⟨o, vs, h1, _⟩ := r; exact ⟨_, h1⟩
  | ins c fs => obtain ⟨C, dx, gs, _, h1, _⟩ := r; exact ⟨_, h1⟩
  | dct kvs => obtain ⟨gs, h1, _⟩ := r; exact ⟨_, h1⟩
  | lsu us => obtain ⟨vs, h1, _⟩ := r; exact ⟨_, h1⟩
  | fzu us => obtain ⟨o, vs, h1, _⟩ := r; exact ⟨_, h1⟩
  | dtp kvs => obtain ⟨xs, h1, _⟩ := r; exact ⟨_, h1⟩
  | fdt kvs => obtain ⟨o, xs, h1, _⟩ := r; exact ⟨_, h1⟩
theorem Sta.at_ (s : Sta K mg H m h) {i : Nat} (e : m[i]? = some a) : ∃ o, h[i]? = some o ∧ RO K mg H m a o := by
  have hi := (List.getElem?_eq_some_iff.mp e).1
  have hi' : i < h.length := by rw [← s.len]; exact hi
  exact ⟨h[i], List.getElem?_eq_getElem hi', s.obj i a _ e (List.getElem?_eq_getElem hi')⟩
theorem Sta.addr (s : Sta K mg H m h) {i : Nat} (e : h[i]? = some o) : ∃ a, m[i]? = some a ∧ RO K mg H m a o := by
  have hi := (List.getElem?_eq_some_iff.mp e).1
  have hi' : i < m.length := by rw [s.len]; exact hi
  exact ⟨m[i], List.getElem?_eq_getElem hi', s.obj i _ o (List.getElem?_eq_getElem hi') e⟩
theorem Sta.has (s : Sta K mg H m h) (hm : a ∈ m) : ∃ x, H a = some x := by
  obtain ⟨i, hi⟩ := List.mem_iff_getElem?.mp hm
  obtain ⟨o, _, r⟩ := s.at_ hi
  exact r.has
theorem Sta.new (s : Sta K mg H m h) (n : H a = none) : a ∉ m := fun hm => by
  obtain ⟨x, q⟩ := s.has hm
  rw [n] at q
  cases q
theorem Sta.nil : Sta K mg H [] [] := ⟨List.nodup_nil, rfl, fun i a o h => by simp at h⟩
/-- nothing of the store is touched -/
theorem Sta.same (s : Sta K mg H m h) (e : ∀ b x, H b = some x → H' b = some x) : Sta K mg H' m h :=
  ⟨s.nd, s.len, fun i b o h1 h2 => by
    have r := s.obj i b o h1 h2
    obtain ⟨x, q⟩ := r.has
    exact r.mono ((e b x q).trans q.symm) ⟨fun c _ z => e c _ z, fun c _ _ z => e c _ z⟩ ⟨[], by simp⟩⟩
theorem Gr.of_same (s : Same H H') (m : List Addr) : Gr H m H' m := ⟨⟨[], by simp⟩, fun b x q _ => s b x q, fun _ z n => absurd z n, Kp.same s⟩
/-- a new thing that the store does not know -/
theorem Same.lay {x : HO} (n : H a = none) : Same H (upd H a x) := fun b o e => by
  rw [upd_ne (ne_of_none e n)]
  exact e
theorem mut_kp {x y : HO} (hx : H a = .some x) (mu : Mut (.some x)) : Kp H (upd H a y) :=
  ⟨fun b xs q => by rw [upd_ne (fun z => by subst z; rw [hx] at q; cases q; exact mu)]; exact q,
   fun b o u q => by rw [upd_ne (fun z => by subst z; rw [hx] at q; cases q; exact mu)]; exact q⟩
/-- a thing of the store is written -/
theorem Gr.write {x y : HO} (hm : a ∈ m) (hx : H a = .some x) (mu : Mut (.some x)) : Gr H m (upd H a y) m :=
  ⟨⟨[], by simp⟩, fun b o q n => by rw [upd_ne (fun z => n (by rw [z]; exact hm))]; exact q, fun _ z n => absurd z n, mut_kp hx mu⟩
theorem Sta.write {i : Nat} {x y : HO} {o' : Ob} (s : Sta K mg H m h) (e : m[i]? = .some a) (hx : H a = .some x) (mu : Mut (.some x)) (r : RO K mg (upd H a y) m a o') : Sta K mg (upd H a y) m (h.set i o') := by
  have hi := (List.getElem?_eq_some_iff.mp e).1
  refine ⟨s.nd, by rw [List.length_set]; exact s.len, fun j b ob h1 h2 => ?_⟩
  by_cases hj : i = j
  · subst hj
    rw [e] at h1
    cases h1
    rw [List.getElem?_set_self (by rw [← s.len]; exact hi)] at h2
    cases h2
    exact r
  · rw [List.getElem?_set_ne hj] at h2
    have nb : b ≠ a := fun z => by
      subst z
      exact hj (nd_ix s.nd e h1)
    exact (s.obj j b ob h1 h2).mono (upd_ne nb) (mut_kp hx mu) ⟨[], by simp⟩
/-- a new thing comes into the store -/
theorem Gr.push {x : HO} (n : H a = none) : Gr H m (upd H a x) (m ++ [a]) :=
  ⟨⟨[a], rfl⟩, fun b o q _ => Same.lay n b o q, fun b hb nb => by
    rcases List.mem_append.mp hb with z | z
    · exact absurd z nb
    · rw [List.mem_singleton.mp z]; exact n, Kp.same (Same.lay n)⟩
theorem Sta.push {x : HO} {o' : Ob} (s : Sta K mg H m h) (n : H a = none) (r : RO K mg (upd H a x) (m ++ [a]) a o') : Sta K mg (upd H a x) (m ++ [a]) (h ++ [o']) := by
  have na := s.new n
  refine ⟨List.nodup_append.mpr ⟨s.nd, by simp, fun b hb c hc z => by rw [List.mem_singleton.mp hc] at z; rw [z] at hb; exact na hb⟩, by simp [s.len], fun j b ob h1 h2 => ?_⟩
  by_cases hj : j < m.length
  · rw [List.getElem?_append_left hj] at h1
    rw [List.getElem?_append_left (by rw [← s.len]; exact hj)] at h2
    have hb : b ∈ m := List.mem_of_getElem? h1
    exact (s.obj j b ob h1 h2).mono (upd_ne fun z => na (z ▸ hb)) (Kp.same (Same.lay n)) ⟨[a], rfl⟩
  · rw [List.getElem?_append_right (by omega)] at h1
    rw [List.getElem?_append_right (by rw [← s.len]; omega)] at h2
    have e1 : j - m.length = 0 := by
      have := (List.getElem?_eq_some_iff.mp h1).1
      simpa using this
    have e2 : j - h.length = 0 := by rw [← s.len]; exact e1
    rw [e1] at h1
    rw [e2] at h2
    simp at h1 h2
    rw [← h1, ← h2]
    exact r
end

/-! ### the slots -/
def Sl (K : PySem.W.Frag) (H : Hp) (m : List Addr) (σ : L2.St) (env : Env') : Prop := σ.length = env.length ∧ ∀ (i : Nat) u, env[i]? = some (some u) → ∃ v, σ[i]? = some (some v) ∧ RU K H m v u
section
variable {K : PySem.W.Frag} {mg : Str → Option Value} {H H' : Hp} {m m' : List Addr} {σ : L2.St} {env : Env'}
theorem Sl.gr (s : Sl K H m σ env) (g : Gr H m H' m') : Sl K H' m' σ env := ⟨s.1, fun i u e => by
  obtain ⟨v, h1, h2⟩ := s.2 i u e
  exact ⟨v, h1, RU.kp g.kp g.pre _ _ h2⟩⟩
theorem Sl.set (s : Sl K H m σ env) {v : V} {u : U} (r : RU K H m v u) (i : Nat) : Sl K H m (σ.set i (some v)) (env.set i (some u)) := by
  refine ⟨by simp [s.1], fun j w e => ?_⟩
  by_cases hj : i = j
  · subst hj
    by_cases hi : i < env.length
    · rw [List.getElem?_set_self hi] at e
      cases e
      exact ⟨v, by rw [List.getElem?_set_self (by rw [s.1]; exact hi)], r⟩
    · rw [List.getElem?_eq_none (by simpa using hi)] at e
      cases e
  · rw [List.getElem?_set_ne hj] at e
    obtain ⟨v', h1, h2⟩ := s.2 j w e
    exact ⟨v', by rw [List.getElem?_set_ne hj]; exact h1, h2⟩
end

/-! ### readings by functions -/
/-- an exception of the class c is what is wished -/
def ExW (X : Cx) (W : WX) (c : Str) (σ : L2.St) (H : Hp) : Prop := ∀ C, X.mg c = some (.ref C) → W (.ref C) none σ H
def Out {α β : Type} (X : Cx) (W : WX) (rl : Hp → List Addr → β → α → Prop) (σ : L2.St) (H : Hp) (m : List Addr) (r : Res α) (Q : β → Hp → Prop) : Prop := match r with
  | .ok a h' => ∀ b H' m', Gr H m H' m' → Sta X.K X.mg H' m' h' → rl H' m' b a → Q b H'
  | .exc c h' => ∀ H' m', Gr H m H' m' → Sta X.K X.mg H' m' h' → ExW X W c σ H'
  | .stuck => False
def rd {α β : Type} (X : Cx) (W : WX) (rl : Hp → List Addr → β → α → Prop) (f : Env' → Sto → Res α) (σ : L2.St) (H : Hp) (Q : β → Hp → Prop) : Prop :=
  ∃ env m h, Sta X.K X.mg H m h ∧ Sl X.K H m σ env ∧ Out X W rl σ H m (f env h) Q
def rlU (K : PySem.W.Frag) : Hp → List Addr → V → U → Prop := fun H m v u => RU K H m v u
def rlB : Hp → List Addr → Bool → Bool → Prop := fun _ _ b c => b = c
def rlA (K : PySem.W.Frag) : Hp → List Addr → List V → List U → Prop := fun H m vs us => RUs K H m vs us
structure SE (X : Cx) (W : WX) (e : Expr) (f : Ev) : Prop where
  pe : PE X e (rd X W (rlU X.K) f)
structure ST (X : Cx) (W : WX) (e : Expr) (f : Eb) : Prop where
  pt : PT X e (rd X W rlB f)
structure SW (X : Cx) (W : WX) (e : Expr) (f : Eb) : Prop where
  pw : PW X e (rd X W rlB f)
structure SA (X : Cx) (W : WX) (es : List Expr) (f : Ea) : Prop where
  pa : PA X es (rd X W (rlA X.K) f)
section
variable {α β γ δ : Type} {X : Cx} {W : WX} {rl : Hp → List Addr → β → α → Prop} {rl2 : Hp → List Addr → δ → γ → Prop} {σ : L2.St} {H H1 : Hp} {m m1 : List Addr} {h : Sto} {env : Env'} {r : Res α} {Q : β → Hp → Prop}
theorem Out.gr (o : Out X W rl σ H m r Q) (g : Gr H m H1 m1) : Out X W rl σ H1 m1 r Q := by
  cases r with
  | ok a h' => exact fun b H' m' g' => o b H' m' (g.trans g')
  | exc c h' => exact fun H' m' g' => o H' m' (g.trans g')
  | stuck => exact o
/-- the next part of a computation -/
theorem rd_of {f : Env' → Sto → Res γ} {k : γ → Sto → Res α} {Q' : δ → Hp → Prop} (sta : Sta X.K X.mg H m h) (sl : Sl X.K H m σ env) (out : Out X W rl σ H m ((f env h).bind k) Q)
    (nx : ∀ a h1 b H1 m1, Gr H m H1 m1 → Sta X.K X.mg H1 m1 h1 → rl2 H1 m1 b a → Out X W rl σ H1 m1 (k a h1) Q → Q' b H1) : rd X W rl2 f σ H Q' := by
  refine ⟨env, m, h, sta, sl, ?_⟩
  generalize f env h = q at out
  cases q with
  | ok a h1 => exact fun b H1 m1 g s r => nx a h1 b H1 m1 g s r (Out.gr out g)
  | exc c h1 => exact out
  | stuck => exact out
theorem Out.ok {a : α} {b : β} {h' : Sto} (o : Out X W rl σ H m (.ok a h') Q) {H' : Hp} {m' : List Addr} (g : Gr H m H' m') (s : Sta X.K X.mg H' m' h') (r : rl H' m' b a) : Q b H' := o b H' m' g s r
theorem Out.here {a : α} {b : β} {h' : Sto} (o : Out X W rl σ H m (.ok a h') Q) (s : Sta X.K X.mg H m h') (r : rl H m b a) : Q b H := o b H m (Gr.refl H m) s r
end
theorem pe_imp {X : Cx} {e : Expr} {t t' : TE} (h : PE X e t) (i : ∀ σ H Q, t' σ H Q → t σ H Q) : PE X e t' := ⟨fun pins s σ H Q I q => h.run pins s σ H Q I (i σ H Q q)⟩
theorem pt_imp {X : Cx} {e : Expr} {t t' : TT} (h : PT X e t) (i : ∀ σ H Q, t' σ H Q → t σ H Q) : PT X e t' := ⟨fun pins s σ H Q I q => h.run pins s σ H Q I (i σ H Q q)⟩
theorem pw_imp {X : Cx} {e : Expr} {t t' : TT} (h : PW X e t) (i : ∀ σ H Q, t' σ H Q → t σ H Q) : PW X e t' := ⟨fun wh pins s σ H Q I q => h.run wh pins s σ H Q I (i σ H Q q)⟩
theorem pa_imp {X : Cx} {es : List Expr} {t t' : TA} (h : PA X es t) (i : ∀ σ H Q, t' σ H Q → t σ H Q) : PA X es t' := ⟨fun p pins s σ H Q I q => h.run p pins s σ H Q I (i σ H Q q)⟩
theorem ps_imp {X : Cx} {st : Stmt} {t t' : TS} (h : PS X st t) (i : ∀ D σ H, t' D σ H → t D σ H) : PS X st t' := ⟨fun pins s σ H D I q => h.run pins s σ H D I (i D σ H q)⟩
theorem pss_imp {X : Cx} {st : List Stmt} {t t' : TS} (h : PSs X st t) (i : ∀ D σ H, t' D σ H → t D σ H) : PSs X st t' := ⟨fun pins s σ H D I q => h.run pins s σ H D I (i D σ H q)⟩

/-! ### freezing, unseen by the program -/
structure Fz (S : List Addr) (H H' : Hp) : Prop where
  alt : ∀ a, H' a = H a ∨ (a ∈ S ∧ ∃ o vs, H a = some (.lst vs) ∧ H' a = some (.frz o (.lst vs)))
  did : ∀ a ∈ S, ∀ vs, H a = some (.lst vs) → ∃ o, H' a = some (.frz o (.lst vs))
theorem inv_fz {X : Cx} {pins : List (Addr × Obj)} {σ : L2.St} {s : Shared} : ∀ (S : List Addr) {H : Hp}, L2.Inv X pins σ H s → ∃ H', Fz S H H' ∧ L2.Inv X pins σ H' s
  | [], H, I => ⟨H, ⟨fun _ => .inl rfl, fun _ z => nomatch z⟩, I⟩
  | a :: S, H, I => by
    obtain ⟨H1, f1, I1⟩ := inv_fz S I
    by_cases hl : ∃ vs, H1 a = some (.lst vs)
    · obtain ⟨vs, hl⟩ := hl
      obtain ⟨od, I2⟩ := I1.lock hl trivial
      refine ⟨_, ⟨fun b => ?_, fun b hb ws hb2 => ?_⟩, I2⟩
      · by_cases hb : b = a
        · subst hb
          rcases f1.alt b with z | ⟨_, o, ws, _, z⟩
          · exact .inr ⟨List.mem_cons_self, od, vs, z.symm.trans hl, upd_same⟩
          · rw [hl] at z; cases z
        · rw [upd_ne hb]
          rcases f1.alt b with z | ⟨h1, h2⟩
          · exact .inl z
          · exact .inr ⟨List.mem_cons_of_mem _ h1, h2⟩
      · by_cases hb : b = a
        · subst hb
          rcases f1.alt b with z | ⟨_, o, ws', _, z⟩
          · rw [hl, hb2] at z
            cases z
            exact ⟨od, upd_same⟩
          · rw [hl] at z; cases z
        · rw [upd_ne hb]
          rename_i hb'
          rcases List.mem_cons.mp hb' with z | z
          · exact absurd z hb
          · exact f1.did b z ws hb2
    · refine ⟨H1, ⟨fun b => ?_, fun b hb ws hb2 => ?_⟩, I1⟩
      · rcases f1.alt b with z | ⟨h1, h2⟩
        · exact .inl z
        · exact .inr ⟨List.mem_cons_of_mem _ h1, h2⟩
      · rcases List.mem_cons.mp hb with z | z
        · subst z
          rcases f1.alt b with z | ⟨_, o, ws', q, z⟩
          · exact absurd ⟨ws, z.trans hb2⟩ hl
          · rw [hb2] at q
            cases q
            exact ⟨o, z⟩
        · exact f1.did b z ws hb2
def gh (Q : VK) : VK := fun v H => ∃ S, ∀ H', Fz S H H' → Q v H'
theorem pe_gh {X : Cx} {e : Expr} {t : TE} (h : PE X e t) : PE X e (fun σ H Q => t σ H (gh Q)) := by
  refine ⟨fun pins s σ H Q I q => thn (h.run pins s σ H _ I q) fun u s1 ⟨v, H1, I1, r, S, q1⟩ => ?_⟩
  obtain ⟨H2, f, I2⟩ := inv_fz S I1
  exact ⟨v, H2, I2, r, q1 H2 f⟩
theorem gh.no {Q : VK} {v : V} {H : Hp} (q : Q v H) : gh Q v H := ⟨[], fun H' f => by
  have e : H' = H := funext fun a => by
    rcases f.alt a with z | ⟨z, _⟩
    · exact z
    · cases z
  rw [e]; exact q⟩
theorem Fz.kp {S : List Addr} {H H' : Hp} (f : Fz S H H') : Kp H H' := by
  refine ⟨fun a xs h => ?_, fun a o u h => ?_⟩
  · rcases f.alt a with z | ⟨_, o, vs, q, _⟩
    · exact z.trans h
    · rw [h] at q; cases q
  · rcases f.alt a with z | ⟨_, o', vs, q, _⟩
    · exact z.trans h
    · rw [h] at q; cases q
end Wk

/-! T2: expressions. -/
namespace Wk
open PySem PySem.Spec PyProof.Rows L2

/-! ### lists of data -/
section
variable {K : PySem.W.Frag} {H : Hp} {m : List Addr}
theorem RDs.len : ∀ {ds : List D} {vs : List V}, RDs K H vs ds → vs.length = ds.length
  | [], _, h => by cases h; rfl
  | _ :: _, _, h => by cases h with | cons a b => rw [List.length_cons, List.length_cons, RDs.len b]
theorem RDs.get : ∀ {ds : List D} {vs : List V} {i : Nat} {d : D}, RDs K H vs ds → ds[i]? = some d → ∃ v, vs[i]? = some v ∧ RD K H v d
  | [], _, _, _, h, e => by simp at e
  | _ :: _, _, 0, _, h, e => by
    cases h with
    | cons a b => simp at e; subst e; exact ⟨_, rfl, a⟩
  | _ :: _, _, i + 1, _, h, e => by
    cases h with
    | cons a b =>
      obtain ⟨v, h1, h2⟩ := RDs.get (i := i) b (by simpa using e)
      exact ⟨v, by simpa using h1, h2⟩
theorem RDs.app : ∀ {ds es : List D} {vs ws : List V}, RDs K H vs ds → RDs K H ws es → RDs K H (vs ++ ws) (ds ++ es)
  | [], _, _, _, h, q => by cases h; exact q
  | _ :: _, _, _, _, h, q => by cases h with | cons a b => exact .cons a (RDs.app b q)
theorem RDs.one {v : V} {d : D} (h : RD K H v d) : RDs K H [v] [d] := .cons h .nil
theorem RDs.take : ∀ (n : Nat) {ds : List D} {vs : List V}, RDs K H vs ds → RDs K H (vs.take n) (ds.take n)
  | 0, _, _, _ => by simp; exact .nil
  | _ + 1, [], _, h => by cases h; exact .nil
  | n + 1, _ :: _, _, h => by cases h with | cons a b => exact .cons a (RDs.take n b)
theorem RDs.drop : ∀ (n : Nat) {ds : List D} {vs : List V}, RDs K H vs ds → RDs K H (vs.drop n) (ds.drop n)
  | 0, _, _, h => by simpa using h
  | _ + 1, [], _, h => by cases h; exact .nil
  | n + 1, _ :: _, _, h => by cases h with | cons a b => exact RDs.drop n b
theorem RDs.set {v : V} {d : D} (r : RD K H v d) : ∀ (n : Nat) {ds : List D} {vs : List V}, RDs K H vs ds → RDs K H (vs.set n v) (ds.set n d)
  | _, [], _, h => by cases h; exact .nil
  | 0, _ :: _, _, h => by cases h with | cons a b => exact .cons r b
  | n + 1, _ :: _, _, h => by cases h with | cons a b => exact .cons a (RDs.set r n b)
theorem RDs.rep {ds : List D} {vs : List V} (h : RDs K H vs ds) : ∀ n : Nat, RDs K H (List.replicate n vs).flatten (List.replicate n ds).flatten
  | 0 => by simp; exact .nil
  | n + 1 => by
    rw [List.replicate_succ, List.replicate_succ, List.flatten_cons, List.flatten_cons]
    exact h.app (RDs.rep h n)
theorem RDs.dropLast {ds : List D} {vs : List V} (h : RDs K H vs ds) : RDs K H vs.dropLast ds.dropLast := by
  rw [List.dropLast_eq_take, List.dropLast_eq_take, h.len]
  exact h.take _
theorem RDs.rev : ∀ {ds : List D} {vs : List V}, RDs K H vs ds → RDs K H vs.reverse ds.reverse
  | [], _, h => by cases h; exact .nil
  | _ :: _, _, h => by
    cases h with
    | cons a b =>
      rw [List.reverse_cons, List.reverse_cons]
      exact (RDs.rev b).app (.one a)
theorem RDs.ints : ∀ {ns : List Int}, RDs K H (ns.map V.int) (ns.map PyData.int)
  | [] => .nil
  | n :: r => .cons (.int n) RDs.ints
theorem RDs.ints' : ∀ {ns : List Int} {vs : List V}, RDs K H vs (ns.map PyData.int) → vs = ns.map V.int
  | [], _, h => by cases h; rfl
  | n :: r, _, h => by
    cases h with
    | cons a b => cases a; rw [RDs.ints' b]; rfl
theorem RUs.len : ∀ {us : List U} {vs : List V}, RUs K H m vs us → vs.length = us.length
  | [], _, h => by cases h; rfl
  | _ :: _, _, h => by cases h with | cons a b => rw [List.length_cons, List.length_cons, RUs.len b]
theorem RUs.get : ∀ {us : List U} {vs : List V} {i : Nat} {u : U}, RUs K H m vs us → us[i]? = some u → ∃ v, vs[i]? = some v ∧ RU K H m v u
  | [], _, _, _, h, e => by simp at e
  | _ :: _, _, 0, _, h, e => by
    cases h with
    | cons a b => simp at e; subst e; exact ⟨_, rfl, a⟩
  | _ :: _, _, i + 1, _, h, e => by
    cases h with
    | cons a b =>
      obtain ⟨v, h1, h2⟩ := RUs.get (i := i) b (by simpa using e)
      exact ⟨v, by simpa using h1, h2⟩
theorem RU.rd {v : V} {x : D} (h : RU K H m v (.d x)) : RD K H v x := by cases h; assumption
end
mutual
theorem RD.dp {K : PySem.W.Frag} {H : Hp} : ∀ (d : D) (v : V), RD K H v d → Dp K H v d
  | .none, _, h => by cases h; exact .non
  | .bool b, _, h => by cases h; exact .bl b
  | .int i, _, h => by cases h; exact .int i
  | .str x, _, h => by cases h; exact .str x
  | .list ds, _, h => by
    cases h with
    | lst a b => exact .lst a.sq (RDs.dp ds _ b)
  | .tuple ds, _, h => by
    cases h with
    | tup a b => exact .tup a (RDs.dp ds _ b)
  | .dict _, _, h => by cases h
theorem RDs.dp {K : PySem.W.Frag} {H : Hp} : ∀ (ds : List D) (vs : List V), RDs K H vs ds → DpAll K H vs ds
  | [], _, h => by cases h; exact .nil
  | d :: ds, _, h => by
    cases h with
    | cons a b => exact .cons (RD.dp d _ a) (RDs.dp ds _ b)
end

/-! ### what a value is -/
def intOf : U → Option Int
  | .d (.int i) => some i
  | _ => none
def boolOf : U → Option Bool
  | .d (.bool b) => some b
  | _ => none
def strOf : U → Option Str
  | .d (.str x) => some x
  | _ => none
def tupOf : U → Option (List D)
  | .d (.tuple xs) => some xs
  | _ => none
def listOf (h : Sto) : U → Option (List D)
  | .d (.list xs) => some xs
  | .ref n => match h[n]? with
    | some (.lst xs) => some xs
    | some (.frz xs) => some xs
    | _ => none
  | _ => none
section
variable {K : PySem.W.Frag} {mg : Str → Option Value} {H : Hp} {m : List Addr} {h : Sto} {v : V} {u : U}
theorem intOf_v {i : Int} (e : intOf u = some i) (r : RU K H m v u) : v = .int i := by
  unfold intOf at e
  split at e
  · cases e; cases r.rd; rfl
  · cases e
theorem boolOf_v {b : Bool} (e : boolOf u = some b) (r : RU K H m v u) : v = .bl b := by
  unfold boolOf at e
  split at e
  · cases e; cases r.rd; rfl
  · cases e
theorem strOf_v {x : Str} (e : strOf u = some x) (r : RU K H m v u) : v = .str x := by
  unfold strOf at e
  split at e
  · cases e; cases r.rd; rfl
  · cases e
theorem tupOf_v {xs : List D} (e : tupOf u = some xs) (r : RU K H m v u) : ∃ a vs, v = .ref a ∧ SqT K H a vs ∧ RDs K H vs xs := by
  unfold tupOf at e
  split at e
  · cases e
    cases r.rd with
    | tup p q => exact ⟨_, _, rfl, p, q⟩
  · cases e
theorem listOf_v {xs : List D} (s : Sta K mg H m h) (e : listOf h u = some xs) (r : RU K H m v u) : ∃ a vs, v = .ref a ∧ SqL K H a vs ∧ RDs K H vs xs := by
  unfold listOf at e
  split at e
  · cases e
    cases r.rd with
    | lst p q => exact ⟨_, _, rfl, p.sq, q⟩
  · cases r with
    | ref hm =>
      split at e
      · rename_i o ho
        cases e
        obtain ⟨vs, h1, h2⟩ := s.obj _ _ _ hm ho
        exact ⟨_, vs, rfl, .inl (.inl h1), h2⟩
      · rename_i o ho
        cases e
        obtain ⟨o, vs, h1, h2⟩ := s.obj _ _ _ hm ho
        exact ⟨_, vs, rfl, .inl (.inr ⟨o, h1⟩), h2⟩
      · cases e
  · cases e
end

/-! ### a new list: of the store, or frozen at once -/
def mkL (b : Bool) (xs : List D) (h : Sto) : Res U := match b with
  | true => .ok (.ref h.length) (h ++ [.lst xs])
  | false => .ok (.d (.list xs)) h
theorem mkL_ok {X : Cx} {W : WX} {σ : L2.St} {H : Hp} {m : List Addr} {h : Sto} {b : Bool} {xs : List D} {vs : List V} {p : Addr} {Q : VK} (s : Sta X.K X.mg H m h) (n : H p = none) (r : RDs X.K H vs xs) (out : Out X W (rlU X.K) σ H m (mkL b xs h) Q) :
    gh Q (.ref p) (upd H p (.lst vs)) := by
  have r' : RDs X.K (upd H p (.lst vs)) vs xs := RDs.kp (Kp.same (Same.lay n)) _ _ r
  cases b with
  | true =>
    refine gh.no (Out.ok (b := V.ref p) out (Gr.push n) (s.push n ⟨vs, upd_same, r'⟩) ?_)
    exact .ref (by rw [← s.len]; simp)
  | false =>
    refine ⟨[p], fun H2 f => ?_⟩
    have sm : Same H H2 := fun a x q => by
      have na := ne_of_none q n
      rcases f.alt a with z | ⟨z, _⟩
      · rw [z, upd_ne na]; exact q
      · exact absurd (List.mem_singleton.mp z) na
    obtain ⟨o, ho⟩ := f.did p List.mem_cons_self vs upd_same
    exact Out.ok (b := V.ref p) out (Gr.of_same sm m) (s.same sm) (.d (.lst (.inl ⟨o, ho⟩) (RDs.kp f.kp _ _ r')))
theorem fzs_of {H : Hp} {p : Addr} {o : HO} {Q : VK} {v : V} (q : Q v (upd H p o)) : gh Q v (upd H p o) := gh.no q

/-! ### two-place operations -/
def eBin (F : U → U → Sto → Res U) (f g : Ev) : Ev := fun env h => (f env h).bind fun u h1 => (g env h1).bind fun w h2 => F u w h2
def eUn (F : U → Sto → Res U) (f : Ev) : Ev := fun env h => (f env h).bind F
def Ab2 (X : Cx) (W : WX) (F : U → U → Sto → Res U) (r : R2) : Prop := ∀ (σ : L2.St) (H : Hp) (m : List Addr) (h : Sto) (x y : V) (u w : U) (Q : VK), Sta X.K X.mg H m h → RU X.K H m x u → RU X.K H m y w → Out X W (rlU X.K) σ H m (F u w h) Q → r x y H Q
def tB (r : Res U) : Res Bool := r.bind fun u h => match boolOf u with
  | some b => .ok b h
  | none => .stuck
def tBin (F : U → U → Sto → Res U) (f g : Ev) : Eb := fun env h => tB (eBin F f g env h)
theorem gh_op {X : Cx} {f : Value → Value → Sem Value} {r : R2} (h : OpR X f r) : OpR X f (fun x y H Q => r x y H (gh Q)) := by
  intro pins s σ H x y v u Q I rx ry q
  refine thn (h pins s σ H x y v u _ I rx ry q) fun z s1 ⟨zv, H1, I1, rz, S, q1⟩ => ?_
  obtain ⟨H2, f2, I2⟩ := inv_fz S I1
  exact ⟨zv, H2, I2, rz, q1 H2 f2⟩
section
variable {X : Cx} {W : WX} {a b c : Expr} {f g : Ev} {pos : Pos} {F : U → U → Sto → Res U} {r : R2}
theorem out_bool {σ : L2.St} {H : Hp} {m : List Addr} {q : Res U} {Q : Bool → Hp → Prop} (o : Out X W rlB σ H m (tB q) Q) : Out X W (rlU X.K) σ H m q (fun z H' => ∃ k, z = .bl k ∧ Q k H') := by
  cases q with
  | ok u h =>
    intro v H' m' g s r
    have o' : Out X W rlB σ H m (match boolOf u with | some b => Res.ok b h | none => Res.stuck) Q := o
    cases e : boolOf u with
    | none => rw [e] at o'; exact o'.elim
    | some k =>
      rw [e] at o'
      exact ⟨k, boolOf_v e r, o' k H' m' g s rfl⟩
  | exc c h => exact o
  | stuck => exact o
theorem se_bin {op : Operator} (ho : OpR X (binaryOp op) r) (ab : Ab2 X W F r) (ha : SE X W a f) (hb : SE X W b g) : SE X W (.BinOp a op b pos) (eBin F f g) :=
  ⟨pe_imp (pe_op ho ha.pe hb.pe) fun σ H Q ⟨env, m, h, sta, sl, out⟩ => rd_of sta sl out fun u h1 x H1 m1 g1 s1 r1 out1 => rd_of s1 (sl.gr g1) out1 fun w h2 y H2 m2 g2 s2 r2 out2 =>
    ab σ H2 m2 h2 x y u w Q s2 (RU.kp g2.kp g2.pre _ _ r1) r2 out2⟩
theorem se_cmp {op : CmpOp} (ho : OpR X (compareOp op) r) (ab : Ab2 X W F r) (hm : behindInMarks op b = false) (ha : SE X W a f) (hb : SE X W b g) : SE X W (.Compare a [op] [b] pos) (eBin F f g) :=
  ⟨pe_imp (pe_cmpR ho ha.pe hb.pe hm) fun σ H Q ⟨env, m, h, sta, sl, out⟩ => rd_of sta sl out fun u h1 x H1 m1 g1 s1 r1 out1 => rd_of s1 (sl.gr g1) out1 fun w h2 y H2 m2 g2 s2 r2 out2 =>
    ab σ H2 m2 h2 x y u w Q s2 (RU.kp g2.kp g2.pre _ _ r1) r2 out2⟩
theorem bind_assoc {α β γ : Type} (q : Res α) (k : α → Sto → Res β) (l : β → Sto → Res γ) : (q.bind k).bind l = q.bind fun x h => (k x h).bind l := by cases q <;> rfl
theorem st_cmp {op : CmpOp} (ho : OpR X (compareOp op) r) (ab : Ab2 X W F r) (hm : behindInMarks op b = false) (ha : SE X W a f) (hb : SE X W b g) : ST X W (.Compare a [op] [b] pos) (tBin F f g) :=
  ⟨pt_imp (pt_cmpR ho ha.pe hb.pe hm) fun σ H Q ⟨env, m, h, sta, sl, out⟩ => by
    have out' : Out X W rlB σ H m ((f env h).bind fun u h1 => (g env h1).bind fun w h2 => tB (F u w h2)) Q := by
      have e : tBin F f g env h = ((f env h).bind fun u h1 => (g env h1).bind fun w h2 => tB (F u w h2)) := by
        unfold tBin tB eBin
        rw [bind_assoc]
        congr 1
        funext u h1
        rw [bind_assoc]
      rw [e] at out
      exact out
    exact rd_of sta sl out' fun u h1 x H1 m1 g1 s1 r1 out1 => rd_of s1 (sl.gr g1) out1 fun w h2 y H2 m2 g2 s2 r2 out2 => ab σ H2 m2 h2 x y u w _ s2 (RU.kp g2.kp g2.pre _ _ r1) r2 (out_bool out2)⟩
/-- a op b op' c -/
def eChain (F G : U → U → Sto → Res U) (f g k : Ev) : Ev := fun env h => (f env h).bind fun u h1 => (g env h1).bind fun w h2 => (tB (F u w h2)).bind fun b h3 => match b with
  | true => (k env h3).bind fun z h4 => G w z h4
  | false => .ok (.d (.bool false)) h3
def tChain (F G : U → U → Sto → Res U) (f g k : Ev) : Eb := fun env h => tB (eChain F G f g k env h)
theorem se_chain {op op' : CmpOp} {G : U → U → Sto → Res U} {r' : R2} {k : Ev} (ho : OpR X (compareOp op) r) (ho' : OpR X (compareOp op') r') (ab : Ab2 X W F r) (ab' : Ab2 X W G r') (ha : SE X W a f) (hb : SE X W b g) (hc : SE X W c k)
    (hm : lastMarks [op, op'] [b, c] = false := by with_unfolding_all rfl) : SE X W (.Compare a [op, op'] [b, c] pos) (eChain F G f g k) :=
  ⟨pe_imp (pe_chain ho ho' ha.pe hb.pe hc.pe hm) fun σ H Q ⟨env, m, h, sta, sl, out⟩ => rd_of sta sl out fun u h1 x H1 m1 g1 s1 r1 out1 => rd_of s1 (sl.gr g1) out1 fun w h2 y H2 m2 g2 s2 r2 out2 => by
    have rx := RU.kp g2.kp g2.pre _ _ r1
    have sl2 := (sl.gr g1).gr g2
    refine ab σ H2 m2 h2 x y u w _ s2 rx r2 ?_
    -- the first answer
    revert out2
    generalize F u w h2 = q
    intro out2
    cases q with
    | stuck => exact out2
    | exc c h3 => exact out2
    | ok z h3 =>
      intro zv H3 m3 g3 s3 rz
      have out3 : Out X W (rlU X.K) σ H2 m2 ((match boolOf z with | some b => Res.ok b h3 | none => Res.stuck).bind fun b h3 => match b with | true => (k env h3).bind fun z h4 => G w z h4 | false => .ok (.d (.bool false)) h3) Q := out2
      cases e : boolOf z with
      | none => rw [e] at out3; exact out3.elim
      | some b =>
        rw [e] at out3
        refine ⟨b, boolOf_v e rz, ?_⟩
        have out4 := Out.gr out3 g3
        cases b with
        | false =>
          rw [if_neg Bool.false_ne_true]
          exact Out.here (b := V.bl false) out4 s3 (.d (.bl false))
        | true =>
          rw [if_pos rfl]
          refine rd_of s3 (sl2.gr g3) out4 fun z2 h4 y2 H4 m4 g4 s4 r4 out5 => ?_
          exact ab' σ H4 m4 h4 y y2 w z2 Q s4 (RU.kp (g3.trans g4).kp (g3.trans g4).pre _ _ r2) r4 out5⟩
end

/-! ### the operators -/
/-- a test that nobody evaluates by itself -/
noncomputable def ask (p : Prop) : Bool := @decide p (Classical.propDecidable p)
theorem ask_iff {p : Prop} : ask p = true ↔ p := @decide_eq_true_iff p (Classical.propDecidable p)
theorem ask_t {p : Prop} (h : p) : ask p = true := ask_iff.mpr h
noncomputable def fits (n : Nat) : Bool := ask (n ≤ sizeLine)
noncomputable def mulOk (i j : Int) : Bool := ask (i.natAbs < 2 ^ 64 ∨ j.natAbs < 2 ^ 64 ∨ (i.natAbs < 2 ^ 400000 ∧ j.natAbs < 2 ^ 400000))
noncomputable def opAdd (b : Bool) (u w : U) (h : Sto) : Res U :=
  match intOf u, intOf w with
  | some i, some j => .ok (.d (.int (i + j))) h
  | _, _ => match tupOf u, tupOf w with
    | some xs, some ys => if fits (xs.length + ys.length) then .ok (.d (.tuple (xs ++ ys))) h else .stuck
    | _, _ => match strOf u, strOf w with
      | some x, some y => if fits (x.length + y.length) then .ok (.d (.str (x ++ y))) h else .stuck
      | _, _ => match listOf h u, listOf h w with
        | some xs, some ys => if fits (xs.length + ys.length) then mkL b (xs ++ ys) h else .stuck
        | _, _ => .stuck
def opSub (u w : U) (h : Sto) : Res U := match intOf u, intOf w with
  | some i, some j => .ok (.d (.int (i - j))) h
  | _, _ => .stuck
noncomputable def opMul (u w : U) (h : Sto) : Res U := match intOf u, intOf w with
  | some i, some j => if mulOk i j then .ok (.d (.int (i * j))) h else .stuck
  | _, _ => .stuck
noncomputable def divOk (j : Int) : Bool := ask (0 < j ∧ j.natAbs < 2 ^ 8000)
noncomputable def opFdiv (u w : U) (h : Sto) : Res U := match intOf u, intOf w with
  | some i, some j => if divOk j then .ok (.d (.int (i / j))) h else .stuck
  | _, _ => .stuck
def opMod (u w : U) (h : Sto) : Res U := match intOf u, intOf w with
  | some i, some j => if 0 < j then .ok (.d (.int (i % j))) h else .stuck
  | _, _ => .stuck
noncomputable def opPow (u w : U) (h : Sto) : Res U := match intOf u, intOf w with
  | some i, some j => if ask (0 ≤ j ∧ j ≤ 1000000 ∧ i.natAbs < 2 ^ 64) then .ok (.d (.int (i ^ j.toNat))) h else .stuck
  | _, _ => .stuck
def opNeg (u : U) (h : Sto) : Res U := match intOf u with
  | some i => .ok (.d (.int (-i))) h
  | _ => .stuck
def opI (p : Int → Int → Bool) (u w : U) (h : Sto) : Res U := match intOf u, intOf w with
  | some i, some j => .ok (.d (.bool (p i j))) h
  | _, _ => .stuck
abbrev opLt := opI fun i j => decide (i < j)
abbrev opLe := opI fun i j => decide (i ≤ j)
abbrev opGt := opI fun i j => decide (j < i)
abbrev opGe := opI fun i j => decide (j ≤ i)
/-- the list + list of any kind -/
def rCatL (K : PySem.W.Frag) : R2 := fun x y H Q => ∃ l b xs zs, x = .ref l ∧ y = .ref b ∧ SqL K H l xs ∧ SqL K H b zs ∧ xs.length + zs.length ≤ sizeLine ∧ ∀ p, H p = none → Q (.ref p) (upd H p (.lst (xs ++ zs)))
section
variable {X : Cx} {W : WX}
theorem plainL_get {h : Heap} {l : Addr} {its : Array Value} (p : PlainL h l its) : ∃ o n, h.get? l = some o ∧ o.cls = .type "list" ∧ o.dict = none ∧ o.data = .seq its n := p
theorem mulOk_ok {i j : Int} (h : mulOk i j = true) : IntMulOk i j := by
  have h := ask_iff.mp h
  rcases h with h | h | ⟨h1, h2⟩
  · exact CMul.ok (.inl (by omega))
  · exact CMul.ok (.inr (by omega))
  · exact CMulW.ok (wide_mul h1 h2 (by decide) (by decide) (by decide))
theorem op_mulA : OpR X (binaryOp .Mult) (rI (fun i j => mulOk i j = true) fun i j => .int (i * j)) := L2.opI fun _ _ _ _ _ _ _ hc q => mul_int q (mulOk_ok hc)
theorem op_fdivA : OpR X (binaryOp .FloorDiv) (rI (fun _ j => divOk j = true) fun i j => .int (i / j)) := by
  intro pins s σ H x y v u Q I rx ry h
  obtain ⟨i, j, e1, e2, hc, q⟩ := h
  have hc := ask_iff.mp hc
  exact op_fdivW pins s σ H x y v u Q I rx ry ⟨i, j, e1, e2, wide_div hc.1 hc.2 (by decide) (by decide), q⟩
theorem ab_int {F : U → U → Sto → Res U} {C : Int → Int → Prop} {g : Int → Int → V} {gd : Int → Int → D} (hF : ∀ u w h, F u w h = .stuck ∨ ∃ i j, intOf u = some i ∧ intOf w = some j ∧ (F u w h = .stuck ∨ (C i j ∧ F u w h = .ok (.d (gd i j)) h)))
    (hg : ∀ (K : PySem.W.Frag) (H : Hp) i j, RD K H (g i j) (gd i j)) : Ab2 X W F (rI C g) := by
  intro σ H m h x y u w Q s ru rw out
  rcases hF u w h with e | ⟨i, j, e1, e2, e | ⟨hc, e⟩⟩
  · rw [e] at out; exact out.elim
  · rw [e] at out; exact out.elim
  · rw [e] at out
    exact ⟨i, j, intOf_v e1 ru, intOf_v e2 rw, hc, Out.here out s (.d (hg _ _ i j))⟩
theorem ab_int0 {F : U → U → Sto → Res U} {g : Int → Int → V} {gd : Int → Int → D} (hF : ∀ u w h, F u w h = .stuck ∨ ∃ i j, intOf u = some i ∧ intOf w = some j ∧ F u w h = .ok (.d (gd i j)) h)
    (hg : ∀ (K : PySem.W.Frag) (H : Hp) i j, RD K H (g i j) (gd i j)) : Ab2 X W F (rI0 g) := by
  intro σ H m h x y u w Q s ru rw out
  rcases hF u w h with e | ⟨i, j, e1, e2, e⟩
  · rw [e] at out; exact out.elim
  · rw [e] at out
    exact ⟨i, j, intOf_v e1 ru, intOf_v e2 rw, Out.here out s (.d (hg _ _ i j))⟩
theorem ab_sub : Ab2 X W opSub (rI0 fun i j => .int (i - j)) := ab_int0 (gd := fun i j => .int (i - j)) (fun u w h => by
  unfold opSub
  split
  · exact .inr ⟨_, _, by assumption, by assumption, rfl⟩
  · exact .inl rfl) fun _ _ _ _ => .int _
theorem ab_cmp (p : Int → Int → Bool) : Ab2 X W (opI p) (rI0 fun i j => .bl (p i j)) := ab_int0 (gd := fun i j => .bool (p i j)) (fun u w h => by
  unfold opI
  split
  · exact .inr ⟨_, _, by assumption, by assumption, rfl⟩
  · exact .inl rfl) fun _ _ _ _ => .bl _
theorem ab_mul : Ab2 X W opMul (rI (fun i j => mulOk i j = true) fun i j => .int (i * j)) := ab_int (gd := fun i j => .int (i * j)) (fun u w h => by
  unfold opMul
  split
  · refine .inr ⟨_, _, by assumption, by assumption, ?_⟩
    split
    · exact .inr ⟨by assumption, rfl⟩
    · exact .inl rfl
  · exact .inl rfl) fun _ _ _ _ => .int _
theorem ab_fdiv : Ab2 X W opFdiv (rI (fun _ j => divOk j = true) fun i j => .int (i / j)) := ab_int (gd := fun i j => .int (i / j)) (fun u w h => by
  unfold opFdiv
  split
  · refine .inr ⟨_, _, by assumption, by assumption, ?_⟩
    split
    · exact .inr ⟨by assumption, rfl⟩
    · exact .inl rfl
  · exact .inl rfl) fun _ _ _ _ => .int _
theorem ab_mod : Ab2 X W opMod (rI (fun _ j => 0 < j) fun i j => .int (i % j)) := ab_int (gd := fun i j => .int (i % j)) (fun u w h => by
  unfold opMod
  split
  · refine .inr ⟨_, _, by assumption, by assumption, ?_⟩
    split
    · exact .inr ⟨by assumption, rfl⟩
    · exact .inl rfl
  · exact .inl rfl) fun _ _ _ _ => .int _
theorem ab_pow : Ab2 X W opPow (rI CPow fun i j => .int (i ^ j.toNat)) := ab_int (gd := fun i j => .int (i ^ j.toNat)) (fun u w h => by
  unfold opPow
  split
  · refine .inr ⟨_, _, by assumption, by assumption, ?_⟩
    split
    · rename_i hz
      exact .inr ⟨ask_iff.mp hz, rfl⟩
    · exact .inl rfl
  · exact .inl rfl) fun _ _ _ _ => .int _
theorem op_catL : OpR X (binaryOp .Add) (rCatL X.K) := by
  intro pins s σ H x y v u Q I rx ry h
  obtain ⟨l, b, xs, zs, rfl, rfl, hH, hB, hz, q⟩ := h
  cases rx
  cases ry
  obtain ⟨its, r, ⟨o, n, e, c1, c2, c3⟩, z⟩ := I.list hH
  obtain ⟨its2, r2, ⟨o2, n2, e2, d1, d2, d3⟩, z2⟩ := I.list hB
  obtain ⟨oc, od, odt, osl⟩ := o
  obtain ⟨oc2, od2, odt2, osl2⟩ := o2
  simp only at c1 c2 c3 d1 d2 d3
  subst c1 c2 c3 d1 d2 d3
  have h1 := r.length
  have h2 := r2.length
  have ea : its.toArray ++ its2.toArray = (its ++ its2).toArray := by simp
  refine concat_meets ⟨_, e, rfl⟩ ⟨_, e2, rfl⟩ noFill_list_add seq_list_add PySem.F.slot_list_add PySem.F.entry_list_add (PySem.F.args_list_add_2 _ _) (list_addW l b its.toArray its2.toArray n n2 none none osl osl2 (by rw [List.size_toArray, List.size_toArray]; omega)) ⟨e, e2, ?_⟩
  rw [ea]
  exact ⟨.ref _, _, I.lnew (t' := s.toks) (r.append r2) (by rw [List.length_append]; omega), rfl, q _ I.fresh⟩
/-- a + b of ints, tuples, texts, lists -/
def rAddA (K : PySem.W.Frag) : R2 := fun x y H Q => rI0 (fun i j => .int (i + j)) x y H Q ∨ rCatA K x y H Q ∨ (∃ i j, x = .str i ∧ y = .str j ∧ i.length + j.length ≤ sizeLine ∧ Q (.str (i ++ j)) H) ∨ rCatL K x y H (gh Q)
theorem op_addA : OpR X (binaryOp .Add) (rAddA X.K) := op_add.or (op_catA.or (op_add_str.or (gh_op op_catL)))
theorem ab_add (b : Bool) : Ab2 X W (opAdd b) (rAddA X.K) := by
  intro σ H m h x y u w Q s ru rw out
  unfold opAdd at out
  split at out
  · rename_i i j e1 e2
    exact .inl ⟨i, j, intOf_v e1 ru, intOf_v e2 rw, Out.here out s (.d (.int _))⟩
  · split at out
    · rename_i xs ys e1 e2
      split at out
      · rename_i hz
        obtain ⟨p, vs, rfl, t1, d1⟩ := tupOf_v e1 ru
        obtain ⟨p', vs', rfl, t2, d2⟩ := tupOf_v e2 rw
        refine .inr (.inl ⟨p, p', vs, vs', rfl, rfl, t1, t2, by rw [d1.len, d2.len]; exact ask_iff.mp hz, fun e => ?_, fun e e' => ?_, fun e e' a na => ?_⟩)
        · subst e
          cases d1
          exact Out.here (b := V.ref p') out s (.d (.tup t2 d2))
        · subst e'
          cases d2
          rw [List.append_nil] at out
          exact Out.here (b := V.ref p) out s (.d (.tup t1 d1))
        · have sm : Same H (upd H a (.tup (vs ++ vs'))) := Same.lay na
          exact Out.ok (b := V.ref a) out (Gr.of_same sm m) (s.same sm) (.d (.tup (.inl (.inl upd_same)) (RDs.kp (Kp.same sm) _ _ (d1.app d2))))
      · exact out.elim
    · split at out
      · rename_i xs ys e1 e2
        split at out
        · rename_i hz
          exact .inr (.inr (.inl ⟨_, _, strOf_v e1 ru, strOf_v e2 rw, ask_iff.mp hz, Out.here out s (.d (.str _))⟩))
        · exact out.elim
      · split at out
        · rename_i xs ys e1 e2
          split at out
          · rename_i hz
            obtain ⟨p, vs, rfl, t1, d1⟩ := listOf_v s e1 ru
            obtain ⟨p', vs', rfl, t2, d2⟩ := listOf_v s e2 rw
            exact .inr (.inr (.inr ⟨p, p', vs, vs', rfl, rfl, t1, t2, by rw [d1.len, d2.len]; exact ask_iff.mp hz, fun a na => mkL_ok s na (d1.app d2) out⟩))
          · exact out.elim
        · exact out.elim

/-! ### == and != -/
mutual
def dataOf (h : Sto) : U → Option D
  | .d x => some x
  | .ref n => (listOf h (.ref n)).map .list
  | .tup us => (datasOf h us).map .tuple
  | .exn _ => none
def datasOf (h : Sto) : List U → Option (List D)
  | [] => some []
  | u :: us => match dataOf h u, datasOf h us with
    | some x, some xs => some (x :: xs)
    | _, _ => none
end
mutual
theorem dataOf_v {K : PySem.W.Frag} {mg : Str → Option Value} {H : Hp} {m : List Addr} {h : Sto} (s : Sta K mg H m h) : ∀ (u : U) (v : V) (d : D), dataOf h u = some d → RU K H m v u → Dp K H v d
  | .d x, v, d, e, r => by
    rw [dataOf] at e
    cases e
    exact RD.dp _ _ r.rd
  | .ref n, v, d, e, r => by
    rw [dataOf] at e
    cases q : listOf h (.ref n) with
    | none => rw [q] at e; cases e
    | some xs =>
      rw [q] at e
      cases e
      obtain ⟨a, vs, rfl, h1, h2⟩ := listOf_v s q r
      exact .lst h1 (RDs.dp _ _ h2)
  | .tup us, v, d, e, r => by
    rw [dataOf] at e
    cases q : datasOf h us with
    | none => rw [q] at e; cases e
    | some xs =>
      rw [q] at e
      cases e
      cases r with
      | tup t b => exact .tup t (datasOf_v s us _ xs q b)
  | .exn a, v, d, e, r => by
    rw [dataOf] at e
    cases e
theorem datasOf_v {K : PySem.W.Frag} {mg : Str → Option Value} {H : Hp} {m : List Addr} {h : Sto} (s : Sta K mg H m h) : ∀ (us : List U) (vs : List V) (ds : List D), datasOf h us = some ds → RUs K H m vs us → DpAll K H vs ds
  | [], vs, ds, e, r => by
    rw [datasOf] at e
    cases e
    cases r
    exact .nil
  | u :: us, vs, ds, e, r => by
    rw [datasOf] at e
    split at e
    · rename_i x xs e1 e2
      cases e
      cases r with
      | cons a b => exact .cons (dataOf_v s u _ x e1 a) (datasOf_v s us _ xs e2 b)
    · cases e
end
def opEqB (n : Bool) (u w : U) (h : Sto) : Res U := match strOf u, strOf w with
  | some x, some y => .ok (.d (.bool (xor n (decide (x = y))))) h
  | _, _ => match dataOf h u, dataOf h w with
    | some d, some e => if SeqAt.shaped d && SeqAt.shaped e then .ok (.d (.bool (xor n (PyData.eqv d e)))) h else .stuck
    | _, _ => .stuck
abbrev opEq := opEqB false
abbrev opNe := opEqB true
def rEqA (K : PySem.W.Frag) : R2 := fun x y H Q => rEq x y H Q ∨ rEqD K x y H Q
def rNeA (K : PySem.W.Frag) : R2 := fun x y H Q => rNe x y H Q ∨ rNeD K x y H Q
theorem op_eqA (hu : X.A.units + 64 < cLine) : OpR X (compareOp .Eq) (rEqA X.K) := op_eq.or (op_eqD hu)
theorem op_neA (hu : X.A.units + 64 < cLine) : OpR X (compareOp .NotEq) (rNeA X.K) := op_ne.or (op_neD hu)
theorem dec_strV {x y : Str} : decide (V.str x = V.str y) = decide (x = y) := by
  rw [Bool.eq_iff_iff]
  simp
theorem ab_eq : Ab2 X W opEq (rEqA X.K) := by
  intro σ H m h x y u w Q s ru rw out
  unfold opEq opEqB at out
  split at out
  · rename_i a b e1 e2
    refine .inl ?_
    rw [strOf_v e1 ru, strOf_v e2 rw]
    refine ⟨rfl, ?_⟩
    rw [dec_strV]
    exact Out.here (b := V.bl _) out s (.d (by rw [Bool.false_xor]; exact .bl _))
  · split at out
    · rename_i d e e1 e2
      split at out
      · rename_i hs
        rw [Bool.and_eq_true] at hs
        exact .inr ⟨d, e, dataOf_v s _ _ _ e1 ru, dataOf_v s _ _ _ e2 rw, hs.1, hs.2, Out.here (b := V.bl _) out s (.d (by rw [Bool.false_xor]; exact .bl _))⟩
      · exact out.elim
    · exact out.elim
theorem ab_ne : Ab2 X W opNe (rNeA X.K) := by
  intro σ H m h x y u w Q s ru rw out
  unfold opNe opEqB at out
  split at out
  · rename_i a b e1 e2
    refine .inl ?_
    rw [strOf_v e1 ru, strOf_v e2 rw]
    refine ⟨rfl, ?_⟩
    rw [dec_strV]
    exact Out.here (b := V.bl _) out s (.d (by rw [Bool.true_xor]; exact .bl _))
  · split at out
    · rename_i d e e1 e2
      split at out
      · rename_i hs
        rw [Bool.and_eq_true] at hs
        exact .inr ⟨d, e, dataOf_v s _ _ _ e1 ru, dataOf_v s _ _ _ e2 rw, hs.1, hs.2, Out.here (b := V.bl _) out s (.d (by rw [Bool.true_xor]; exact .bl _))⟩
      · exact out.elim
    · exact out.elim
/-- x is None, x is not None -/
def isN : U → Bool
  | .d .none => true
  | _ => false
def opIsN (n : Bool) (u w : U) (h : Sto) : Res U := match isN w with
  | true => .ok (.d (.bool (xor n (isN u)))) h
  | false => .stuck
theorem isN_v {K : PySem.W.Frag} {H : Hp} {m : List Addr} {v : V} {u : U} (r : RU K H m v u) : decide (v = .non) = isN u := by
  cases r with
  | d p => cases p <;> first | rfl | simp [isN]
  | ref p => simp [isN]
  | tup p q => simp [isN]
  | exn a => simp [isN]
theorem isN_non {K : PySem.W.Frag} {H : Hp} {m : List Addr} {v : V} {u : U} (r : RU K H m v u) (e : isN u = true) : v = .non := by
  have z := isN_v r
  rw [e] at z
  exact of_decide_eq_true z
theorem ab_isN : Ab2 X W (opIsN false) (fun x y H Q => y = .non ∧ Q (.bl (decide (x = .non))) H) := by
  intro σ H m h x y u w Q s ru rw out
  unfold opIsN at out
  split at out
  · rename_i e
    refine ⟨isN_non rw e, ?_⟩
    rw [isN_v ru]
    exact Out.here (b := V.bl _) out s (.d (by rw [Bool.false_xor]; exact .bl _))
  · exact out.elim
theorem ab_notN : Ab2 X W (opIsN true) (fun x y H Q => y = .non ∧ Q (.bl (!decide (x = .non))) H) := by
  intro σ H m h x y u w Q s ru rw out
  unfold opIsN at out
  split at out
  · rename_i e
    refine ⟨isN_non rw e, ?_⟩
    rw [isN_v ru]
    exact Out.here (b := V.bl _) out s (.d (by rw [Bool.true_xor]; exact .bl _))
  · exact out.elim
end

/-! ### names, constants -/
def eV (i : Nat) : Ev := fun env h => match env[i]? with
  | some (some u) => .ok u h
  | _ => .stuck
def eC (d : D) : Ev := fun _ h => .ok (.d d) h
section
variable {X : Cx} {W : WX} {a b c : Expr} {f g : Ev} {pos : Pos}
theorem se_v (i : Nat) {x : Str} (hN : X.N[i]? = some x := by rfl) (hv : Vis X.env.scope x := by first | exact Or.inl rfl | exact Or.inr (Or.inl rfl) | exact Or.inr (Or.inr rfl)) (hd : (x == ("__debug__" : Str)) = false := by decide)
    (hcd : (x == ("__classdict__" : Str)) = false := by decide) : SE X W (.Name x pos) (eV i) :=
  ⟨pe_imp (pv i hN hv hd hcd) fun σ H Q ⟨env, m, h, sta, sl, out⟩ => by
    unfold eV at out
    split at out
    · rename_i u e
      obtain ⟨v, h1, h2⟩ := sl.2 i u e
      exact ⟨v, h1, Out.here out sta h2⟩
    · exact out.elim⟩
theorem se_c {e : Expr} {v : V} {d : D} (h : PE X e (tC v)) (r : ∀ H, RD X.K H v d) : SE X W e (eC d) :=
  ⟨pe_imp h fun σ H Q ⟨env, m, h, sta, sl, out⟩ => Out.here (b := v) out sta (.d (r H))⟩
theorem se_int {i : Int} {j : Nat} : SE X W (.Constant (.int i) j pos) (eC (.int i)) := se_c pe_int fun _ => .int i
theorem se_bl {i : Bool} {j : Nat} : SE X W (.Constant (.bool i) j pos) (eC (.bool i)) := se_c pe_bl fun _ => .bl i
theorem se_non {j : Nat} : SE X W (.Constant .none j pos) (eC .none) := se_c pe_non fun _ => .non
theorem se_str {x : Str} {j : Nat} : SE X W (.Constant (.str x) j pos) (eC (.str x)) := se_c pe_str fun _ => .str x
/-- a constant of the module -/
theorem se_glob {x : Str} {v : V} {u : Value} {d : D} (hg : Gl X x) (hm : X.mg x = some u) (r : RelV v u) (hd : ∀ H, RD X.K H v d) (hx : (x == ("__debug__" : Str)) = false := by decide) : SE X W (.Name x pos) (eC d) :=
  se_c (pe_glob hg hm r hx) hd
theorem se_neg (ha : SE X W a f) : SE X W (.UnaryOp .USub a pos) (eUn opNeg f) :=
  ⟨pe_imp (pe_un un_neg ha.pe) fun σ H Q ⟨env, m, h, sta, sl, out⟩ => rd_of sta sl out fun u h1 x H1 m1 g1 s1 r1 out1 => by
    unfold opNeg at out1
    split at out1
    · rename_i i e
      exact ⟨i, intOf_v e r1, Out.here (b := V.int _) out1 s1 (.d (.int _))⟩
    · exact out1.elim⟩

/-! ### tests -/
def truthOf (h : Sto) (u : U) : Option Bool := match boolOf u with
  | some b => some b
  | none => match intOf u with
    | some i => some (i != 0)
    | none => match tupOf u with
      | some xs => some (!xs.isEmpty)
      | none => match listOf h u with
        | some xs => some (!xs.isEmpty)
        | none => none
def tTru (f : Ev) : Eb := fun env h => (f env h).bind fun u h1 => match truthOf h1 u with
  | some b => .ok b h1
  | none => .stuck
theorem isEmpty_rds {K : PySem.W.Frag} {H : Hp} {vs : List V} {ds : List D} (r : RDs K H vs ds) : (!ds.isEmpty) = !vs.isEmpty := by cases r <;> rfl
theorem st_truth (ha : SE X W a f) (he : ∀ whole, isTrue a X.env whole = (do let v ← whole; standAt a.pos; holding [v] (truthy v)) := by intro _; rfl) : ST X W a (tTru f) :=
  ⟨pt_imp (pt_truth ha.pe he) fun σ H Q ⟨env, m, h, sta, sl, out⟩ => rd_of sta sl out fun u h1 x H1 m1 g1 s1 r1 out1 => by
    have tr : ∀ k, truthOf h1 u = some k → TruV X.K x H1 k := fun k e => by
      unfold truthOf at e
      split at e
      · rename_i b eb
        cases e
        rw [boolOf_v eb r1]
        rfl
      · split at e
        · rename_i i eb
          cases e
          rw [intOf_v eb r1]
          rfl
        · split at e
          · rename_i xs eb
            cases e
            obtain ⟨p, vs, rfl, t1, d1⟩ := tupOf_v eb r1
            exact .inr (.inl ⟨vs, t1, isEmpty_rds d1⟩)
          · split at e
            · rename_i xs eb
              cases e
              obtain ⟨p, vs, rfl, t1, d1⟩ := listOf_v s1 eb r1
              exact .inl ⟨vs, t1, isEmpty_rds d1⟩
            · cases e
    cases e : truthOf h1 u with
    | none => rw [e] at out1; exact out1.elim
    | some k =>
      rw [e] at out1
      exact ⟨k, tr k e, Out.here (b := k) out1 s1 rfl⟩⟩
def bAnd (f g : Eb) : Eb := fun env h => (f env h).bind fun b h1 => match b with
  | true => g env h1
  | false => .ok false h1
def bOr (f g : Eb) : Eb := fun env h => (f env h).bind fun b h1 => match b with
  | true => .ok true h1
  | false => g env h1
def bNot (f : Eb) : Eb := fun env h => (f env h).bind fun b h1 => .ok (!b) h1
variable {p q : Eb} {rest : List Expr}
theorem sw_st {e : Expr} (h : SW X W e p) : ST X W e p := ⟨h.pw.pt⟩
theorem sw_and1 (ha : ST X W a p) : SW X W (.BoolOp .And [a] pos) p := ⟨pw_and1 ha.pt⟩
theorem sw_or1 (ha : ST X W a p) : SW X W (.BoolOp .Or [a] pos) p := ⟨pw_or1 ha.pt⟩
theorem rd_id {α β : Type} {rl : Hp → List Addr → β → α → Prop} {f : Env' → Sto → Res α} {σ : L2.St} {H : Hp} {m : List Addr} {h : Sto} {env : Env'} {Q : β → Hp → Prop} (sta : Sta X.K X.mg H m h) (sl : Sl X.K H m σ env) (out : Out X W rl σ H m (f env h) Q) : rd X W rl f σ H Q := ⟨env, m, h, sta, sl, out⟩
theorem sw_and (ha : ST X W a p) (hb : SW X W (.BoolOp .And (b :: rest) pos) q) : SW X W (.BoolOp .And (a :: b :: rest) pos) (bAnd p q) :=
  ⟨pw_imp (pw_and ha.pt hb.pw) fun σ H Q ⟨env, m, h, sta, sl, out⟩ => rd_of sta sl out fun u h1 x H1 m1 g1 s1 r1 out1 => by
    cases r1
    cases u with
    | true => rw [if_pos rfl]; exact rd_id s1 (sl.gr g1) out1
    | false => rw [if_neg Bool.false_ne_true]; exact Out.here (b := false) out1 s1 rfl⟩
theorem sw_or (ha : ST X W a p) (hb : SW X W (.BoolOp .Or (b :: rest) pos) q) : SW X W (.BoolOp .Or (a :: b :: rest) pos) (bOr p q) :=
  ⟨pw_imp (pw_or ha.pt hb.pw) fun σ H Q ⟨env, m, h, sta, sl, out⟩ => rd_of sta sl out fun u h1 x H1 m1 g1 s1 r1 out1 => by
    cases r1
    cases u with
    | true => rw [if_pos rfl]; exact Out.here (b := true) out1 s1 rfl
    | false => rw [if_neg Bool.false_ne_true]; exact rd_id s1 (sl.gr g1) out1⟩
theorem st_not (ha : ST X W a p) : ST X W (.UnaryOp .Not a pos) (bNot p) :=
  ⟨pt_imp (pt_not ha.pt) fun σ H Q ⟨env, m, h, sta, sl, out⟩ => rd_of sta sl out fun u h1 x H1 m1 g1 s1 r1 out1 => by
    cases r1
    exact Out.here (b := !u) out1 s1 rfl⟩
/-! .. as values -/
def eAnd (f g : Ev) : Ev := fun env h => (tB (f env h)).bind fun b h1 => match b with
  | true => g env h1
  | false => .ok (.d (.bool false)) h1
def eOr (f g : Ev) : Ev := fun env h => (tB (f env h)).bind fun b h1 => match b with
  | true => .ok (.d (.bool true)) h1
  | false => g env h1
def eNot (f : Ev) : Ev := fun env h => (tB (f env h)).bind fun b h1 => .ok (.d (.bool (!b))) h1
theorem rd_ofB {α β : Type} {rl : Hp → List Addr → β → α → Prop} {f : Ev} {k : Bool → Sto → Res α} {σ : L2.St} {H : Hp} {m : List Addr} {h : Sto} {env : Env'} {Q : β → Hp → Prop} {Q' : V → Hp → Prop} (sta : Sta X.K X.mg H m h) (sl : Sl X.K H m σ env)
    (out : Out X W rl σ H m ((tB (f env h)).bind k) Q) (nx : ∀ b h1 H1 m1, Gr H m H1 m1 → Sta X.K X.mg H1 m1 h1 → Out X W rl σ H1 m1 (k b h1) Q → Q' (.bl b) H1) : rd X W (rlU X.K) f σ H Q' := by
  unfold tB at out
  rw [bind_assoc] at out
  refine rd_of sta sl out fun u h1 x H1 m1 g1 s1 r1 out1 => ?_
  cases e : boolOf u with
  | none => rw [e] at out1; exact out1.elim
  | some b =>
    rw [e] at out1
    rw [boolOf_v e r1]
    exact nx b h1 H1 m1 g1 s1 out1
theorem se_one {op : BoolOp} (h : SE X W a f) : SE X W (.BoolOp op [a] pos) f := ⟨pe_one h.pe⟩
theorem se_and (ha : SE X W a f) (hb : SE X W (.BoolOp .And (b :: rest) pos) g) : SE X W (.BoolOp .And (a :: b :: rest) pos) (eAnd f g) :=
  ⟨pe_imp (pe_and ha.pe hb.pe) fun σ H Q ⟨env, m, h, sta, sl, out⟩ => rd_ofB sta sl out fun b h1 H1 m1 g1 s1 out1 => ⟨b, rfl, by
    cases b with
    | true => rw [if_pos rfl]; exact rd_id s1 (sl.gr g1) out1
    | false => rw [if_neg Bool.false_ne_true]; exact Out.here (b := V.bl false) out1 s1 (.d (.bl false))⟩⟩
theorem se_or (ha : SE X W a f) (hb : SE X W (.BoolOp .Or (b :: rest) pos) g) : SE X W (.BoolOp .Or (a :: b :: rest) pos) (eOr f g) :=
  ⟨pe_imp (pe_or ha.pe hb.pe) fun σ H Q ⟨env, m, h, sta, sl, out⟩ => rd_ofB sta sl out fun b h1 H1 m1 g1 s1 out1 => ⟨b, rfl, by
    cases b with
    | false => rw [if_neg Bool.false_ne_true]; exact rd_id s1 (sl.gr g1) out1
    | true => rw [if_pos rfl]; exact Out.here (b := V.bl true) out1 s1 (.d (.bl true))⟩⟩
theorem se_not (ha : SE X W a f) : SE X W (.UnaryOp .Not a pos) (eNot f) :=
  ⟨pe_imp (pe_not ha.pe) fun σ H Q ⟨env, m, h, sta, sl, out⟩ => rd_ofB sta sl out fun b h1 H1 m1 g1 s1 out1 => ⟨b, rfl, Out.here (b := V.bl (!b)) out1 s1 (.d (.bl _))⟩⟩

/-! ### arguments, displays -/
def aNil : Ea := fun _ h => .ok [] h
def aCons (f : Ev) (r : Ea) : Ea := fun env h => (f env h).bind fun u h1 => (r env h1).bind fun us h2 => .ok (u :: us) h2
theorem sa_nil : SA X W [] aNil := ⟨pa_imp pa_nil fun σ H Q ⟨env, m, h, sta, sl, out⟩ => Out.here (b := ([] : List V)) out sta .nil⟩
theorem sa_cons {e : Expr} {es : List Expr} {r : Ea} (ha : SE X W e f) (hr : SA X W es r) (hs : starEach (e :: es) X.env = (false, eval e X.env) :: starEach es X.env := by rfl) : SA X W (e :: es) (aCons f r) :=
  ⟨pa_imp (pa_cons ha.pe hr.pa hs) fun σ H Q ⟨env, m, h, sta, sl, out⟩ => rd_of sta sl out fun u h1 x H1 m1 g1 s1 r1 out1 => rd_of s1 (sl.gr g1) out1 fun us h2 xs H2 m2 g2 s2 r2 out2 =>
    Out.here (b := x :: xs) out2 s2 (.cons (RU.kp g2.kp g2.pre _ _ r1) r2)⟩
def allD : List U → Option (List D)
  | [] => some []
  | .d x :: r => match allD r with
    | some xs => some (x :: xs)
    | none => none
  | _ :: _ => none
theorem allD_v {K : PySem.W.Frag} {H : Hp} {m : List Addr} : ∀ {us : List U} {vs : List V} {ds : List D}, allD us = some ds → RUs K H m vs us → RDs K H vs ds
  | [], _, _, e, r => by cases e; cases r; exact .nil
  | .d x :: us, _, _, e, r => by
    unfold allD at e
    split at e
    · rename_i xs q
      cases e
      cases r with
      | cons a b => exact .cons a.rd (allD_v q b)
    · cases e
  | .ref _ :: _, _, _, e, _ => by cases e
  | .tup _ :: _, _, _, e, _ => by cases e
def eTup (r : Ea) : Ev := fun env h => (r env h).bind fun us h1 => if us.length ≤ 1000 then (match allD us with
  | some ds => .ok (.d (.tuple ds)) h1
  | none => .ok (.tup us) h1) else .stuck
theorem line1000 {n : Nat} (h : n ≤ 1000) : n ≤ sizeLine := by rw [sizeLine_eq]; omega
theorem se_tup {es : List Expr} {r : Ea} {x1 : Nat} (h : SA X W es r) : SE X W (.Tuple es x1 pos) (eTup r) :=
  ⟨pe_imp (pe_tup h.pa) fun σ H Q ⟨env, m, h, sta, sl, out⟩ => rd_of sta sl out fun us h1 xs H1 m1 g1 s1 r1 out1 => by
    split at out1
    · rename_i hz
      refine ⟨by rw [RUs.len r1]; exact line1000 hz, fun p np => ?_⟩
      have sm : Same H1 (upd H1 p (.tup xs)) := Same.lay np
      split at out1
      · rename_i ds e
        exact Out.ok (b := V.ref p) out1 (Gr.of_same sm m1) (s1.same sm) (.d (.tup (.inl (.inl upd_same)) (RDs.kp (Kp.same sm) _ _ (allD_v e r1))))
      · exact Out.ok (b := V.ref p) out1 (Gr.of_same sm m1) (s1.same sm) (.tup (.inl (.inl upd_same)) (RUs.kp (Kp.same sm) ⟨[], by simp⟩ _ _ r1))
    · exact out1.elim⟩
def eLst (b : Bool) (r : Ea) : Ev := fun env h => (r env h).bind fun us h1 => if us.length ≤ 1000 then (match allD us with
  | some ds => mkL b ds h1
  | none => .stuck) else .stuck
theorem se_lst (b : Bool) {es : List Expr} {r : Ea} (h : SA X W es r) : SE X W (.List es pos) (eLst b r) :=
  ⟨pe_imp (pe_gh (pe_lst h.pa)) fun σ H Q ⟨env, m, h, sta, sl, out⟩ => rd_of sta sl out fun us h1 xs H1 m1 g1 s1 r1 out1 => by
    split at out1
    · rename_i hz
      refine ⟨by rw [RUs.len r1]; exact line1000 hz, fun p np => ?_⟩
      split at out1
      · rename_i ds e
        exact mkL_ok s1 np (allD_v e r1) out1
      · exact out1.elim
    · exact out1.elim⟩

/-! ### a[i], a[i:j] -/
def opIx (u w : U) (h : Sto) : Res U := match intOf w with
  | none => .stuck
  | some i => match tupOf u with
    | some xs => (match atI xs i with | some x => .ok (.d x) h | none => .stuck)
    | none => match listOf h u with
      | some xs => (match atI xs i with | some x => .ok (.d x) h | none => .stuck)
      | none => match u with
        | .tup us => (match atI us i with | some x => .ok x h | none => .stuck)
        | _ => .stuck
theorem atI_rds {K : PySem.W.Frag} {H : Hp} {vs : List V} {ds : List D} {i : Int} {d : D} (r : RDs K H vs ds) (e : atI ds i = some d) : ∃ v, atI vs i = some v ∧ RD K H v d := by
  unfold atI at e ⊢
  rw [r.len]
  cases q : ixN ds.length i with
  | none => rw [q] at e; cases e
  | some j =>
    rw [q] at e
    exact r.get e
theorem atI_rus {K : PySem.W.Frag} {H : Hp} {m : List Addr} {vs : List V} {ds : List U} {i : Int} {d : U} (r : RUs K H m vs ds) (e : atI ds i = some d) : ∃ v, atI vs i = some v ∧ RU K H m v d := by
  unfold atI at e ⊢
  rw [r.len]
  cases q : ixN ds.length i with
  | none => rw [q] at e; cases e
  | some j =>
    rw [q] at e
    exact r.get e
theorem se_ix (hs : PlainIx b) (ha : SE X W a f) (hb : SE X W b g) : SE X W (.Subscript a b pos) (eBin opIx f g) :=
  ⟨pe_imp (pe_ix ix_seq ha.pe hb.pe hs) fun σ H Q ⟨env, m, h, sta, sl, out⟩ => rd_of sta sl out fun u h1 x H1 m1 g1 s1 r1 out1 => rd_of s1 (sl.gr g1) out1 fun w h2 y H2 m2 g2 s2 r2 out2 => by
    have ru := RU.kp g2.kp g2.pre _ _ r1
    unfold opIx at out2
    split at out2
    · exact out2.elim
    · rename_i i ei
      have ey := intOf_v ei r2
      split at out2
      · rename_i xs e
        obtain ⟨p, vs, rfl, t1, d1⟩ := tupOf_v e ru
        split at out2
        · rename_i d ed
          obtain ⟨v, h3, h4⟩ := atI_rds d1 ed
          exact .inr (.inl ⟨p, vs, i, v, rfl, ey, t1, h3, Out.here out2 s2 (.d h4)⟩)
        · exact out2.elim
      · split at out2
        · rename_i xs e
          obtain ⟨p, vs, rfl, t1, d1⟩ := listOf_v s2 e ru
          split at out2
          · rename_i d ed
            obtain ⟨v, h3, h4⟩ := atI_rds d1 ed
            exact .inl ⟨p, vs, i, v, rfl, ey, t1, h3, Out.here out2 s2 (.d h4)⟩
          · exact out2.elim
        · split at out2
          · split at out2
            · rename_i d ed
              cases ru with
              | tup t1 d1 =>
                obtain ⟨v, h3, h4⟩ := atI_rus d1 ed
                exact .inr (.inl ⟨_, _, i, v, rfl, ey, t1, h3, Out.here out2 s2 h4⟩)
            · exact out2.elim
          · exact out2.elim⟩
end
end Wk

/-! T3: freezing, calls, statements, loops, comprehensions, defs. -/
namespace Wk
open PySem PySem.Spec PyProof.Rows L2

/-! ### what is handed on is frozen -/
mutual
def refsOf : U → List Nat
  | .d _ => []
  | .ref n => [n]
  | .tup us => refsOfs us
  | .exn _ => []
def refsOfs : List U → List Nat
  | [] => []
  | u :: us => refsOf u ++ refsOfs us
end
def fzO : Ob → Ob
  | .lst xs => .frz xs
  | .lsu us => .fzu us
  | o => o
def fzH (ns : List Nat) (h : Sto) : Sto := h.mapIdx fun i o => if i ∈ ns then fzO o else o
def fzR (u : U) (h : Sto) : Res U := match u with
  | .d x => .ok (.d x) h
  | u => match dataOf h u with
    | some x => .ok (.d x) (fzH (refsOf u) h)
    | none => .stuck
def eFz (f : Ev) : Ev := fun env h => (f env h).bind fzR
section
variable {K : PySem.W.Frag} {mg : Str → Option Value} {H H' : Hp} {m : List Addr} {h : Sto}
def fzA (m : List Addr) (ns : List Nat) : List Addr := ns.filterMap fun n => m[n]?
theorem mem_fzA {ns : List Nat} {a : Addr} (hm : a ∈ fzA m ns) : ∃ i ∈ ns, m[i]? = some a := by
  obtain ⟨i, h1, h2⟩ := List.mem_filterMap.mp hm
  exact ⟨i, h1, h2⟩
theorem fzA_mem {ns : List Nat} {a : Addr} {i : Nat} (h1 : i ∈ ns) (h2 : m[i]? = some a) : a ∈ fzA m ns := List.mem_filterMap.mpr ⟨i, h1, h2⟩
theorem fz_gr {ns : List Nat} (f : Fz (fzA m ns) H H') : Gr H m H' m :=
  ⟨⟨[], by simp⟩, fun a o e n => by
    rcases f.alt a with z | ⟨z, _⟩
    · exact z.trans e
    · obtain ⟨i, _, q⟩ := mem_fzA z
      exact absurd (List.mem_of_getElem? q) n, fun _ z n => absurd z n, f.kp⟩
theorem fz_sta {ns : List Nat} (s : Sta K mg H m h) (f : Fz (fzA m ns) H H') : Sta K mg H' m (fzH ns h) := by
  refine ⟨s.nd, by unfold fzH; rw [List.length_mapIdx]; exact s.len, fun i a o h1 h2 => ?_⟩
  unfold fzH at h2
  rw [List.getElem?_mapIdx] at h2
  obtain ⟨o0, e0, r0⟩ := s.at_ h1
  rw [e0] at h2
  have e2 : (if i ∈ ns then fzO o0 else o0) = o := Option.some.inj h2
  have stay : H' a = H a → RO K mg H' m a o0 := fun e => r0.mono e f.kp ⟨[], by simp⟩
  have nfz : i ∉ ns → H' a = H a := fun hn => by
    rcases f.alt a with z | ⟨z, _⟩
    · exact z
    · obtain ⟨j, hj, q⟩ := mem_fzA z
      rw [nd_ix s.nd h1 q] at hn
      exact absurd hj hn
  by_cases hi : i ∈ ns
  · rw [if_pos hi] at e2
    subst e2
    cases o0 with
    | lst xs =>
      obtain ⟨vs, k1, k2⟩ := r0
      obtain ⟨o, k3⟩ := f.did a (fzA_mem hi h1) vs k1
      exact ⟨o, vs, k3, RDs.kp f.kp _ _ k2⟩
    | frz xs =>
      obtain ⟨o, vs, k1, k2⟩ := r0
      exact ⟨o, vs, f.kp.frz _ _ _ k1, RDs.kp f.kp _ _ k2⟩
    | ins c fs =>
      refine stay ?_
      rcases f.alt a with z | ⟨_, _, vs, q, _⟩
      · exact z
      · obtain ⟨C, dx, gs, _, k, _⟩ := r0
        rw [k] at q; cases q
    | dct kvs =>
      refine stay ?_
      rcases f.alt a with z | ⟨_, _, vs, q, _⟩
      · exact z
      · obtain ⟨gs, k, _⟩ := r0
        rw [k] at q; cases q
    | lsu us =>
      obtain ⟨vs, k1, k2⟩ := r0
      obtain ⟨o, k3⟩ := f.did a (fzA_mem hi h1) vs k1
      exact ⟨o, vs, k3, RUs.kp f.kp ⟨[], by simp⟩ _ _ k2⟩
    | fzu us =>
      obtain ⟨o, vs, k1, k2⟩ := r0
      exact ⟨o, vs, f.kp.frz _ _ _ k1, RUs.kp f.kp ⟨[], by simp⟩ _ _ k2⟩
    | dtp kvs =>
      refine stay ?_
      rcases f.alt a with z | ⟨_, _, vs, q, _⟩
      · exact z
      · obtain ⟨gs, k, _⟩ := r0
        rw [k] at q; cases q
    | fdt kvs =>
      refine stay ?_
      rcases f.alt a with z | ⟨_, _, vs, q, _⟩
      · exact z
      · obtain ⟨o, gs, k, _⟩ := r0
        rw [k] at q; cases q
  · rw [if_neg hi] at e2
    subst e2
    exact stay (nfz hi)
mutual
theorem fz_rd (s : Sta K mg H m h) {ns : List Nat} (f : Fz (fzA m ns) H H') : ∀ (u : U) (v : V) (d : D), (∀ n ∈ refsOf u, n ∈ ns) → dataOf h u = some d → RU K H m v u → RD K H' v d
  | .d x, v, d, _, e, r => by
    rw [dataOf] at e
    cases e
    exact RD.kp f.kp _ _ r.rd
  | .ref n, v, d, sub, e, r => by
    rw [dataOf] at e
    cases r with
    | ref hm =>
      rename_i a
      have hn : n ∈ ns := sub n (by rw [refsOf]; exact List.mem_singleton.mpr rfl)
      obtain ⟨o0, e0, r0⟩ := s.at_ hm
      unfold listOf at e
      simp only [e0] at e
      cases o0 with
      | lst xs =>
        cases e
        obtain ⟨vs, k1, k2⟩ := r0
        obtain ⟨o, k3⟩ := f.did a (fzA_mem hn hm) vs k1
        exact .lst (.inl ⟨o, k3⟩) (RDs.kp f.kp _ _ k2)
      | frz xs =>
        cases e
        obtain ⟨o, vs, k1, k2⟩ := r0
        exact .lst (.inl ⟨o, f.kp.frz _ _ _ k1⟩) (RDs.kp f.kp _ _ k2)
      | ins c fs => cases e
      | dct kvs => cases e
      | lsu us => cases e
      | fzu us => cases e
      | dtp kvs => cases e
      | fdt kvs => cases e
  | .tup us, v, d, sub, e, r => by
    rw [dataOf] at e
    cases q : datasOf h us with
    | none => rw [q] at e; cases e
    | some xs =>
      rw [q] at e
      cases e
      cases r with
      | tup t b => exact .tup (f.kp.sqT t) (fz_rds s f us _ xs (fun n hn => sub n (by rw [refsOf]; exact hn)) q b)
  | .exn a, v, d, sub, e, r => by
    rw [dataOf] at e
    cases e
theorem fz_rds (s : Sta K mg H m h) {ns : List Nat} (f : Fz (fzA m ns) H H') : ∀ (us : List U) (vs : List V) (ds : List D), (∀ n ∈ refsOfs us, n ∈ ns) → datasOf h us = some ds → RUs K H m vs us → RDs K H' vs ds
  | [], vs, ds, _, e, r => by
    rw [datasOf] at e
    cases e
    cases r
    exact .nil
  | u :: us, vs, ds, sub, e, r => by
    rw [datasOf] at e
    split at e
    · rename_i x xs e1 e2
      cases e
      cases r with
      | cons a b => exact .cons (fz_rd s f u _ x (fun n hn => sub n (by rw [refsOfs]; exact List.mem_append_left _ hn)) e1 a) (fz_rds s f us _ xs (fun n hn => sub n (by rw [refsOfs]; exact List.mem_append_right _ hn)) e2 b)
    · cases e
end
end
theorem fzR_ok {X : Cx} {W : WX} {σ : L2.St} {H : Hp} {m : List Addr} {h : Sto} {u : U} {v : V} {Q : VK} (s : Sta X.K X.mg H m h) (r : RU X.K H m v u) (out : Out X W (rlU X.K) σ H m (fzR u h) Q) : gh Q v H := by
  have gen : (∀ x, u ≠ .d x) → gh Q v H := fun nd => by
    have out' : Out X W (rlU X.K) σ H m (match dataOf h u with | some x => .ok (.d x) (fzH (refsOf u) h) | none => .stuck) Q := by
      cases u with
      | d x => exact absurd rfl (nd x)
      | ref n => exact out
      | tup us => exact out
      | exn a => exact out
    cases e : dataOf h u with
    | none => rw [e] at out'; exact out'.elim
    | some x =>
      rw [e] at out'
      exact ⟨fzA m (refsOf u), fun H' f => Out.ok out' (fz_gr f) (fz_sta s f) (.d (fz_rd s f u v x (fun _ hn => hn) e r))⟩
  cases u with
  | d x => exact gh.no (Out.here out s r)
  | ref n => exact gen fun x z => nomatch z
  | tup us => exact gen fun x z => nomatch z
  | exn a => exact gen fun x z => nomatch z
theorem se_fz {X : Cx} {W : WX} {e : Expr} {f : Ev} (h : SE X W e f) : SE X W e (eFz f) :=
  ⟨pe_imp (pe_gh h.pe) fun σ H Q ⟨env, m, h, sta, sl, out⟩ => rd_of sta sl out fun u h1 v H1 m1 g1 s1 r1 out1 => fzR_ok s1 r1 out1⟩

/-! ### defs that take data and give data -/
inductive PR where
  | ok (d : D)
  | exc (c : Str)
  | stuck
abbrev PF := List D → PR
def PR.res (r : PR) (h : Sto) : Res U := match r with
  | .ok d => .ok (.d d) h
  | .exc c => .exc c h
  | .stuck => .stuck
def spP (K : PySem.W.Frag) (mg : Str → Option Value) (n : Nat) (F : PF) : Sp := fun vs H Q E => ∃ ds, RDs K H vs ds ∧ vs.length = n ∧ match F ds with
  | .ok d => ∀ v H', Same H H' → RD K H' v d → Q v H'
  | .exc c => ∀ H', Same H H' → ∀ C, mg c = some (.ref C) → E (.ref C) none H'
  | .stuck => False
structure FnP (P : Program) (w : World) (K : PySem.W.Frag) (mg : Str → Option Value) (base : Heap) (k : Nat) (name : Str) (ps : List Str) (F : PF) : Prop where
  ex : ∃ f fd, mg name = some (.ref f) ∧ PySem.W.keepIn K (.ref f) = true ∧ Binds K fd ps [] ∧ FnOk P w K mg base (L2.CX P w) k f fd ps (spP K mg ps.length F)
theorem FnP.mono {P : Program} {w : World} {K : PySem.W.Frag} {mg : Str → Option Value} {base : Heap} {j k : Nat} {name : Str} {ps : List Str} {F : PF} (h : FnP P w K mg base j name ps F) (l : j ≤ k) : FnP P w K mg base k name ps F := by
  obtain ⟨f, fd, h1, h2, h3, h4⟩ := h.ex
  exact ⟨f, fd, h1, h2, h3, h4.mono l⟩
/-- how many arguments there are -/
def aLen (fa : Ea) (n : Nat) : Prop := ∀ us env h h', fa env h = .ok us h' → us.length = n
theorem aLen_nil : aLen aNil 0 := fun us env h h' e => by cases e; rfl
theorem aLen_cons {f : Ev} {r : Ea} {n : Nat} (hr : aLen r n) : aLen (aCons f r) (n + 1) := fun us env h h' e => by
  unfold aCons at e
  cases q : f env h with
  | stuck => rw [q] at e; cases e
  | exc c h1 => rw [q] at e; cases e
  | ok u h1 =>
    rw [q] at e
    rw [Res.bind_ok] at e
    cases q2 : r env h1 with
    | stuck => rw [q2] at e; cases e
    | exc c h2 => rw [q2] at e; cases e
    | ok us' h2 =>
      rw [q2] at e
      cases e
      rw [List.length_cons, hr us' env h1 _ q2]
/-- what the calls of a context let out is taken -/
def TakesC (X : Cx) (W : WX) : Prop := ∀ σ, PassesAt (L2.CX X.prog X.w) X σ (WE W σ)
theorem TakesC.c {X : Cx} {W : WX} (tk : TakesC X W) : TakesC X W := tk
theorem _root_.L2.Takes.c {X : Cx} {W : WX} (tk : Takes X W) : TakesC X W := fun σ => passAt tk σ
def eCall (F : PF) (fa : Ea) : Ev := fun env h => (fa env h).bind fun us h1 => match allD us with
  | some ds => (F ds).res h1
  | none => .stuck
section
variable {X : Cx} {W : WX} {k j : Nat} {x : Str} {p pos : Pos} {e : Expr} {es : List Expr} {ps : List Str} {F : PF} {fa : Ea}
theorem spP_of {σ : L2.St} {H : Hp} {m : List Addr} {h : Sto} {us : List U} {ds : List D} {vs : List V} {Q : VK} {n : Nat} (s : Sta X.K X.mg H m h) (r : RUs X.K H m vs us) (e : allD us = some ds) (hn : ds.length = n) (out : Out X W (rlU X.K) σ H m ((F ds).res h) Q) :
    spP X.K X.mg n F vs H Q (WE W σ) := by
  refine ⟨ds, allD_v e r, (allD_v e r).len.trans hn, ?_⟩
  generalize F ds = q at out
  cases q with
  | ok d => exact fun v H' sm rd => Out.ok (b := v) out (Gr.of_same sm m) (s.same sm) (.d rd)
  | exc c => exact fun H' sm C hC => (show ∀ H' m', Gr H m H' m' → Sta X.K X.mg H' m' h → ExW X W c σ H' from out) H' m (Gr.of_same sm m) (s.same sm) C hC
  | stuck => exact out
theorem se_call (tk : TakesC X W) (f : FnP X.prog X.w X.K X.mg X.base k x ps F) (hr : Room k X.A) (hg : Gl X x) (ha : SA X W (e :: es) fa) (hn : aLen fa ps.length)
    (hdb : (x == ("__debug__" : Str)) = false := by decide) (he : starEach (e :: es) X.env = (false, eval e X.env) :: starEach es X.env := by rfl) (hpl : (backTo pos (starEach es X.env)).any (·.1) = false := by rfl) :
    SE X W (.Call (.Name x p) (e :: es) [] pos) (eCall F fa) := by
  obtain ⟨fa', fd, h1, h2, h3, h4⟩ := f.ex
  refine ⟨pe_imp (pe_callS h4 hr hg h1 h2 h3 tk ha.pa hdb he hpl) fun σ H Q ⟨env, m, h, sta, sl, out⟩ => ?_⟩
  have hl := fun us => hn us env h
  refine ⟨env, m, h, sta, sl, ?_⟩
  unfold eCall at out
  generalize hq : fa env h = q at out
  cases q with
  | stuck => exact out
  | exc c h1 => exact out
  | ok us h1 =>
    intro vs H1 m1 g1 s1 r1
    have out1 : Out X W (rlU X.K) σ H1 m1 (match allD us with | some ds => (F ds).res h1 | none => .stuck) Q := Out.gr out g1
    cases ed : allD us with
    | none => rw [ed] at out1; exact out1.elim
    | some ds =>
      rw [ed] at out1
      exact spP_of s1 r1 ed (by rw [← (allD_v ed r1).len, RUs.len r1]; exact hl us h1 hq) out1
end

/-! ### built-in functions and types -/
def eB (F : List U → Sto → Res U) (fa : Ea) : Ev := fun env h => (fa env h).bind F
def AbC (X : Cx) (W : WX) (F : List U → Sto → Res U) (r : List V → Hp → VK → Prop) : Prop := ∀ (σ : L2.St) (H : Hp) (m : List Addr) (h : Sto) (xs : List V) (us : List U) (Q : VK), Sta X.K X.mg H m h → RUs X.K H m xs us → Out X W (rlU X.K) σ H m (F us h) Q → r xs H Q
theorem gh_call {X : Cx} {f : Value} {r : List V → Hp → VK → Prop} (h : CallR X f r) : CallR X f (fun xs H Q => r xs H (gh Q)) := by
  intro pins s σ H xs us Q I rx q
  refine thn (h pins s σ H xs us _ I rx q) fun z s1 ⟨zv, H1, I1, rz, S, q1⟩ => ?_
  obtain ⟨H2, f2, I2⟩ := inv_fz S I1
  exact ⟨zv, H2, I2, rz, q1 H2 f2⟩
section
variable {X : Cx} {W : WX} {x : Str} {p pos : Pos} {e : Expr} {es : List Expr} {fa : Ea} {id T : String} {r : List V → Hp → VK → Prop} {F : List U → Sto → Res U}
theorem se_callB (hc : CallR X (.builtin id) r) (ab : AbC X W F r) (hg : Gl X x) (hm : X.mg x = none) (hv : bootBuiltins x = some (.builtin id)) (ha : SA X W (e :: es) fa) (hn : x ≠ "__name__" := by decide) (hdb : (x == ("__debug__" : Str)) = false := by decide)
    (he : starEach (e :: es) X.env = (false, eval e X.env) :: starEach es X.env := by rfl) (hpl : (backTo pos (starEach es X.env)).any (·.1) = false := by rfl) : SE X W (.Call (.Name x p) (e :: es) [] pos) (eB F fa) :=
  ⟨pe_imp (pe_callB hc hg hm hv ha.pa hn hdb he hpl) fun σ H Q ⟨env, m, h, sta, sl, out⟩ => rd_of sta sl out fun us h1 xs H1 m1 g1 s1 r1 out1 => ab σ H1 m1 h1 xs us Q s1 r1 out1⟩
theorem se_callTy (hc : CallR X (.type T) r) (ab : AbC X W F r) (hg : Gl X x) (hm : X.mg x = none) (hv : bootBuiltins x = some (.type T)) (ha : SA X W (e :: es) fa) (hn : x ≠ "__name__" := by decide) (hdb : (x == ("__debug__" : Str)) = false := by decide)
    (he : starEach (e :: es) X.env = (false, eval e X.env) :: starEach es X.env := by rfl) (hpl : (backTo pos (starEach es X.env)).any (·.1) = false := by rfl) : SE X W (.Call (.Name x p) (e :: es) [] pos) (eB F fa) :=
  ⟨pe_imp (pe_callTy hc hg hm hv ha.pa hn hdb he hpl) fun σ H Q ⟨env, m, h, sta, sl, out⟩ => rd_of sta sl out fun us h1 xs H1 m1 g1 s1 r1 out1 => ab σ H1 m1 h1 xs us Q s1 r1 out1⟩
/-- len -/
noncomputable def lenOf (h : Sto) (u : U) : Option Nat := match tupOf u with
  | some xs => some xs.length
  | none => match listOf h u with
    | some xs => some xs.length
    | none => match strOf u with
      | some x => if fits x.length then some x.length else none
      | none => match u with
        | .tup us => some us.length
        | _ => none
noncomputable def fLen (us : List U) (h : Sto) : Res U := match us with
  | [u] => (match lenOf h u with
    | some n => .ok (.d (.int n)) h
    | none => .stuck)
  | _ => .stuck
theorem ab_len : AbC X W fLen (fun xs H Q => ∃ x n, xs = [x] ∧ LenV X.K x H n ∧ Q (.int n) H) := by
  intro σ H m h xs us Q s r out
  unfold fLen at out
  split at out
  · rename_i u
    cases r with
    | cons ru rn =>
      rename_i v vs
      cases rn
      split at out
      · rename_i n e
        refine ⟨v, n, rfl, ?_, Out.here (b := V.int n) out s (.d (.int _))⟩
        unfold lenOf at e
        split at e
        · rename_i ys ey
          cases e
          obtain ⟨p, ws, rfl, t1, d1⟩ := tupOf_v ey ru
          exact .inr ⟨ws, t1, d1.len.symm⟩
        · split at e
          · rename_i ys ey
            cases e
            obtain ⟨p, ws, rfl, t1, d1⟩ := listOf_v s ey ru
            exact .inl ⟨ws, t1, d1.len.symm⟩
          · split at e
            · rename_i y ey
              split at e
              · rename_i hz
                cases e
                rw [strOf_v ey ru]
                exact ⟨ask_iff.mp hz, rfl⟩
              · cases e
            · split at e
              · cases e
                cases ru with
                | tup t b => exact .inr ⟨_, t, (RUs.len b).symm⟩
              · cases e
      · exact out.elim
  · exact out.elim
/-- one int, two ints -/
def fI1 (g : Int → Int) (us : List U) (h : Sto) : Res U := match us with
  | [u] => (match intOf u with
    | some i => .ok (.d (.int (g i))) h
    | none => .stuck)
  | _ => .stuck
def fI2 (g : Int → Int → Int) (us : List U) (h : Sto) : Res U := match us with
  | [u, w] => (match intOf u, intOf w with
    | some i, some j => .ok (.d (.int (g i j))) h
    | _, _ => .stuck)
  | _ => .stuck
abbrev fAbs := fI1 fun i => if i < 0 then -i else i
abbrev fMax := fI2 fun i j => if j > i then j else i
abbrev fMin := fI2 fun i j => if j < i then j else i
theorem ab_i1 (g : Int → Int) : AbC X W (fI1 g) (fun xs H Q => ∃ i, xs = [.int i] ∧ Q (.int (g i)) H) := by
  intro σ H m h xs us Q s r out
  unfold fI1 at out
  split at out
  · cases r with
    | cons ru rn =>
      cases rn
      split at out
      · rename_i i e
        exact ⟨i, by rw [intOf_v e ru], Out.here (b := V.int _) out s (.d (.int _))⟩
      · exact out.elim
  · exact out.elim
theorem ab_i2 (g : Int → Int → Int) : AbC X W (fI2 g) (fun xs H Q => ∃ i j, xs = [.int i, .int j] ∧ Q (.int (g i j)) H) := by
  intro σ H m h xs us Q s r out
  unfold fI2 at out
  split at out
  · cases r with
    | cons ru rn =>
      cases rn with
      | cons rw rn =>
        cases rn
        split at out
        · rename_i i j e1 e2
          exact ⟨i, j, by rw [intOf_v e1 ru, intOf_v e2 rw], Out.here (b := V.int _) out s (.d (.int _))⟩
        · exact out.elim
  · exact out.elim
/-- int(x) -/
def fInt (us : List U) (h : Sto) : Res U := match us with
  | [u] => (match intOf u with
    | some i => .ok (.d (.int i)) h
    | none => match boolOf u with
      | some b => .ok (.d (.int (if b then 1 else 0))) h
      | none => .stuck)
  | _ => .stuck
theorem ab_intOf : AbC X W fInt (fun xs H Q => (∃ i, xs = [.int i] ∧ Q (.int i) H) ∨ ∃ k, xs = [.bl k] ∧ Q (.int (if k then 1 else 0)) H) := by
  intro σ H m h xs us Q s r out
  unfold fInt at out
  split at out
  · cases r with
    | cons ru rn =>
      cases rn
      split at out
      · rename_i i e
        exact .inl ⟨i, by rw [intOf_v e ru], Out.here (b := V.int _) out s (.d (.int _))⟩
      · split at out
        · rename_i b e
          exact .inr ⟨b, by rw [boolOf_v e ru], Out.here (b := V.int _) out s (.d (.int _))⟩
        · exact out.elim
  · exact out.elim
/-- list(x), tuple(x) -/
def seqOf (h : Sto) (u : U) : Option (List D) := match tupOf u with
  | some xs => some xs
  | none => listOf h u
def fList (b : Bool) (us : List U) (h : Sto) : Res U := match us with
  | [u] => (match seqOf h u with
    | some xs => mkL b xs h
    | none => .stuck)
  | _ => .stuck
def fTuple (us : List U) (h : Sto) : Res U := match us with
  | [u] => (match seqOf h u with
    | some xs => .ok (.d (.tuple xs)) h
    | none => .stuck)
  | _ => .stuck
theorem seqOf_v {K : PySem.W.Frag} {mg : Str → Option Value} {H : Hp} {m : List Addr} {h : Sto} {v : V} {u : U} {xs : List D} (s : Sta K mg H m h) (e : seqOf h u = some xs) (r : RU K H m v u) : ∃ a vs, v = .ref a ∧ (SqL K H a vs ∨ SqT K H a vs) ∧ RDs K H vs xs := by
  unfold seqOf at e
  split at e
  · rename_i ys ey
    cases e
    obtain ⟨p, ws, rfl, t1, d1⟩ := tupOf_v ey r
    exact ⟨p, ws, rfl, .inr t1, d1⟩
  · obtain ⟨p, ws, rfl, t1, d1⟩ := listOf_v s e r
    exact ⟨p, ws, rfl, .inl t1, d1⟩
theorem ab_list (b : Bool) : AbC X W (fList b) (fun xs H Q => ∃ p ys, xs = [.ref p] ∧ (SqL X.K H p ys ∨ SqT X.K H p ys) ∧ ∀ l, H l = none → gh Q (.ref l) (upd H l (.lst ys))) := by
  intro σ H m h xs us Q s r out
  unfold fList at out
  split at out
  · cases r with
    | cons ru rn =>
      cases rn
      split at out
      · rename_i ys e
        obtain ⟨p, ws, rfl, t1, d1⟩ := seqOf_v s e ru
        exact ⟨p, ws, rfl, t1, fun l nl => mkL_ok s nl d1 out⟩
      · exact out.elim
  · exact out.elim
theorem ab_tuple : AbC X W fTuple (fun xs H Q => ∃ p ys, xs = [.ref p] ∧ ((SqL X.K H p ys ∧ ∀ l, H l = none → Q (.ref l) (upd H l (.tup ys))) ∨ (SqT X.K H p ys ∧ Q (.ref p) H))) := by
  intro σ H m h xs us Q s r out
  unfold fTuple at out
  split at out
  · cases r with
    | cons ru rn =>
      cases rn
      split at out
      · rename_i ys e
        obtain ⟨p, ws, rfl, t1, d1⟩ := seqOf_v s e ru
        refine ⟨p, ws, rfl, ?_⟩
        rcases t1 with t1 | t1
        · exact .inl ⟨t1, fun l nl => by
            have sm : Same H (upd H l (.tup ws)) := Same.lay nl
            exact Out.ok (b := V.ref l) out (Gr.of_same sm m) (s.same sm) (.d (.tup (.inl (.inl upd_same)) (RDs.kp (Kp.same sm) _ _ d1)))⟩
        · exact .inr ⟨t1, Out.here (b := V.ref p) out s (.d (.tup t1 d1))⟩
      · exact out.elim
  · exact out.elim
end
/-! ### isinstance(x, T) -/
inductive Ty where | int | bool | str | tuple | list
def Ty.name : Ty → String
  | .int => "int" | .bool => "bool" | .str => "str" | .tuple => "tuple" | .list => "list"
def isTy (T : Ty) : D → Bool
  | .int _ => match T with | .int => true | _ => false
  | .bool _ => match T with | .int => true | .bool => true | _ => false
  | .str _ => match T with | .str => true | _ => false
  | .tuple _ => match T with | .tuple => true | _ => false
  | .list _ => match T with | .list => true | _ => false
  | _ => false
def isTyU (T : Ty) (h : Sto) : U → Option Bool
  | .d x => some (isTy T x)
  | .ref n => match listOf h (.ref n) with
    | some _ => some (match T with | .list => true | _ => false)
    | none => none
  | .tup _ => some (match T with | .tuple => true | _ => false)
  | .exn _ => none
def opIsi (T : Ty) (u : U) (h : Sto) : Res U := match isTyU T h u with
  | some b => .ok (.d (.bool b)) h
  | none => .stuck
theorem kt_non (T : Ty) : kitB "NoneType" T.name = some false := by cases T <;> decide +kernel
theorem kt_bl (T : Ty) : kitB "bool" T.name = some (match T with | .int => true | .bool => true | _ => false) := by cases T <;> decide +kernel
theorem kt_int (T : Ty) : kitB "int" T.name = some (match T with | .int => true | _ => false) := by cases T <;> decide +kernel
theorem kt_str (T : Ty) : kitB "str" T.name = some (match T with | .str => true | _ => false) := by cases T <;> decide +kernel
theorem kt_tup (T : Ty) : kitB "tuple" T.name = some (match T with | .tuple => true | _ => false) := by cases T <;> decide +kernel
theorem kt_lst (T : Ty) : kitB "list" T.name = some (match T with | .list => true | _ => false) := by cases T <;> decide +kernel
section
variable {X : Cx} {W : WX} {a : Expr} {f : Ev} {p p2 pos : Pos} {y : Str}
theorem isTy_v {K : PySem.W.Frag} {mg : Str → Option Value} {H : Hp} {m : List Addr} {h : Sto} {v : V} {u : U} {T : Ty} {b : Bool} (s : Sta K mg H m h) (e : isTyU T h u = some b) (r : RU K H m v u) : ∃ t, TyX K H v t ∧ PySem.W.kitOne K t (.type T.name) = some b := by
  cases r with
  | d rd =>
    cases e
    cases rd with
    | non => exact ⟨_, .base .non, kit_ty (kt_non T)⟩
    | bl i => exact ⟨_, .base (.bl _), kit_ty (kt_bl T)⟩
    | int i => exact ⟨_, .base (.int _), kit_ty (kt_int T)⟩
    | str i => exact ⟨_, .base (.str _), kit_ty (kt_str T)⟩
    | lst z _ =>
      rcases z with ⟨o, z⟩ | ⟨o, its, n, z1, z2, z3⟩
      · exact ⟨_, .base (.frz z), kit_ty (kt_lst T)⟩
      · exact ⟨_, .kList z1 z2, kit_ty (kt_lst T)⟩
    | tup z _ =>
      rcases z with (z | ⟨o, z⟩) | ⟨o, its, n, z1, z2, z3⟩
      · exact ⟨_, .base (.tup z), kit_ty (kt_tup T)⟩
      · exact ⟨_, .fTuple z, kit_ty (kt_tup T)⟩
      · exact ⟨_, .kTuple z1 z2, kit_ty (kt_tup T)⟩
  | ref hm =>
    obtain ⟨o0, e0, r0⟩ := s.at_ hm
    simp only [isTyU, listOf, e0] at e
    cases o0 with
    | lst xs =>
      cases e
      obtain ⟨vs, k1, _⟩ := r0
      exact ⟨_, .base (.lst k1), kit_ty (kt_lst T)⟩
    | frz xs =>
      cases e
      obtain ⟨o, vs, k1, _⟩ := r0
      exact ⟨_, .base (.frz k1), kit_ty (kt_lst T)⟩
    | ins c fs => cases e
    | dct kvs => cases e
    | lsu us => cases e
    | fzu us => cases e
    | dtp kvs => cases e
    | fdt kvs => cases e
  | tup z _ =>
    cases e
    rcases z with (z | ⟨o, z⟩) | ⟨o, its, n, z1, z2, z3⟩
    · exact ⟨_, .base (.tup z), kit_ty (kt_tup T)⟩
    · exact ⟨_, .fTuple z, kit_ty (kt_tup T)⟩
    · exact ⟨_, .kTuple z1 z2, kit_ty (kt_tup T)⟩
  | exn a => cases e
theorem se_isi (T : Ty) (hg : Gl X "isinstance") (hm : X.mg "isinstance" = none) (hg2 : Gl X y) (hm2 : X.mg y = none) (hv2 : bootBuiltins y = some (.type T.name)) (ha : SE X W a f) (hn2 : y ≠ "__name__" := by decide) (hd2 : (y == ("__debug__" : Str)) = false := by decide)
    (he : starEach [a, .Name y p2] X.env = (false, eval a X.env) :: starEach [.Name y p2] X.env := by rfl) (he2 : starEach [.Name y p2] X.env = (false, eval (.Name y p2) X.env) :: starEach [] X.env := by rfl)
    (hpl : (backTo pos (starEach [.Name y p2] X.env)).any (·.1) = false := by rfl) :
    SE X W (.Call (.Name "isinstance" p) [a, .Name y p2] [] pos) (eUn (opIsi T) f) :=
  ⟨pe_imp (pe_callB call_isi hg hm (by decide +kernel) (pa_cons ha.pe (pa_cons (pe_bltn (v := .ty T.name) hg2 hm2 hv2 rfl hn2 hd2) pa_nil he2) he) (by decide) (by decide) he hpl) fun σ H Q ⟨env, m, h, sta, sl, out⟩ => rd_of sta sl out fun u h1 x H1 m1 g1 s1 r1 out1 => by
    unfold opIsi at out1
    split at out1
    · rename_i b e
      obtain ⟨t, h2, h3⟩ := isTy_v s1 e r1
      exact ⟨x, .ty T.name, t, _, b, rfl, .ty _, h2, h3, Out.here (b := V.bl b) out1 s1 (.d (.bl b))⟩
    · exact out1.elim⟩
end
end Wk

/-! T4: statements, loops, comprehensions, defs. -/
namespace Wk
open PySem PySem.Spec PyProof.Rows L2

/-! ### statements -/
def OutS (X : Cx) (W : WX) (D : Ends) (H : Hp) (m : List Addr) : SRes → Prop
  | .next env' h' => ∀ σ' H' m', Gr H m H' m' → Sta X.K X.mg H' m' h' → Sl X.K H' m' σ' env' → D.nx σ' H'
  | .ret u h' => ∀ v H' m', Gr H m H' m' → Sta X.K X.mg H' m' h' → RU X.K H' m' v u → D.rt v H'
  | .exc c env' h' => ∀ σ' H' m', Gr H m H' m' → Sta X.K X.mg H' m' h' → Sl X.K H' m' σ' env' → ExW X W c σ' H'
  | .stuck => False
def rdS (X : Cx) (W : WX) (g : Es) : TS := fun D σ H => ∃ env m h, Sta X.K X.mg H m h ∧ Sl X.K H m σ env ∧ OutS X W D H m (g env h)
structure SS (X : Cx) (W : WX) (st : Stmt) (g : Es) : Prop where
  ps : PS X st (rdS X W g)
structure SSs (X : Cx) (W : WX) (st : List Stmt) (g : Es) : Prop where
  ps : PSs X st (rdS X W g)
theorem OutS.gr {X : Cx} {W : WX} {D : Ends} {H H1 : Hp} {m m1 : List Addr} {r : SRes} (o : OutS X W D H m r) (g : Gr H m H1 m1) : OutS X W D H1 m1 r := by
  cases r with
  | next env' h' => exact fun σ' H' m' g' => o σ' H' m' (g.trans g')
  | ret u h' => exact fun v H' m' g' => o v H' m' (g.trans g')
  | exc c env' h' => exact fun σ' H' m' g' => o σ' H' m' (g.trans g')
  | stuck => exact o
def SRes.seq (r : SRes) (k : Es) : SRes := match r with
  | .next env h => k env h
  | .ret u h => .ret u h
  | .exc c env h => .exc c env h
  | .stuck => .stuck
@[simp] theorem SRes.seq_next (env : Env') (h : Sto) (k : Es) : (SRes.next env h).seq k = k env h := (rfl)
@[simp] theorem SRes.seq_ret (u : U) (h : Sto) (k : Es) : (SRes.ret u h).seq k = .ret u h := (rfl)
@[simp] theorem SRes.seq_exc (c : Str) (env : Env') (h : Sto) (k : Es) : (SRes.exc c env h).seq k = .exc c env h := (rfl)
@[simp] theorem SRes.seq_stuck (k : Es) : (SRes.stuck).seq k = .stuck := (rfl)
def sNil : Es := fun env h => .next env h
def sSeq (a b : Es) : Es := fun env h => (a env h).seq b
/-- an expression, then a statement's end -/
def Res.then_ {α : Type} (r : Res α) (env : Env') (k : α → Sto → SRes) : SRes := match r with
  | .ok x h => k x h
  | .exc c h => .exc c env h
  | .stuck => .stuck
@[simp] theorem Res.then_ok {α : Type} (x : α) (h : Sto) (env : Env') (k : α → Sto → SRes) : (Res.ok x h).then_ env k = k x h := (rfl)
@[simp] theorem Res.then_exc {α : Type} (c : Str) (h : Sto) (env : Env') (k : α → Sto → SRes) : (Res.exc c h : Res α).then_ env k = .exc c env h := (rfl)
@[simp] theorem Res.then_stuck {α : Type} (env : Env') (k : α → Sto → SRes) : (Res.stuck : Res α).then_ env k = .stuck := (rfl)
section
variable {X : Cx} {W : WX} {D : Ends} {σ : L2.St} {H : Hp} {m : List Addr} {h : Sto} {env : Env'}
/-- the expression ahead of a statement's end -/
theorem rd_then {α β : Type} {rl : Hp → List Addr → β → α → Prop} {f : Env' → Sto → Res α} {k : α → Sto → SRes} {Q' : β → Hp → Prop} (sta : Sta X.K X.mg H m h) (sl : Sl X.K H m σ env) (out : OutS X W D H m ((f env h).then_ env k))
    (nx : ∀ a h1 b H1 m1, Gr H m H1 m1 → Sta X.K X.mg H1 m1 h1 → rl H1 m1 b a → OutS X W D H1 m1 (k a h1) → Q' b H1) : rd X W rl f σ H Q' := by
  refine ⟨env, m, h, sta, sl, ?_⟩
  generalize f env h = q at out
  cases q with
  | ok a h1 => exact fun b H1 m1 g s r => nx a h1 b H1 m1 g s r (OutS.gr out g)
  | exc c h1 => exact fun H1 m1 g s => (show ∀ σ' H' m', Gr H m H' m' → Sta X.K X.mg H' m' h1 → Sl X.K H' m' σ' env → ExW X W c σ' H' from out) σ H1 m1 g s (sl.gr g)
  | stuck => exact out
theorem ss_nil : SSs X W [] sNil := ⟨pss_imp pss_nil fun D σ H ⟨env, m, h, sta, sl, out⟩ => (show ∀ σ' H' m', Gr H m H' m' → Sta X.K X.mg H' m' h → Sl X.K H' m' σ' env → D.nx σ' H' from out) σ H m (Gr.refl H m) sta sl⟩
theorem seq_out {st : SRes} {g : Es} (out : OutS X W D H m (st.seq g)) : OutS X W { D with nx := rdS X W g D } H m st := by
  cases st with
  | next env' h' => exact fun σ' H' m' g' s' l' => ⟨env', m', h', s', l', OutS.gr out g'⟩
  | ret u h' => exact out
  | exc c env' h' => exact out
  | stuck => exact out
theorem ss_cons {st : Stmt} {rest : List Stmt} {f g : Es} (h1 : SS X W st f) (h2 : SSs X W rest g) : SSs X W (st :: rest) (sSeq f g) :=
  ⟨pss_imp (pss_cons h1.ps h2.ps) fun D σ H ⟨env, m, h, sta, sl, out⟩ => ⟨env, m, h, sta, sl, seq_out out⟩⟩
theorem ss_one {st : Stmt} {f : Es} (h1 : SS X W st f) : SSs X W [st] f := ⟨pss_one h1.ps⟩

variable {a b c e : Expr} {f g : Ev} {pos : Pos}
theorem ss_pass : SS X W (.Pass pos) sNil := ⟨ps_imp ps_pass fun D σ H ⟨env, m, h, sta, sl, out⟩ => (show ∀ σ' H' m', Gr H m H' m' → Sta X.K X.mg H' m' h → Sl X.K H' m' σ' env → D.nx σ' H' from out) σ H m (Gr.refl H m) sta sl⟩
def sExpr (f : Ev) : Es := fun env h => (f env h).then_ env fun _ h1 => .next env h1
theorem ss_expr (he : SE X W e f) (hs : swapsWith e none pos.line X.env = pure false := by rfl) : SS X W (.Expr e pos) (sExpr f) :=
  ⟨ps_imp (ps_expr he.pe hs) fun D σ H ⟨env, m, h, sta, sl, out⟩ => rd_then sta sl out fun u h1 v H1 m1 g1 s1 r1 out1 =>
    (show ∀ σ' H' m', Gr H1 m1 H' m' → Sta X.K X.mg H' m' h1 → Sl X.K H' m' σ' env → D.nx σ' H' from out1) σ H1 m1 (Gr.refl _ _) s1 (sl.gr g1)⟩
def sRet (f : Ev) : Es := fun env h => (f env h).then_ env fun u h1 => .ret u h1
theorem ss_ret (he : SE X W e f) : SS X W (.Return (some e) pos) (sRet f) :=
  ⟨ps_imp (ps_ret he.pe) fun D σ H ⟨env, m, h, sta, sl, out⟩ => rd_then sta sl out fun u h1 v H1 m1 g1 s1 r1 out1 =>
    (show ∀ v H' m', Gr H1 m1 H' m' → Sta X.K X.mg H' m' h1 → RU X.K H' m' v u → D.rt v H' from out1) v H1 m1 (Gr.refl _ _) s1 r1⟩
def sRetN : Es := fun env h => .ret (.d .none) h
theorem ss_retN : SS X W (.Return none pos) sRetN := ⟨ps_imp ps_retN fun D σ H ⟨env, m, h, sta, sl, out⟩ => (show ∀ v H' m', Gr H m H' m' → Sta X.K X.mg H' m' h → RU X.K H' m' v (.d .none) → D.rt v H' from out) .non H m (Gr.refl H m) sta (.d .non)⟩
def sIf (c : Eb) (f g : Es) : Es := fun env h => (c env h).then_ env fun b h1 => match b with
  | true => f env h1
  | false => g env h1
theorem ss_if {p : Eb} {s t : Es} {th el : List Stmt} (hc : ST X W c p) (ha : SSs X W th s) (hb : SSs X W el t) : SS X W (.If c th el pos) (sIf p s t) :=
  ⟨ps_imp (ps_if hc.pt ha.ps hb.ps) fun D σ H ⟨env, m, h, sta, sl, out⟩ => rd_then (rl := rlB) sta sl out fun u h1 v H1 m1 g1 s1 r1 out1 => by
    cases r1
    cases u with
    | true => rw [if_pos rfl]; exact ⟨env, m1, h1, s1, sl.gr g1, out1⟩
    | false => rw [if_neg Bool.false_ne_true]; exact ⟨env, m1, h1, s1, sl.gr g1, out1⟩⟩
def sSet (i : Nat) (f : Ev) : Es := fun env h => (f env h).then_ env fun u h1 => .next (env.set i (some u)) h1
theorem ss_set (i : Nat) {x : Str} {pos' : Pos} (hN : X.N.Nodup) (he : SE X W e f) (hi : X.N[i]? = some x := by rfl) (hx : Loc X.env.scope x := by first | exact Or.inl rfl | exact Or.inr rfl) (hs : swapsWith e (some (.Name x pos')) pos.line X.env = pure false := by rfl)
    (hf : X.fn x = true ∨ X.env.scope.names.lookup x = some .local := by first | exact .inl rfl | exact .inr rfl | assumption) : SS X W (.Assign [.Name x pos'] e pos) (sSet i f) :=
  ⟨ps_imp (ps_set hN hi hx he.pe hs hf) fun D σ H ⟨env, m, h, sta, sl, out⟩ => rd_then sta sl out fun u h1 v H1 m1 g1 s1 r1 out1 =>
    (show ∀ σ' H' m', Gr H1 m1 H' m' → Sta X.K X.mg H' m' h1 → Sl X.K H' m' σ' (env.set i (some u)) → D.nx σ' H' from out1) _ H1 m1 (Gr.refl _ _) s1 ((sl.gr g1).set r1 i)⟩
end

/-! ### targets -/
abbrev Tg := U → Env' → Sto → Option Env'
abbrev Tgs := List U → Env' → Sto → Option Env'
/-- only the slots of ix change -/
def Only' (ix : List Nat) (σ σ' : L2.St) : Prop := σ'.length = σ.length ∧ ∀ j, j ∉ ix → σ'[j]? = σ[j]?
theorem Only'.refl (ix : List Nat) (σ : L2.St) : Only' ix σ σ := ⟨rfl, fun _ _ => rfl⟩
theorem Only'.trans {ix : List Nat} {σ σ1 σ2 : L2.St} (a : Only' ix σ σ1) (b : Only' ix σ1 σ2) : Only' ix σ σ2 := ⟨b.1.trans a.1, fun j hj => (b.2 j hj).trans (a.2 j hj)⟩
theorem Only'.mono {ix iy : List Nat} {σ σ1 : L2.St} (a : Only' ix σ σ1) (h : ∀ j ∈ ix, j ∈ iy) : Only' iy σ σ1 := ⟨a.1, fun j hj => a.2 j fun z => hj (h j z)⟩
def rdG (X : Cx) (ix : List Nat) (t : Tg) : TG := fun v σ H Q => ∃ u env m h, Sta X.K X.mg H m h ∧ Sl X.K H m σ env ∧ RU X.K H m v u ∧ ∃ env', t u env h = some env' ∧ ∀ σ', Sl X.K H m σ' env' → Only' ix σ σ' → Q σ' H
def rdGs (X : Cx) (ix : List Nat) (t : Tgs) : TGs := fun vs σ H Q => ∃ us env m h, Sta X.K X.mg H m h ∧ Sl X.K H m σ env ∧ RUs X.K H m vs us ∧ ∃ env', t us env h = some env' ∧ ∀ σ', Sl X.K H m σ' env' → Only' ix σ σ' → Q σ' H
structure SG (X : Cx) (tg : Expr) (ix : List Nat) (t : Tg) : Prop where
  pg : PG X tg (rdG X ix t)
structure SGs (X : Cx) (tg : List Expr) (ix : List Nat) (t : Tgs) : Prop where
  pg : PGs X tg (rdGs X ix t)
theorem pg_imp {X : Cx} {e : Expr} {t t' : TG} (h : PG X e t) (i : ∀ v σ H Q, t' v σ H Q → t v σ H Q) : PG X e t' := ⟨fun pins s σ H v u Q I r q => h.run pins s σ H v u Q I r (i v σ H Q q)⟩
theorem pgs_imp {X : Cx} {e : List Expr} {t t' : TGs} (h : PGs X e t) (i : ∀ v σ H Q, t' v σ H Q → t v σ H Q) : PGs X e t' := ⟨fun pins s σ H v u Q I r q => h.run pins s σ H v u Q I r (i v σ H Q q)⟩
theorem pg_or {X : Cx} {e : Expr} {t t' : TG} (h : PG X e t) (h' : PG X e t') : PG X e (fun v σ H Q => t v σ H Q ∨ t' v σ H Q) := ⟨fun pins s σ H v u Q I r q => by
  rcases q with q | q
  · exact h.run pins s σ H v u Q I r q
  · exact h'.run pins s σ H v u Q I r q⟩
def gN (i : Nat) : Tg := fun u env _ => some (env.set i (some u))
def gNil' : Tgs := fun us env _ => match us with
  | [] => some env
  | _ => none
def gCons' (t : Tg) (r : Tgs) : Tgs := fun us env h => match us with
  | u :: us => (match t u env h with
    | some env1 => r us env1 h
    | none => none)
  | [] => none
def itemsOf (h : Sto) (u : U) : Option (List U) := match tupOf u with
  | some xs => some (xs.map .d)
  | none => match listOf h u with
    | some xs => some (xs.map .d)
    | none => match u with
      | .tup us => some us
      | _ => none
def gTup' (n : Nat) (r : Tgs) : Tg := fun u env h => match itemsOf h u with
  | some us => if us.length = n then r us env h else none
  | none => none
theorem RDs.rus {K : PySem.W.Frag} {H : Hp} {m : List Addr} : ∀ {ds : List D} {vs : List V}, RDs K H vs ds → RUs K H m vs (ds.map .d)
  | [], _, h => by cases h; exact .nil
  | _ :: _, _, h => by cases h with | cons a b => exact .cons (.d a) (RDs.rus b)
theorem itemsOf_v {K : PySem.W.Frag} {mg : Str → Option Value} {H : Hp} {m : List Addr} {h : Sto} {v : V} {u : U} {us : List U} (s : Sta K mg H m h) (e : itemsOf h u = some us) (r : RU K H m v u) : ∃ a vs, v = .ref a ∧ (SqT K H a vs ∨ SqL K H a vs) ∧ RUs K H m vs us := by
  unfold itemsOf at e
  split at e
  · rename_i ys ey
    cases e
    obtain ⟨p, ws, rfl, t1, d1⟩ := tupOf_v ey r
    exact ⟨p, ws, rfl, .inl t1, d1.rus⟩
  · split at e
    · rename_i ys ey
      cases e
      obtain ⟨p, ws, rfl, t1, d1⟩ := listOf_v s ey r
      exact ⟨p, ws, rfl, .inr t1, d1.rus⟩
    · split at e
      · cases e
        cases r with
        | tup t b => exact ⟨_, _, rfl, .inl t, b⟩
      · cases e
section
variable {X : Cx} {W : WX} {e : Expr} {es : List Expr} {pos : Pos} {f : Ev} {ix iy : List Nat} {t : Tg} {ts : Tgs}
theorem sg_name (i : Nat) {x : Str} (hN : X.N.Nodup) (hi : X.N[i]? = some x := by rfl) (hx : Loc X.env.scope x := by first | exact Or.inl rfl | exact Or.inr rfl) (hf : X.fn x = true ∨ X.env.scope.names.lookup x = some .local := by first | exact .inl rfl | exact .inr rfl | assumption) : SG X (.Name x pos) [i] (gN i) :=
  ⟨pg_imp (pg_name hN hi hx hf) fun v σ H Q ⟨u, env, m, h, sta, sl, r, env', e, q⟩ => by
    cases e
    exact q _ (sl.set r i) ⟨by simp, fun j hj => List.getElem?_set_ne fun z => hj (by rw [z]; exact List.mem_singleton.mpr rfl)⟩⟩
theorem sgs_nil : SGs X [] [] gNil' :=
  ⟨pgs_imp pgs_nil fun vs σ H Q ⟨us, env, m, h, sta, sl, r, env', e, q⟩ => by
    unfold gNil' at e
    split at e
    · cases e
      cases r
      exact ⟨rfl, q σ sl (Only'.refl _ _)⟩
    · cases e⟩
theorem sgs_cons (h1 : SG X e ix t) (h2 : SGs X es iy ts) (hs : (assignEach (e :: es) X.env).map (·.2) = assign e X.env :: (assignEach es X.env).map (·.2) := by rfl) : SGs X (e :: es) (ix ++ iy) (gCons' t ts) :=
  ⟨pgs_imp (pgs_cons h1.pg h2.pg hs) fun vs σ H Q ⟨us, env, m, h, sta, sl, r, env', e, q⟩ => by
    unfold gCons' at e
    split at e
    · rename_i us u us'
      split at e
      · rename_i env1 e1
        cases r with
        | cons ra rb =>
          exact ⟨_, _, rfl, u, env, m, h, sta, sl, ra, env1, e1, fun σ1 sl1 o1 => ⟨us', env1, m, h, sta, sl1, rb, env', e, fun σ2 sl2 o2 => q σ2 sl2 ((o1.mono fun j hj => List.mem_append_left _ hj).trans (o2.mono fun j hj => List.mem_append_right _ hj))⟩⟩
      · cases e
    · cases e⟩
theorem sg_tup {k n : Nat} (hc : X.calm = true) (h : SGs X es ix ts) (hn : (assignEach es X.env).length = n := by rfl) (hst : (assignEach es X.env).findIdx? (·.1) = none := by rfl) : SG X (.Tuple es k pos) ix (gTup' n ts) :=
  ⟨pg_imp (pg_or (pg_tup hc h.pg hn hst) (pg_unl hc h.pg hn hst)) fun v σ H Q ⟨u, env, m, hh, sta, sl, r, env', e, q⟩ => by
    unfold gTup' at e
    split at e
    · rename_i us eu
      split at e
      · rename_i hl
        obtain ⟨p, vs, rfl, t1, r1⟩ := itemsOf_v sta eu r
        have hvs : vs.length = n := (RUs.len r1).trans hl
        rcases t1 with t1 | t1
        · exact .inl ⟨p, vs, rfl, t1, hvs, us, env, m, hh, sta, sl, r1, env', e, q⟩
        · exact .inr ⟨p, vs, rfl, t1, hvs, us, env, m, hh, sta, sl, r1, env', e, q⟩
      · cases e
    · cases e⟩
/-- target = e -/
def sAsg (t : Tg) (f : Ev) : Es := fun env h => (f env h).then_ env fun u h1 => match t u env h1 with
  | some env' => .next env' h1
  | none => .stuck
theorem ss_asg {tg : Expr} (he : SE X W e f) (hg : SG X tg ix t) (hs : swapsWithSole [tg] e pos.line X.env = pure false := by rfl) (hw : swappedStores [tg] e X.env = pure none := by rfl)
    (h1 : (assignEach [tg] X.env).map (·.2) = [assign tg X.env] := by rfl) : SS X W (.Assign [tg] e pos) (sAsg t f) :=
  ⟨ps_imp (ps_asg he.pe hg.pg hs hw h1) fun D σ H ⟨env, m, h, sta, sl, out⟩ => rd_then sta sl out fun u h1 v H1 m1 g1 s1 r1 out1 => by
    split at out1
    · rename_i env' e'
      exact ⟨u, env, m1, h1, s1, sl.gr g1, r1, env', e', fun σ' sl' _ => (show ∀ σ' H' m', Gr H1 m1 H' m' → Sta X.K X.mg H' m' h1 → Sl X.K H' m' σ' env' → D.nx σ' H' from out1) σ' H1 m1 (Gr.refl _ _) s1 sl'⟩
    · exact out1.elim⟩
end

/-! ### loops -/
/-- J walks the things us, whatever comes -/
def Wlk (K : PySem.W.Frag) (J : It) (H : Hp) (m : List Addr) (us : List U) : Prop := ∀ H' m', Kp H H' → (∃ e, m' = m ++ e) →
  (∀ i, us.length ≤ i → J.stop i H') ∧ ∀ (i : Nat) u, us[i]? = some u → J.go i H' ∧ ∀ x H'', J.yld i H' x H'' → Same H' H'' ∧ RU K H'' m' x u
theorem Wlk.gr {K : PySem.W.Frag} {J : It} {H H1 : Hp} {m m1 : List Addr} {us : List U} (w : Wlk K J H m us) (k : Kp H H1) (p : ∃ e, m1 = m ++ e) : Wlk K J H1 m1 us := fun H' m' k' p' => w H' m' (k.trans k') (by
  obtain ⟨e, rfl⟩ := p
  obtain ⟨e', rfl⟩ := p'
  exact ⟨e ++ e', by rw [List.append_assoc]⟩)
def rlJ (K : PySem.W.Frag) : Hp → List Addr → It → List U → Prop := fun H m J us => Wlk K J H m us
structure SI (X : Cx) (W : WX) (tg iter : Expr) (f : Ea) : Prop where
  pi : PI X tg iter (rd X W (rlJ X.K) f)
theorem pi_imp {X : Cx} {tg e : Expr} {t t' : TI} (h : PI X tg e t) (i : ∀ σ H Q, t' σ H Q → t σ H Q) : PI X tg e t' := ⟨fun pins s σ H Q I q => h.run pins s σ H Q I (i σ H Q q)⟩
theorem pi_or {X : Cx} {tg e : Expr} {t t' : TI} (h : PI X tg e t) (h' : PI X tg e t') : PI X tg e (fun σ H Q => t σ H Q ∨ t' σ H Q) := ⟨fun pins s σ H Q I q => by
  rcases q with q | q
  · exact h.run pins s σ H Q I q
  · exact h'.run pins s σ H Q I q⟩
def iRange (n : Nat) (lo : Int) : List U := (List.range n).map fun (i : Nat) => .d (.int (lo + (i : Int)))
noncomputable def rngOk (i : Int) : Bool := ask (-(2 ^ 62) ≤ i ∧ i < 2 ^ 62)
noncomputable def iR1 (fa : Ea) : Ea := fun env h => (fa env h).bind fun us h1 => match us with
  | [u] => (match intOf u with
    | some j => if rngOk j then .ok (iRange j.toNat 0) h1 else .stuck
    | none => .stuck)
  | _ => .stuck
noncomputable def iR2 (fa : Ea) : Ea := fun env h => (fa env h).bind fun us h1 => match us with
  | [u, w] => (match intOf u, intOf w with
    | some i, some j => if rngOk i && rngOk j then .ok (iRange (j - i).toNat i) h1 else .stuck
    | _, _ => .stuck)
  | _ => .stuck
theorem wlk_range {K : PySem.W.Frag} {lo : Int} {n : Nat} {H : Hp} {m : List Addr} : Wlk K (Itr lo n) H m (iRange n lo) := fun H' m' _ _ => by
  have hl : (iRange n lo).length = n := by unfold iRange; simp
  refine ⟨fun i hi => by rw [hl] at hi; exact hi, fun i u e => ?_⟩
  have hi : i < n := by rw [← hl]; exact (List.getElem?_eq_some_iff.mp e).1
  refine ⟨hi, fun x H'' y => ?_⟩
  obtain ⟨rfl, rfl⟩ := y
  unfold iRange at e
  rw [List.getElem?_map, List.getElem?_range hi] at e
  cases e
  exact ⟨Same.refl _, .d (.int _)⟩
/-- a tuple or a frozen list, walked -/
def iSeq (f : Ev) : Ea := fun env h => (f env h).bind fun u h1 => match u with
  | .d (.tuple xs) => .ok (xs.map .d) h1
  | .d (.list xs) => .ok (xs.map .d) h1
  | .tup us => .ok us h1
  | _ => .stuck
section
variable {X : Cx} {W : WX} {tg a b l : Expr} {fa : Ea} {f : Ev} {p pos : Pos}
theorem si_range1 (hg : Gl X "range") (hm : X.mg "range" = none) (ha : SA X W [a] fa) (hs : starEach [a] X.env = [(false, eval a X.env)] := by rfl) : SI X W tg (.Call (.Name "range" p) [a] [] pos) (iR1 fa) :=
  ⟨pi_imp (pi_range1 hg hm ha.pa hs) fun σ H R ⟨env, m, h, sta, sl, out⟩ => rd_of sta sl out fun us h1 vs H1 m1 g1 s1 r1 out1 => by
    split at out1
    · split at out1
      · rename_i j e
        split at out1
        · rename_i hj
          have hj := ask_iff.mp hj
          cases r1 with
          | cons ra rb =>
            cases rb
            exact ⟨j, by rw [intOf_v e ra], hj.1, hj.2, Out.here (b := Itr 0 j.toNat) out1 s1 wlk_range⟩
        · exact out1.elim
      · exact out1.elim
    · exact out1.elim⟩
theorem si_range2 (hg : Gl X "range") (hm : X.mg "range" = none) (ha : SA X W [a, b] fa) (hs : starEach [a, b] X.env = [(false, eval a X.env), (false, eval b X.env)] := by rfl) (hs2 : starEach [b] X.env = [(false, eval b X.env)] := by rfl) : SI X W tg (.Call (.Name "range" p) [a, b] [] pos) (iR2 fa) :=
  ⟨pi_imp (pi_range2 hg hm ha.pa hs hs2) fun σ H R ⟨env, m, h, sta, sl, out⟩ => rd_of sta sl out fun us h1 vs H1 m1 g1 s1 r1 out1 => by
    split at out1
    · split at out1
      · rename_i i j e1 e2
        split at out1
        · rename_i hj
          have hj : (-(2 ^ 62) ≤ i ∧ i < 2 ^ 62) ∧ -(2 ^ 62) ≤ j ∧ j < 2 ^ 62 := ⟨ask_iff.mp (Bool.and_eq_true_iff.mp hj).1, ask_iff.mp (Bool.and_eq_true_iff.mp hj).2⟩
          cases r1 with
          | cons ra rb =>
            cases rb with
            | cons rb rc =>
              cases rc
              exact ⟨i, j, by rw [intOf_v e1 ra, intOf_v e2 rb], ⟨hj.1.1, hj.1.2, hj.2.1, hj.2.2⟩, Out.here (b := Itr i (j - i).toNat) out1 s1 wlk_range⟩
        · exact out1.elim
      · exact out1.elim
    · exact out1.elim⟩
theorem wlk_lst {K : PySem.W.Frag} {q : Addr} {vs : List V} {us : List U} {H : Hp} {m : List Addr} (t : FzL K H q vs) (r : RUs K H m vs us) : Wlk K (Itl K q) H m us := fun H' m' k pre => by
  have t' := (k.fzL t).sq
  refine ⟨fun i hi => ⟨vs, t', by rw [RUs.len r]; exact hi⟩, fun i u e => ?_⟩
  obtain ⟨v, e1, rv⟩ := RUs.get r e
  refine ⟨⟨vs, v, t', e1⟩, fun x H'' y => ?_⟩
  obtain ⟨rfl, y⟩ := y
  have e2 := y vs t'
  rw [e1] at e2
  cases e2
  exact ⟨Same.refl _, RU.kp k pre _ _ rv⟩
theorem wlk_tup' {K : PySem.W.Frag} {q : Addr} {vs : List V} {us : List U} {H : Hp} {m : List Addr} (t : SqT K H q vs) (r : RUs K H m vs us) : Wlk K (Itt K q) H m us := fun H' m' k pre => by
  have t' := k.sqT t
  refine ⟨fun i hi => ⟨vs, t', by rw [RUs.len r]; exact hi⟩, fun i u e => ?_⟩
  obtain ⟨v, e1, rv⟩ := RUs.get r e
  refine ⟨⟨vs, v, t', e1⟩, fun x H'' y => ?_⟩
  obtain ⟨rfl, y⟩ := y
  have e2 := y vs t'
  rw [e1] at e2
  cases e2
  exact ⟨Same.refl _, RU.kp k pre _ _ rv⟩
theorem si_seq (hl : SE X W l f) : SI X W tg l (iSeq f) :=
  ⟨pi_imp (pi_or (pi_tup hl.pe) (pi_list hl.pe)) fun σ H R ⟨env, m, h, sta, sl, out⟩ => by
    have key : ∀ (Q : VK), (∀ u h1 v H1 m1, Gr H m H1 m1 → Sta X.K X.mg H1 m1 h1 → RU X.K H1 m1 v u → Out X W (rlJ X.K) σ H1 m1 (match u with | .d (.tuple xs) => .ok (xs.map .d) h1 | .d (.list xs) => .ok (xs.map .d) h1 | .tup us => .ok us h1 | _ => .stuck) R → f env h = .ok u h1 → Q v H1) → rd X W (rlU X.K) f σ H Q := fun Q nx => by
      refine ⟨env, m, h, sta, sl, ?_⟩
      unfold iSeq at out
      generalize hq : f env h = q at out
      cases q with
      | ok u h1 => exact fun v H1 m1 g s r => nx u h1 v H1 m1 g s r (Out.gr out g) hq
      | exc c h1 => exact out
      | stuck => exact out
    by_cases hq : ∃ xs h1, f env h = .ok (.d (.list xs)) h1
    · obtain ⟨ys, h2, hq⟩ := hq
      refine .inr (key _ fun u h1 v H1 m1 g1 s1 r1 out1 e => ?_)
      rw [hq] at e
      cases e
      cases r1.rd with
      | lst t d => exact ⟨_, rfl, ⟨_, t.sq⟩, Out.here (b := Itl X.K _) out1 s1 (wlk_lst t d.rus)⟩
    · refine .inl (key _ fun u h1 v H1 m1 g1 s1 r1 out1 e => ?_)
      split at out1
      · cases r1.rd with
        | tup t d => exact ⟨_, rfl, ⟨_, t⟩, Out.here (b := Itt X.K _) out1 s1 (wlk_tup' t d.rus)⟩
      · exact absurd ⟨_, _, e⟩ hq
      · cases r1 with
        | tup t d => exact ⟨_, rfl, ⟨_, t⟩, Out.here (b := Itt X.K _) out1 s1 (wlk_tup' t d)⟩
      · exact out1.elim⟩
end
def forGo (t : Tg) (b : Es) : List U → Es
  | [], env, h => .next env h
  | u :: us, env, h => match t u env h with
    | some env1 => (b env1 h).seq (forGo t b us)
    | none => .stuck
def sFor (it : Ea) (t : Tg) (b : Es) : Es := fun env h => (it env h).then_ env fun us h1 => forGo t b us env h1
def whileGo (c : Eb) (b : Es) : Nat → Es
  | 0, _, _ => .stuck
  | n + 1, env, h => (c env h).then_ env fun k h1 => match k with
    | true => (b env h1).seq (whileGo c b n)
    | false => .next env h1
def sWhile (n : Nat) (c : Eb) (b : Es) : Es := whileGo c b n
section
variable {X : Cx} {W : WX} {tg iter c : Expr} {body : List Stmt} {it : Ea} {ix : List Nat} {t : Tg} {b : Es} {p : Eb} {pos : Pos}
theorem ss_for (hp : PassesOwn (model X.prog X.w) X.A X.env X.xe) (hc : X.calm = true) (hi : SI X W tg iter it) (hg : SG X tg ix t) (hb : SSs X W body b)
    (hs : ∀ x, foldedSetIterable iter X.env x = pure x := by intro _; rfl) : SS X W (.For tg iter body [] pos) (sFor it t b) :=
  ⟨ps_imp (ps_for hp hc hi.pi hg.pg hb.ps hs) fun D σ H ⟨env, m, h, sta, sl, out⟩ => rd_then sta sl out fun us h1 J H1 m1 g1 s1 w1 out1 => by
    refine ⟨fun i k σ' H' => k = us.length - i ∧ i ≤ us.length ∧ ∃ env m h, Sta X.K X.mg H' m h ∧ Sl X.K H' m σ' env ∧ Wlk X.K J H' m us ∧ OutS X W D H' m (forGo t b (us.drop i) env h), ⟨us.length, by simp, Nat.zero_le _, env, m1, h1, s1, sl.gr g1, w1, by simpa using out1⟩, ?_⟩
    rintro i k σ2 H2 ⟨rfl, hi2, env2, m2, h2, s2, l2, w2, o2⟩
    obtain ⟨wst, wgo⟩ := w2 H2 m2 (Kp.refl _) ⟨[], by simp⟩
    by_cases hlt : i < us.length
    · have eu : us[i]? = some us[i] := List.getElem?_eq_getElem hlt
      have ed : us.drop i = us[i] :: us.drop (i + 1) := List.drop_eq_getElem_cons hlt
      obtain ⟨go, gy⟩ := wgo i _ eu
      rw [ed] at o2
      have o3 : OutS X W D H2 m2 (match t us[i] env2 h2 with | some env1 => (b env1 h2).seq (forGo t b (us.drop (i + 1))) | none => .stuck) := o2
      cases et : t us[i] env2 h2 with
      | none => rw [et] at o3; exact o3.elim
      | some env3 =>
        rw [et] at o3
        refine .inr ⟨go, fun σ' H' => us.length - (i + 1) < us.length - i ∧ i + 1 ≤ us.length ∧ ∃ env m h, Sta X.K X.mg H' m h ∧ Sl X.K H' m σ' env ∧ Wlk X.K J H' m us ∧ OutS X W D H' m (forGo t b (us.drop (i + 1)) env h), fun σ' H' ⟨n1, n2, n3⟩ => ⟨us.length - (i + 1), n1, rfl, n2, n3⟩, fun x H3 y => ?_⟩
        obtain ⟨sm, rx⟩ := gy x H3 y
        have gg := Gr.of_same sm m2
        refine ⟨us[i], env2, m2, h2, s2.same sm, l2.gr gg, rx, env3, et, fun σ3 l3 _ => ⟨env3, m2, h2, s2.same sm, l3, ?_⟩⟩
        have o4 : OutS X W D H3 m2 ((b env3 h2).seq (forGo t b (us.drop (i + 1)))) := OutS.gr o3 gg
        revert o4
        generalize b env3 h2 = q
        intro o4
        cases q with
        | next env4 h4 => exact fun σ4 H4 m4 g4 s4 l4 => ⟨by omega, hlt, env4, m4, h4, s4, l4, w2.gr (gg.trans g4).kp (gg.trans g4).pre, OutS.gr o4 g4⟩
        | ret u h4 => exact o4
        | exc c env4 h4 => exact o4
        | stuck => exact o4
    · have e : i = us.length := by omega
      subst e
      rw [List.drop_length] at o2
      exact .inl ⟨wst _ (Nat.le_refl _), (show ∀ σ' H' m', Gr H2 m2 H' m' → Sta X.K X.mg H' m' h2 → Sl X.K H' m' σ' env2 → D.nx σ' H' from o2) σ2 H2 m2 (Gr.refl _ _) s2 l2⟩⟩
theorem ss_while (n : Nat) (hp : PassesOwn (model X.prog X.w) X.A X.env X.xe) (hc : ST X W c p) (hb : SSs X W body b) : SS X W (.While c body [] pos) (sWhile n p b) :=
  ⟨ps_imp (ps_while hp hc.pt hb.ps) fun D σ H ⟨env, m, h, sta, sl, out⟩ => by
    refine ⟨fun k σ' H' => ∃ env m h, Sta X.K X.mg H' m h ∧ Sl X.K H' m σ' env ∧ OutS X W D H' m (whileGo p b k env h), ⟨n, env, m, h, sta, sl, out⟩, ?_⟩
    rintro k σ2 H2 ⟨env2, m2, h2, s2, l2, o2⟩
    cases k with
    | zero => exact o2.elim
    | succ k =>
      refine rd_then (rl := rlB) s2 l2 o2 fun u h3 v H3 m3 g3 s3 r3 o3 => ?_
      cases r3
      cases u with
      | false =>
        rw [if_neg Bool.false_ne_true]
        exact (show ∀ σ' H' m', Gr H3 m3 H' m' → Sta X.K X.mg H' m' h3 → Sl X.K H' m' σ' env2 → D.nx σ' H' from o3) σ2 H3 m3 (Gr.refl _ _) s3 (l2.gr g3)
      | true =>
        rw [if_pos rfl]
        refine ⟨fun σ' H' => ∃ env m h, Sta X.K X.mg H' m h ∧ Sl X.K H' m σ' env ∧ OutS X W D H' m (whileGo p b k env h), fun σ' H' q => ⟨k, Nat.lt_succ_self _, q⟩, env2, m3, h3, s3, l2.gr g3, ?_⟩
        revert o3
        dsimp only
        generalize b env2 h3 = q
        intro o4
        cases q with
        | next env4 h4 => exact fun σ4 H4 m4 g4 s4 l4 => ⟨env4, m4, h4, s4, l4, OutS.gr o4 g4⟩
        | ret u h4 => exact o4
        | exc c env4 h4 => exact o4
        | stuck => exact o4⟩
end
end Wk

/-! T5: methods of lists, slices, comprehensions, defs, the end. -/
namespace Wk
open PySem PySem.Spec PyProof.Rows L2

/-! ### methods of lists -/
def eMl (F : U → List U → Sto → Res U) (f : Ev) (fa : Ea) : Ev := fun env h => (f env h).bind fun u h1 => match listOf h1 u with
  | some _ => (fa env h1).bind fun us h2 => F u us h2
  | none => .stuck
noncomputable def fApp (u : U) (us : List U) (h : Sto) : Res U := match u, us with
  | .ref n, [.d x] => (match h[n]? with
    | some (.lst xs) => if fits (xs.length + 1) then .ok (.d .none) (h.set n (.lst (xs ++ [x]))) else .stuck
    | _ => .stuck)
  | _, _ => .stuck
def fPop (u : U) (us : List U) (h : Sto) : Res U := match u, us with
  | .ref n, [] => (match h[n]? with
    | some (.lst xs) => (match xs[xs.length - 1]? with
      | some y => .ok (.d y) (h.set n (.lst xs.dropLast))
      | none => .stuck)
    | _ => .stuck)
  | _, _ => .stuck
def fClear (u : U) (us : List U) (h : Sto) : Res U := match u, us with
  | .ref n, [] => (match h[n]? with
    | some (.lst xs) => .ok (.d .none) (h.set n (.lst []))
    | _ => .stuck)
  | _, _ => .stuck
def AbM (X : Cx) (W : WX) (F : U → List U → Sto → Res U) (r : V → List V → Hp → VK → Prop) : Prop := ∀ (σ : L2.St) (H : Hp) (m : List Addr) (h : Sto) (x : V) (xs : List V) (u : U) (us : List U) (Q : VK), Sta X.K X.mg H m h → RU X.K H m x u → RUs X.K H m xs us → Out X W (rlU X.K) σ H m (F u us h) Q → r x xs H Q
section
variable {X : Cx} {W : WX} {o e : Expr} {es : List Expr} {f : Ev} {fa : Ea} {name : Str} {apos cpos : Pos} {id : String} {r : V → List V → Hp → VK → Prop} {F : U → List U → Sto → Res U}
theorem tyV_list {K : PySem.W.Frag} {H : Hp} {a : Addr} {vs : List V} (h : SqL K H a vs) : tyV K "list" (.ref a) H := Or.inl ⟨rfl, vs, h⟩
theorem se_ml (slot : Slot "list" name id) (hty : typeOf (.builtin id) = pure (.type "method_descriptor")) (hm : MtR X id r) (ab : AbM X W F r) (ho : SE X W o f) (ha : SA X W (e :: es) fa)
    (hbase : attributeBase o name X.env (eval o X.env) = eval o X.env := by rfl)
    (hfew : ((backTo cpos (starEach (e :: es) X.env)).all (fun x => !x.1) && (backToKw cpos (keywordEach [] X.env)).all (fun x => x.1.isSome)
      && decide ((e :: es).length + ([] : List Keyword).length + (if ([] : List Keyword).isEmpty then 0 else 1) < 30)) = true := by rfl)
    (hline : (apos.endLine == cpos.line) = true := by rfl) (hs : starEach (e :: es) X.env = (false, eval e X.env) :: starEach es X.env := by rfl) (hplain : (backTo cpos (starEach es X.env)).any (·.1) = false := by rfl) :
    SE X W (.Call (.Attribute o name apos) (e :: es) [] cpos) (eMl F f fa) :=
  ⟨pe_imp (pe_bm PySem.F.plainAttrs_list slot hty hm ho.pe ha.pa hbase hfew hline hs hplain) fun σ H Q ⟨env, m, h, sta, sl, out⟩ => rd_of sta sl out fun u h1 x H1 m1 g1 s1 r1 out1 => by
    split at out1
    · rename_i ys ey
      obtain ⟨p, ws, rfl, t1, d1⟩ := listOf_v s1 ey r1
      exact ⟨tyV_list t1, rd_of s1 (sl.gr g1) out1 fun us h2 xs H2 m2 g2 s2 r2 out2 => ab σ H2 m2 h2 _ xs u us Q s2 (RU.kp g2.kp g2.pre _ _ r1) r2 out2⟩
    · exact out1.elim⟩
theorem se_ml0 (slot : Slot "list" name id) (hty : typeOf (.builtin id) = pure (.type "method_descriptor")) (hm : MtR X id r) (ab : AbM X W F r) (ho : SE X W o f)
    (hbase : attributeBase o name X.env (eval o X.env) = eval o X.env := by rfl) (hline : (apos.endLine == cpos.line) = true := by rfl) : SE X W (.Call (.Attribute o name apos) [] [] cpos) (eMl F f aNil) :=
  ⟨pe_imp (pe_bm0 PySem.F.plainAttrs_list slot hty hm ho.pe hbase hline) fun σ H Q ⟨env, m, h, sta, sl, out⟩ => rd_of sta sl out fun u h1 x H1 m1 g1 s1 r1 out1 => by
    split at out1
    · rename_i ys ey
      obtain ⟨p, ws, rfl, t1, d1⟩ := listOf_v s1 ey r1
      exact ⟨tyV_list t1, ab σ H1 m1 h1 _ [] u [] Q s1 r1 .nil out1⟩
    · exact out1.elim⟩
theorem ab_app : AbM X W fApp rAppend := by
  intro σ H m h x xs u us Q s ru rus out
  unfold fApp at out
  split at out
  · split at out
    · rename_i n x h' ds ed
      split at out
      · rename_i hz
        cases ru with
        | ref hm =>
          rename_i a
          cases rus with
          | cons rx rn =>
            cases rn
            obtain ⟨vs, k1, k2⟩ := s.obj _ _ _ hm ed
            refine ⟨a, vs, _, rfl, rfl, k1, by rw [k2.len]; exact ask_iff.mp hz, ?_⟩
            refine Out.ok (b := V.non) out (Gr.write (List.mem_of_getElem? hm) k1 trivial) (s.write hm k1 trivial ⟨_, upd_same, ?_⟩) (.d .non)
            exact (RDs.kp (mut_kp k1 trivial) _ _ k2).app (.one (RD.kp (mut_kp k1 trivial) _ _ rx.rd))
      · exact out.elim
    · exact out.elim
  · exact out.elim
theorem ab_pop : AbM X W fPop rPop := by
  intro σ H m h x xs u us Q s ru rus out
  unfold fPop at out
  split at out
  · split at out
    · rename_i n h' ds ed
      split at out
      · rename_i y ey
        cases ru with
        | ref hm =>
          rename_i a
          cases rus
          obtain ⟨vs, k1, k2⟩ := s.obj _ _ _ hm ed
          obtain ⟨v, e1, e2⟩ := k2.get ey
          have kp := mut_kp (y := HO.lst vs.dropLast) k1 trivial
          refine ⟨a, vs, v, rfl, rfl, k1, by rw [k2.len]; exact e1, ?_⟩
          exact Out.ok (b := v) out (Gr.write (List.mem_of_getElem? hm) k1 trivial) (s.write hm k1 trivial ⟨_, upd_same, (RDs.kp kp _ _ k2).dropLast⟩) (.d (RD.kp kp _ _ e2))
      · exact out.elim
    · exact out.elim
  · exact out.elim
theorem ab_clear : AbM X W fClear rClear := by
  intro σ H m h x xs u us Q s ru rus out
  unfold fClear at out
  split at out
  · split at out
    · rename_i n h' ds ed
      cases ru with
      | ref hm =>
        rename_i a
        cases rus
        obtain ⟨vs, k1, k2⟩ := s.obj _ _ _ hm ed
        exact ⟨a, vs, rfl, rfl, k1, Out.ok (b := V.non) out (Gr.write (List.mem_of_getElem? hm) k1 trivial) (s.write hm k1 trivial ⟨_, upd_same, .nil⟩) (.d .non)⟩
    · exact out.elim
  · exact out.elim
end

/-! ### a[i] = e, a a list of the store -/
def setIx (u w z : U) (h : Sto) : Option Sto := match u, intOf w, z with
  | .ref n, some i, .d x => (match h[n]? with
    | some (.lst xs) => (match ixN xs.length i with
      | some j => some (h.set n (.lst (xs.set j x)))
      | none => none)
    | _ => none)
  | _, _, _ => none
def sSetIx (f o i : Ev) : Es := fun env h => (f env h).then_ env fun z h1 => (o env h1).then_ env fun u h2 => (i env h2).then_ env fun w h3 => match setIx u w z h3 with
  | some h4 => .next env h4
  | none => .stuck
section
variable {X : Cx} {W : WX} {o i e : Expr} {f fo fi : Ev} {pos p2 : Pos}
theorem ss_setIx (he : SE X W e f) (ho : SE X W o fo) (hi : SE X W i fi) (hs : swapsWithSole [.Subscript o i p2] e pos.line X.env = pure false := by rfl) (hw : swappedStores [.Subscript o i p2] e X.env = pure none := by rfl)
    (h1 : (assignEach [.Subscript o i p2] X.env).map (·.2) = [assign (.Subscript o i p2) X.env] := by rfl)
    (ha : ∀ v, assign (.Subscript o i p2) X.env v = (do
      let ov ← holding [v] (eval o X.env)
      let iv ← holding [v, ov] (eval i X.env)
      standAt p2
      holding [v, ov, iv] (setItem ov iv v)
      release [v, ov, iv] []) := by intro _; rfl) : SS X W (.Assign [.Subscript o i p2] e pos) (sSetIx f fo fi) :=
  ⟨ps_imp (ps_asg he.pe (pg_sub ho.pe hi.pe set_list ha) hs hw h1) fun D σ H ⟨env, m, h, sta, sl, out⟩ => rd_then sta sl out fun z h1 vz H1 m1 g1 s1 r1 out1 =>
    rd_then s1 (sl.gr g1) out1 fun u h2 vu H2 m2 g2 s2 r2 out2 => rd_then s2 ((sl.gr g1).gr g2) out2 fun w h3 vw H3 m3 g3 s3 r3 out3 => by
      have rz := RU.kp (g2.trans g3).kp (g2.trans g3).pre _ _ r1
      have ru := RU.kp g3.kp g3.pre _ _ r2
      cases eq : setIx u w z h3 with
      | none => rw [eq] at out3; exact out3.elim
      | some h4 =>
        rw [eq] at out3
        unfold setIx at eq
        split at eq
        · rename_i n i' x ei
          split at eq
          · rename_i xs ex
            split at eq
            · rename_i j ej
              cases eq
              cases ru with
              | ref hm =>
                rename_i a
                obtain ⟨vs, k1, k2⟩ := s3.obj _ _ _ hm ex
                have kp := mut_kp (y := HO.lst (vs.set j vz)) k1 trivial
                refine ⟨a, vs, i', j, rfl, intOf_v ei r3, k1, by rw [k2.len]; exact ej, ?_⟩
                exact (show ∀ σ' H' m', Gr H3 m3 H' m' → Sta X.K X.mg H' m' _ → Sl X.K H' m' σ' env → D.nx σ' H' from out3) σ _ m3 (Gr.write (List.mem_of_getElem? hm) k1 trivial)
                  (s3.write hm k1 trivial ⟨_, upd_same, RDs.set (RD.kp kp _ _ rz.rd) j (RDs.kp kp _ _ k2)⟩) ((((sl.gr g1).gr g2).gr g3).gr (Gr.write (List.mem_of_getElem? hm) k1 trivial))
            · cases eq
          · cases eq
        · cases eq⟩
end

/-! ### slices -/
def cutD {α : Type} (xs : List α) (lo hi : Option Int) : List α := (xs.drop (HT.sIx xs.length 0 lo)).take (HT.sIx xs.length xs.length hi - HT.sIx xs.length 0 lo)
abbrev Eo := Env' → Sto → Res (Option Int)
def oNo : Eo := fun _ h => .ok none h
def oSo (f : Ev) : Eo := fun env h => (f env h).bind fun u h1 => match intOf u with
  | some i => .ok (some i) h1
  | none => .stuck
def rlO : Hp → List Addr → Option Int → Option Int → Prop := fun _ _ b c => b = c
structure SO (X : Cx) (W : WX) (e : Option Expr) (f : Eo) : Prop where
  po : PO X e (rd X W rlO f)
noncomputable def opSl (b : Bool) (u : U) (lo hi : Option Int) (h : Sto) : Res U := match tupOf u with
  | some xs => .ok (.d (.tuple (cutD xs lo hi))) h
  | none => match listOf h u with
    | some xs => mkL b (cutD xs lo hi) h
    | none => match strOf u with
      | some z => if fits z.length then .ok (.d (.str (cutS z lo hi))) h else .stuck
      | none => .stuck
noncomputable def eSl (b : Bool) (f : Ev) (lo hi : Eo) : Ev := fun env h => (f env h).bind fun u h1 => (lo env h1).bind fun l h2 => (hi env h2).bind fun r h3 => opSl b u l r h3
theorem gh_sl {X : Cx} {r : V → Option Int → Option Int → Hp → VK → Prop} {e : Expr} {te : TE} {tl th : TO} (h : PE X e (tSl r te tl th)) : PE X e (tSl (fun x lo hi H Q => r x lo hi H (gh Q)) te tl th) := pe_gh h
section
variable {X : Cx} {W : WX} {e : Expr} {lo hi : Option Expr} {f : Ev} {l r : Eo} {pos p2 : Pos}
theorem po_imp {e : Option Expr} {t t' : TO} (h : PO X e t) (i : ∀ σ H Q, t' σ H Q → t σ H Q) : PO X e t' := ⟨fun pins s σ H Q I q => h.run pins s σ H Q I (i σ H Q q)⟩
theorem so_no : SO X W none oNo := ⟨po_imp po_none fun σ H Q ⟨env, m, h, sta, sl, out⟩ => Out.here (b := (none : Option Int)) out sta rfl⟩
theorem so_so (h : SE X W e f) : SO X W (some e) (oSo f) := ⟨po_imp (po_some h.pe) fun σ H Q ⟨env, m, h, sta, sl, out⟩ => rd_of sta sl out fun u h1 x H1 m1 g1 s1 r1 out1 => by
  split at out1
  · rename_i i ei
    exact ⟨i, intOf_v ei r1, Out.here (b := some i) out1 s1 rfl⟩
  · exact out1.elim⟩
theorem RDs.cut {K : PySem.W.Frag} {H : Hp} {vs : List V} {ds : List D} (h : RDs K H vs ds) (lo hi : Option Int) : RDs K H (cutV vs lo hi) (cutD ds lo hi) := by
  unfold cutV cutD
  rw [h.len]
  exact (h.drop _).take _
theorem se_sl (b : Bool) (he : SE X W e f) (hl : SO X W lo l) (hu : SO X W hi r) : SE X W (.Subscript e (.Slice lo hi none p2) pos) (eSl b f l r) :=
  ⟨pe_imp (pe_gh (pe_slice (sl_tupA.or (sl_list.or sl_str)) he.pe hl.po hu.po)) fun σ H Q ⟨env, m, h, sta, sl, out⟩ => rd_of sta sl out fun u h1 x H1 m1 g1 s1 r1 out1 =>
    rd_of (rl2 := rlO) s1 (sl.gr g1) out1 fun i1 h2 i2 H2 m2 g2 s2 r2 out2 => rd_of (rl2 := rlO) s2 ((sl.gr g1).gr g2) out2 fun j1 h3 j2 H3 m3 g3 s3 r3 out3 => by
      cases r2
      cases r3
      have ru := RU.kp (g2.trans g3).kp (g2.trans g3).pre _ _ r1
      unfold opSl at out3
      split at out3
      · rename_i xs ex
        obtain ⟨p, vs, rfl, t1, d1⟩ := tupOf_v ex ru
        refine .inl ⟨p, vs, rfl, t1, fun hw => ?_, fun hw q nq => ?_⟩
        · have e1 : cutD xs i1 j1 = xs := by
            unfold cutD
            rw [← d1.len, hw.1, hw.2]
            simp [d1.len]
          rw [e1] at out3
          exact gh.no (Out.here (b := V.ref p) out3 s3 (.d (.tup t1 d1)))
        · have sm : Same H3 (upd H3 q (.tup (cutV vs i1 j1))) := Same.lay nq
          exact gh.no (Out.ok (b := V.ref q) out3 (Gr.of_same sm m3) (s3.same sm) (.d (.tup (.inl (.inl upd_same)) (RDs.kp (Kp.same sm) _ _ (d1.cut _ _)))))
      · split at out3
        · rename_i xs ex
          obtain ⟨p, vs, rfl, t1, d1⟩ := listOf_v s3 ex ru
          exact .inr (.inl ⟨p, vs, rfl, t1, fun q nq => mkL_ok s3 nq (d1.cut _ _) out3⟩)
        · split at out3
          · rename_i z ez
            split at out3
            · rename_i hz
              exact .inr (.inr ⟨z, strOf_v ez ru, ask_iff.mp hz, gh.no (Out.here (b := V.str _) out3 s3 (.d (.str _)))⟩)
            · exact out3.elim
          · exact out3.elim⟩
end

/-! ### comprehensions -/
def wipeE (env : Env') : List Nat → Env'
  | [] => env
  | v :: vs => (wipeE env vs).set v none
noncomputable def lcGo (t : Tg) (c : Eb) (e : Ev) (env : Env') : List U → List D → Sto → Res (List D)
  | [], acc, h => .ok acc h
  | u :: us, acc, h => match t u env h with
    | some env1 => (c env1 h).bind fun k h1 => (match k with
      | true => (e env1 h1).bind fun w h2 => (match w with
        | .d x => if fits (acc.length + 1) then lcGo t c e env us (acc ++ [x]) h2 else .stuck
        | _ => .stuck)
      | false => lcGo t c e env us acc h1)
    | none => .stuck
def Res.noExc {α : Type} (r : Res α) : Res α := match r with
  | .ok x h => .ok x h
  | _ => .stuck
noncomputable def eLc (b : Bool) (vs : List Nat) (it : Ea) (t : Tg) (c : Eb) (e : Ev) : Ev := fun env h => (it env h).bind fun us h1 => (lcGo t c e (wipeE env vs) us [] h1).noExc.bind fun xs h2 => mkL b xs h2
def cYes : Eb := fun _ h => .ok true h
abbrev W0 : WX := fun _ _ _ _ => False
structure STs (X : Cx) (W : WX) (ifs : List Expr) (c : Eb) : Prop where
  pt : PTs X ifs (rd X W rlB c)
section
variable {K : PySem.W.Frag} {mg : Str → Option Value} {H H' : Hp} {m : List Addr} {h : Sto} {σ : L2.St} {env : Env'}
theorem Sl.wipe (s : Sl K H m σ env) : ∀ vs : List Nat, Sl K H m (wipe σ vs) (wipeE env vs)
  | [] => s
  | v :: vs => by
    have ih := Sl.wipe s vs
    unfold L2.wipe wipeE
    refine ⟨by simp [ih.1], fun j w e => ?_⟩
    by_cases hj : v = j
    · subst hj
      by_cases hv : v < (wipeE env vs).length
      · rw [List.getElem?_set_self hv] at e; cases e
      · rw [List.getElem?_eq_none (by simpa using hv)] at e; cases e
    · rw [List.getElem?_set_ne hj] at e
      obtain ⟨x, h1, h2⟩ := ih.2 j w e
      exact ⟨x, by rw [List.getElem?_set_ne hj]; exact h1, h2⟩
theorem wipe_at (σ : L2.St) : ∀ (vs : List Nat) (j : Nat), j ∈ vs → j < σ.length → (wipe σ vs)[j]? = some none
  | v :: vs, j, hj, hl => by
    unfold wipe
    by_cases e : v = j
    · subst e
      rw [List.getElem?_set_self (by rw [wipe_length]; exact hl)]
    · rw [List.getElem?_set_ne e]
      rcases List.mem_cons.mp hj with z | z
      · exact absurd z.symm e
      · exact wipe_at σ vs j z hl
theorem wipe_only {ix vs : List Nat} {σ σ' : L2.St} (o : Only' ix (wipe σ vs) σ') (sub : ∀ j ∈ ix, j ∈ vs) : wipe σ' vs = wipe σ vs := by
  have hl : σ'.length = σ.length := by rw [o.1, wipe_length]
  refine List.ext_getElem? fun j => ?_
  by_cases hj : j ∈ vs
  · by_cases hlt : j < σ.length
    · rw [wipe_at σ' vs j hj (by rw [hl]; exact hlt), wipe_at σ vs j hj hlt]
    · rw [List.getElem?_eq_none (by rw [wipe_length, hl]; omega), List.getElem?_eq_none (by rw [wipe_length]; omega)]
  · rw [wipe_out hj, o.2 j fun z => hj (sub j z)]
/-- a list that was made meanwhile -/
theorem mkL_ok2 {X : Cx} {W : WX} {σ : L2.St} {H0 H : Hp} {m0 m : List Addr} {h : Sto} {b : Bool} {xs : List D} {vs : List V} {p : Addr} {Q : VK} (g : Gr H0 m0 H m) (s : Sta X.K X.mg H m h) (n0 : H0 p = none) (n : p ∉ m) (hp : H p = some (.lst vs)) (r : RDs X.K H vs xs) (out : Out X W (rlU X.K) σ H0 m0 (mkL b xs h) Q) :
    gh Q (.ref p) H := by
  cases b with
  | true =>
    refine gh.no (Out.ok (b := V.ref p) (m' := m ++ [p]) out ⟨?_, fun a o e na => g.keep a o e na, fun a ha na => ?_, g.kp⟩ ⟨List.nodup_append.mpr ⟨s.nd, by simp, fun b hb c hc z => by rw [List.mem_singleton.mp hc] at z; rw [z] at hb; exact n hb⟩, by simp [s.len], fun j b ob h1 h2 => ?_⟩ ?_)
    · obtain ⟨e, rfl⟩ := g.pre
      exact ⟨e ++ [p], by rw [List.append_assoc]⟩
    · rcases List.mem_append.mp ha with z | z
      · exact g.fresh a z na
      · rw [List.mem_singleton.mp z]; exact n0
    · by_cases hj : j < m.length
      · rw [List.getElem?_append_left hj] at h1
        rw [List.getElem?_append_left (by rw [← s.len]; exact hj)] at h2
        exact (s.obj j b ob h1 h2).mono rfl (Kp.refl _) ⟨[p], rfl⟩
      · rw [List.getElem?_append_right (by omega)] at h1
        rw [List.getElem?_append_right (by rw [← s.len]; omega)] at h2
        have e1 : j - m.length = 0 := by
          have := (List.getElem?_eq_some_iff.mp h1).1
          simpa using this
        have e2 : j - h.length = 0 := by rw [← s.len]; exact e1
        rw [e1] at h1
        rw [e2] at h2
        simp at h1 h2
        rw [← h1, ← h2]
        exact ⟨vs, hp, r⟩
    · exact .ref (by rw [← s.len]; simp)
  | false =>
    refine ⟨[p], fun H2 f => ?_⟩
    have hm : ∀ a, a ≠ p → H2 a = H a := fun a na => by
      rcases f.alt a with z | ⟨z, _⟩
      · exact z
      · exact absurd (List.mem_singleton.mp z) na
    obtain ⟨o, ho⟩ := f.did p List.mem_cons_self vs hp
    refine Out.ok (b := V.ref p) (m' := m) out ⟨g.pre, fun a x q na => ?_, g.fresh, g.kp.trans f.kp⟩ ⟨s.nd, s.len, fun i a ob h1 h2 => ?_⟩ (.d (.lst (.inl ⟨o, ho⟩) (RDs.kp f.kp _ _ r)))
    · rw [hm a (ne_of_none q n0)]
      exact g.keep a x q na
    · exact (s.obj i a ob h1 h2).mono (hm a fun z => n (z ▸ List.mem_of_getElem? h1)) f.kp ⟨[], by simp⟩
end
section
variable {X : Cx} {W : WX} {elt tg iter : Expr} {ifs : List Expr} {scope : Scope} {own : List (Str × Nat)} {pos : Pos} {it : Ea} {ix : List Nat} {t : Tg} {c : Eb} {e : Ev}
theorem sts_nil : STs X W [] cYes := ⟨by
  refine ⟨fun pins s σ H Q I q => pts_nil.run pins s σ H Q I ?_⟩
  obtain ⟨env, m, h, sta, sl, out⟩ := q
  exact Out.here (b := true) out sta rfl⟩
theorem sts_one {a : Expr} (h : ST X W a c) : STs X W [a] c := ⟨pts_one h.pt⟩
theorem lc_rd {σ : L2.St} {H : Hp} {Q : VK} {b : Bool} (sub : ∀ j ∈ ix, j ∈ own.map (·.2)) (q : rd X W (rlU X.K) (eLc b (own.map (·.2)) it t c e) σ H Q) :
    tLc (rd X W (rlJ X.K) it) (rdG X ix t) (rd X W0 rlB c) (rd X W0 (rlU X.K) e) (own.map (·.2)) σ H (gh Q) := by
  obtain ⟨env, m, h, sta, sl, out⟩ := q
  refine rd_of sta sl out fun us h1 J H1 m1 g1 s1 w1 out1 => fun D nD => ?_
  refine ⟨fun i k H' => k = us.length - i ∧ i ≤ us.length ∧ ∃ m' h' acc vacc, Gr H1 m1 H' m' ∧ Sta X.K X.mg H' m' h' ∧ H' D = some (.lst vacc) ∧ D ∉ m' ∧ RDs X.K H' vacc acc ∧
    Out X W (rlU X.K) σ H1 m1 ((lcGo t c e (wipeE env (own.map (·.2))) (us.drop i) acc h').noExc.bind fun xs h2 => mkL b xs h2) Q,
    ⟨us.length, by simp, Nat.zero_le _, m1, h1, [], [], Gr.of_same (Same.lay nD) m1, s1.same (Same.lay nD), upd_same, s1.new nD, .nil, by simpa using out1⟩, ?_⟩
  rintro i k H2 ⟨rfl, hi2, m2, h2, acc, vacc, g2, s2, hD, nDm, racc, o2⟩
  obtain ⟨wst, wgo⟩ := w1 H2 m2 g2.kp g2.pre
  by_cases hlt : i < us.length
  · have eu : us[i]? = some us[i] := List.getElem?_eq_getElem hlt
    have ed : us.drop i = us[i] :: us.drop (i + 1) := List.drop_eq_getElem_cons hlt
    obtain ⟨go, gy⟩ := wgo i _ eu
    rw [ed] at o2
    unfold lcGo at o2
    cases et : t us[i] (wipeE env (own.map (·.2))) h2 with
    | none => rw [et] at o2; exact o2.elim
    | some env3 =>
      rw [et] at o2
      dsimp only at o2
      refine .inr ⟨go, fun H' => us.length - (i + 1) < us.length - i ∧ i + 1 ≤ us.length ∧ ∃ m' h' acc vacc, Gr H1 m1 H' m' ∧ Sta X.K X.mg H' m' h' ∧ H' D = some (.lst vacc) ∧ D ∉ m' ∧ RDs X.K H' vacc acc ∧
        Out X W (rlU X.K) σ H1 m1 ((lcGo t c e (wipeE env (own.map (·.2))) (us.drop (i + 1)) acc h').noExc.bind fun xs h2 => mkL b xs h2) Q, fun H' ⟨n1, n2, n3⟩ => ⟨us.length - (i + 1), n1, rfl, n2, n3⟩, fun x H3 y => ?_⟩
      obtain ⟨sm, rx⟩ := gy x H3 y
      have gg := Gr.of_same sm m2
      have g3 := g2.trans gg
      have s3 := s2.same sm
      have hD3 : H3 D = some (.lst vacc) := sm _ _ hD
      have racc3 := RDs.kp gg.kp _ _ racc
      refine ⟨us[i], wipeE env (own.map (·.2)), m2, h2, s3, ((sl.gr g1).gr g3).wipe _, rx, env3, et, fun σ3 l3 only => ⟨wipe_only only sub, ?_⟩⟩
      refine ⟨env3, m2, h2, s3, l3, ?_⟩
      -- the test
      generalize hc : c env3 h2 = q at o2
      cases q with
      | stuck => exact o2.elim
      | exc c1 h4 => exact o2.elim
      | ok kb h4 =>
        intro b4 H4 m4 g4 s4 r4
        cases r4
        have keepD : ∀ {Ha : Hp} {ma : List Addr} {Hb : Hp} {mb : List Addr}, Gr Ha ma Hb mb → Ha D = some (.lst vacc) → D ∉ ma → Hb D = some (.lst vacc) ∧ D ∉ mb := fun {Ha ma Hb mb} g hd nd => ⟨g.keep _ _ hd nd, fun z => by
          have q := g.fresh D z nd
          rw [hd] at q
          cases q⟩
        obtain ⟨hD4, nD4⟩ := keepD g4 hD3 nDm
        cases kb with
        | false =>
          rw [if_neg Bool.false_ne_true]
          exact ⟨by omega, hlt, m4, h4, acc, vacc, g3.trans g4, s4, hD4, nD4, RDs.kp g4.kp _ _ racc3, o2⟩
        | true =>
          rw [if_pos rfl]
          refine ⟨env3, m4, h4, s4, l3.gr g4, ?_⟩
          have o3 : Out X W (rlU X.K) σ H1 m1 (Res.bind (Res.noExc ((e env3 h4).bind fun w h2 => match w with | .d x => if fits (acc.length + 1) then lcGo t c e (wipeE env (own.map (·.2))) (us.drop (i + 1)) (acc ++ [x]) h2 else .stuck | _ => .stuck)) fun xs h2 => mkL b xs h2) Q := o2
          generalize he : e env3 h4 = q at o3
          cases q with
          | stuck => exact o3.elim
          | exc c1 h5 => exact o3.elim
          | ok w h5 =>
            intro y H5 m5 g5 s5 r5
            obtain ⟨hD5, nD5⟩ := keepD g5 hD4 nD4
            rw [Res.bind_ok] at o3
            cases w with
            | ref n => exact o3.elim
            | tup us => exact o3.elim
            | exn a => exact o3.elim
            | d dx =>
              dsimp only at o3
              split at o3
              · rename_i hz
                have racc5 := RDs.kp (g4.trans g5).kp _ _ racc3
                refine ⟨vacc, hD5, by rw [racc5.len]; exact ask_iff.mp hz, by omega, hlt, m5, h5, acc ++ [dx], vacc ++ [y], ?_, ?_, upd_same, nD5, ?_, o3⟩
                · have gA := (g3.trans g4).trans g5
                  refine ⟨gA.pre, fun a o q na => ?_, gA.fresh, ⟨fun a xs q => ?_, fun a o u q => ?_⟩⟩
                  · rw [upd_ne (ne_of_none q nD)]; exact gA.keep a o q na
                  · rw [upd_ne (ne_of_none q nD)]; exact gA.kp.tup a xs q
                  · rw [upd_ne (ne_of_none q nD)]; exact gA.kp.frz a o u q
                · exact ⟨s5.nd, s5.len, fun j a ob k1 k2 => (s5.obj j a ob k1 k2).mono (upd_ne fun z => nD5 (z ▸ List.mem_of_getElem? k1)) (mut_kp hD5 trivial) ⟨[], by simp⟩⟩
                · have kp := mut_kp (y := HO.lst (vacc ++ [y])) hD5 trivial
                  exact (RDs.kp kp _ _ racc5).app (.one (RD.kp kp _ _ r5.rd))
              · exact o3.elim
  · have e' : i = us.length := by omega
    subst e'
    rw [List.drop_length] at o2
    exact .inl ⟨wst _ (Nat.le_refl _), mkL_ok2 g2 s2 nD nDm hD racc o2⟩
theorem se_lc (b : Bool) {vs : List Nat} (own : List (Str × Nat)) (hc : X.calm = true) (hN : X.N.Nodup) (hv : own.map (·.2) = vs) (sub : ∀ j ∈ ix, j ∈ vs) (hi : SI X W tg iter it) (ok : BlkOk X.N X.env.scope scope own)
    (hg : ∀ (s : Shared) (H : Hp) (C : Addr) (cl : List (Str × Addr)) (fp : List Addr), SG (X.blk s H scope (compEnvC scope cl C X.env) fp) tg ix t)
    (ht : ∀ (s : Shared) (H : Hp) (C : Addr) (cl : List (Str × Addr)) (fp : List Addr), STs (X.blk s H scope (compEnvC scope cl C X.env) fp) W0 ifs c)
    (he : ∀ (s : Shared) (H : Hp) (C : Addr) (cl : List (Str × Addr)) (fp : List Addr), SE (X.blk s H scope (compEnvC scope cl C X.env) fp) W0 elt e) (hs : ∀ x, foldedSetIterable iter X.env x = pure x := by intro _; rfl) :
    SE X W (.ListComp elt [⟨tg, iter, ifs, 0⟩] scope pos) (eLc b vs it t c e) := by
  subst hv
  exact ⟨pe_imp (pe_gh (pe_lc hc hN hi.pi ok (fun s H C cl fp => (hg s H C cl fp).pg) (fun s H C cl fp => (ht s H C cl fp).pt) (fun s H C cl fp => (he s H C cl fp).pe) hs)) fun σ H Q q => lc_rd sub q⟩
theorem ps_gh {X : Cx} {st : Stmt} {t : TS} (h : PS X st t) : PS X st (fun D σ H => t { D with nx := fun σ' H1 => ∃ S, ∀ H2, Fz S H1 H2 → D.nx σ' H2 } σ H) := by
  refine ⟨fun pins s σ H D I q => thn (h.run pins s σ H _ I q) fun fl s1 z => ?_⟩
  cases fl with
  | next =>
    obtain ⟨σ', H1, I1, S, q1⟩ := z
    obtain ⟨H2, f, I2⟩ := inv_fz S I1
    exact ⟨σ', H2, I2, q1 H2 f⟩
  | brk => exact z
  | cont => exact z
  | ret u => exact z
/-- name = [..] -/
theorem ss_setLc (b : Bool) (i : Nat) {vs : List Nat} {y : Str} {py spos : Pos} (hsw : swapsWith (.ListComp elt [⟨tg, iter, ifs, 0⟩] scope pos) (some (.Name y py)) spos.line X.env = pure true) (own : List (Str × Nat)) (hc : X.calm = true) (hN : X.N.Nodup) (hv : own.map (·.2) = vs) (sub : ∀ j ∈ ix, j ∈ vs) (hi : SI X W tg iter it) (ok : BlkOk X.N X.env.scope scope own)
    (hg : ∀ (s : Shared) (H : Hp) (C : Addr) (cl : List (Str × Addr)) (fp : List Addr), SG (X.blk s H scope (compEnvC scope cl C X.env) fp) tg ix t)
    (ht : ∀ (s : Shared) (H : Hp) (C : Addr) (cl : List (Str × Addr)) (fp : List Addr), STs (X.blk s H scope (compEnvC scope cl C X.env) fp) W0 ifs c)
    (he : ∀ (s : Shared) (H : Hp) (C : Addr) (cl : List (Str × Addr)) (fp : List Addr), SE (X.blk s H scope (compEnvC scope cl C X.env) fp) W0 elt e)
    (hy : X.N[i]? = some y := by rfl) (hyl : X.env.scope.names.lookup y = some .local := by rfl) (hs : ∀ x, foldedSetIterable iter X.env x = pure x := by intro _; rfl) :
    SS X W (.Assign [.Name y py] (.ListComp elt [⟨tg, iter, ifs, 0⟩] scope pos) spos) (sSet i (eLc b vs it t c e)) := by
  subst hv
  exact ⟨ps_imp (ps_gh (ps_setLc hc hN hy hyl hsw hi.pi ok (fun s H C cl fp => (hg s H C cl fp).pg) (fun s H C cl fp => (ht s H C cl fp).pt) (fun s H C cl fp => (he s H C cl fp).pe) hs)) fun D σ H ⟨env, m, h, sta, sl, out⟩ => by
    have q : rd X W (rlU X.K) (eLc b (own.map (·.2)) it t c e) σ H (fun v H1 => D.nx (σ.set i (some v)) H1) := rd_then sta sl out fun u h1 v H1 m1 g1 s1 r1 out1 =>
      (show ∀ σ' H' m', Gr H1 m1 H' m' → Sta X.K X.mg H' m' h1 → Sl X.K H' m' σ' (env.set i (some u)) → D.nx σ' H' from out1) _ H1 m1 (Gr.refl _ _) s1 ((sl.gr g1).set r1 i)
    exact lc_rd sub q⟩
end
end Wk

/-! T6: defs, the end. -/
namespace Wk
open PySem PySem.Spec PyProof.Rows L2

def fuel : Nat := 100000000000000000000000
theorem bt_len : bootBuiltins "len" = some (.builtin "len") := by decide +kernel
theorem bt_abs : bootBuiltins "abs" = some (.builtin "abs") := by decide +kernel
theorem bt_max : bootBuiltins "max" = some (.builtin "max") := by decide +kernel
theorem bt_min : bootBuiltins "min" = some (.builtin "min") := by decide +kernel
theorem bt_int : bootBuiltins "int" = some (.type "int") := by decide +kernel
theorem bt_bool : bootBuiltins "bool" = some (.type "bool") := by decide +kernel
theorem bt_str : bootBuiltins "str" = some (.type "str") := by decide +kernel
theorem bt_tuple : bootBuiltins "tuple" = some (.type "tuple") := by decide +kernel
theorem bt_list : bootBuiltins "list" = some (.type "list") := by decide +kernel

structure Has (K : PySem.W.Frag) (mg : Str → Option Value) (name : Str) (st : Stmt) (ps : List Str) : Prop where
  ex : ∃ f fd, mg name = some (.ref f) ∧ Fun K name name st f fd ∧ ∀ us : List Value, us.length = ps.length → bindArgs fd ⟨us, []⟩ = pure (ps.zip us)
theorem has_mk {K : PySem.W.Frag} {h : Heap} {mg : Str → Option Value} {x : Str} {st : Stmt} {ps : List Str} {f : Addr} {oc : Value} {od an : Option Addr} {osl : Array (Option Value)} {kV doc pm cdv ct : Value} (X : K.In h) (G : h.Ns mainGlobals mg)
    (hb : ∀ (kV doc pm : Value) (an : Option Addr) (cdv ct : Value) (us : List Value), us.length = ps.length → bindArgs (PySem.W.fnOf x x (defArgs st) (defBody st) (defScope st) .none kV doc pm an cdv ct) ⟨us, []⟩ = pure (ps.zip us))
    (a : PySem.W.nsIn K mainGlobals x = some (some (.ref f))) (l : K.lookup f = some ⟨oc, od, .func (PySem.W.fnOf x x (defArgs st) (defBody st) (defScope st) .none kV doc pm an cdv ct), osl⟩) (c : PySem.W.codeIn K cdv x = true) (k : PySem.W.keepIn K (.ref f) = true) : Has K mg x st ps :=
  ⟨f, _, PySem.W.mg_of X G a, fun_mk l c k, hb _ _ _ _ _ _⟩
/-! a constant of the module, looked up in the written part -/
mutual
def rdB (K : PySem.W.Frag) : Nat → Value → D → Bool
  | 0, _, _ => false
  | _ + 1, .none, .none => true
  | _ + 1, .bool b, .bool c => b == c
  | _ + 1, .int i _, .int j => decide (i = j)
  | _ + 1, .str x _, .str y => decide (x = y)
  | n + 1, .ref a, .tuple ds => match K.lookup a with
    | some o => (match o.data with
      | .seq its _ => decide (o.cls = .type "tuple") && decide (its.size ≤ 1000) && rdBs K n its.toList ds
      | _ => false)
    | none => false
  | _ + 1, _, _ => false
def rdBs (K : PySem.W.Frag) : Nat → List Value → List D → Bool
  | 0, _, _ => false
  | _ + 1, [], [] => true
  | n + 1, u :: us, d :: ds => rdB K n u d && rdBs K n us ds
  | _ + 1, _, _ => false
end
mutual
theorem rdB_ok {K : PySem.W.Frag} : ∀ (n : Nat) (u : Value) (d : D), rdB K n u d = true → ∃ v, RelV v u ∧ ∀ H, RD K H v d
  | 0, _, _, e => by rw [rdB] at e; cases e
  | n + 1, u, d, e => by
    unfold rdB at e
    split at e
    · rename_i h; cases h
    · exact ⟨.non, rfl, fun _ => .non⟩
    · have z := beq_iff_eq.mp e
      subst z
      exact ⟨.bl _, rfl, fun _ => .bl _⟩
    · have z := of_decide_eq_true e
      subst z
      exact ⟨.int _, ⟨_, rfl⟩, fun _ => .int _⟩
    · have z := of_decide_eq_true e
      subst z
      exact ⟨.str _, ⟨_, rfl⟩, fun _ => .str _⟩
    · rename_i m a ds hm
      cases hm
      split at e
      · rename_i o ho
        split at e
        · rename_i its k hd
          simp only [Bool.and_eq_true, decide_eq_true_eq] at e
          obtain ⟨vs, rv, rd⟩ := rdBs_ok n its.toList ds e.2
          exact ⟨.ref a, rfl, fun H => .tup (.inr ⟨o, its, k, ho, e.1.1, hd, line1000 e.1.2, rv⟩) (rd H)⟩
        · cases e
      · cases e
    · cases e
theorem rdBs_ok {K : PySem.W.Frag} : ∀ (n : Nat) (us : List Value) (ds : List D), rdBs K n us ds = true → ∃ vs, Vals vs us ∧ ∀ H, RDs K H vs ds
  | 0, _, _, e => by rw [rdBs] at e; cases e
  | n + 1, us, ds, e => by
    unfold rdBs at e
    split at e
    · rename_i h; cases h
    · exact ⟨[], .nil, fun _ => .nil⟩
    · rename_i m u us d ds hm
      cases hm
      rw [Bool.and_eq_true] at e
      obtain ⟨v, r1, d1⟩ := rdB_ok n u d e.1
      obtain ⟨vs, r2, d2⟩ := rdBs_ok n us ds e.2
      exact ⟨v :: vs, .cons r1 r2, fun H => .cons (d1 H) (d2 H)⟩
    · cases e
end
theorem const_mk {K : PySem.W.Frag} {h : Heap} {mg : Str → Option Value} {x : Str} {u : Value} {d : D} (KX : K.In h) (G : h.Ns mainGlobals mg) (a : PySem.W.nsIn K mainGlobals x = some (some u)) (b : rdB K 30 u d = true)
    (hx : (x == ("__debug__" : Str)) = false := by decide) : ∀ {X : Cx} {W : WX} {pos : Pos}, X.K = K → X.mg = mg → Gl X x → SE X W (.Name x pos) (eC d) := by
  intro X W pos eK em hg
  subst eK em
  obtain ⟨v, r, rd⟩ := rdB_ok _ _ _ b
  exact se_glob hg (PySem.W.mg_of KX G a) r rd hx
/-- the def keeps its data function, wherever it stands -/
def FnA (P : Program) (w : World) (K : PySem.W.Frag) (mg : Str → Option Value) (base : Heap) (k : Nat) (x : Str) (st : Stmt) (ps : List Str) (F : PF) : Prop :=
  ∀ f fd, Fun K x x st f fd → FnOk P w K mg base (L2.CX P w) k f fd ps (spP K mg ps.length F)
theorem FnA.p {P : Program} {w : World} {K : PySem.W.Frag} {mg : Str → Option Value} {base : Heap} {k : Nat} {x : Str} {st : Stmt} {ps : List Str} {F : PF} (h : FnA P w K mg base k x st ps F) (hs : Has K mg x st ps) : FnP P w K mg base k x ps F := by
  obtain ⟨f, fd, h1, h2, h3⟩ := hs.ex
  exact ⟨f, fd, h1, h2.kp, Binds.all h3, h f fd h2⟩

/-- a def's data function, by its body -/
def pfOf (n : Nat) (B : Es) : PF := fun ds => match B (ds.map (fun d => some (.d d)) ++ List.replicate (n - ds.length) none) [] with
  | .ret (.d d) _ => .ok d
  | .next _ _ => .ok .none
  | .exc c _ _ => .exc c
  | _ => .stuck
theorem sl_start {K : PySem.W.Frag} {H : Hp} {N : List Str} {vs : List V} {ds : List D} (r : RDs K H vs ds) : Sl K H [] (L2.start N vs) (ds.map (fun d => some (.d d)) ++ List.replicate (N.length - ds.length) none) := by
  unfold L2.start
  refine ⟨by simp [r.len], fun i u e => ?_⟩
  by_cases hi : i < ds.length
  · rw [List.getElem?_append_left (by simpa using hi), List.getElem?_map, List.getElem?_eq_getElem hi] at e
    cases e
    obtain ⟨v, h1, h2⟩ := r.get (List.getElem?_eq_getElem hi)
    exact ⟨v, by rw [List.getElem?_append_left (by rw [List.length_map, r.len]; exact hi), List.getElem?_map, h1]; rfl, .d h2⟩
  · rw [List.getElem?_append_right (by simpa using hi), List.getElem?_replicate] at e
    split at e <;> cases e
section
variable {P : Program} {w : World} {K : PySem.W.Frag} {mg : Str → Option Value} {base : Heap}
abbrev WD (E : XK) : WX := fun cls d _ H => E cls d H
/-- THE RULE for a def that takes data and gives data -/
theorem fn_priv {x : Str} {st : Stmt} {N ps : List Str} {k : Nat} {B : Es} (S : FnScope N ps (defScope st))
    (body : ∀ (f : Addr) (cdv : Value) (A : Around) (outer : List Env) (s : Shared) (H : Hp) (E : XK), Room k (A.deeper (envOfC x (defScope st) s.heap.objs.size f cdv)) →
      Takes (cxOf (L2.CX P w) P w K mg base N x (defScope st) f cdv A outer s H E) (WD E) →
      PassesOwn (model P w) (A.deeper (envOfC x (defScope st) s.heap.objs.size f cdv)) (envOfC x (defScope st) s.heap.objs.size f cdv) (cxOf (L2.CX P w) P w K mg base N x (defScope st) f cdv A outer s H E).xe →
      SSs (cxOf (L2.CX P w) P w K mg base N x (defScope st) f cdv A outer s H E) (WD E) (defBody st) B) :
    FnA P w K mg base (k + 1) x st ps (pfOf N.length B) := by
  intro f fd h2
  refine h2.okX S (fun vs H Q E h => ?_) fun cdv A outer s H vs Q E hr h => ?_
  · obtain ⟨ds, _, e, _⟩ := h
    exact e
  · obtain ⟨ds, r, e, q⟩ := h
    refine ⟨_, (body f cdv A outer s H E hr (takes_of rfl rfl rfl rfl) (passes_of rfl)).ps, _, [], [], Sta.nil, sl_start r, ?_⟩
    unfold pfOf at q
    generalize B (ds.map (fun d => some (.d d)) ++ List.replicate (N.length - ds.length) none) [] = z at q
    cases z with
    | next env' h' => exact fun σ' H' m' g s' l => (show ∀ v H', Same H H' → RD K H' v .none → Q v H' from q) .non H' g.same .non
    | ret u h' =>
      cases u with
      | d d => exact fun v H' m' g s' r' => (show ∀ v H', Same H H' → RD K H' v d → Q v H' from q) v H' g.same r'.rd
      | ref n => exact q.elim
      | tup us => exact q.elim
      | exn a => exact q.elim
    | exc c env' h' => exact fun σ' H' m' g s' l C hC => (show ∀ H', Same H H' → ∀ C, mg c = some (.ref C) → E (.ref C) none H' from q) H' g.same C hC
    | stuck => exact q
end

theorem only_frz {K : PySem.W.Frag} {H : Hp} {a : Addr} {vs : List V} (o : Only H) (h : SqL K H a vs) : FzL K H a vs := by
  rcases h with (h | ⟨ob, h⟩) | h
  · rcases o a with z | ⟨ob, xs, z⟩
    · rw [h] at z; cases z
    · rw [h] at z; cases z
  · exact .inl ⟨ob, h⟩
  · exact .inr h
theorem end_of {l : PySem.W.OpenLaw} {n k : Nat} {q : Program} {loose : List Str} {XP : (Str → Option Value) → Heap → Prop} {YP : World → Heap → Prop} {d : DefRec} {K : Params → PySem.W.Frag} {x : Str} {st : Stmt} {F : PF}
    (hn : l.most = some n) (hn2 : n ≤ sizeLine) (hdf : d.params.defaults = []) (hr : Room k callerA)
    (hY : ∀ (w : World) (h : Heap), YP w h → (K w.params).In h)
    (hF : ∀ (w : World) (mg : Str → Option Value) (h : Heap), (K w.params).In h → h.Ns mainGlobals mg → Has (K w.params) mg d.name st [x] ∧ ∀ base : Heap, FnA l.prog w (K w.params) mg base k d.name st [x] F)
    (law : ∀ ns : List Int, ns.length ≤ n → (∀ z ∈ ns, Builtin.Int.intBits z ≤ 1048576) → F [.list (ns.map .int)] = .ok (.bool true)) :
    PySem.W.WalkO q loose XP YP l.row.toRowW d [] (fun f vs => PySem.call f vs) := by
  have tk : ∀ (w : World) (H : Hp) (s : Shared) (e : Value) (s' : Shared), L2.CX l.prog w [] H s (fun _ _ _ => False) e s' → False := fun w H s e s' z => by
    obtain ⟨_, _, _, _, _, _, _, _, _, _, _, _, z⟩ := z
    exact z
  refine Att.attach_callB hn hdf fun w s₀ s₁ mg mb fa o pm cd doc a vs ns G Y ho hd hcd hmg hobj hints hlen hbits hg => ?_
  have KX := hY w _ Y
  obtain ⟨hs, hA⟩ := hF w mg _ KX G.T.g
  obtain ⟨f, fd, h1, h2, h3⟩ := hs.ex
  rw [hmg] at h1
  cases h1
  exact law_call KX G.T.g G.T.b G.T.builtins G.T.nolimit hg hobj hints (Nat.le_trans hlen hn2) hr (sp := spP (K w.params) mg 1 F) (fun base _ _ => hA base fa fd h2) (fun s u => .of_eq (h3 [u] rfl))
    (fun H hO hS => ⟨[.list (ns.map .int)], .cons (.lst (only_frz hO hS) RDs.ints) .nil, rfl, by
      rw [law ns hlen hbits]
      intro v H' _ r
      cases r
      rfl⟩) fun H e s' => tk w H s₁ e s'
end Wk

/-! T7: how the functions come out. -/
namespace Wk
open PySem L2

section
variable {α : Type} {f g k : Ev} {fa : Ea} {p q : Eb} {s t : Es} {env : Env'} {h : Sto} {u w : U}
@[simp] theorem ev_C (d : D) : eC d env h = .ok (.d d) h := (rfl)
@[simp] theorem ev_V (i : Nat) : eV i env h = match env[i]? with | some (some u) => .ok u h | _ => .stuck := (rfl)
@[simp] theorem ev_Bin (F : U → U → Sto → Res U) : eBin F f g env h = (f env h).bind fun u h1 => (g env h1).bind fun w h2 => F u w h2 := (rfl)
@[simp] theorem ev_Un (F : U → Sto → Res U) : eUn F f env h = (f env h).bind F := (rfl)
@[simp] theorem ev_B (F : List U → Sto → Res U) : eB F fa env h = (fa env h).bind F := (rfl)
@[simp] theorem ev_aNil : aNil env h = .ok [] h := (rfl)
@[simp] theorem ev_aCons : aCons f fa env h = (f env h).bind fun u h1 => (fa env h1).bind fun us h2 => .ok (u :: us) h2 := (rfl)
@[simp] theorem ev_tBin (F : U → U → Sto → Res U) : tBin F f g env h = tB (eBin F f g env h) := (rfl)
@[simp] theorem ev_tBb (b : Bool) : tB (.ok (.d (.bool b)) h) = .ok b h := (rfl)
@[simp] theorem ev_tBs : tB .stuck = .stuck := (rfl)
@[simp] theorem ev_tBe (c : Str) : tB (.exc c h) = .exc c h := (rfl)
@[simp] theorem ev_tTru : tTru f env h = (f env h).bind fun u h1 => match truthOf h1 u with | some b => .ok b h1 | none => .stuck := (rfl)
@[simp] theorem ev_truB (b : Bool) : truthOf h (.d (.bool b)) = some b := (rfl)
@[simp] theorem ev_bAnd : bAnd p q env h = (p env h).bind fun b h1 => match b with | true => q env h1 | false => .ok false h1 := (rfl)
@[simp] theorem ev_bOr : bOr p q env h = (p env h).bind fun b h1 => match b with | true => .ok true h1 | false => q env h1 := (rfl)
@[simp] theorem ev_bNot : bNot p env h = (p env h).bind fun b h1 => .ok (!b) h1 := (rfl)
@[simp] theorem ev_eAnd : eAnd f g env h = (tB (f env h)).bind fun b h1 => match b with | true => g env h1 | false => .ok (.d (.bool false)) h1 := (rfl)
@[simp] theorem ev_eOr : eOr f g env h = (tB (f env h)).bind fun b h1 => match b with | true => .ok (.d (.bool true)) h1 | false => g env h1 := (rfl)
@[simp] theorem ev_eNot : eNot f env h = (tB (f env h)).bind fun b h1 => .ok (.d (.bool (!b))) h1 := (rfl)
@[simp] theorem ev_Fz : eFz f env h = (f env h).bind fzR := (rfl)
@[simp] theorem ev_fzd (d : D) : fzR (.d d) h = .ok (.d d) h := (rfl)
@[simp] theorem ev_Tup : eTup fa env h = (fa env h).bind fun us h1 => if us.length ≤ 1000 then (match allD us with | some ds => .ok (.d (.tuple ds)) h1 | none => .ok (.tup us) h1) else .stuck := (rfl)
@[simp] theorem ev_Lst (b : Bool) : eLst b fa env h = (fa env h).bind fun us h1 => if us.length ≤ 1000 then (match allD us with | some ds => mkL b ds h1 | none => .stuck) else .stuck := (rfl)
@[simp] theorem ev_mkT (xs : List D) : mkL true xs h = .ok (.ref h.length) (h ++ [.lst xs]) := (rfl)
@[simp] theorem ev_mkF (xs : List D) : mkL false xs h = .ok (.d (.list xs)) h := (rfl)
@[simp] theorem ev_allN : allD [] = some [] := (rfl)
@[simp] theorem ev_allC (x : D) (r : List U) : allD (.d x :: r) = match allD r with | some xs => some (x :: xs) | none => none := (rfl)
@[simp] theorem ev_Call (F : PF) : eCall F fa env h = (fa env h).bind fun us h1 => match allD us with | some ds => (F ds).res h1 | none => .stuck := (rfl)
@[simp] theorem ev_resK (d : D) : (PR.ok d).res h = .ok (.d d) h := (rfl)
@[simp] theorem ev_resE (c : Str) : (PR.exc c).res h = .exc c h := (rfl)
@[simp] theorem ev_resS : (PR.stuck).res h = .stuck := (rfl)
-- statements
@[simp] theorem ev_Nil : sNil env h = .next env h := (rfl)
@[simp] theorem ev_Seq : sSeq s t env h = (s env h).seq t := (rfl)
@[simp] theorem ev_If : sIf p s t env h = (p env h).then_ env fun b h1 => match b with | true => s env h1 | false => t env h1 := (rfl)
@[simp] theorem ev_Set (i : Nat) : sSet i f env h = (f env h).then_ env fun u h1 => .next (env.set i (some u)) h1 := (rfl)
@[simp] theorem ev_Ret : sRet f env h = (f env h).then_ env fun u h1 => .ret u h1 := (rfl)
@[simp] theorem ev_Expr : sExpr f env h = (f env h).then_ env fun _ h1 => .next env h1 := (rfl)
@[simp] theorem ev_Asg (g : Tg) : sAsg g f env h = (f env h).then_ env fun u h1 => match g u env h1 with | some env' => .next env' h1 | none => .stuck := (rfl)
@[simp] theorem ev_gN (i : Nat) : gN i u env h = some (env.set i (some u)) := (rfl)
@[simp] theorem ev_gT (n : Nat) (r : Tgs) : gTup' n r u env h = match itemsOf h u with | some us => if us.length = n then r us env h else none | none => none := (rfl)
@[simp] theorem ev_gNil : gNil' [] env h = some env := (rfl)
@[simp] theorem ev_gCons (g : Tg) (r : Tgs) (us : List U) : gCons' g r (u :: us) env h = match g u env h with | some env1 => r us env1 h | none => none := (rfl)
@[simp] theorem ev_itT (xs : List D) : itemsOf h (.d (.tuple xs)) = some (xs.map .d) := (rfl)
@[simp] theorem ev_itL (xs : List D) : itemsOf h (.d (.list xs)) = some (xs.map .d) := (rfl)
-- operators
@[simp] theorem ev_add (b : Bool) (i j : Int) : opAdd b (.d (.int i)) (.d (.int j)) h = .ok (.d (.int (i + j))) h := (rfl)
@[simp] theorem ev_sub (i j : Int) : opSub (.d (.int i)) (.d (.int j)) h = .ok (.d (.int (i - j))) h := (rfl)
@[simp] theorem ev_mul (i j : Int) : opMul (.d (.int i)) (.d (.int j)) h = if mulOk i j then .ok (.d (.int (i * j))) h else .stuck := (rfl)
@[simp] theorem ev_fdiv (i j : Int) : opFdiv (.d (.int i)) (.d (.int j)) h = if divOk j then .ok (.d (.int (i / j))) h else .stuck := (rfl)
@[simp] theorem ev_mod (i j : Int) : opMod (.d (.int i)) (.d (.int j)) h = if 0 < j then .ok (.d (.int (i % j))) h else .stuck := (rfl)
theorem ev_pow (i j : Int) (h0 : 0 ≤ j) (h1 : j ≤ 1000000) (h2 : i.natAbs < 2 ^ 64) : opPow (.d (.int i)) (.d (.int j)) h = .ok (.d (.int (i ^ j.toNat))) h := if_pos (ask_t ⟨h0, h1, h2⟩)
@[simp] theorem ev_neg (i : Int) : opNeg (.d (.int i)) h = .ok (.d (.int (-i))) h := (rfl)
@[simp] theorem ev_cmp (c : Int → Int → Bool) (i j : Int) : opI c (.d (.int i)) (.d (.int j)) h = .ok (.d (.bool (c i j))) h := (rfl)
@[simp] theorem ev_int (i : Int) : fInt [.d (.int i)] h = .ok (.d (.int i)) h := (rfl)
@[simp] theorem ev_intB (b : Bool) : fInt [.d (.bool b)] h = .ok (.d (.int (if b then 1 else 0))) h := (rfl)
@[simp] theorem ev_i1 (g : Int → Int) (i : Int) : fI1 g [.d (.int i)] h = .ok (.d (.int (g i))) h := (rfl)
@[simp] theorem ev_i2 (g : Int → Int → Int) (i j : Int) : fI2 g [.d (.int i), .d (.int j)] h = .ok (.d (.int (g i j))) h := (rfl)
@[simp] theorem ev_lenL (xs : List D) : fLen [.d (.list xs)] h = .ok (.d (.int xs.length)) h := (rfl)
@[simp] theorem ev_lenT (xs : List D) : fLen [.d (.tuple xs)] h = .ok (.d (.int xs.length)) h := (rfl)
@[simp] theorem ev_ixT (xs : List D) (i : Int) : opIx (.d (.tuple xs)) (.d (.int i)) h = match atI xs i with | some x => .ok (.d x) h | none => .stuck := (rfl)
@[simp] theorem ev_ixL (xs : List D) (i : Int) : opIx (.d (.list xs)) (.d (.int i)) h = match atI xs i with | some x => .ok (.d x) h | none => .stuck := (rfl)
@[simp] theorem ev_isi (T : Ty) (d : D) : opIsi T (.d d) h = .ok (.d (.bool (isTy T d))) h := (rfl)
end
theorem mulOk_of {i j : Int} (h : i.natAbs < 2 ^ 64 ∨ j.natAbs < 2 ^ 64) : mulOk i j = true := ask_t (h.elim .inl fun z => .inr (.inl z))
theorem mulOk_big {i j : Int} (h1 : i.natAbs < 2 ^ 400000) (h2 : j.natAbs < 2 ^ 400000) : mulOk i j = true := ask_t (.inr (.inr ⟨h1, h2⟩))
theorem divOk_of {j : Int} (h1 : 0 < j) (h2 : j.natAbs < 2 ^ 8000) : divOk j = true := ask_t ⟨h1, h2⟩
theorem fits_of {n : Nat} (h : n ≤ 16777216) : fits n = true := ask_t (by rw [sizeLine_eq]; exact h)
theorem pfOf_ap (n : Nat) (B : Es) (ds : List D) : pfOf n B ds = match B (ds.map (fun d => some (.d d)) ++ List.replicate (n - ds.length) none) [] with
  | .ret (.d d) _ => .ok d
  | .next _ _ => .ok .none
  | .exc c _ _ => .exc c
  | _ => .stuck := (rfl)
@[simp] theorem mulOk_r {i j : Int} (h : j.natAbs < 2 ^ 64) : mulOk i j = true := mulOk_of (.inr h)
@[simp] theorem mulOk_l {i j : Int} (h : i.natAbs < 2 ^ 64) : mulOk i j = true := mulOk_of (.inl h)
theorem natAbs_mod {x m : Int} (h : 0 < m) (h' : m ≤ 2 ^ 64) : (x % m).natAbs < 2 ^ 64 := by
  have h1 := Int.emod_nonneg x (show m ≠ 0 by omega)
  have h2 := Int.emod_lt_of_pos x h
  omega
@[simp] theorem mulOk_ml {x m j : Int} (h : 0 < m) (h' : m ≤ 2 ^ 64) : mulOk (x % m) j = true := mulOk_of (.inl (natAbs_mod h h'))
@[simp] theorem mulOk_mr {x m j : Int} (h : 0 < m) (h' : m ≤ 2 ^ 64) : mulOk j (x % m) = true := mulOk_of (.inr (natAbs_mod h h'))
@[simp] theorem divOk_s {j : Int} (h : 0 < j) (h' : j.natAbs < 2 ^ 64) : divOk j = true := divOk_of h (Nat.lt_of_lt_of_le h' (Nat.pow_le_pow_right (by decide) (by decide)))

/-! ### loops -/
theorem forGo_nil (t : Tg) (b : Es) (env : Env') (h : Sto) : forGo t b [] env h = .next env h := rfl
theorem forGo_cons (t : Tg) (b : Es) (u : U) (us : List U) (env : Env') (h : Sto) : forGo t b (u :: us) env h = match t u env h with | some env1 => (b env1 h).seq (forGo t b us) | none => .stuck := rfl
/-- each turn goes on, and keeps I -/
theorem forGo_inv {t : Tg} {b : Es} : ∀ {us : List U} (I : Nat → Env' → Sto → Prop) (k : Nat) {env : Env'} {h : Sto}, I k env h →
    (∀ (i : Nat) u env h, us[i]? = some u → I (k + i) env h → ∃ env1 env2 h2, t u env h = some env1 ∧ b env1 h = .next env2 h2 ∧ I (k + i + 1) env2 h2) → ∃ env' h', forGo t b us env h = .next env' h' ∧ I (k + us.length) env' h'
  | [], I, k, env, h, h0, _ => ⟨env, h, rfl, h0⟩
  | u :: us, I, k, env, h, h0, st => by
    obtain ⟨env1, env2, h2, e1, e2, h3⟩ := st 0 u env h rfl h0
    obtain ⟨env', h', e3, h4⟩ := forGo_inv (us := us) I (k + 1) h3 (fun i v env h e hi => by
      have q := st (i + 1) v env h (by simpa using e) (by rw [← Nat.add_assoc, Nat.add_right_comm]; exact hi)
      rw [← Nat.add_assoc, Nat.add_right_comm k i 1] at q
      exact q)
    refine ⟨env', h', ?_, ?_⟩
    · rw [forGo_cons, e1]
      show (b env1 h).seq (forGo t b us) = _
      rw [e2]
      exact e3
    · rw [List.length_cons, Nat.add_comm us.length 1, ← Nat.add_assoc]
      exact h4
theorem iRange_get {n : Nat} {lo : Int} {i : Nat} {u : U} (e : (iRange n lo)[i]? = some u) : i < n ∧ u = .d (.int (lo + i)) := by
  unfold iRange at e
  rw [List.getElem?_map] at e
  cases q : (List.range n)[i]? with
  | none => rw [q] at e; cases e
  | some j =>
    rw [q] at e
    have hi := (List.getElem?_eq_some_iff.mp q).1
    rw [List.length_range] at hi
    rw [List.getElem?_range hi] at q
    cases q
    cases e
    exact ⟨hi, rfl⟩
theorem iRange_len (n : Nat) (lo : Int) : (iRange n lo).length = n := by unfold iRange; simp
/-- a while by a number that falls -/
theorem whileGo_ix {c : Eb} {b : Es} (I : Nat → Env' → Sto → Prop) (st : ∀ m env h, I m env h → ∃ k h1, c env h = .ok k h1 ∧ (k = true → ∃ m' env2 h2, m' < m ∧ b env h1 = .next env2 h2 ∧ I m' env2 h2)) :
    ∀ (n m : Nat) (env : Env') (h : Sto), I m env h → m < n → ∃ m' env' h' h1, whileGo c b n env h = .next env' h1 ∧ I m' env' h' ∧ c env' h' = .ok false h1
  | 0, _, _, _, _, hm => absurd hm (Nat.not_lt_zero _)
  | n + 1, m, env, h, hi, hm => by
    obtain ⟨k, h1, e1, hk⟩ := st m env h hi
    cases k with
    | false => exact ⟨m, env, h, h1, by unfold whileGo; rw [e1]; rfl, hi, e1⟩
    | true =>
      obtain ⟨m2, env2, h2, lt, e2, i2⟩ := hk rfl
      obtain ⟨m', env', h', h3, e3, i3, e4⟩ := whileGo_ix I st n m2 env2 h2 i2 (by omega)
      exact ⟨m', env', h', h3, by unfold whileGo; rw [e1]; simp only [Res.then_ok]; rw [e2]; exact e3, i3, e4⟩
@[simp] theorem ev_While (n : Nat) (c : Eb) (b : Es) (env : Env') (h : Sto) : sWhile n c b env h = whileGo c b n env h := (rfl)
theorem lcGo_nil (t : Tg) (c : Eb) (e : Ev) (env : Env') (acc : List D) (h : Sto) : lcGo t c e env [] acc h = .ok acc h := rfl
/-- a comprehension without a test, whose items are f of the place -/
theorem lcGo_map {t : Tg} {e : Ev} {env : Env'} {h : Sto} : ∀ {us : List U} (f : U → D) (acc : List D), (∀ u ∈ us, ∃ env1, t u env h = some env1 ∧ e env1 h = .ok (.d (f u)) h) → acc.length + us.length ≤ 16777216 → lcGo t cYes e env us acc h = .ok (acc ++ us.map f) h
  | [], f, acc, _, _ => by rw [lcGo_nil, List.map_nil, List.append_nil]
  | u :: us, f, acc, H, hl => by
    obtain ⟨env1, e1, e2⟩ := H u List.mem_cons_self
    rw [List.length_cons] at hl
    have ih := lcGo_map (t := t) (e := e) (env := env) (h := h) (us := us) f (acc ++ [f u]) (fun v hv => H v (List.mem_cons_of_mem _ hv)) (by rw [List.length_append, List.length_singleton]; omega)
    unfold lcGo
    simp only [e1, cYes, Res.bind_ok, e2]
    rw [if_pos (fits_of (by omega)), ih]
    simp
end Wk

/-! LB: the helpers that every law has: a cell of the script, mixed numbers, a row of digits. -/
namespace Wk
open PySem L2
@[simp] theorem ev_For (it : Ea) (t : Tg) (b : Es) (env : Env') (h : Sto) : sFor it t b env h = (it env h).then_ env fun us h1 => forGo t b us env h1 := (rfl)
@[simp] theorem ev_iR1 (fa : Ea) (env : Env') (h : Sto) : iR1 fa env h = (fa env h).bind fun us h1 => match us with | [u] => (match intOf u with | some j => if rngOk j then .ok (iRange j.toNat 0) h1 else .stuck | none => .stuck) | _ => .stuck := (rfl)
@[simp] theorem ev_iR2 (fa : Ea) (env : Env') (h : Sto) : iR2 fa env h = (fa env h).bind fun us h1 => match us with | [u, w] => (match intOf u, intOf w with | some i, some j => if rngOk i && rngOk j then .ok (iRange (j - i).toNat i) h1 else .stuck | _, _ => .stuck) | _ => .stuck := (rfl)
@[simp] theorem ev_intOf (i : Int) : intOf (.d (.int i)) = some i := (rfl)
@[simp] theorem ev_Lc (b : Bool) (vs : List Nat) (it : Ea) (t : Tg) (c : Eb) (e : Ev) (env : Env') (h : Sto) : eLc b vs it t c e env h = (it env h).bind fun us h1 => (lcGo t c e (wipeE env vs) us [] h1).noExc.bind fun xs h2 => mkL b xs h2 := (rfl)
@[simp] theorem ev_noExc {α : Type} (x : α) (h : Sto) : (Res.ok x h).noExc = .ok x h := (rfl)
@[simp] theorem ev_Ml (F : U → List U → Sto → Res U) (f : Ev) (fa : Ea) (env : Env') (h : Sto) : eMl F f fa env h = (f env h).bind fun u h1 => match listOf h1 u with | some _ => (fa env h1).bind fun us h2 => F u us h2 | none => .stuck := (rfl)
@[simp] theorem ev_fzr (n : Nat) (h : Sto) : fzR (.ref n) h = match dataOf h (.ref n) with | some x => .ok (.d x) (fzH (refsOf (.ref n)) h) | none => .stuck := (rfl)
@[simp] theorem ev_dat (n : Nat) (h : Sto) : dataOf h (.ref n) = (listOf h (.ref n)).map .list := by rw [dataOf]
@[simp] theorem ev_lstR (n : Nat) (h : Sto) : listOf h (.ref n) = match h[n]? with | some (.lst xs) => some xs | some (.frz xs) => some xs | _ => none := (rfl)
@[simp] theorem ev_lstD (xs : List D) (h : Sto) : listOf h (.d (.list xs)) = some xs := (rfl)
@[simp] theorem ev_app (n : Nat) (x : D) (h : Sto) : fApp (.ref n) [.d x] h = match h[n]? with | some (.lst xs) => if fits (xs.length + 1) then .ok (.d .none) (h.set n (.lst (xs ++ [x]))) else .stuck | _ => .stuck := (rfl)
theorem shaped_int (i : Int) : SeqAt.shaped (.int i) = true := (rfl)
theorem eqv_int (i j : Int) : PyData.eqv (.int i) (.int j) = decide (i = j) := by
  rw [PyData.eqv]
  exact (Bool.beq_eq_decide_eq i j)
@[simp] theorem ev_eqI (n : Bool) (i j : Int) (h : Sto) : opEqB n (.d (.int i)) (.d (.int j)) h = .ok (.d (.bool (xor n (decide (i = j))))) h := by
  unfold opEqB
  simp only [strOf, dataOf, shaped_int, Bool.and_self, if_true, eqv_int]
theorem rng_of {i : Int} (h1 : -1000000000000 ≤ i) (h2 : i ≤ 1000000000000) : rngOk i = true := ask_t ⟨by omega, by omega⟩
theorem atI_map {α β : Type} (f : α → β) (xs : List α) (i : Int) : atI (xs.map f) i = (atI xs i).map f := by
  unfold atI
  rw [List.length_map]
  cases ixN xs.length i with
  | none => rfl
  | some j => simp
theorem atI_in {α : Type} {xs : List α} {i : Int} (h0 : 0 ≤ i) (h1 : i < xs.length) : ∃ x, atI xs i = some x ∧ x ∈ xs := by
  have hj : i.toNat < xs.length := by omega
  refine ⟨xs[i.toNat], ?_, List.getElem_mem hj⟩
  have q : atI xs ((i.toNat : Nat) : Int) = some xs[i.toNat] := atI_nat (List.getElem?_eq_getElem hj)
  have e : ((i.toNat : Nat) : Int) = i := by omega
  rw [e] at q
  exact q

noncomputable def B_cell : Es := (sSeq (sIf (tBin opLt (eV 1) (eB fLen (aCons (eV 0) aNil)))
    (sRet (eBin opIx (eV 0) (eV 1)))
    sNil)
    (sSeq (sSet 2 (eBin (opAdd false) (eBin opMul (eBin opMul (eV 1) (eV 1)) (eC (.int 7919))) (eC (.int 104729))))
    (sSeq (sIf (tBin opGt (eB fLen (aCons (eV 0) aNil)) (eC (.int 0)))
    (sSet 2 (eBin (opAdd false) (eV 2) (eBin opMul (eBin opMod (eBin opIx (eV 0) (eBin opMod (eBin opMul (eV 1) (eC (.int 7))) (eB fLen (aCons (eV 0) aNil)))) (eBin opPow (eC (.int 10)) (eC (.int 40)))) (eBin (opAdd false) (eC (.int 48271)) (eV 1)))))
    sNil)
    (sRet (eBin opMod (eBin opMul (eV 2) (eV 2)) (eC (.int 2305843009213693951)))))))
noncomputable def B_mixed : Es := (sSeq (sSet 2 (eBin opMod (eBin (opAdd false) (eBin (opAdd false) (eV 0) (eBin opMul (eBin opMul (eV 1) (eV 1)) (eC (.int 40503)))) (eC (.int 12345))) (eC (.int 2305843009213693951))))
    (sSeq (sSet 2 (eBin opMod (eBin opMul (eV 2) (eV 2)) (eC (.int 2305843009213693951))))
    (sSeq (sSet 2 (eBin opMod (eBin opMul (eBin (opAdd false) (eBin (opAdd false) (eV 2) (eBin opMul (eV 1) (eC (.int 7919)))) (eC (.int 1))) (eC (.int 48271))) (eC (.int 2305843009213693951))))
    (sRet (eBin opFdiv (eBin opMod (eBin opMul (eV 2) (eV 2)) (eC (.int 2305843009213693951))) (eC (.int 1024)))))))
noncomputable def B_row : Es := (sSeq (sSet 3 (eLst true aNil))
    (sSeq (sSet 4 (eV 0))
    (sSeq (sFor (iR1 (aCons (eV 2) aNil)) (gN 5)
    (sSeq (sExpr (eMl fApp (eV 3) (aCons (eBin opMod (eV 4) (eV 1)) aNil)))
    (sSet 4 (eBin opFdiv (eV 4) (eV 1)))))
    (sSeq (sIf (tBin opGt (eV 4) (eC (.int 0)))
    (sRet (eFz (eV 3)))
    sNil)
    (sRet (eLc false [5] (iR1 (aCons (eV 2) aNil)) (gN 5) cYes (eBin opMod (eCall (pfOf 3 B_mixed) (aCons (eV 0) (aCons (eV 5) aNil))) (eV 1))))))))

theorem mixed_ev (c k : Int) (h0 : 0 ≤ k) (h1 : k < 1000000) : ∃ r, pfOf 3 B_mixed [.int c, .int k] = .ok (.int r) ∧ 0 ≤ r := by
  have m1 : mulOk k k = true := mulOk_of (.inl (by omega))
  simp [pfOf_ap, B_mixed, m1]
  exact Int.ediv_nonneg (Int.emod_nonneg _ (by decide)) (by decide)
theorem ev_pow40 (h : Sto) : opPow (.d (.int 10)) (.d (.int 40)) h = .ok (.d (.int 10000000000000000000000000000000000000000)) h := by
  rw [ev_pow _ _ (by decide) (by decide) (by decide)]
  rfl
theorem cell_ev (ns : List Int) (k : Int) (h0 : 0 ≤ k) (h1 : k < 1000000) (hl : ns.length < 1000000) : ∃ r, pfOf 3 B_cell [.list (ns.map .int), .int k] = .ok (.int r) := by
  have m1 : mulOk k k = true := mulOk_of (.inl (by omega))
  have m3 : mulOk (k * k * 7919 + 104729) (k * k * 7919 + 104729) = true := by
    have hk : k * k ≤ 1000000 * 1000000 := Int.mul_le_mul (by omega) (by omega) h0 (by decide)
    have hk0 : 0 ≤ k * k := Int.mul_nonneg h0 h0
    exact mulOk_of (.inl (by omega))
  by_cases hk : k < ns.length
  · obtain ⟨x, e, _⟩ := atI_in h0 hk
    simp [pfOf_ap, B_cell, hk, atI_map, e]
  · by_cases hz : ns.length = 0
    · simp [pfOf_ap, B_cell, hz, m1, m3, show ¬ k < 0 by omega]
    · have hp : (0 : Int) < ns.length := by omega
      obtain ⟨x, e, _⟩ := atI_in (xs := ns) (i := k * 7 % ns.length) (Int.emod_nonneg _ (by omega)) (Int.emod_lt_of_pos _ hp)
      have hp' : 0 < ns.length := by omega
      have m4 : mulOk (x % 10000000000000000000000000000000000000000) (48271 + k) = true := mulOk_of (.inr (by omega))
      have m5 : mulOk (k * k * 7919 + 104729 + x % 10000000000000000000000000000000000000000 * (48271 + k)) (k * k * 7919 + 104729 + x % 10000000000000000000000000000000000000000 * (48271 + k)) = true := by
        have hk : k * k ≤ 1000000 * 1000000 := Int.mul_le_mul (by omega) (by omega) h0 (by decide)
        have hk0 : 0 ≤ k * k := Int.mul_nonneg h0 h0
        have hy := Int.emod_nonneg x (show (10000000000000000000000000000000000000000 : Int) ≠ 0 by decide)
        have hy2 := Int.emod_lt_of_pos x (show (0 : Int) < 10000000000000000000000000000000000000000 by decide)
        have hp2 : x % 10000000000000000000000000000000000000000 * (48271 + k) ≤ 10000000000000000000000000000000000000000 * 2000000 := Int.mul_le_mul (by omega) (by omega) (by omega) (by decide)
        have hp0 : 0 ≤ x % 10000000000000000000000000000000000000000 * (48271 + k) := Int.mul_nonneg hy (by omega)
        have hb : (k * k * 7919 + 104729 + x % 10000000000000000000000000000000000000000 * (48271 + k)).natAbs < 2 ^ 200 := by omega
        have hc : (2 : Nat) ^ 200 ≤ 2 ^ 400000 := Nat.pow_le_pow_right (by decide) (by decide)
        exact mulOk_big (Nat.lt_of_lt_of_le hb hc) (Nat.lt_of_lt_of_le hb hc)
      simp [pfOf_ap, B_cell, hk, hp', m1, ev_pow40, atI_map, e, m4, m5]
theorem row_ev (c most : Int) (n : Nat) (hm : 0 < most) (hm2 : most < 2 ^ 64) (hn : n ≤ 1000) : ∃ l : List Int, pfOf 6 B_row [.int c, .int most, .int n] = .ok (.list (l.map .int)) ∧ l.length = n ∧ ∀ x ∈ l, 0 ≤ x ∧ x < most := by
  have hr : rngOk (n : Int) = true := rng_of (by omega) (by omega)
  have hd : divOk most = true := divOk_s hm (by omega)
  obtain ⟨env', h', e, l, rest, k5, e1, e2, e3, e4⟩ := forGo_inv (t := gN 5) (b := sSeq (sExpr (eMl fApp (eV 3) (aCons (eBin opMod (eV 4) (eV 1)) aNil))) (sSet 4 (eBin opFdiv (eV 4) (eV 1)))) (us := iRange n 0)
    (fun i env h => ∃ (l : List Int) (rest : Int) (k5 : Option U), env = [some (.d (.int c)), some (.d (.int most)), some (.d (.int n)), some (.ref 0), some (.d (.int rest)), k5] ∧ h = [.lst (l.map .int)] ∧ l.length = i ∧ ∀ x ∈ l, 0 ≤ x ∧ x < most) 0
    (env := [some (.d (.int c)), some (.d (.int most)), some (.d (.int n)), some (.ref 0), some (.d (.int c)), none]) (h := [.lst []]) ⟨[], c, none, rfl, rfl, rfl, by simp⟩ (fun i u env h eu hI => by
      obtain ⟨l, rest, k5, rfl, rfl, e3, e4⟩ := hI
      obtain ⟨hi, rfl⟩ := iRange_get eu
      refine ⟨_, [some (.d (.int c)), some (.d (.int most)), some (.d (.int n)), some (.ref 0), some (.d (.int (rest / most))), some (.d (.int (0 + i)))], [.lst ((l ++ [rest % most]).map .int)], rfl, ?_, l ++ [rest % most], rest / most, _, rfl, rfl, by simp [e3], fun x hx => ?_⟩
      · simp [hm, hd, fits_of (show l.length + 1 ≤ 16777216 by omega)]
      · rcases List.mem_append.mp hx with z | z
        · exact e4 x z
        · rw [List.mem_singleton.mp z]
          exact ⟨Int.emod_nonneg _ (by omega), Int.emod_lt_of_pos _ hm⟩)
  subst e1 e2
  rw [iRange_len] at e3
  by_cases hrest : 0 < rest
  · refine ⟨l, ?_, by omega, e4⟩
    simp [pfOf_ap, B_row, hr, e, hrest]
  · have hmix : ∀ k : Nat, ∃ r, k < 1000000 → pfOf 3 B_mixed [.int c, .int k] = .ok (.int r) := fun k => by
      by_cases hk : k < 1000000
      · obtain ⟨r, h1, _⟩ := mixed_ev c k (by omega) (by omega)
        exact ⟨r, fun _ => h1⟩
      · exact ⟨0, fun z => absurd z hk⟩
    obtain ⟨mx, hmx⟩ := Classical.axiomOfChoice hmix
    refine ⟨(List.range n).map fun k => mx k % most, ?_, by simp, fun x hx => ?_⟩
    · have lc := lcGo_map (t := gN 5) (e := eBin opMod (eCall (pfOf 3 B_mixed) (aCons (eV 0) (aCons (eV 5) aNil))) (eV 1)) (env := [some (.d (.int c)), some (.d (.int most)), some (.d (.int n)), some (.ref 0), some (.d (.int rest)), none]) (h := [.lst (l.map .int)])
        (us := iRange n 0) (fun u => .int (mx ((intOf u).getD 0).toNat % most)) [] (fun u hu => by
          obtain ⟨i, hi⟩ := List.mem_iff_getElem?.mp hu
          obtain ⟨hi, rfl⟩ := iRange_get hi
          have hq : pfOf 3 B_mixed [.int c, .int (i : Int)] = .ok (.int (mx i)) := hmx i (by omega)
          refine ⟨_, rfl, ?_⟩
          simp [hq, hm]) (by rw [iRange_len]; simp; omega)
      have em : (iRange n 0).map (fun u => PyData.int (mx ((intOf u).getD 0).toNat % most)) = ((List.range n).map fun k => mx k % most).map .int := by
        unfold iRange
        rw [List.map_map, List.map_map]
        refine List.map_congr_left fun k _ => ?_
        simp
      rw [List.nil_append, em] at lc
      simp only [List.map_map] at lc
      simp [pfOf_ap, B_row, hr, e, hrest, wipeE, lc]
    · obtain ⟨k, _, rfl⟩ := List.mem_map.mp hx
      exact ⟨Int.emod_nonneg _ (by omega), Int.emod_lt_of_pos _ hm⟩
@[simp] theorem ev_Sl (b : Bool) (f : Ev) (lo hi : Eo) (env : Env') (h : Sto) : eSl b f lo hi env h = (f env h).bind fun u h1 => (lo env h1).bind fun l h2 => (hi env h2).bind fun r h3 => opSl b u l r h3 := (rfl)
@[simp] theorem ev_oNo (env : Env') (h : Sto) : oNo env h = .ok none h := (rfl)
@[simp] theorem ev_oSo (f : Ev) (env : Env') (h : Sto) : oSo f env h = (f env h).bind fun u h1 => match intOf u with | some i => .ok (some i) h1 | none => .stuck := (rfl)
@[simp] theorem ev_slL (b : Bool) (xs : List D) (lo hi : Option Int) (h : Sto) : opSl b (.d (.list xs)) lo hi h = mkL b (cutD xs lo hi) h := (rfl)
@[simp] theorem ev_slT (b : Bool) (xs : List D) (lo hi : Option Int) (h : Sto) : opSl b (.d (.tuple xs)) lo hi h = .ok (.d (.tuple (cutD xs lo hi))) h := (rfl)
end Wk

/-! T8: zip, reversed, in. -/
namespace RT
open PySem PySem.Spec PyProof.Rows
section
variable {prog : Program} {w : World} {A : Around} {E : Value → Shared → Prop} {s : Shared}
theorem call_list_rev {it l : Addr} {items : Array Value} {Q : Value → Shared → Prop} (hh : A.handled = none) (hit : s.heap.IsRevIter it l ((items.size : Int) - 1)) (hl : s.heap.IsList l items) (hne : l ≠ it) (hn : items.size ≤ sizeLine)
    (hQ : ∀ (h' : Heap) (tk : Nat) (acc : Array Value) (c' : Nat), (∀ b o, b ≠ it → s.heap.get? b = some o → h'.get? b = some o) → h'.get? s.heap.objs.size = some { cls := .type "list", dict := none, data := .seq acc c', slots := #[] } →
      ItemsOf (fun i v => items[items.size - 1 - i]? = some v) acc items.size → Q (.ref s.heap.objs.size) { s with heap := h', toks := tk }) :
    wpAny (model prog w) A (call (.type "list") [.ref it]) Q E s := by
  have W := (Walks.listRev (prog := prog) (w := w) (A := A.in1.in1) hh it l hne items).toS
  obtain ⟨oi, hoi, _⟩ := id hit
  obtain ⟨ol, hol, _⟩ := id hl
  have hSi : s.heap.objs.size ≠ it := Nat.ne_of_gt (Heap.lt_size hoi)
  have hSl : s.heap.objs.size ≠ l := Nat.ne_of_gt (Heap.lt_size hol)
  have hSf : s.heap.objs.size ∉ [it, l] := by simp only [List.mem_cons, List.not_mem_nil, or_false, not_or]; exact ⟨hSi, hSl⟩
  refine callType_codes (Q₁ := fun obj s₁ => obj = .ref s.heap.objs.size ∧ s₁ = { s with heap := s.heap.push { cls := .type "list", data := .seq #[] } }) F.called_list (F.typeCall_list_1 _) F.entry_list_init
    (code_list_new _ ⟨rfl, rfl⟩) fun obj s₁ h₁ => ?_
  obtain ⟨rfl, rfl⟩ := h₁
  have hS : (s.heap.push { cls := .type "list", data := .seq #[] }).get? s.heap.objs.size = some { cls := .type "list", data := .seq #[] } := Heap.get?_push_size _ rfl
  refine ⟨⟨_, hS, rfl⟩, F.args_list_init_2 _ _, ?_⟩
  show wpAny _ A.in1.in1 (do let old ← Builtin.List.listItems (.ref s.heap.objs.size); Builtin.List.listUpdate (.ref s.heap.objs.size) (fun _ => #[]); letGo old.toList.reverse; Builtin.List.listExtendWith (.ref s.heap.objs.size) (.ref it) .none) _ _ _
  refine wpAny_bind ?_
  unfold Builtin.List.listItems
  refine wpAny_bind (wpAny_seqItems hS rfl (wpAny_pure ?_))
  show wpAny _ A.in1.in1 (updateSeq s.heap.objs.size (fun _ => #[]) >>= fun _ => letGo (#[] : Array Value).toList.reverse >>= fun _ => Builtin.List.listExtendWith (.ref s.heap.objs.size) (.ref it) .none) _ _ _
  refine wpAny_bind (wpAny_updateSeq hS rfl ?_)
  have hS₂ := Heap.get?_update_self (Obj.mapSeq (fun _ => (#[] : Array Value))) hS rfl
  have oth : ∀ b o, s.heap.get? b = some o → ((s.heap.push { cls := .type "list", data := .seq #[] }).update s.heap.objs.size (Obj.mapSeq (fun _ => (#[] : Array Value)))).get? b = some o :=
    fun b o e => (Heap.get?_update_other _ _ (Nat.ne_of_gt (Heap.lt_size e))).trans (Heap.get?_push_of_some _ e)
  refine wpAny_bind (wpAny_letGo ?_)
  generalize ((s.heap.push { cls := .type "list", data := .seq #[] }).update s.heap.objs.size (Obj.mapSeq (fun _ => (#[] : Array Value)))) = h2 at hS₂ oth
  have hit1 : h2.IsRevIter it l ((items.size : Int) - 1) := hit.at fun o e => oth _ _ e
  have hl1 : h2.IsList l items := hl.at fun o e => oth _ _ e
  have hT : ({ s with heap := h2 } : Shared).TypeIs (.ref it) "list_reverseiterator" := Heap.IsRevIter.typeIs (s := { s with heap := h2 }) hit1
  have h1 : Builtin.List.listSameRef (.ref s.heap.objs.size) (.ref it) = false := by simp [Builtin.List.listSameRef, hSi]
  unfold Builtin.List.listExtendWith
  refine wpAny_bind (wpAny_typeOf hT ?_)
  rw [if_neg (by rw [h1]; decide)]
  refine wpAny_bind (wpAny_pyIter_revIter (s := { s with heap := h2 }) hit1 ?_)
  refine wpAny_bind (wpAny_holding ?_)
  unfold Builtin.List.listLengthHint
  refine wpAny_bind (wpAny_specialOf hT nolen_lri ?_)
  show wpAny _ A.in1.in1 (specialOf (Value.ref it) (Str.ofString "__length_hint__") >>= _) _ _ _
  refine wpAny_bind (wpAny_specialOf hT hint_lri ?_)
  generalize hid : ("list_reverseiterator.__length_hint__" : String) = id0
  wp_delta
  rw [show splitId id0 = some ("list_reverseiterator", "__length_hint__") from by subst hid; decide +kernel]
  subst hid
  refine wpAny_bind (wpAny_isInstance (b := true) hT (by rw [isSubtype_type]; kernel_rfl) ?_)
  refine wpAny_pure ?_
  rw [if_neg (by decide)]
  have e0 : ((items.size : Nat) : Int) - 1 - ((0 : Nat) : Int) = (items.size : Int) - 1 := by omega
  refine wpAny_pure ⟨plainId_quiet F.plain_extend_loop _, codeAny_extend_loopS W hn _ hSf _ items.size 0 _ _ _ rfl (Nat.zero_le _) ⟨Nat.zero_le _, by rw [e0]; exact hit1, hl1⟩ hS₂ (ItemsOf.nil _) fun s' acc' c' hm hS' hacc => ?_⟩
  refine ⟨rfl, ?_⟩
  rw [Moved.eq_with hm]
  refine hQ s'.heap s'.toks acc' c' (fun b o hb e => hm.heap b o (fun hmem => ?_) (oth b o e)) hS' hacc
  rcases List.mem_cons.mp hmem with e' | hmem
  · exact absurd (Heap.lt_size e) (by rw [e']; exact Nat.lt_irrefl _)
  · exact hb (List.mem_singleton.mp hmem)
end
end RT
namespace L2
open PySem PySem.Spec PyProof.Rows
section
variable {X : Cx}
/-- list(reversed(x)), x a list -/
def tListRev (K : PySem.W.Frag) (te : TE) : TE := fun σ H Q => te σ H fun v H1 => ∃ (a : Addr) (xs : List V), v = .ref a ∧ SqL K H1 a xs ∧ ∀ q, H1 q = none → Q (.ref q) (upd H1 q (.lst xs.reverse))
theorem pe_listRev {e : Expr} {te : TE} {p p2 pos pos2 : Pos} (hc : X.calm = true) (hg : Gl X "list") (hm : X.mg "list" = none) (hg2 : Gl X "reversed") (hm2 : X.mg "reversed" = none) (he : PE X e te)
    (hs : starEach [e] X.env = (false, eval e X.env) :: starEach [] X.env := by rfl)
    (hs2 : starEach [.Call (.Name "reversed" p2) [e] [] pos2] X.env = (false, eval (.Call (.Name "reversed" p2) [e] [] pos2) X.env) :: starEach [] X.env := by rfl) :
    PE X (.Call (.Name "list" p) [.Call (.Name "reversed" p2) [e] [] pos2] [] pos) (tListRev X.K te) := by
  refine ⟨fun pins s σ H Q I h => ?_⟩
  refine Call_ (ld_blt I hg hm boot_list (PyProof.Rows.callWith_type1 (args_cons (Call_ (ld_blt I hg2 hm2 PyProof.Rows.boot_reversed (PyProof.Rows.callWith_type1 (args_cons (thn (he.run pins s σ H _ I h) fun u s1 ⟨v, H1, I1, r1, q1⟩ => args_nil ?_) hs) hs rfl))) hs2) hs2 rfl))
  obtain ⟨a, xs, ev, hq, q⟩ := q1
  subst ev
  obtain rfl : u = Value.ref a := r1
  obtain ⟨its, rv, p', hz⟩ := I1.list hq
  refine call_reversed_list p'.isList (args_nil ?_)
  have k0 : ∀ b o, s1.heap.get? b = some o → (s1.heap.push (revObj a ((its.toArray.size : Int) - 1))).get? b = some o := fun b o e => Heap.get?_push_of_some _ e
  have I2 : Inv X pins σ H1 { s1 with heap := s1.heap.push (revObj a ((its.toArray.size : Int) - 1)) } := I1.kept (t' := s1.toks) k0
  obtain ⟨f0, f1, f2, f3, f4, f5⟩ := I1.fpOk (H' := H1) (b := s1.heap.objs.size) (Nat.le_refl _) (I1.hok.fresh (Nat.le_refl _))
  have hl := p'.isList
  obtain ⟨ol, hol, _⟩ := id hl
  have hne : a ≠ s1.heap.objs.size := Nat.ne_of_lt (Heap.lt_size hol)
  have hn : its.toArray.size ≤ sizeLine := by rw [List.size_toArray, ← rv.length]; exact hz
  refine RT.call_list_rev (s := { s1 with heap := s1.heap.push (revObj a ((its.toArray.size : Int) - 1)) }) (I1.ok.hd hc) ⟨_, Heap.get?_push_size _ rfl, rfl, rfl⟩ (hl.push _) hne hn fun h' tk acc c' hk hS hi => ?_
  have hL : s1.heap.objs.size ≠ (s1.heap.push (revObj a ((its.toArray.size : Int) - 1))).objs.size := by simp [Heap.push]
  have nL := I2.hok.fresh (Nat.le_refl (s1.heap.push (revObj a ((its.toArray.size : Int) - 1))).objs.size)
  have I3 := I2.laid (t' := tk) (o := .lst xs.reverse) (h' := (s1.heap.push (revObj a ((its.toArray.size : Int) - 1))).push { cls := .type "list", data := .seq acc c' }) (fun c o e => Heap.get?_push_of_some _ e) (Nat.le_refl _) (show ObjOk X.prog X.w _ _ _ (.lst xs.reverse) from ⟨by rw [List.length_reverse]; exact hz, acc.toList, c', RT.vals_rev rv hi, by rw [Array.toArray_toList]; exact Heap.get?_push_size _ rfl⟩)
  have I4 := I3.turned (t' := tk) (h' := h') (it := s1.heap.objs.size) (fun b o hb e => ?_) (by rw [upd_ne hL]; exact f0) f1 f3 f4 f5
  · exact ⟨.ref _, _, I4, rfl, q _ nL⟩
  · rcases Heap.get?_push_cases e with ⟨rfl, rfl⟩ | e
    · exact hS
    · exact hk b o hb e
end
end L2
namespace Wk
open PySem PySem.Spec PyProof.Rows L2
/-! ### list(reversed(x)), tuple(reversed(x)) -/
def opRevL (b : Bool) (u : U) (h : Sto) : Res U := match listOf h u with
  | some xs => mkL b xs.reverse h
  | none => .stuck
def opRevT (u : U) (h : Sto) : Res U := match listOf h u with
  | some xs => .ok (.d (.tuple xs.reverse)) h
  | none => .stuck
section
variable {X : Cx} {W : WX} {a : Expr} {f : Ev} {p p2 pos pos2 : Pos}
theorem se_revL (b : Bool) (hc : X.calm = true) (hg : Gl X "list") (hm : X.mg "list" = none) (hg2 : Gl X "reversed") (hm2 : X.mg "reversed" = none) (he : SE X W a f)
    (hs : starEach [a] X.env = (false, eval a X.env) :: starEach [] X.env := by rfl)
    (hs2 : starEach [.Call (.Name "reversed" p2) [a] [] pos2] X.env = (false, eval (.Call (.Name "reversed" p2) [a] [] pos2) X.env) :: starEach [] X.env := by rfl) :
    SE X W (.Call (.Name "list" p) [.Call (.Name "reversed" p2) [a] [] pos2] [] pos) (eUn (opRevL b) f) :=
  ⟨pe_imp (pe_gh (pe_listRev hc hg hm hg2 hm2 he.pe hs hs2)) fun σ H Q ⟨env, m, h, sta, sl, out⟩ => rd_of sta sl out fun u h1 x H1 m1 g1 s1 r1 out1 => by
    unfold opRevL at out1
    split at out1
    · rename_i ys e
      obtain ⟨q, vs, rfl, t1, d1⟩ := listOf_v s1 e r1
      exact ⟨q, vs, rfl, t1, fun l nl => mkL_ok s1 nl d1.rev out1⟩
    · exact out1.elim⟩
theorem se_revT (hc : X.calm = true) (hg : Gl X "tuple") (hm : X.mg "tuple" = none) (hg2 : Gl X "reversed") (hm2 : X.mg "reversed" = none) (he : SE X W a f)
    (hs : starEach [a] X.env = (false, eval a X.env) :: starEach [] X.env := by rfl)
    (hs2 : starEach [.Call (.Name "reversed" p2) [a] [] pos2] X.env = (false, eval (.Call (.Name "reversed" p2) [a] [] pos2) X.env) :: starEach [] X.env := by rfl) :
    SE X W (.Call (.Name "tuple" p) [.Call (.Name "reversed" p2) [a] [] pos2] [] pos) (eUn opRevT f) :=
  ⟨pe_imp (RT.pe_tupRev hc hg hm hg2 hm2 he.pe hs hs2) fun σ H Q ⟨env, m, h, sta, sl, out⟩ => rd_of sta sl out fun u h1 x H1 m1 g1 s1 r1 out1 => by
    unfold opRevT at out1
    split at out1
    · rename_i ys e
      obtain ⟨q, vs, rfl, t1, d1⟩ := listOf_v s1 e r1
      refine ⟨q, vs, rfl, t1, fun l nl => ?_⟩
      have sm : Same H1 (upd H1 l (.tup vs.reverse)) := Same.lay nl
      exact Out.ok (b := V.ref l) out1 (Gr.of_same sm m1) (s1.same sm) (.d (.tup (.inl (.inl upd_same)) (RDs.kp (Kp.same sm) _ _ d1.rev)))
    · exact out1.elim⟩
end
/-! ### zip -/
def zipD (xs ys : List D) : List U := List.zipWith (fun x y => U.d (.tuple [x, y])) xs ys
def iZip (fa : Ea) : Ea := fun env h => (fa env h).bind fun us h1 => match us with
  | [.d (.list xs), .d (.list ys)] => .ok (zipD xs ys) h1
  | [.d (.tuple xs), .d (.tuple ys)] => .ok (zipD xs ys) h1
  | _ => .stuck
section
variable {X : Cx} {W : WX} {a b : Expr} {fa : Ea} {p pos tpos : Pos} {elts : List Expr} {kk : Nat}
theorem zipD_get {xs ys : List D} {i : Nat} {u : U} (e : (zipD xs ys)[i]? = some u) : ∃ x y, xs[i]? = some x ∧ ys[i]? = some y ∧ u = .d (.tuple [x, y]) := by
  unfold zipD at e
  rw [List.getElem?_zipWith] at e
  split at e
  · rename_i x y h1 h2
    cases e
    exact ⟨x, y, h1, h2, rfl⟩
  · cases e
theorem si_zip (hg : Gl X "zip") (hm : X.mg "zip" = none) (ha : SA X W [a, b] fa)
    (hs : starEach [a, b] X.env = (false, eval a X.env) :: starEach [b] X.env := by rfl) (hpl : (backTo pos (starEach [b] X.env)).any (·.1) = false := by rfl) :
    SI X W (.Tuple elts kk tpos) (.Call (.Name "zip" p) [a, b] [] pos) (iZip fa) :=
  ⟨pi_imp (RZ.pi_zipA hg hm ha.pa hs hpl) fun σ H R ⟨env, m, h, sta, sl, out⟩ => rd_of sta sl out fun us h1 vs H1 m1 g1 s1 r1 out1 => by
    split at out1
    · cases r1 with
      | cons ra rb =>
        cases rb with
        | cons rb rc =>
          cases rc
          cases ra.rd with
          | lst t d =>
            cases rb.rd with
            | lst t' d' =>
              refine ⟨_, _, _, _, rfl, .inl ⟨t.sq, t'.sq, Out.here (b := Itz X.K _ _) out1 s1 fun H' m' k pre => ?_⟩⟩
              have q1 := (k.fzL t).sq
              have q2 := (k.fzL t').sq
              refine ⟨fun i hi => ⟨_, _, q1, q2, ?_⟩, fun i u e => ?_⟩
              · unfold zipD at hi
                rw [List.length_zipWith] at hi
                have := d.len
                have := d'.len
                omega
              · obtain ⟨x, y, e1, e2, rfl⟩ := zipD_get e
                obtain ⟨v, f1, w1⟩ := d.get e1
                obtain ⟨v', f2, w2⟩ := d'.get e2
                refine ⟨⟨_, _, _, _, q1, q2, f1, f2⟩, fun z H'' yy => ?_⟩
                obtain ⟨T, x', y', rfl, hT, rfl, g1, g2⟩ := yy
                have g1 := g1 _ q1
                have g2 := g2 _ q2
                rw [f1] at g1
                rw [f2] at g2
                cases g1
                cases g2
                have sm : Same H' (upd H' T (.tup [v, v'])) := Same.lay hT
                have kk := k.trans (Kp.same sm)
                exact ⟨sm, .d (.tup (.inl (.inl upd_same)) (.cons (RD.kp kk _ _ w1) (.cons (RD.kp kk _ _ w2) .nil)))⟩
    · cases r1 with
      | cons ra rb =>
        cases rb with
        | cons rb rc =>
          cases rc
          cases ra.rd with
          | tup t d =>
            cases rb.rd with
            | tup t' d' =>
              refine ⟨_, _, _, _, rfl, .inr ⟨t, t', Out.here (b := RZ.ItzT X.K _ _) out1 s1 fun H' m' k pre => ?_⟩⟩
              have q1 := k.sqT t
              have q2 := k.sqT t'
              refine ⟨fun i hi => ⟨_, _, q1, q2, ?_⟩, fun i u e => ?_⟩
              · unfold zipD at hi
                rw [List.length_zipWith] at hi
                have := d.len
                have := d'.len
                omega
              · obtain ⟨x, y, e1, e2, rfl⟩ := zipD_get e
                obtain ⟨v, f1, w1⟩ := d.get e1
                obtain ⟨v', f2, w2⟩ := d'.get e2
                refine ⟨⟨_, _, _, _, q1, q2, f1, f2⟩, fun z H'' yy => ?_⟩
                obtain ⟨T, x', y', rfl, hT, rfl, g1, g2⟩ := yy
                have g1 := g1 _ q1
                have g2 := g2 _ q2
                rw [f1] at g1
                rw [f2] at g2
                cases g1
                cases g2
                have sm : Same H' (upd H' T (.tup [v, v'])) := Same.lay hT
                have kk := k.trans (Kp.same sm)
                exact ⟨sm, .d (.tup (.inl (.inl upd_same)) (.cons (RD.kp kk _ _ w1) (.cons (RD.kp kk _ _ w2) .nil)))⟩
    · exact out1.elim⟩
end
end Wk
/-! ### in, not in -/
namespace Wk
open PySem PySem.Spec PyProof.Rows L2
def keyOf : U → Option Key
  | .d (.int i) => some (.inl i)
  | .d (.str x) => some (.inr x)
  | _ => none
def dictOf (h : Sto) : U → Option (List (Key × U))
  | .ref n => match h[n]? with
    | some (.dct kvs) => some kvs
    | _ => none
  | _ => none
def valU (kvs : List (Key × U)) (k : Key) : Option U := (kvs.find? fun kv => decide (kv.1 = k)).map (·.2)
def putU (kvs : List (Key × U)) (k : Key) (v : U) : List (Key × U) := if kvs.any fun kv => decide (kv.1 = k) then kvs.map fun kv => if kv.1 = k then (kv.1, v) else kv else kvs ++ [(k, v)]
theorem RK.val {K : PySem.W.Frag} {H : Hp} {m : List Addr} {gs : List (Key × V)} {kvs : List (Key × U)} (r : RK K H m gs kvs) (k : Key) : (valV gs k = none ∧ valU kvs k = none) ∨ ∃ v u, valV gs k = some v ∧ valU kvs k = some u ∧ RU K H m v u := by
  unfold RK at r
  induction r with
  | nil => exact .inl ⟨rfl, rfl⟩
  | @cons p q l l' h _ ih =>
    by_cases e : p.1 = k
    · exact .inr ⟨p.2, q.2, valV_pos e, by simp [valU, List.find?_cons, ← h.1, e], h.2⟩
    · have e' : ¬ q.1 = k := fun z => e (h.1.trans z)
      rw [valV_neg e]
      have : valU (q :: l') k = valU l' k := by simp [valU, List.find?_cons, e']
      rw [this]
      exact ih
theorem RK.any {K : PySem.W.Frag} {H : Hp} {m : List Addr} {gs : List (Key × V)} {kvs : List (Key × U)} (r : RK K H m gs kvs) (k : Key) : (gs.any fun kv => decide (kv.1 = k)) = kvs.any fun kv => decide (kv.1 = k) := by
  unfold RK at r
  induction r with
  | nil => rfl
  | cons h _ ih => rw [List.any_cons, List.any_cons, ih, h.1]
theorem RK.put {K : PySem.W.Frag} {H : Hp} {m : List Addr} {gs : List (Key × V)} {kvs : List (Key × U)} (r : RK K H m gs kvs) (k : Key) {v : V} {u : U} (ru : RU K H m v u) : RK K H m (putK gs k v) (putU kvs k u) := by
  unfold putK putU
  rw [← r.any k]
  split
  · unfold RK at r ⊢
    rename_i hh; clear hh
    induction r with
    | nil => exact .nil
    | @cons p q l l' h _ ih =>
      rw [List.map_cons, List.map_cons]
      refine .cons ?_ ih
      by_cases e : p.1 = k
      · rw [if_pos e, if_pos (h.1 ▸ e)]
        exact ⟨h.1, ru⟩
      · rw [if_neg e, if_neg (h.1 ▸ e)]
        exact h
  · unfold RK at r ⊢
    rename_i hh; clear hh
    induction r with
    | nil => exact .cons ⟨rfl, ru⟩ .nil
    | cons h _ ih => exact .cons h ih
theorem RK.len {K : PySem.W.Frag} {H : Hp} {m : List Addr} {gs : List (Key × V)} {kvs : List (Key × U)} (r : RK K H m gs kvs) : gs.length = kvs.length := Paired.length r
theorem keyOf_v {K : PySem.W.Frag} {H : Hp} {m : List Addr} {v : V} {u : U} {k : Key} (e : keyOf u = some k) (r : RU K H m v u) : v = kV k := by
  unfold keyOf at e
  split at e
  · cases e; cases r.rd; rfl
  · cases e; cases r.rd; rfl
  · cases e
theorem dictOf_v {K : PySem.W.Frag} {mg : Str → Option Value} {H : Hp} {m : List Addr} {h : Sto} {v : V} {u : U} {kvs : List (Key × U)} (s : Sta K mg H m h) (e : dictOf h u = some kvs) (r : RU K H m v u) : ∃ a n gs, u = .ref n ∧ m[n]? = some a ∧ h[n]? = some (.dct kvs) ∧ v = .ref a ∧ H a = some (.dK gs) ∧ RK K H m gs kvs := by
  unfold dictOf at e
  split at e
  · split at e
    · rename_i n ob ho
      cases e
      cases r with
      | ref hm =>
        obtain ⟨gs, h1, h2⟩ := s.obj _ _ _ hm ho
        exact ⟨_, _, gs, rfl, hm, ho, rfl, h1, h2⟩
    · cases e
  · cases e
def signIn (x z : Str) : Option Bool := match x.cps.toList with
  | [c] => some (decide (c ∈ z.cps.toList))
  | _ => none
def inOf (u w : U) (h : Sto) : Option Bool := match strOf u, strOf w with
  | some x, some z => signIn x z
  | _, _ => match dictOf h w, keyOf u with
    | some kvs, some k => some (valU kvs k).isSome
    | _, _ => match dataOf h u, dataOf h w with
      | some d, some (.list ds) => if SeqAt.shaped d && SeqAt.shaped (.list ds) then some (ds.any fun z => PyData.eqv z d) else none
      | some d, some (.tuple ds) => if SeqAt.shaped d && SeqAt.shaped (.tuple ds) then some (ds.any fun z => PyData.eqv z d) else none
      | _, _ => none
def opIn (n : Bool) (u w : U) (h : Sto) : Res U := match inOf u w h with
  | some b => .ok (.d (.bool (xor n b))) h
  | none => .stuck
section
variable {X : Cx} {W : WX}
def rInX (K : PySem.W.Frag) (n : Bool) : R2 := fun x y H Q =>
  (∃ (c : Nat) (z : Str), x = .str ⟨#[c]⟩ ∧ y = .str z ∧ Q (.bl (xor n (decide (c ∈ z.cps.toList)))) H) ∨
  (∃ a o, y = .ref a ∧ DGet H a x o ∧ Q (.bl (xor n o.isSome)) H) ∨
  (∃ d ds, Dp K H x d ∧ (Dp K H y (.list ds) ∧ SeqAt.shaped (.list ds) = true ∨ Dp K H y (.tuple ds) ∧ SeqAt.shaped (.tuple ds) = true) ∧ SeqAt.shaped d = true ∧ Q (.bl (xor n (ds.any fun z => PyData.eqv z d))) H)
theorem shaped_tup {ds : List PyData} (h : SeqAt.shaped (.tuple ds) = true) : PyData.canLayAll0 ds = true := SeqAt.canLay_of_shaped h
theorem op_inX (hu : X.A.units + 65 < cLine) : OpR X (compareOp .In) (rInX X.K false) := by
  intro pins s σ H x y v u Q I rx ry h
  rcases h with ⟨c, z, rfl, rfl, q⟩ | ⟨a, o, rfl, g, q⟩ | ⟨d, ds, hd, he | he, sd, q⟩
  · rw [Bool.false_xor] at q
    exact op_in_sign pins s σ H _ _ v u Q I rx ry ⟨c, z, rfl, rfl, q⟩
  · cases ry
    rw [Bool.false_xor] at q
    exact d_in (by omega) I g rx fun s' I' => ⟨.bl _, H, I', rfl, q⟩
  · rw [Bool.false_xor] at q
    exact op_inD hu pins s σ H x y v u Q I rx ry ⟨d, ds, hd, he.1, sd, he.2, q⟩
  · rw [Bool.false_xor] at q
    obtain ⟨as, r1⟩ := Dp.reads I d x v hd rx
    obtain ⟨bs, r2⟩ := Dp.reads I (.tuple ds) y u he.1 ry
    exact SeqAt.in_tuple_reads r2 r1 (shaped_tup he.2) (SeqAt.canLay_of_shaped sd) (room_in_shaped sd hu) ⟨.bl _, H, I, rfl, q⟩
theorem op_notInX (hu : X.A.units + 65 < cLine) : OpR X (compareOp .NotIn) (rInX X.K true) := by
  intro pins s σ H x y v u Q I rx ry h
  rcases h with ⟨c, z, rfl, rfl, q⟩ | ⟨a, o, rfl, g, q⟩ | ⟨d, ds, hd, he | he, sd, q⟩
  · rw [Bool.true_xor] at q
    exact op_notIn_sign pins s σ H _ _ v u Q I rx ry ⟨c, z, rfl, rfl, q⟩
  · cases ry
    rw [Bool.true_xor] at q
    exact d_notIn (by omega) I g rx fun s' I' => ⟨.bl _, H, I', rfl, q⟩
  · rw [Bool.true_xor] at q
    exact op_notInD hu pins s σ H x y v u Q I rx ry ⟨d, ds, hd, he.1, sd, he.2, q⟩
  · rw [Bool.true_xor] at q
    obtain ⟨as, r1⟩ := Dp.reads I d x v hd rx
    obtain ⟨bs, r2⟩ := Dp.reads I (.tuple ds) y u he.1 ry
    exact SeqAt.notIn_tuple_reads r2 r1 (shaped_tup he.2) (SeqAt.canLay_of_shaped sd) (room_in_shaped sd hu) ⟨.bl _, H, I, rfl, q⟩
theorem ab_in (n : Bool) : Ab2 X W (opIn n) (rInX X.K n) := by
  intro σ H m h x y u w Q s ru rw out
  unfold opIn at out
  split at out
  · rename_i b e
    have fin : ∀ H' m', H' = H → m' = m → Q (.bl (xor n b)) H := fun _ _ _ _ => Out.here (b := V.bl _) out s (.d (.bl _))
    have q := fin H m rfl rfl
    unfold inOf at e
    split at e
    · rename_i x' z' e1 e2
      unfold signIn at e
      split at e
      · rename_i c ec
        cases e
        refine .inl ⟨c, z', ?_, strOf_v e2 rw, q⟩
        rw [strOf_v e1 ru]
        obtain ⟨cps⟩ := x'
        obtain ⟨l⟩ := cps
        simp at ec
        rw [ec]
      · cases e
    · split at e
      · rename_i kvs k e1 e2
        cases e
        obtain ⟨a, i, gs, rfl, hm, hi, rfl, hH, rk⟩ := dictOf_v s e1 rw
        refine .inr (.inl ⟨a, valV gs k, rfl, ?_, ?_⟩)
        · rw [keyOf_v e2 ru]
          exact .inl ⟨gs, k, .inl hH, rfl, rfl⟩
        · rcases rk.val k with ⟨h1, h2⟩ | ⟨v, u', h1, h2, _⟩
          · rw [h1]; rw [h2] at q; exact q
          · rw [h1]; rw [h2] at q; exact q
      · split at e
        · rename_i d ds e1 e2
          split at e
          · rename_i hs
            rw [Bool.and_eq_true] at hs
            cases e
            exact .inr (.inr ⟨d, ds, dataOf_v s _ _ _ e1 ru, .inl ⟨dataOf_v s _ _ _ e2 rw, hs.2⟩, hs.1, q⟩)
          · cases e
        · rename_i d ds e1 e2
          split at e
          · rename_i hs
            rw [Bool.and_eq_true] at hs
            cases e
            exact .inr (.inr ⟨d, ds, dataOf_v s _ _ _ e1 ru, .inr ⟨dataOf_v s _ _ _ e2 rw, hs.2⟩, hs.1, q⟩)
          · cases e
        · cases e
  · exact out.elim
end
end Wk
namespace Wk
open PySem L2
theorem units65 {k : Nat} {A : Around} (r : Room k A) : A.units + 65 < cLine := by have := r.un; omega
section
variable {fa : Ea} {env : Env'} {h : Sto} {u w : U}
@[simp] theorem ev_Zip : iZip fa env h = (fa env h).bind fun us h1 => match us with | [.d (.list xs), .d (.list ys)] => .ok (zipD xs ys) h1 | [.d (.tuple xs), .d (.tuple ys)] => .ok (zipD xs ys) h1 | _ => .stuck := (rfl)
@[simp] theorem ev_revL (b : Bool) (xs : List D) : opRevL b (.d (.list xs)) h = mkL b xs.reverse h := (rfl)
@[simp] theorem ev_revT (xs : List D) : opRevT (.d (.list xs)) h = .ok (.d (.tuple xs.reverse)) h := (rfl)
@[simp] theorem ev_in (n : Bool) : opIn n u w h = match inOf u w h with | some b => .ok (.d (.bool (xor n b))) h | none => .stuck := (rfl)
end
end Wk

/-! T9: functions over the caller's store, instances, methods, raise, try. -/
namespace Wk
open PySem PySem.Spec PyProof.Rows L2

/-! ### functions over the store -/
abbrev SF := List U → Sto → Res U
def OutF (K : PySem.W.Frag) (mg : Str → Option Value) (H : Hp) (m : List Addr) (Q : VK) (E : XK) : Res U → Prop
  | .ok u h' => ∀ v H' m', Gr H m H' m' → Sta K mg H' m' h' → RU K H' m' v u → Q v H'
  | .exc c h' => ∀ H' m', Gr H m H' m' → Sta K mg H' m' h' → ∀ C, mg c = some (.ref C) → E (.ref C) none H'
  | .stuck => False
def spS (K : PySem.W.Frag) (mg : Str → Option Value) (n : Nat) (F : SF) : Sp := fun vs H Q E => ∃ us m h, Sta K mg H m h ∧ RUs K H m vs us ∧ vs.length = n ∧ OutF K mg H m Q E (F us h)
def sfOf (n : Nat) (B : Es) : SF := fun us h => match B (us.map some ++ List.replicate (n - us.length) none) h with
  | .ret u h' => .ok u h'
  | .next _ h' => .ok (.d .none) h'
  | .exc c _ h' => .exc c h'
  | .stuck => .stuck
theorem sl_startU {K : PySem.W.Frag} {H : Hp} {m : List Addr} {N : List Str} {vs : List V} {us : List U} (r : RUs K H m vs us) : Sl K H m (L2.start N vs) (us.map some ++ List.replicate (N.length - us.length) none) := by
  unfold L2.start
  refine ⟨by simp [RUs.len r], fun i u e => ?_⟩
  by_cases hi : i < us.length
  · rw [List.getElem?_append_left (by simpa using hi), List.getElem?_map, List.getElem?_eq_getElem hi] at e
    cases e
    obtain ⟨v, h1, h2⟩ := RUs.get r (List.getElem?_eq_getElem hi)
    exact ⟨v, by rw [List.getElem?_append_left (by rw [List.length_map, RUs.len r]; exact hi), List.getElem?_map, h1]; rfl, h2⟩
  · rw [List.getElem?_append_right (by simpa using hi), List.getElem?_replicate] at e
    split at e <;> cases e
section
variable {P : Program} {w : World} {K : PySem.W.Frag} {mg : Str → Option Value} {base : Heap}
/-- the def keeps its function, wherever it stands -/
def FnB (P : Program) (w : World) (K : PySem.W.Frag) (mg : Str → Option Value) (base : Heap) (k : Nat) (x q : Str) (st : Stmt) (ps : List Str) (F : SF) : Prop :=
  ∀ f fd, Fun K x q st f fd → FnOk P w K mg base (L2.CX P w) k f fd ps (spS K mg ps.length F)
theorem FnB.mono {j k : Nat} {x q : Str} {st : Stmt} {ps : List Str} {F : SF} (h : FnB P w K mg base j x q st ps F) (l : j ≤ k) : FnB P w K mg base k x q st ps F := fun f fd z => (h f fd z).mono l
theorem FnB.stuck {k : Nat} {x q : Str} {st : Stmt} {ps : List Str} : FnB P w K mg base k x q st ps (fun _ _ => .stuck) := fun f fd _ =>
  ⟨fun vs H Q E ⟨_, _, _, _, _, _, z⟩ => z.elim, fun A outer s H args us vs Q E _ _ _ _ ⟨_, _, _, _, _, _, z⟩ => z.elim⟩
/-- THE RULE for a def over the caller's store -/
theorem fn_shared {x q : Str} {st : Stmt} {N ps : List Str} {k : Nat} {B : Es} (S : FnScope N ps (defScope st))
    (body : ∀ (f : Addr) (cdv : Value) (A : Around) (outer : List Env) (s : Shared) (H : Hp) (E : XK), Room k (A.deeper (envOfC q (defScope st) s.heap.objs.size f cdv)) →
      Takes (cxOf (L2.CX P w) P w K mg base N q (defScope st) f cdv A outer s H E) (WD E) →
      PassesOwn (model P w) (A.deeper (envOfC q (defScope st) s.heap.objs.size f cdv)) (envOfC q (defScope st) s.heap.objs.size f cdv) (cxOf (L2.CX P w) P w K mg base N q (defScope st) f cdv A outer s H E).xe →
      SSs (cxOf (L2.CX P w) P w K mg base N q (defScope st) f cdv A outer s H E) (WD E) (defBody st) B) :
    FnB P w K mg base (k + 1) x q st ps (sfOf N.length B) := by
  intro f fd h2
  refine h2.okX S (fun vs H Q E h => ?_) fun cdv A outer s H vs Q E hr h => ?_
  · obtain ⟨us, m, hh, _, _, e, _⟩ := h
    exact e
  · obtain ⟨us, m, hh, sta, r, e, q⟩ := h
    refine ⟨_, (body f cdv A outer s H E hr (takes_of rfl rfl rfl rfl) (passes_of rfl)).ps, _, m, hh, sta, sl_startU r, ?_⟩
    unfold sfOf at q
    generalize B (us.map some ++ List.replicate (N.length - us.length) none) hh = z at q
    cases z with
    | next env' h' => exact fun σ' H' m' g s' l => (show ∀ v H' m', Gr H m H' m' → Sta K mg H' m' h' → RU K H' m' v (.d .none) → Q v H' from q) .non H' m' g s' (.d .non)
    | ret u h' => exact q
    | exc c env' h' => exact fun σ' H' m' g s' l C hC => (show ∀ H' m', Gr H m H' m' → Sta K mg H' m' h' → ∀ C, mg c = some (.ref C) → E (.ref C) none H' from q) H' m' g s' C hC
    | stuck => exact q
/-- the data function of such a def -/
def pfS (F : SF) : PF := fun ds => match F (ds.map .d) [] with
  | .ok (.d d) _ => .ok d
  | .exc c _ => .exc c
  | _ => .stuck
theorem FnB.a {k : Nat} {x : Str} {st : Stmt} {ps : List Str} {F : SF} (h : FnB P w K mg base k x x st ps F) : FnA P w K mg base k x st ps (pfS F) := by
  intro f fd z
  refine (h f fd z).imp fun vs H Q E ⟨ds, r, e, q⟩ => ⟨ds.map .d, [], [], Sta.nil, r.rus, e, ?_⟩
  unfold pfS at q
  generalize F (ds.map .d) [] = y at q
  cases y with
  | ok u h' =>
    cases u with
    | d d => exact fun v H' m' g s' r' => (show ∀ v H', Same H H' → RD K H' v d → Q v H' from q) v H' g.same r'.rd
    | ref n => exact q.elim
    | tup us => exact q.elim
    | exn a => exact q.elim
  | exc c h' => exact fun H' m' g s' C hC => (show ∀ H', Same H H' → ∀ C, mg c = some (.ref C) → E (.ref C) none H' from q) H' g.same C hC
  | stuck => exact q
end
structure FnS (P : Program) (w : World) (K : PySem.W.Frag) (mg : Str → Option Value) (base : Heap) (k : Nat) (x : Str) (ps : List Str) (F : SF) : Prop where
  ex : ∃ f fd, mg x = some (.ref f) ∧ PySem.W.keepIn K (.ref f) = true ∧ Binds K fd ps [] ∧ FnOk P w K mg base (L2.CX P w) k f fd ps (spS K mg ps.length F)
theorem FnB.s {P : Program} {w : World} {K : PySem.W.Frag} {mg : Str → Option Value} {base : Heap} {k : Nat} {x : Str} {st : Stmt} {ps : List Str} {F : SF} (h : FnB P w K mg base k x x st ps F) (hs : Has K mg x st ps) : FnS P w K mg base k x ps F := by
  obtain ⟨f, fd, h1, h2, h3⟩ := hs.ex
  exact ⟨f, fd, h1, h2.kp, Binds.all h3, h f fd h2⟩
section
variable {X : Cx} {W : WX} {k : Nat} {x : Str} {p pos : Pos} {e : Expr} {es : List Expr} {ps : List Str} {F : SF} {fa : Ea}
theorem spS_of {σ : L2.St} {H : Hp} {m : List Addr} {h : Sto} {us : List U} {vs : List V} {Q : VK} {n : Nat} (s : Sta X.K X.mg H m h) (r : RUs X.K H m vs us) (hn : us.length = n) (out : Out X W (rlU X.K) σ H m (F us h) Q) :
    spS X.K X.mg n F vs H Q (WE W σ) := by
  refine ⟨us, m, h, s, r, (RUs.len r).trans hn, ?_⟩
  generalize F us h = q at out
  cases q with
  | ok d h' => exact out
  | exc c h' => exact out
  | stuck => exact out
theorem se_callS (tk : TakesC X W) (f : FnS X.prog X.w X.K X.mg X.base k x ps F) (hr : Room k X.A) (hg : Gl X x) (ha : SA X W (e :: es) fa) (hn : aLen fa ps.length)
    (hdb : (x == ("__debug__" : Str)) = false := by decide) (he : starEach (e :: es) X.env = (false, eval e X.env) :: starEach es X.env := by rfl) (hpl : (backTo pos (starEach es X.env)).any (·.1) = false := by rfl) :
    SE X W (.Call (.Name x p) (e :: es) [] pos) (eB F fa) := by
  obtain ⟨fa', fd, h1, h2, h3, h4⟩ := f.ex
  refine ⟨pe_imp (pe_callS h4 hr hg h1 h2 h3 tk ha.pa hdb he hpl) fun σ H Q ⟨env, m, h, sta, sl, out⟩ => ?_⟩
  have hl := fun us => hn us env h
  refine ⟨env, m, h, sta, sl, ?_⟩
  unfold eB at out
  generalize hq : fa env h = q at out
  cases q with
  | stuck => exact out
  | exc c h1 => exact out
  | ok us h1 => exact fun vs H1 m1 g1 s1 r1 => spS_of s1 r1 (hl us h1 hq) (Out.gr out g1)
end

/-! ### instances -/
def insOf (h : Sto) : U → Option (Str × List (Str × U))
  | .ref n => match h[n]? with
    | some (.ins c fs) => some (c, fs)
    | _ => none
  | _ => none
theorem insOf_v {K : PySem.W.Frag} {mg : Str → Option Value} {H : Hp} {m : List Addr} {h : Sto} {v : V} {u : U} {c : Str} {fs : List (Str × U)} (s : Sta K mg H m h) (e : insOf h u = some (c, fs)) (r : RU K H m v u) :
    ∃ n a C dx gs, u = .ref n ∧ m[n]? = some a ∧ h[n]? = some (.ins c fs) ∧ v = .ref a ∧ mg c = some (.ref C) ∧ H a = some (.ins C dx gs) ∧ RF K H m gs fs := by
  unfold insOf at e
  split at e
  · split at e
    · rename_i n c' fs' ho
      cases e
      cases r with
      | ref hm =>
        obtain ⟨C, dx, gs, h0, h1, h2⟩ := s.obj _ _ _ hm ho
        exact ⟨_, _, C, dx, gs, rfl, hm, ho, rfl, h0, h1, h2⟩
    · cases e
  · cases e
theorem RF.look {K : PySem.W.Frag} {H : Hp} {m : List Addr} {gs : List (Str × V)} {fs : List (Str × U)} (r : RF K H m gs fs) (f : Str) : (gs.lookup f = none ∧ fs.lookup f = none) ∨ ∃ v u, gs.lookup f = some v ∧ fs.lookup f = some u ∧ RU K H m v u := by
  unfold RF at r
  induction r with
  | nil => exact .inl ⟨rfl, rfl⟩
  | @cons p q l l' h _ ih =>
    obtain ⟨a, x⟩ := p
    obtain ⟨b, y⟩ := q
    obtain ⟨rfl, h2⟩ := h
    by_cases e : f = a
    · subst e
      exact .inr ⟨x, y, by simp [List.lookup], by simp [List.lookup], h2⟩
    · have e' : (f == a) = false := by simpa using e
      simp only [List.lookup, e']
      exact ih
def putG (f : Str) (v : U) : List (Str × U) → List (Str × U)
  | [] => [(f, v)]
  | (g, x) :: r => if g = f then (g, v) :: r else (g, x) :: putG f v r
theorem RF.put {K : PySem.W.Frag} {H : Hp} {m : List Addr} {gs : List (Str × V)} {fs : List (Str × U)} (r : RF K H m gs fs) (f : Str) {v : V} {u : U} (ru : RU K H m v u) : RF K H m (putF f v gs) (putG f u fs) := by
  unfold RF at r ⊢
  induction r with
  | nil => exact .cons ⟨rfl, ru⟩ .nil
  | @cons p q l l' h t ih =>
    obtain ⟨a, x⟩ := p
    obtain ⟨b, y⟩ := q
    obtain ⟨rfl, h2⟩ := h
    show Paired _ (if a = f then (a, v) :: l else (a, x) :: putF f v l) (if a = f then (a, u) :: l' else (a, y) :: putG f u l')
    by_cases e : a = f
    · rw [if_pos e, if_pos e]
      exact .cons ⟨rfl, ru⟩ t
    · rw [if_neg e, if_neg e]
      exact .cons ⟨rfl, h2⟩ ih
theorem RF.len {K : PySem.W.Frag} {H : Hp} {m : List Addr} {gs : List (Str × V)} {fs : List (Str × U)} (r : RF K H m gs fs) : gs.length = fs.length := Paired.length r
theorem RF.kp {K : PySem.W.Frag} {H H' : Hp} {m m' : List Addr} {gs : List (Str × V)} {fs : List (Str × U)} (r : RF K H m gs fs) (k : Kp H H') (pre : ∃ e, m' = m ++ e) : RF K H' m' gs fs := paired_imp (fun p q z => ⟨z.1, RU.kp k pre _ _ z.2⟩) r
/-- what a class must be for its fields -/
structure ClsF (K : PySem.W.Frag) (mg : Str → Option Value) (c : Str) : Prop where
  cls : ∀ C, mg c = some (.ref C) → Cls K C
def FldF (K : PySem.W.Frag) (mg : Str → Option Value) (c f : Str) : Prop := ∀ C, mg c = some (.ref C) → NoAttr K C f
/-- e.f -/
def eFld (c f : Str) (fo : Ev) : Ev := fun env h => (fo env h).bind fun u h1 => match insOf h1 u with
  | some (c', fs) => if c' = c then (match fs.lookup f with
    | some w => .ok w h1
    | none => .stuck) else .stuck
  | none => .stuck
/-- e.f = value -/
def sFldS (c f : Str) (fv fo : Ev) : Es := fun env h => (fv env h).then_ env fun w h1 => (fo env h1).then_ env fun u h2 => match u with
  | .ref n => (match h2[n]? with
    | some (.ins c' fs) => if c' = c ∧ fs.length < 1000 then .next env (h2.set n (.ins c' (putG f w fs))) else .stuck
    | _ => .stuck)
  | _ => .stuck
section
variable {X : Cx} {W : WX} {o e value : Expr} {f c : Str} {pos pos' : Pos} {fo fv : Ev}
theorem se_fld (kc : ClsF X.K X.mg c) (kf : FldF X.K X.mg c f) (he : SE X W e fo) (hb : attributeBase e f X.env (eval e X.env) = eval e X.env := by rfl) : SE X W (.Attribute e f pos) (eFld c f fo) :=
  ⟨pe_imp (pe_fld he.pe hb) fun σ H Q ⟨env, m, h, sta, sl, out⟩ => rd_of sta sl out fun u h1 x H1 m1 g1 s1 r1 out1 => by
    split at out1
    · rename_i c' fs ei
      obtain ⟨n, a, C, dx, gs, rfl, hm, hn, rfl, hC, hH, rf⟩ := insOf_v s1 ei r1
      split at out1
      · rename_i hc
        subst hc
        rcases rf.look f with ⟨l1, l2⟩ | ⟨v, u', l1, l2, ru⟩
        · rw [l2] at out1; exact out1.elim
        · rw [l2] at out1
          exact ⟨a, C, dx, gs, v, rfl, hH, kc.cls C hC, kf C hC, l1, Out.here (b := v) out1 s1 ru⟩
      · exact out1.elim
    · exact out1.elim⟩
theorem ss_fld (kc : ClsF X.K X.mg c) (kf : FldF X.K X.mg c f) (hv : SE X W value fv) (ho : SE X W o fo) (hs : swapsWith value (some (.Attribute o f pos')) pos.line X.env = pure false := by rfl) : SS X W (.Assign [.Attribute o f pos'] value pos) (sFldS c f fv fo) :=
  ⟨ps_imp (ps_fld ho.pe hv.pe hs) fun D σ H ⟨env, m, h, sta, sl, out⟩ => rd_then sta sl out fun w h1 y H1 m1 g1 s1 ry out1 => rd_then s1 (sl.gr g1) out1 fun u h2 x H2 m2 g2 s2 rx out2 => by
    split at out2
    · split at out2
      · rename_i n c' fs hn
        split at out2
        · rename_i hc
          obtain ⟨hc, hl⟩ := hc
          subst hc
          cases rx with
          | ref hm =>
            rename_i a
            obtain ⟨C, dx, gs, h0, hH, rf⟩ := s2.obj _ _ _ hm hn
            have kp := mut_kp (y := HO.ins C dx (putF f y gs)) hH trivial
            refine ⟨a, C, dx, gs, rfl, hH, kc.cls C h0, kf C h0, by rw [rf.len]; exact hl, ?_⟩
            have gw := Gr.write (y := HO.ins C dx (putF f y gs)) (List.mem_of_getElem? hm) hH trivial
            have ry2 := RU.kp g2.kp g2.pre _ _ ry
            exact (show ∀ σ' H' m', Gr H2 m2 H' m' → Sta X.K X.mg H' m' _ → Sl X.K H' m' σ' env → D.nx σ' H' from out2) σ _ m2 gw
              (s2.write hm hH trivial ⟨C, dx, _, h0, upd_same, (rf.kp kp ⟨[], by simp⟩).put f (RU.kp kp ⟨[], by simp⟩ _ _ ry2)⟩) (((sl.gr g1).gr g2).gr gw)
        · exact out2.elim
      · exact out2.elim
    · exact out2.elim⟩
end

/-! ### methods -/
structure MetS (P : Program) (w : World) (K : PySem.W.Frag) (mg : Str → Option Value) (base : Heap) (k : Nat) (c m : Str) (ps : List Str) (F : SF) : Prop where
  ex : ∀ C, mg c = some (.ref C) → ∃ f fd, Meth K C m f ∧ Binds K fd ps [] ∧ FnOk P w K mg base (L2.CX P w) k f fd ps (spS K mg ps.length F)
def eMth (c m : Str) (F : SF) (fo : Ev) (fa : Ea) : Ev := fun env h => (fo env h).bind fun u h1 => match insOf h1 u with
  | some (c', fs) => if c' = c ∧ fs.lookup m = none then (fa env h1).bind fun us h2 => F (u :: us) h2 else .stuck
  | none => .stuck
section
variable {X : Cx} {CX : CXT} {k : Nat} {f C : Addr} {fd : FuncData} {ps : List Str} {sp : Sp} {E : L2.St → XK} {x m : Str} {p pos apos : Pos} {e o : Expr} {es : List Expr} {ta : TE} {t : TA}
def tMethS (C : Addr) (m : Str) (sp : Sp) (E : L2.St → XK) (ta : TE) (t : TA) : TE := fun σ H Q => ta σ H fun x H1 => ∃ a dx fs, x = .ref a ∧ H1 a = some (.ins C dx fs) ∧ fs.lookup m = none ∧ t σ H1 fun vs H2 => sp (x :: vs) H2 Q (E σ)
theorem pe_methE {pl : Sem Bool} (he : PE X o ta) (c : Cls X.K C) (hm : Meth X.K C m f) (F : FnOk X.prog X.w X.K X.mg X.base CX k f fd ps sp) (hr : Room k X.A) (hb : Binds X.K fd ps []) (hx : ∀ σ, PassesAt CX X σ (E σ)) (ha : PA X (e :: es) t)
    (hst : starEach (e :: es) X.env = (false, eval e X.env) :: starEach es X.env) (hpl : (backTo pos (starEach es X.env)).any (·.1) = false)
    (ht : eval (.Call (.Attribute o m apos) (e :: es) [] pos) X.env = (do
      let ov ← eval o X.env
      standAt apos.atName
      let (f, first) ← holding [ov] (getMethod ov m pl)
      callWith pos f first (backTo pos (starEach (e :: es) X.env)) (backToKw pos (keywordEach [] X.env)))) :
    PE X (.Call (.Attribute o m apos) (e :: es) [] pos) (tMethS C m sp E ta t) := by
  refine ⟨fun pins s σ H Q I h => ?_⟩
  refine PySem.W.methodCall_KW (pl := pl) (thn (he.run pins s σ H _ I h) fun u s1 ⟨x, H1, I1, rx, a, dx, fs, ex, ea, l, q⟩ => ?_) ht
  subst ex
  obtain rfl : u = Value.ref a := rx
  refine getmeth_ok I1 ea c hm l ?_
  refine PySem.W.callWith_K (first := [.ref a]) (h₀ := X.base) I.ok.mod.kin hm.kp (thn (ha.run pos pins s1 σ H1 _ I1 q) fun us s2 ⟨vs, H2, I2, r, q2⟩ => ⟨I2.kIn, ?_⟩) hst hpl
  exact run_fnS (us := .ref a :: us) (vs := .ref a :: vs) F hr hb (hx σ) I2 (.cons rfl r) q2
theorem pe_methE0 {pl : Sem Bool} (he : PE X o ta) (c : Cls X.K C) (hm : Meth X.K C m f) (F : FnOk X.prog X.w X.K X.mg X.base CX k f fd ps sp) (hr : Room k X.A) (hb : Binds X.K fd ps []) (hx : ∀ σ, PassesAt CX X σ (E σ))
    (ht : eval (.Call (.Attribute o m apos) [] [] pos) X.env = (do
      let ov ← eval o X.env
      standAt apos.atName
      let (f, first) ← holding [ov] (getMethod ov m pl)
      callWith pos f first (backTo pos (starEach [] X.env)) (backToKw pos (keywordEach [] X.env)))) :
    PE X (.Call (.Attribute o m apos) [] [] pos) (tMethS C m sp E ta tNil) := by
  refine ⟨fun pins s σ H Q I h => ?_⟩
  refine PySem.W.methodCall_KW (pl := pl) (thn (he.run pins s σ H _ I h) fun u s1 ⟨x, H1, I1, rx, a, dx, fs, ex, ea, l, q⟩ => ?_) ht
  subst ex
  obtain rfl : u = Value.ref a := rx
  refine getmeth_ok I1 ea c hm l ?_
  exact PySem.W.callWith_K0 (first := [.ref a]) I1.kIn hm.kp (run_fnS (us := [.ref a]) (vs := [.ref a]) F hr hb (hx σ) I1 (.cons rfl .nil) q)
end
section
variable {X : Cx} {W : WX} {k : Nat} {c m : Str} {apos pos : Pos} {e o : Expr} {es : List Expr} {ps : List Str} {F : SF} {fa : Ea} {fo : Ev}
theorem mth_rd {C : Addr} {H : Hp} {Q : VK} {σ : L2.St} {t : TA} (hC : X.mg c = some (.ref C)) (hn : aLen fa ps.length) (hps : ∀ (env : Env') (h : Sto), True)
    (ht : ∀ σ H R, rd X W (rlA X.K) fa σ H R → t σ H R) (q : rd X W (rlU X.K) (eMth c m F fo fa) σ H Q) :
    rd X W (rlU X.K) fo σ H fun x H1 => ∃ a dx fs, x = .ref a ∧ H1 a = some (.ins C dx fs) ∧ fs.lookup m = none ∧ t σ H1 fun vs H2 => spS X.K X.mg (ps.length + 1) F (x :: vs) H2 Q (WE W σ) := by
  obtain ⟨env, mm, h, sta, sl, out⟩ := q
  refine rd_of sta sl out fun u h1 x H1 m1 g1 s1 r1 out1 => ?_
  split at out1
  · rename_i c' fs ei
    obtain ⟨n, a, C', dx, gs, rfl, hm, hnn, rfl, hC', hH, rf⟩ := insOf_v s1 ei r1
    split at out1
    · rename_i hc
      obtain ⟨hc, hl⟩ := hc
      subst hc
      rw [hC] at hC'
      cases hC'
      refine ⟨a, dx, gs, rfl, hH, ?_, ht _ _ _ ?_⟩
      · rcases rf.look m with ⟨l1, _⟩ | ⟨v, u', _, l2, _⟩
        · exact l1
        · rw [hl] at l2; cases l2
      · refine ⟨env, m1, h1, s1, sl.gr g1, ?_⟩
        have hla := fun us h2 => hn us env h1 h2
        generalize hq : fa env h1 = z at out1
        cases z with
        | stuck => exact out1
        | exc c h2 => exact out1
        | ok us h2 =>
          intro vs H2 m2 g2 s2 r2
          exact spS_of s2 (.cons (RU.kp g2.kp g2.pre _ _ r1) r2) (by rw [List.length_cons, hla us h2 hq]) (Out.gr out1 g2)
    · exact out1.elim
  · exact out1.elim
theorem se_mth {pl : Sem Bool} {p0 : Str} (tk : TakesC X W) (kc : ClsF X.K X.mg c) (hC : ∃ C, X.mg c = some (.ref C)) (f : MetS X.prog X.w X.K X.mg X.base k c m (p0 :: ps) F) (hr : Room k X.A) (ho : SE X W o fo) (ha : SA X W (e :: es) fa) (hn : aLen fa ps.length)
    (hst : starEach (e :: es) X.env = (false, eval e X.env) :: starEach es X.env := by rfl) (hpl : (backTo pos (starEach es X.env)).any (·.1) = false := by rfl)
    (ht : eval (.Call (.Attribute o m apos) (e :: es) [] pos) X.env = (do
      let ov ← eval o X.env
      standAt apos.atName
      let (f, first) ← holding [ov] (getMethod ov m pl)
      callWith pos f first (backTo pos (starEach (e :: es) X.env)) (backToKw pos (keywordEach [] X.env))) := by rfl) :
    SE X W (.Call (.Attribute o m apos) (e :: es) [] pos) (eMth c m F fo fa) := by
  obtain ⟨C, hC⟩ := hC
  obtain ⟨f', fd, h1, h3, h4⟩ := f.ex C hC
  exact ⟨pe_imp (pe_methE ho.pe (kc.cls C hC) h1 h4 hr h3 tk ha.pa hst hpl ht) fun σ H Q q => mth_rd hC hn (fun _ _ => trivial) (fun _ _ _ z => z) q⟩
theorem se_mth0 {pl : Sem Bool} {p0 : Str} (tk : TakesC X W) (kc : ClsF X.K X.mg c) (hC : ∃ C, X.mg c = some (.ref C)) (f : MetS X.prog X.w X.K X.mg X.base k c m [p0] F) (hr : Room k X.A) (ho : SE X W o fo)
    (ht : eval (.Call (.Attribute o m apos) [] [] pos) X.env = (do
      let ov ← eval o X.env
      standAt apos.atName
      let (f, first) ← holding [ov] (getMethod ov m pl)
      callWith pos f first (backTo pos (starEach [] X.env)) (backToKw pos (keywordEach [] X.env))) := by rfl) :
    SE X W (.Call (.Attribute o m apos) [] [] pos) (eMth c m F fo aNil) := by
  obtain ⟨C, hC⟩ := hC
  obtain ⟨f', fd, h1, h3, h4⟩ := f.ex C hC
  refine ⟨pe_imp (pe_methE0 ho.pe (kc.cls C hC) h1 h4 hr h3 tk ht) fun σ H Q q => mth_rd (ps := []) (t := tNil) hC aLen_nil (fun _ _ => trivial) (fun σ H R ⟨env, m, h, sta, sl, out⟩ => ?_) q⟩
  exact Out.here (b := []) out sta .nil
end

/-! ### making an instance -/
structure MkS (P : Program) (w : World) (K : PySem.W.Frag) (mg : Str → Option Value) (base : Heap) (k : Nat) (c : Str) (ps : List Str) (F : SF) : Prop where
  ex : ∃ C f fd, mg c = some (.ref C) ∧ Mk K C f ∧ Binds K fd ps [] ∧ FnOk P w K mg base (L2.CX P w) k f fd ps (spS K mg ps.length F)
def retN (n : Nat) (r : U) (h : Sto) : Res U := match r with
  | .d .none => .ok (.ref n) h
  | _ => .stuck
def eMk (c : Str) (F : SF) (fa : Ea) : Ev := fun env h => (fa env h).bind fun us h1 => (F (.ref h1.length :: us) (h1 ++ [.ins c []])).bind (retN h1.length)
section
variable {X : Cx} {CX : CXT} {k : Nat} {f C : Addr} {fd : FuncData} {ps : List Str} {sp : Sp} {E : L2.St → XK} {x : Str} {p pos : Pos} {e : Expr} {es : List Expr} {t : TA}
def tMakeS (C : Addr) (sp : Sp) (E : L2.St → XK) (t : TA) : TE := fun σ H Q => t σ H fun vs H1 => ∀ x dx, H1 x = none → H1 dx = none → dx ≠ x →
  sp (.ref x :: vs) (upd (upd H1 dx (.own x)) x (.ins C dx [])) (fun v H2 => v = .non ∧ Q (.ref x) H2) (E σ)
theorem run_makeS {pins : List (Addr × Obj)} {σ : L2.St} {H : Hp} {s : Shared} {Q : VK} {us : List Value} {vs : List V} {E : XK} (M : Mk X.K C f) (F : FnOk X.prog X.w X.K X.mg X.base CX k f fd ps sp) (hr : Room (k + 1) X.A) (hb : Binds X.K fd ps [])
    (hx : PassesAt CX X σ E) (I : Inv X pins σ H s) (r : Vals vs us)
    (h : ∀ x dx, H x = none → H dx = none → dx ≠ x → sp (.ref x :: vs) (upd (upd H dx (.own x)) x (.ins C dx [])) (fun v H2 => v = .non ∧ Q (.ref x) H2) E) :
    wpAny (model X.prog X.w) X.A (call (.ref C) us) (EP X pins σ Q) X.xe s := by
  have hq := h (s.heap.objs.size + 1) s.heap.objs.size (I.hok.fresh (Nat.le_succ _)) (I.hok.fresh (Nat.le_refl _)) (Nat.ne_of_lt (Nat.lt_succ_self _))
  have I2 := Inv.made (C := C) I
  have r2 : Vals (V.ref (s.heap.objs.size + 1) :: vs) (Value.ref (s.heap.objs.size + 1) :: us) := .cons rfl r
  have hl : (Value.ref (s.heap.objs.size + 1) :: us).length = ps.length := by
    have e := r2.length
    rw [F.len _ _ _ _ hq] at e
    exact e.symm
  have b := hb { s with heap := (s.heap.push PySem.W.emptyDict).push (PySem.W.instObj C s.heap.objs.size) } (Value.ref (s.heap.objs.size + 1) :: us) I2.kIn (by rw [List.append_nil]; exact hl)
  rw [List.append_nil] at b
  refine wpAny_call (make_map (f := f) I.kIn M.makes M.init (beq_iff_eq.mp M.fn) (codeAny_mono (F.run _ X.stack _ _ ⟨Value.ref (s.heap.objs.size + 1) :: us, []⟩ (Value.ref (s.heap.objs.size + 1) :: us) _ _ E (hr.make C us [])
    (I2.env0.make C us []) b r2 hq) fun r s' hq' => ?_))
  cases r with
  | error e => exact hx pins _ _ e s' I2 hq'
  | ok fl =>
    cases fl with
    | ret u =>
      obtain ⟨v, H', I3, rv, ev, q3⟩ := I2.after hq'
      subst ev
      exact ⟨rv, ⟨V.ref (s.heap.objs.size + 1), H', I3, rfl, q3⟩⟩
    | next => exact False.elim hq'
    | brk => exact False.elim hq'
    | cont => exact False.elim hq'
theorem pe_makeS (M : Mk X.K C f) (F : FnOk X.prog X.w X.K X.mg X.base CX k f fd ps sp) (hr : Room (k + 1) X.A) (hg : Gl X x) (hm : X.mg x = some (.ref C)) (hb : Binds X.K fd ps []) (hx : ∀ σ, PassesAt CX X σ (E σ))
    (ha : PA X (e :: es) t) (hdb : (x == ("__debug__" : Str)) = false) (he : starEach (e :: es) X.env = (false, eval e X.env) :: starEach es X.env) (hpl : (backTo pos (starEach es X.env)).any (·.1) = false) :
    PE X (.Call (.Name x p) (e :: es) [] pos) (tMakeS C sp E t) := by
  refine ⟨fun pins s σ H Q I h => ?_⟩
  refine wpAny_Call_Name_kw (ld_glob I hg hm ?_ hdb)
  refine PySem.W.callWith_K (h₀ := X.base) I.ok.mod.kin M.kp (thn (ha.run pos pins s σ H _ I h) fun us s1 ⟨vs, H1, I1, r, q⟩ => ⟨I1.kIn, ?_⟩) he hpl
  exact run_makeS M F hr hb (hx σ) I1 r q
theorem pe_makeS0 (M : Mk X.K C f) (F : FnOk X.prog X.w X.K X.mg X.base CX k f fd ps sp) (hr : Room (k + 1) X.A) (hg : Gl X x) (hm : X.mg x = some (.ref C)) (hb : Binds X.K fd ps []) (hx : ∀ σ, PassesAt CX X σ (E σ))
    (hdb : (x == ("__debug__" : Str)) = false) : PE X (.Call (.Name x p) [] [] pos) (tMakeS C sp E tNil) := by
  refine ⟨fun pins s σ H Q I h => ?_⟩
  refine wpAny_Call_Name_kw (ld_glob I hg hm ?_ hdb)
  exact PySem.W.callWith_K0 I.kIn M.kp (run_makeS (us := []) M F hr hb (hx σ) I .nil h)
end
section
variable {X : Cx} {W : WX} {k : Nat} {c : Str} {p pos : Pos} {e : Expr} {es : List Expr} {ps : List Str} {F : SF} {fa : Ea}
theorem mk_rd {C : Addr} {H : Hp} {Q : VK} {σ : L2.St} {t : TA} (hC : X.mg c = some (.ref C)) (hn : aLen fa ps.length)
    (ht : ∀ σ H R, rd X W (rlA X.K) fa σ H R → t σ H R) (q : rd X W (rlU X.K) (eMk c F fa) σ H Q) :
    t σ H fun vs H1 => ∀ x dx, H1 x = none → H1 dx = none → dx ≠ x → spS X.K X.mg (ps.length + 1) F (.ref x :: vs) (upd (upd H1 dx (.own x)) x (.ins C dx [])) (fun v H2 => v = .non ∧ Q (.ref x) H2) (WE W σ) := by
  obtain ⟨env, m, h, sta, sl, out⟩ := q
  refine ht _ _ _ ⟨env, m, h, sta, sl, ?_⟩
  have hla := fun us h2 => hn us env h h2
  unfold eMk at out
  generalize hq : fa env h = z at out
  cases z with
  | stuck => exact out
  | exc c h2 => exact out
  | ok us h1 =>
    intro vs H1 m1 g1 s1 r1 x dx nx nd ne
    have out1 := Out.gr out g1
    have nx2 : upd H1 dx (.own x) x = none := by rw [upd_ne ne.symm]; exact nx
    have sm1 : Same H1 (upd H1 dx (.own x)) := Same.lay nd
    have sm2 : Same (upd H1 dx (.own x)) (upd (upd H1 dx (.own x)) x (.ins C dx [])) := Same.lay nx2
    have s2 := (s1.same sm1).push (x := .ins C dx []) (o' := .ins c []) nx2 ⟨C, dx, [], hC, upd_same, .nil⟩
    have g2 : Gr H1 m1 (upd (upd H1 dx (.own x)) x (.ins C dx [])) (m1 ++ [x]) := (Gr.of_same sm1 m1).trans (Gr.push nx2)
    have rx : RU X.K (upd (upd H1 dx (.own x)) x (.ins C dx [])) (m1 ++ [x]) (.ref x) (.ref h1.length) := .ref (by rw [← s1.len]; simp)
    refine spS_of s2 (.cons rx (RUs.kp g2.kp g2.pre _ _ r1)) (by rw [List.length_cons, hla us h1 hq]) ?_
    have out2 : Out X W (rlU X.K) σ H1 m1 ((F (.ref h1.length :: us) (h1 ++ [.ins c []])).bind (retN h1.length)) Q := out1
    have out3 := Out.gr out2 g2
    clear out2 out1 out
    generalize F (.ref h1.length :: us) (h1 ++ [.ins c []]) = y at out3
    cases y with
    | stuck => exact out3
    | exc c h2 => exact out3
    | ok u h2 =>
      intro v H3 m3 g3 s3 r3
      have o4 : Out X W (rlU X.K) σ (upd (upd H1 dx (.own x)) x (.ins C dx [])) (m1 ++ [x]) (retN h1.length u h2) Q := out3
      unfold retN at o4
      split at o4
      · cases r3.rd
        exact ⟨rfl, Out.ok (b := V.ref x) o4 g3 s3 (RU.kp g3.kp g3.pre _ _ rx)⟩
      · exact o4.elim
theorem se_make {p0 : Str} (tk : TakesC X W) (f : MkS X.prog X.w X.K X.mg X.base k c (p0 :: ps) F) (hr : Room (k + 1) X.A) (hg : Gl X c) (ha : SA X W (e :: es) fa) (hn : aLen fa ps.length) (hdb : (c == ("__debug__" : Str)) = false := by decide)
    (he : starEach (e :: es) X.env = (false, eval e X.env) :: starEach es X.env := by rfl) (hpl : (backTo pos (starEach es X.env)).any (·.1) = false := by rfl) : SE X W (.Call (.Name c p) (e :: es) [] pos) (eMk c F fa) := by
  obtain ⟨C, f', fd, hC, h1, h3, h4⟩ := f.ex
  exact ⟨pe_imp (pe_makeS h1 h4 hr hg hC h3 tk ha.pa hdb he hpl) fun σ H Q q => mk_rd hC hn (fun _ _ _ z => z) q⟩
theorem se_make0 {p0 : Str} (tk : TakesC X W) (f : MkS X.prog X.w X.K X.mg X.base k c [p0] F) (hr : Room (k + 1) X.A) (hg : Gl X c) (hdb : (c == ("__debug__" : Str)) = false := by decide) : SE X W (.Call (.Name c p) [] [] pos) (eMk c F aNil) := by
  obtain ⟨C, f', fd, hC, h1, h3, h4⟩ := f.ex
  refine ⟨pe_imp (pe_makeS0 h1 h4 hr hg hC h3 tk hdb) fun σ H Q q => mk_rd (ps := []) (t := tNil) hC aLen_nil (fun σ H R ⟨env, m, h, sta, sl, out⟩ => ?_) q⟩
  exact Out.here (b := []) out sta .nil
end
end Wk

/-! T10: is, raise, try, dicts, pairs of stores. -/
namespace Wk
open PySem PySem.Spec PyProof.Rows L2
/-! ### x is None, x is True -/
def isB (b : Bool) : U → Bool
  | .d (.bool a) => decide (a = b)
  | _ => false
def opIs (n : Bool) (u w : U) (h : Sto) : Res U := match w with
  | .d .none => .ok (.d (.bool (xor n (isN u)))) h
  | .d (.bool b) => .ok (.d (.bool (xor n (isB b u)))) h
  | _ => .stuck
section
variable {X : Cx} {W : WX}
def smV : V → Prop
  | .non => True
  | .bl _ => True
  | .int _ => True
  | .str _ => True
  | .ref _ => True
  | _ => False
theorem smV_of {K : PySem.W.Frag} {H : Hp} {m : List Addr} {v : V} {u : U} (r : RU K H m v u) : smV v := by
  cases r with
  | d p => cases p <;> trivial
  | ref p => trivial
  | tup p q => trivial
  | exn a => trivial
def rIsX (n : Bool) : R2 := fun x y H Q => (y = .non ∧ Q (.bl (xor n (decide (x = .non)))) H) ∨ ∃ b, y = .bl b ∧ smV x ∧ Q (.bl (xor n (decide (x = .bl b)))) H
theorem op_isX : OpR X (compareOp .Is) (rIsX false) := by
  intro pins s σ H x y v u Q I rx ry h
  rcases h with ⟨rfl, q⟩ | ⟨b, rfl, sx, q⟩
  · rw [Bool.false_xor] at q
    exact op_isN pins s σ H x _ v u Q I rx ry ⟨rfl, q⟩
  · rw [Bool.false_xor] at q
    cases (show u = Value.bool b from ry)
    have fin : ∀ (z : Value), RelV x z → plainIs z (.bool b) = true → (decide (x = .bl b)) = decide (z = .bool b) → wpAny (model X.prog X.w) X.A (compareOp .Is z (.bool b)) (EP X pins σ Q) X.xe s := fun z rz hp e => by
      rw [e] at q
      by_cases hz : z = .bool b
      · subst hz
        exact wpAny_is_self rfl ⟨.bl true, H, I, rfl, by simpa using q⟩
      · exact wpAny_is_other hp hz ⟨.bl false, H, I, rfl, by simpa [hz] using q⟩
    cases x with
    | non => cases rx; exact fin _ rfl rfl (by simp)
    | bl a => cases rx; exact fin _ rfl rfl (by by_cases h : a = b <;> simp [h])
    | int i => obtain ⟨t, rfl⟩ := rx; exact fin _ ⟨t, rfl⟩ rfl (by simp)
    | str i => obtain ⟨t, rfl⟩ := rx; exact fin _ ⟨t, rfl⟩ rfl (by simp)
    | ref i => cases rx; exact fin _ rfl rfl (by simp)
    | _ => exact sx.elim
theorem op_isNotX : OpR X (compareOp .IsNot) (rIsX true) := by
  intro pins s σ H x y v u Q I rx ry h
  rcases h with ⟨rfl, q⟩ | ⟨b, rfl, sx, q⟩
  · rw [Bool.true_xor] at q
    exact op_notN pins s σ H x _ v u Q I rx ry ⟨rfl, q⟩
  · rw [Bool.true_xor] at q
    cases (show u = Value.bool b from ry)
    have fin : ∀ (z : Value), RelV x z → plainIs z (.bool b) = true → (decide (x = .bl b)) = decide (z = .bool b) → wpAny (model X.prog X.w) X.A (compareOp .IsNot z (.bool b)) (EP X pins σ Q) X.xe s := fun z rz hp e => by
      rw [e] at q
      by_cases hz : z = .bool b
      · subst hz
        exact wpAny_isNot_self rfl ⟨.bl false, H, I, rfl, by simpa using q⟩
      · exact wpAny_isNot_other hp hz ⟨.bl true, H, I, rfl, by simpa [hz] using q⟩
    cases x with
    | non => cases rx; exact fin _ rfl rfl (by simp)
    | bl a => cases rx; exact fin _ rfl rfl (by by_cases h : a = b <;> simp [h])
    | int i => obtain ⟨t, rfl⟩ := rx; exact fin _ ⟨t, rfl⟩ rfl (by simp)
    | str i => obtain ⟨t, rfl⟩ := rx; exact fin _ ⟨t, rfl⟩ rfl (by simp)
    | ref i => cases rx; exact fin _ rfl rfl (by simp)
    | _ => exact sx.elim
theorem ab_is (n : Bool) : Ab2 X W (opIs n) (rIsX n) := by
  intro σ H m h x y u w Q s ru rw out
  unfold opIs at out
  split at out
  · cases rw.rd
    refine .inl ⟨rfl, ?_⟩
    rw [isN_v ru]
    exact Out.here (b := V.bl _) out s (.d (.bl _))
  · rename_i b
    cases rw.rd
    refine .inr ⟨b, rfl, smV_of ru, ?_⟩
    have e : decide (x = .bl b) = isB b u := by
      cases ru with
      | d p => cases p <;> simp [isB]
      | ref p => simp [isB]
      | tup p q => simp [isB]
      | exn a => simp [isB]
    rw [e]
    exact Out.here (b := V.bl _) out s (.d (.bl _))
  · exact out.elim
end

/-! ### raise -/
structure ExcC (K : PySem.W.Frag) (mg : Str → Option Value) (c : Str) : Prop where
  ex : ∃ C, mg c = some (.ref C) ∧ PySem.W.excIn K C [.type "ValueError", .type "Exception", .type "BaseException", .type "object"] "ValueError.__new__" = true ∧ PySem.W.keepIn K (.ref C) = true ∧
    PySem.W.subIn K (.ref C) (.type "BaseException") = some true ∧ PySem.W.typeIn K (.ref C) = some (.type "type")
def sRaise (c : Str) : Es := fun env h => .exc c env h
section
variable {X : Cx} {W : WX} {c m : Str} {j : Nat} {p p2 pos pos' : Pos}
theorem ss_raise (hc : X.calm = true) (tk : Takes X W) (kc : ExcC X.K X.mg c) (hg : Gl X c) (hdb : (c == ("__debug__" : Str)) = false := by decide) :
    SS X W (.Raise (some (.Call (.Name c p) [.Constant (.str m) j p2] [] pos)) none pos') (sRaise c) := by
  obtain ⟨C, h1, h2, h3, h4, h5⟩ := kc.ex
  refine ⟨ps_imp (ps_raise hc tk (pmk_own PySem.F.excBase_ValueError h2 h1 h3 (raises_own h4 h5) hg hdb)) fun D σ H ⟨env, mm, h, sta, sl, out⟩ => ?_⟩
  exact (show ∀ σ' H' m', Gr H mm H' m' → Sta X.K X.mg H' m' h → Sl X.K H' m' σ' env → ExW X W c σ' H' from out) σ H mm (Gr.refl _ _) sta sl C h1
end

/-! ### try -/
def SRes.noEx : SRes → SRes
  | .exc _ _ _ => .stuck
  | r => r
/-- the handlers by the name of the class; mt: whether an exception of the class c is one of the class d -/
def tryGo (mt : Str → Str → Option Bool) (c : Str) (env' : Env') (h' : Sto) : List (Str × Es) → SRes
  | [] => .exc c env' h'
  | (d, g) :: r => match mt c d with
    | some true => (g env' h').noEx
    | some false => tryGo mt c env' h' r
    | none => .stuck
def sTry (mt : Str → Str → Option Bool) (b : Es) (hs : List (Str × Es)) : Es := fun env h => match b env h with
  | .exc c env' h' => tryGo mt c env' h' hs
  | .next env' h' => .next env' h'
  | .ret u h' => .ret u h'
  | .stuck => .stuck
def MtOk (K : PySem.W.Frag) (mg : Str → Option Value) (mt : Str → Str → Option Bool) : Prop := ∀ c d b, mt c d = some b → ∀ C D, mg c = some (.ref C) → mg d = some (.ref D) → PySem.W.exmOne K (.ref C) (.ref D) = some b
inductive HsOk (X : Cx) : List ExceptHandler → List (Str × Es) → Prop
  | nil : HsOk X [] []
  | cons {d : Str} {g : Es} {b₀ : Stmt} {suite : List Stmt} {np pos' : Pos} {hds : List ExceptHandler} {hs : List (Str × Es)} (hg : Gl X d) (hdb : (d == ("__debug__" : Str)) = false) (hD : ∃ D, X.mg d = some (.ref D))
      (hsu : ∀ (a : Addr) (pn : List (Addr × Obj)), SSs (X.suite a pn) W0 (b₀ :: suite) g) (r : HsOk X hds hs) :
      HsOk X (.ExceptHandler (some (.Name d np)) none (b₀ :: suite) pos' :: hds) ((d, g) :: hs)
section
variable {X : Cx} {W : WX} {mt : Str → Str → Option Bool} {body : List Stmt} {h₀ : ExceptHandler} {hds : List ExceptHandler} {hs' : List (Str × Es)} {b : Es} {pos : Pos}
inductive LOk (X : Cx) : List (Str × Es) → List (Value × (Addr → Value → Option Addr → TS)) → Prop
  | nil : LOk X [] []
  | cons {d : Str} {D : Addr} {g : Es} {hs : List (Str × Es)} {l : List (Value × (Addr → Value → Option Addr → TS))} (hD : X.mg d = some (.ref D)) (r : LOk X hs l) : LOk X ((d, g) :: hs) ((.ref D, fun _ _ _ => rdS X W0 g) :: l)
theorem HsOk.l {hds : List ExceptHandler} {hs : List (Str × Es)} (h : HsOk X hds hs) : ∃ l, HdsOk X hds l ∧ LOk X hs l := by
  induction h with
  | nil => exact ⟨[], .nil, .nil⟩
  | cons hg hdb hD hsu r ih =>
    obtain ⟨l, h1, h2⟩ := ih
    obtain ⟨D, hD⟩ := hD
    exact ⟨_, .cons (c := .ref D) ⟨hg, hdb, .inl hD⟩ (fun a oe cls d pn _ _ => (hsu a ((a, oe) :: pn)).ps) h1, .cons hD h2⟩
theorem tryGo_out {D : Ends} {c : Str} {C : Addr} {env' : Env'} {h' : Sto} (mtok : MtOk X.K X.mg mt) (hC : X.mg c = some (.ref C)) : ∀ {hs : List (Str × Es)} {l : List (Value × (Addr → Value → Option Addr → TS))}, LOk X hs l → ∀ {σ' : L2.St} {H' : Hp} {m' : List Addr},
    Sta X.K X.mg H' m' h' → Sl X.K H' m' σ' env' → OutS X W D H' m' (tryGo mt c env' h' hs) → wMany X.K W D l (.ref C) none σ' H'
  | _, _, .nil, σ', H', m', s, sl, out => (show ∀ σ2 H2 m2, Gr H' m' H2 m2 → Sta X.K X.mg H2 m2 h' → Sl X.K H2 m2 σ2 env' → ExW X W c σ2 H2 from out) σ' H' m' (Gr.refl _ _) s sl C hC
  | _, _, .cons (d := d) (D := DD) (g := g) (hs := hs) hD r, σ', H', m', s, sl, out => by
    unfold tryGo at out
    split at out
    · rename_i e
      refine ⟨true, mtok c d true e C DD hC hD, fun _ a _ => ⟨env', m', h', s, sl, ?_⟩, fun z => nomatch z⟩
      generalize g env' h' = y at out
      cases y with
      | next e2 h2 => exact out
      | ret u h2 => exact out
      | exc c2 e2 h2 => exact out.elim
      | stuck => exact out
    · rename_i e
      exact ⟨false, mtok c d false e C DD hC hD, fun z => (nomatch z), fun _ => tryGo_out mtok hC r s sl out⟩
    · exact out.elim
theorem ss_try (hs : X.stack = X.env :: X.outer) (hf : X.env.frame = some X.env.locals) (tk : Takes X W) (mtok : MtOk X.K X.mg mt)
    (hb : ∀ (W' : WX) (pn : List (Addr × Obj)) (xe : Value → Shared → Prop), Takes (X.tr pn xe) W' → PassesOwn (model X.prog X.w) X.A X.env xe → SSs (X.tr pn xe) W' body b)
    (hh : HsOk X (h₀ :: hds) hs') : SS X W (.Try body (h₀ :: hds) [] [] pos) (sTry mt b hs') := by
  obtain ⟨l, h1, h2⟩ := hh.l
  refine ⟨ps_imp (ps_try_many (tb := fun W' => rdS X W' b) hs hf tk (fun W' pn xe t p => (hb W' pn xe t p).ps) h1) fun D σ H ⟨env, m, h, sta, sl, out⟩ => ⟨env, m, h, sta, sl, ?_⟩⟩
  unfold sTry at out
  generalize b env h = y at out
  cases y with
  | next e2 h2 => exact out
  | ret u h2 => exact out
  | exc c e' h' => exact fun σ' H' m' g s' sl' C hC => tryGo_out mtok hC h2 s' sl' (OutS.gr out g)
  | stuck => exact out
end
end Wk

/-! T11: dicts by ints and texts, pairs of stores. -/
namespace Wk
open PySem PySem.Spec PyProof.Rows L2
def eDNew : Ev := fun _ h => .ok (.ref h.length) (h ++ [.dct []])
def opDGet (u w : U) (h : Sto) : Res U := match dictOf h u, keyOf w with
  | some kvs, some k => (match valU kvs k with
    | some x => .ok x h
    | none => .stuck)
  | _, _ => .stuck
def eDGet2 (fo fk fx : Ev) : Ev := fun env h => (fo env h).bind fun u h1 => match dictOf h1 u with
  | some _ => (fk env h1).bind fun w h2 => (fx env h2).bind fun x h3 => (match dictOf h3 u, keyOf w with
    | some kvs, some k => .ok ((valU kvs k).getD x) h3
    | _, _ => .stuck)
  | none => .stuck
noncomputable def dPut (u w x : U) (h : Sto) : Option Sto := match u with
  | .ref n => (match h[n]?, keyOf w with
    | some (.dct kvs), some k => if ask (kvs.length < sizeLine) then some (h.set n (.dct (putU kvs k x))) else none
    | _, _ => none)
  | _ => none
noncomputable def sDPutS (fv fo fk : Ev) : Es := fun env h => (fv env h).then_ env fun x h1 => (fo env h1).then_ env fun u h2 => (fk env h2).then_ env fun w h3 => match dPut u w x h3 with
  | some h4 => .next env h4
  | none => .stuck
section
variable {X : Cx} {W : WX} {o i e value : Expr} {pos pos' apos cpos : Pos} {fo fi fv fx : Ev}
theorem se_dnew : SE X W (.Dict [] [] pos) eDNew :=
  ⟨pe_imp pe_dnewK fun σ H Q ⟨env, m, h, sta, sl, out⟩ p np => Out.ok (b := V.ref p) out (Gr.push np) (sta.push np ⟨[], upd_same, .nil⟩) (.ref (by rw [← sta.len]; simp))⟩
theorem dget_of {H : Hp} {m : List Addr} {h : Sto} {a : Addr} {gs : List (Key × V)} {kvs : List (Key × U)} {k : Key} {y : V} {w : U} (hH : H a = some (.dK gs)) (ek : keyOf w = some k) (ry : RU X.K H m y w) : DGet H a y (valV gs k) := by
  rw [keyOf_v ek ry]
  exact .inl ⟨gs, k, .inl hH, rfl, rfl⟩
theorem se_dget (hu : X.A.units + 1 < cLine) (ho : SE X W o fo) (hi : SE X W i fi) (hs : NoSl i := by intro _ _; rfl) : SE X W (.Subscript o i pos) (eBin opDGet fo fi) :=
  ⟨pe_imp (pe_dget hu ho.pe hi.pe hs) fun σ H Q ⟨env, m, h, sta, sl, out⟩ => rd_of sta sl out fun u h1 x H1 m1 g1 s1 r1 out1 => rd_of s1 (sl.gr g1) out1 fun w h2 y H2 m2 g2 s2 r2 out2 => by
    have ru := RU.kp g2.kp g2.pre _ _ r1
    unfold opDGet at out2
    split at out2
    · rename_i kvs k ed ek
      obtain ⟨a, n, gs, rfl, hm, hn, rfl, hH, rk⟩ := dictOf_v s2 ed ru
      split at out2
      · rename_i z ez
        rcases rk.val k with ⟨_, h2⟩ | ⟨v, u', h1, h2, rv⟩
        · rw [ez] at h2; cases h2
        · rw [ez] at h2
          cases h2
          refine ⟨a, v, rfl, ?_, Out.here (b := v) out2 s2 rv⟩
          rw [← h1]
          exact .inl ⟨gs, k, .inl hH, keyOf_v ek r2, rfl⟩
      · exact out2.elim
    · exact out2.elim⟩
theorem dictOf_stay {h : Sto} {u : U} {kvs : List (Key × U)} (e : dictOf h u = some kvs) : ∃ n, u = .ref n ∧ h[n]? = some (.dct kvs) := by
  unfold dictOf at e
  split at e
  · split at e
    · rename_i n kvs' ho
      cases e
      exact ⟨_, rfl, ho⟩
    · cases e
  · cases e
theorem se_dget2 (hu : X.A.units + 1 < cLine) (ho : SE X W o fo) (hi : SE X W i fi) (hx : SE X W e fx) (m : M2 X o "get" apos i e cpos) : SE X W (.Call (.Attribute o "get" apos) [i, e] [] cpos) (eDGet2 fo fi fx) :=
  ⟨pe_imp (pe_dget2 hu ho.pe hi.pe hx.pe m) fun σ H Q ⟨env, m, h, sta, sl, out⟩ => rd_of sta sl out fun u h1 x H1 m1 g1 s1 r1 out1 => by
    split at out1
    · rename_i kvs ed
      obtain ⟨a, n, gs, rfl, hm, hn, rfl, hH, rk⟩ := dictOf_v s1 ed r1
      refine ⟨a, rfl, .inl ⟨gs, .inl hH⟩, rd_of s1 (sl.gr g1) out1 fun w h2 y H2 m2 g2 s2 r2 out2 => rd_of s2 ((sl.gr g1).gr g2) out2 fun z h3 zv H3 m3 g3 s3 r3 out3 => ?_⟩
      have ru := RU.kp (g2.trans g3).kp (g2.trans g3).pre _ _ r1
      have ry := RU.kp g3.kp g3.pre _ _ r2
      split at out3
      · rename_i kvs' k ed' ek
        obtain ⟨a', n', gs', e1, hm', hn', e2, hH', rk'⟩ := dictOf_v s3 ed' ru
        cases e1
        cases e2
        refine ⟨valV gs' k, .inl ⟨gs', k, .inl hH', keyOf_v ek ry, rfl⟩, ?_⟩
        rcases rk'.val k with ⟨l1, l2⟩ | ⟨v, u', l1, l2, rv⟩
        · rw [l1]; rw [l2] at out3
          exact Out.here (b := zv) out3 s3 r3
        · rw [l1]; rw [l2] at out3
          exact Out.here (b := v) out3 s3 rv
      · exact out3.elim
    · exact out1.elim⟩
theorem ss_dput (hu : X.A.units + 1 < cLine) (hv : SE X W value fv) (ho : SE X W o fo) (hi : SE X W i fi) (hs : swapsWith value (some (.Subscript o i pos')) pos.line X.env = pure false := by rfl) : SS X W (.Assign [.Subscript o i pos'] value pos) (sDPutS fv fo fi) :=
  ⟨ps_imp (ps_dput hu ho.pe hi.pe hv.pe hs) fun D σ H ⟨env, m, h, sta, sl, out⟩ => rd_then sta sl out fun x h1 xv H1 m1 g1 s1 rx out1 => rd_then s1 (sl.gr g1) out1 fun u h2 uv H2 m2 g2 s2 ru out2 => rd_then s2 ((sl.gr g1).gr g2) out2 fun w h3 wv H3 m3 g3 s3 rw out3 => by
    have ru3 := RU.kp g3.kp g3.pre _ _ ru
    have rx3 := RU.kp (g2.trans g3).kp (g2.trans g3).pre _ _ rx
    split at out3
    · rename_i h4 e4
      unfold dPut at e4
      split at e4
      · rename_i n
        split at e4
        · rename_i kvs k hn ek
          split at e4
          · rename_i hl
            cases e4
            cases ru3 with
            | ref hm =>
              rename_i a
              obtain ⟨gs, hH, rk⟩ := s3.obj _ _ _ hm hn
              have kp := mut_kp (y := HO.dK (putK gs k xv)) hH trivial
              have gw := Gr.write (y := HO.dK (putK gs k xv)) (List.mem_of_getElem? hm) hH trivial
              refine ⟨a, _, rfl, .inl ⟨gs, k, hH, keyOf_v ek rw, by rw [rk.len]; exact ask_iff.mp hl, rfl⟩, ?_⟩
              exact (show ∀ σ' H' m', Gr H3 m3 H' m' → Sta X.K X.mg H' m' _ → Sl X.K H' m' σ' env → D.nx σ' H' from out3) σ _ m3 gw
                (s3.write hm hH trivial ⟨_, upd_same, (RK.put (paired_imp (fun p q z => ⟨z.1, RU.kp kp ⟨[], by simp⟩ _ _ z.2⟩) rk) k (RU.kp kp ⟨[], by simp⟩ _ _ rx3))⟩) ((((sl.gr g1).gr g2).gr g3).gr gw)
          · cases e4
        · cases e4
      · cases e4
    · exact out3.elim⟩
end

/-! ### a, b = x, y -/
def sPar (i j : Nat) (fa : Ea) : Es := fun env h => (fa env h).then_ env fun us h1 => match us with
  | [u, w] => .next ((env.set i (some u)).set j (some w)) h1
  | _ => .stuck
section
variable {X : Cx} {W : WX} {a b o : Expr} {pos px py pt : Pos} {kt k2 : Nat} {pt2 : Pos} {fa : Ea} {f fo : Ev}
theorem ss_par (i j : Nat) {x y : Str} (hc : X.calm = true) (hN : X.N.Nodup) (ha : SA X W [a, b] fa) (hi : X.N[i]? = some x := by rfl) (hj : X.N[j]? = some y := by rfl) (hij : i ≠ j := by decide)
    (hx : X.env.scope.names.lookup x = some .local := by rfl) (hy : X.env.scope.names.lookup y = some .local := by rfl)
    (hw : swappedStores [.Tuple [.Name x px, .Name y py] kt pt] (.Tuple [a, b] k2 pt2) X.env = pure (some [x, y]) := by rfl)
    (hs : swapsWithSole [.Tuple [.Name x px, .Name y py] kt pt] (.Tuple [a, b] k2 pt2) pos.line X.env = pure false := by rfl) :
    SS X W (.Assign [.Tuple [.Name x px, .Name y py] kt pt] (.Tuple [a, b] k2 pt2) pos) (sPar i j fa) :=
  ⟨ps_imp (ps_par hc hN hi hj hij hx hy ha.pa hw hs) fun D σ H ⟨env, m, h, sta, sl, out⟩ => rd_then sta sl out fun us h1 vs H1 m1 g1 s1 r1 out1 => by
    split at out1
    · cases r1 with
      | cons ra rb =>
        cases rb with
        | cons rb rc =>
          cases rc
          refine ⟨_, _, rfl, ?_⟩
          exact (show ∀ σ' H' m', Gr H1 m1 H' m' → Sta X.K X.mg H' m' h1 → Sl X.K H' m' σ' _ → D.nx σ' H' from out1) _ H1 m1 (Gr.refl _ _) s1 (((sl.gr g1).set ra i).set rb j)
    · exact out1.elim⟩
/-! ### o.f, o.g = e, o a name -/
def gAttr (K : PySem.W.Frag) (ta : TE) (f : Str) : TG := fun v σ H Q => ta σ H fun x H1 => ∃ a C dx fs, x = .ref a ∧ H1 a = some (.ins C dx fs) ∧ Cls K C ∧ NoAttr K C f ∧ fs.length < 1000 ∧ Q σ (upd H1 a (.ins C dx (putF f v fs)))
theorem pg_attr {f : Str} {ta : TE} (ho : PE X o ta) : PG X (.Attribute o f pos) (gAttr X.K ta f) := by
  refine ⟨fun pins s σ H v u Q I r h => PySem.W.kas_attr (thn (ho.run pins s σ H _ I h) fun ov s1 ⟨x, H1, I1, rx, a, C, dx, fs, ex, ea, c, n, l, q⟩ => ?_)⟩
  subst ex
  obtain rfl : ov = Value.ref a := rx
  exact setattr_ok I1 ea c n l r fun s3 I3 => ⟨σ, _, I3, q⟩
def setFld (c f : Str) (w u : U) (h : Sto) : Option Sto := match u with
  | .ref n => (match h[n]? with
    | some (.ins c' fs) => if c' = c ∧ fs.length < 1000 then some (h.set n (.ins c' (putG f w fs))) else none
    | _ => none)
  | _ => none
/-- name.f, name.g = e -/
def sAsg2 (c f g : Str) (i : Nat) (fe : Ev) : Es := fun env h => (fe env h).then_ env fun u h1 => match itemsOf h1 u, env[i]? with
  | some [a, b], some (some o) => (match setFld c f a o h1 with
    | some h2 => (match setFld c g b o h2 with
      | some h3 => .next env h3
      | none => .stuck)
    | none => .stuck)
  | _, _ => .stuck
theorem setFld_v {c f : Str} {K : PySem.W.Frag} {mg : Str → Option Value} {H : Hp} {m : List Addr} {h h' : Sto} {v ov : V} {u w : U} (s : Sta K mg H m h) (e : setFld c f w u h = some h') (ru : RU K H m ov u) (rw : RU K H m v w) :
    ∃ a C dx fs, ov = .ref a ∧ mg c = some (.ref C) ∧ H a = some (.ins C dx fs) ∧ fs.length < 1000 ∧ Gr H m (upd H a (.ins C dx (putF f v fs))) m ∧ Sta K mg (upd H a (.ins C dx (putF f v fs))) m h' := by
  unfold setFld at e
  split at e
  · split at e
    · rename_i n c' fs hn
      split at e
      · rename_i hc
        obtain ⟨hc, hl⟩ := hc
        subst hc
        cases e
        cases ru with
        | ref hm =>
          rename_i a
          obtain ⟨C, dx, gs, h0, hH, rf⟩ := s.obj _ _ _ hm hn
          have kp := mut_kp (y := HO.ins C dx (putF f v gs)) hH trivial
          exact ⟨a, C, dx, gs, rfl, h0, hH, by rw [rf.len]; exact hl, Gr.write (List.mem_of_getElem? hm) hH trivial, s.write hm hH trivial ⟨C, dx, _, h0, upd_same, (rf.kp kp ⟨[], by simp⟩).put f (RU.kp kp ⟨[], by simp⟩ _ _ rw)⟩⟩
      · cases e
    · cases e
  · cases e
theorem ss_asg2 {c f g x : Str} {p1 p2 p3 p4 : Pos} (i : Nat) {fe : Ev} {value : Expr} (hc : X.calm = true) (kc : ClsF X.K X.mg c) (kf : FldF X.K X.mg c f) (kg : FldF X.K X.mg c g) (he : SE X W value fe) (hN : X.N[i]? = some x := by rfl)
    (hv : Vis X.env.scope x := by first | exact Or.inl rfl | exact Or.inr (Or.inl rfl) | exact Or.inr (Or.inr rfl)) (hd : (x == ("__debug__" : Str)) = false := by decide) (hcd : (x == ("__classdict__" : Str)) = false := by decide)
    (hs : swapsWithSole [.Tuple [.Attribute (.Name x p1) f p2, .Attribute (.Name x p3) g p4] kt pt] value pos.line X.env = pure false := by rfl) (hw : swappedStores [.Tuple [.Attribute (.Name x p1) f p2, .Attribute (.Name x p3) g p4] kt pt] value X.env = pure none := by rfl)
    (h1 : (assignEach [.Tuple [.Attribute (.Name x p1) f p2, .Attribute (.Name x p3) g p4] kt pt] X.env).map (·.2) = [assign (.Tuple [.Attribute (.Name x p1) f p2, .Attribute (.Name x p3) g p4] kt pt) X.env] := by rfl)
    (hn : (assignEach [.Attribute (.Name x p1) f p2, .Attribute (.Name x p3) g p4] X.env).length = 2 := by rfl) (hst : (assignEach [.Attribute (.Name x p1) f p2, .Attribute (.Name x p3) g p4] X.env).findIdx? (·.1) = none := by rfl)
    (ha1 : (assignEach [.Attribute (.Name x p1) f p2, .Attribute (.Name x p3) g p4] X.env).map (·.2) = assign (.Attribute (.Name x p1) f p2) X.env :: (assignEach [.Attribute (.Name x p3) g p4] X.env).map (·.2) := by rfl)
    (ha2 : (assignEach [.Attribute (.Name x p3) g p4] X.env).map (·.2) = assign (.Attribute (.Name x p3) g p4) X.env :: (assignEach [] X.env).map (·.2) := by rfl) :
    SS X W (.Assign [.Tuple [.Attribute (.Name x p1) f p2, .Attribute (.Name x p3) g p4] kt pt] value pos) (sAsg2 c f g i fe) :=
  have pgs := pgs_cons (pg_attr (f := f) (pos := p2) (pv (pos := p1) i hN hv hd hcd)) (pgs_cons (pg_attr (f := g) (pos := p4) (pv (pos := p3) i hN hv hd hcd)) pgs_nil ha2) ha1
  ⟨ps_imp (ps_asg he.pe (pg_or (pg_tup hc pgs hn hst) (pg_unl hc pgs hn hst)) hs hw h1) fun D σ H ⟨env, m, h, sta, sl, out⟩ => rd_then sta sl out fun u h1 v H1 m1 g1 s1 r1 out1 => by
    split at out1
    · rename_i a b o ei eo
      split at out1
      · rename_i h2 e2
        split at out1
        · rename_i h3 e3
          obtain ⟨p, vs, rfl, t1, rr⟩ := itemsOf_v s1 ei r1
          cases rr with
          | cons ra rb =>
            cases rb with
            | cons rb rc =>
              cases rc
              rename_i av bv
              obtain ⟨ov, eov, ro⟩ := (sl.gr g1).2 i o eo
              obtain ⟨ad, C, dx, fs, rfl, hC, hH, hl, gr2, sta2⟩ := setFld_v s1 e2 ro ra
              have ro2 := RU.kp gr2.kp gr2.pre _ _ ro
              have rb2 := RU.kp gr2.kp gr2.pre _ _ rb
              obtain ⟨ad', C', dx', fs', z, hC', hH', hl', gr3, sta3⟩ := setFld_v sta2 e3 ro2 rb2
              cases z
              have key : ∀ Q : L2.St → Hp → Prop, Q σ (upd (upd H1 ad (.ins C dx (putF f av fs))) ad (.ins C' dx' (putF g bv fs'))) → gCons (gAttr X.K (tVar i) f) (gCons (gAttr X.K (tVar i) g) gNil) [av, bv] σ H1 Q := fun Q q =>
                ⟨av, [bv], rfl, ⟨.ref ad, eov, ad, C, dx, fs, rfl, hH, kc.cls C hC, kf C hC, hl, bv, [], rfl, ⟨.ref ad, eov, ad, C', dx', fs', rfl, hH', kc.cls C' hC', kg C' hC', hl', rfl, q⟩⟩⟩
              have fin := (show ∀ σ' H' m', Gr H1 m1 H' m' → Sta X.K X.mg H' m' h3 → Sl X.K H' m' σ' env → D.nx σ' H' from out1) σ _ m1 (gr2.trans gr3) sta3 ((sl.gr g1).gr (gr2.trans gr3))
              rcases t1 with t1 | t1
              · exact .inl ⟨p, [av, bv], rfl, t1, rfl, key _ fin⟩
              · exact .inr ⟨p, [av, bv], rfl, t1, rfl, key _ fin⟩
        · exact out1.elim
      · exact out1.elim
    · exact out1.elim⟩
end
end Wk

/-! T12: what a class has, looked up in the written part; int(text). -/
namespace Wk
open PySem PySem.Spec PyProof.Rows L2
def clsBody : Stmt → List Stmt
  | .ClassDef _ _ _ body _ _ _ _ _ _ _ => body
  | _ => []
structure HasM (K : PySem.W.Frag) (mg : Str → Option Value) (c m q : Str) (st : Stmt) (ps : List Str) : Prop where
  ex : ∀ C, mg c = some (.ref C) → ∃ f fd, Meth K C m f ∧ Fun K m q st f fd ∧ ∀ us : List Value, us.length = ps.length → bindArgs fd ⟨us, []⟩ = pure (ps.zip us)
structure HasI (K : PySem.W.Frag) (mg : Str → Option Value) (c q : Str) (st : Stmt) (ps : List Str) : Prop where
  ex : ∃ C f fd, mg c = some (.ref C) ∧ Mk K C f ∧ Fun K "__init__" q st f fd ∧ ∀ us : List Value, us.length = ps.length → bindArgs fd ⟨us, []⟩ = pure (ps.zip us)
section
variable {P : Program} {w : World} {K : PySem.W.Frag} {mg : Str → Option Value} {base : Heap} {h : Heap}
theorem FnB.m {k : Nat} {c m q : Str} {st : Stmt} {ps : List Str} {F : SF} (z : FnB P w K mg base k m q st ps F) (hs : HasM K mg c m q st ps) : MetS P w K mg base k c m ps F := ⟨fun C hC => by
  obtain ⟨f, fd, h1, h2, h3⟩ := hs.ex C hC
  exact ⟨f, fd, h1, Binds.all h3, z f fd h2⟩⟩
theorem FnB.i {k : Nat} {c q : Str} {st : Stmt} {ps : List Str} {F : SF} (z : FnB P w K mg base k "__init__" q st ps F) (hs : HasI K mg c q st ps) : MkS P w K mg base k c ps F := by
  obtain ⟨C, f, fd, h0, h1, h2, h3⟩ := hs.ex
  exact ⟨C, f, fd, h0, h1, Binds.all h3, z f fd h2⟩
theorem hasM_mk {c m q : Str} {st : Stmt} {ps : List Str} {C f : Addr} {oc : Value} {od an : Option Addr} {osl : Array (Option Value)} {kV doc pm cdv ct : Value} (X : K.In h) (G : h.Ns mainGlobals mg)
    (hb : ∀ (kV doc pm : Value) (an : Option Addr) (cdv ct : Value) (us : List Value), us.length = ps.length → bindArgs (PySem.W.fnOf m q (defArgs st) (defBody st) (defScope st) .none kV doc pm an cdv ct) ⟨us, []⟩ = pure (ps.zip us))
    (a : PySem.W.nsIn K mainGlobals c = some (some (.ref C))) (at_ : PySem.W.findIn K (.ref C) m = some (some (.ref f))) (fn : PySem.W.isFn K (.ref f) = true)
    (l : K.lookup f = some ⟨oc, od, .func (PySem.W.fnOf m q (defArgs st) (defBody st) (defScope st) .none kV doc pm an cdv ct), osl⟩) (cd : PySem.W.codeIn K cdv q = true) (k : PySem.W.keepIn K (.ref f) = true) : HasM K mg c m q st ps :=
  ⟨fun C' hC' => by
    rw [PySem.W.mg_of X G a] at hC'
    cases hC'
    exact ⟨f, _, ⟨at_, fn, k⟩, fun_mk l cd k, hb _ _ _ _ _ _⟩⟩
theorem hasI_mk {c q : Str} {st : Stmt} {ps : List Str} {C f : Addr} {oc : Value} {od an : Option Addr} {osl : Array (Option Value)} {kV doc pm cdv ct : Value} (X : K.In h) (G : h.Ns mainGlobals mg)
    (hb : ∀ (kV doc pm : Value) (an : Option Addr) (cdv ct : Value) (us : List Value), us.length = ps.length → bindArgs (PySem.W.fnOf "__init__" q (defArgs st) (defBody st) (defScope st) .none kV doc pm an cdv ct) ⟨us, []⟩ = pure (ps.zip us))
    (a : PySem.W.nsIn K mainGlobals c = some (some (.ref C))) (at_ : PySem.W.findIn K (.ref C) "__init__" = some (some (.ref f))) (fn : PySem.W.isFn K (.ref f) = true)
    (l : K.lookup f = some ⟨oc, od, .func (PySem.W.fnOf "__init__" q (defArgs st) (defBody st) (defScope st) .none kV doc pm an cdv ct), osl⟩) (cd : PySem.W.codeIn K cdv q = true) (k : PySem.W.keepIn K (.ref f) = true)
    (mk : PySem.W.makesIn K C = true) (kc : PySem.W.keepIn K (.ref C) = true) : HasI K mg c q st ps :=
  ⟨C, f, _, PySem.W.mg_of X G a, ⟨mk, at_, fn, kc⟩, fun_mk l cd k, hb _ _ _ _ _ _⟩
theorem clsF_mk {c : Str} {C : Addr} (X : K.In h) (G : h.Ns mainGlobals mg) (a : PySem.W.nsIn K mainGlobals c = some (some (.ref C))) (p1 : PySem.W.plainGet K C Str.empty = true) (p2 : PySem.W.hasDictIn K C = true) (p3 : PySem.W.plainOver K C = true)
    (p4 : PySem.W.findIn K (.ref C) "__setattr__" = some (some (.builtin "object.__setattr__"))) : ClsF K mg c := ⟨fun C' hC' => by
  rw [PySem.W.mg_of X G a] at hC'
  cases hC'
  exact ⟨p1, p2, p3, p4⟩⟩
theorem clsX_mk {c : Str} {C : Addr} (X : K.In h) (G : h.Ns mainGlobals mg) (a : PySem.W.nsIn K mainGlobals c = some (some (.ref C))) : ∃ C, mg c = some (.ref C) := ⟨C, PySem.W.mg_of X G a⟩
theorem fldF_mk {c f : Str} {C : Addr} (X : K.In h) (G : h.Ns mainGlobals mg) (a : PySem.W.nsIn K mainGlobals c = some (some (.ref C))) (n : PySem.W.findIn K (.ref C) f = some none) : FldF K mg c f := fun C' hC' => by
  rw [PySem.W.mg_of X G a] at hC'
  cases hC'
  exact n
theorem excC_mk {c : Str} {C : Addr} (X : K.In h) (G : h.Ns mainGlobals mg) (a : PySem.W.nsIn K mainGlobals c = some (some (.ref C)))
    (p1 : PySem.W.excIn K C [.type "ValueError", .type "Exception", .type "BaseException", .type "object"] "ValueError.__new__" = true) (p2 : PySem.W.keepIn K (.ref C) = true) (p3 : PySem.W.subIn K (.ref C) (.type "BaseException") = some true)
    (p4 : PySem.W.typeIn K (.ref C) = some (.type "type")) : ExcC K mg c := ⟨C, PySem.W.mg_of X G a, p1, p2, p3, p4⟩
/-- a table of whether an exception of the first class is one of the second -/
def mtOf (l : List (Str × Str × Bool)) : Str → Str → Option Bool := fun c d => (l.find? fun z => z.1 == c && z.2.1 == d).map fun z => z.2.2
def MtOne (K : PySem.W.Frag) (mg : Str → Option Value) (c d : Str) (b : Bool) : Prop := ∀ C D, mg c = some (.ref C) → mg d = some (.ref D) → PySem.W.exmOne K (.ref C) (.ref D) = some b
theorem mtOne_mk {c d : Str} {b : Bool} {C D : Addr} (X : K.In h) (G : h.Ns mainGlobals mg) (a : PySem.W.nsIn K mainGlobals c = some (some (.ref C))) (a' : PySem.W.nsIn K mainGlobals d = some (some (.ref D))) (e : PySem.W.exmOne K (.ref C) (.ref D) = some b) : MtOne K mg c d b := fun C' D' h1 h2 => by
  rw [PySem.W.mg_of X G a] at h1
  rw [PySem.W.mg_of X G a'] at h2
  cases h1
  cases h2
  exact e
theorem mtOk_mk {l : List (Str × Str × Bool)} (z : ∀ x ∈ l, MtOne K mg x.1 x.2.1 x.2.2) : MtOk K mg (mtOf l) := fun c d b e C D h1 h2 => by
  unfold mtOf at e
  cases q : l.find? fun z => z.1 == c && z.2.1 == d with
  | none => rw [q] at e; cases e
  | some y =>
    rw [q] at e
    cases e
    have hy := List.find?_some q
    rw [Bool.and_eq_true] at hy
    have e1 : y.1 = c := eq_of_beq hy.1
    have e2 : y.2.1 = d := eq_of_beq hy.2
    have := z y (List.mem_of_find?_eq_some q) C D
    rw [e1, e2] at this
    exact this h1 h2
end
/-! ### int(text) -/
noncomputable def fIntX (us : List U) (h : Sto) : Res U := match us with
  | [u] => (match strOf u with
    | some x => (match PySem.intText? x with
      | some n => if x.length ≤ 640 then .ok (.d (.int n)) h else .stuck
      | none => .stuck)
    | none => fInt [u] h)
  | _ => .stuck
section
variable {X : Cx} {W : WX}
theorem call_intX : CallR X (.type "int") (fun xs H Q => ((∃ i, xs = [.int i] ∧ Q (.int i) H) ∨ ∃ k, xs = [.bl k] ∧ Q (.int (if k then 1 else 0)) H) ∨ ∃ a n, xs = [.str a] ∧ PySem.intText? a = some n ∧ a.length ≤ 640 ∧ Q (.int n) H) := call_int1.or call_int_str
theorem ab_intX : AbC X W fIntX (fun xs H Q => ((∃ i, xs = [.int i] ∧ Q (.int i) H) ∨ ∃ k, xs = [.bl k] ∧ Q (.int (if k then 1 else 0)) H) ∨ ∃ a n, xs = [.str a] ∧ PySem.intText? a = some n ∧ a.length ≤ 640 ∧ Q (.int n) H) := by
  intro σ H m h xs us Q s r out
  unfold fIntX at out
  split at out
  · rename_i u
    split at out
    · rename_i x ex
      cases r with
      | cons ru rn =>
        cases rn
        split at out
        · rename_i n en
          split at out
          · rename_i hl
            exact .inr ⟨x, n, by rw [strOf_v ex ru], en, hl, Out.here (b := V.int _) out s (.d (.int _))⟩
          · exact out.elim
        · exact out.elim
    · exact .inl (ab_intOf σ H m h xs [u] Q s r out)
  · exact out.elim
end
end Wk

/-! T13: comprehensions whose element raises (out of a call). -/
namespace Wk
open PySem PySem.Spec PyProof.Rows L2
/-- an exception that came out of a call, in the air of X -/
def XF (X : Cx) (W : WX) (u : Value) (t : Shared) : Prop :=
  ∃ (a : Addr) (G : Heap) (tI : Shared) (pp : List (Addr × Obj)) (ρ : L2.St) (J : Hp) (cls : Value) (d : Option Addr),
    u = .ref a ∧ Inv X pp ρ J tI ∧ (∀ b o, tI.heap.get? b = some o → b ∉ frs X.stack → G.get? b = some o) ∧ tI.heap.UpToSlots t.heap ∧
      HandSPX.FlyingZ G X.stack a (Zc cls d) t.heap ∧ J a = none ∧ t.os = tI.os ∧ AllBare t.gens ∧ W cls d ρ J
theorem sky_flying {G G0 : Heap} {l : List Env} {a L : Addr} {Z Z0 : Obj → Prop} {h : Heap} (x : Sky G l a Z L h) (y : HandSPX.FlyingZ G0 l a Z0 h) : HandSPX.FlyingZ G l a Z h := by
  obtain ⟨_, _, _, oe, vs, T, oT, ts, he, hz, hd, h1, hnT, hTe, hT, hdT, h3⟩ := y
  rcases x with ⟨_, _, _, oe', vs', he', _, hd', h1'⟩ | x | ⟨_, _, _, oe', vs', T', oT', ts', he', _, hd', h1', _, _, hT', hdT', h3'⟩
  · rw [he] at he'; cases he'
    rw [hd] at hd'; cases hd'
    rw [h1] at h1'; cases h1'
  · exact x
  · rw [he] at he'; cases he'
    rw [hd] at hd'; cases hd'
    rw [h1] at h1'; cases h1'
    rw [hT] at hT'; cases hT'
    rw [hdT] at hdT'; cases hdT'
    rw [h3] at h3'; cases h3'
theorem XF.of_call {X : Cx} {W : WX} {pp : List (Addr × Obj)} {ρ : L2.St} {J : Hp} {t t' : Shared} {E : XK} {u : Value} (I : Inv X pp ρ J t) (hW : ∀ cls d J', E cls d J' → W cls d ρ J') (c : CX X.prog X.w X.stack J t E u t') : XF X W u t' := by
  obtain ⟨a, G, tI, pp', ρ', J', cls, d, ea, I', nb, up, sky, na, os, ag, w⟩ := XE.of_call I hW c
  obtain ⟨a0, G0, _, _, _, ea0, fl, _⟩ := c
  rw [ea] at ea0
  cases ea0
  exact ⟨a, G, tI, pp', ρ', J', cls, d, ea, I', nb, up, sky_flying sky fl, na, os, ag, w⟩
/-- out of the comprehension's block into the def -/
theorem comp_fails {X : Cx} {W : WX} {pp : List (Addr × Obj)} {ρ : L2.St} {J3 : Hp} {t3 t' : Shared} {scope : Scope} {cl : List (Str × Addr)} {C : Addr} {fp : List Addr} {u : Value} (hs : X.stack = X.env :: X.outer) (hf : X.env.frame = some X.env.locals) (tk : Takes X W)
    (I3 : Inv X pp ρ J3 t3) (hC : t3.heap.objs.size ≤ C) (f3 : ∀ b ∈ fp, FpOk X pp J3 b) (x : XF (X.blk t3 J3 scope (compEnvC scope cl C X.env) fp) (fun cls d _ J => W cls d ρ J) u t') :
    notedBy (model X.prog X.w) X.A (compEnvC scope cl C X.env) (CompFails (model X.prog X.w) X.A X.xe (compEnvC scope cl C X.env)) u t' := by
  obtain ⟨a, G, tI, pp', ρ', J, cls, d, rfl, I, nb, up, fl, na, os, ag, w⟩ := x
  have st : (X.blk t3 J3 scope (compEnvC scope cl C X.env) fp).stack = X.stack := rfl
  rw [st] at nb fl
  have hfr : X.A.frames = some (X.env :: X.outer) := by rw [I3.ok.frames, hs]
  have IX : Inv X pp ρ J tI := I3.call' (ch := fp) I.os I.base I.hok I.bare fun b hb => ⟨(f3 b hb).2.2.2.1, (f3 b hb).2.1, (f3 b hb).2.2.2.2.1, (f3 b hb).2.2.2.2.2⟩
  have nC : J C = none := I.free
  have fC : FpOk X pp J C := I3.fpOk hC nC
  obtain ⟨mm, hn, _⟩ := I.loc
  have hn : tI.heap.Ns C mm := hn
  show wpAny _ _ (noteFrame (.ref a) _) _ _ t'
  rw [noteFrame_env (.ref a) (show (compEnvC scope cl C X.env).frame = X.env.frame from rfl)]
  rw [hs] at fl
  refine HandSPX.looks_onZ Zc.steady hfr hf fl fun h1 held up1 => ?_
  have up' : tI.heap.UpToSlots h1 := up.trans up1
  have hn1 : h1.Ns C mm := hn.upToSlots fun b o e nf => up' b o e nf
  refine ⟨mm, hn1, fun h2 m2 hn2 sb => ?_⟩
  obtain ⟨g1, g2, g3, oe, vs, T, oT, ts, he, hz, hd, e1, hnT, hTe, hT, hdT, e3⟩ := held
  have aC : a ≠ C := fun z => by
    obtain ⟨oL, es, ep, hoL, hdL, _⟩ := hn1
    rw [← z, he] at hoL
    cases hoL
    rw [hd] at hdL
    cases hdL
  have TC : T ≠ C := fun z => by
    obtain ⟨oL, es, ep, hoL, hdL, _⟩ := hn1
    rw [← z, hT] at hoL
    cases hoL
    rw [hdT] at hdL
    cases hdL
  have he2 : h2.get? a = some oe := (sb.2 a aC).trans he
  have hT2 : h2.get? T = some oT := (sb.2 T TC).trans hT
  unfold PySem.passOn
  refine wpAny_bind (wpAny_field he2 hd e1 ?_)
  rw [if_neg (show ¬ ((Value.ref T == Value.none) = true) from by simp)]
  have hfc : (compEnvC scope cl C X.env).frame = some X.env.locals := hf
  rw [hfc]
  have sz3 : 3 < ts.size := (Array.getElem?_eq_some_iff.mp e3).1
  have goal : X.xe (.ref a) { t' with heap := h2 } := by
    refine tk _ _ ⟨a, PySem.W.hideAll G [C], { tI with heap := PySem.W.hideAll tI.heap [C] }, pp, ρ, J, cls, d, rfl, ?_, fun b o e hb => ?_, fun b o e nf => ?_, .inr (.inr ⟨fun b o e => ?_, ?_, ?_, oe, vs, T, oT, ts, he2, hz, hd, e1, ?_, hTe, hT2, hdT, e3⟩), na, os, ag, w⟩
    · obtain ⟨f0, f1, f2, f4, f5, f6⟩ := fC
      exact IX.turned (t' := tI.toks) (fun b o hb e => PySem.W.hideAll_get _ e (by simpa using hb)) f0 f1 f4 f5 f6
    · have e' := PySem.W.of_hideAll _ e
      have bC : b ∉ [C] := fun z => by
        rw [PySem.W.hideAll_none _ z] at e
        cases e
      exact PySem.W.hideAll_get _ (nb b o e' hb) bC
    · have e' := PySem.W.of_hideAll _ e
      have bC : b ≠ C := fun z => by
        have e : (PySem.W.hideAll tI.heap [C]).get? b = some o := e
        rw [PySem.W.hideAll_none _ (by simp [z])] at e
        cases e
      obtain ⟨sl, q⟩ := up' b o e' nf
      exact ⟨sl, (sb.2 b bC).trans q⟩
    · have e' := PySem.W.of_hideAll _ e
      have bC : b ≠ C := fun z => by
        rw [PySem.W.hideAll_none _ (by simp [z])] at e
        cases e
      exact (sb.2 b bC).trans (g1 b o e')
    · cases q : (PySem.W.hideAll G [C]).get? a with
      | none => rfl
      | some o =>
        have z := PySem.W.of_hideAll _ q
        rw [g2] at z
        cases z
    · rw [hs]
      refine funFrames_none (Heap.FunFrames.sameBut sb hn2 g3) fun b hb => ?_
      cases q : (PySem.W.hideAll G [C]).get? b with
      | none => rfl
      | some o =>
        have z := PySem.W.of_hideAll _ q
        rw [(g3.mem hb).1] at z
        cases z
    · cases q : (PySem.W.hideAll G [C]).get? T with
      | none => rfl
      | some o =>
        have z := PySem.W.of_hideAll _ q
        rw [hnT] at z
        cases z
  refine wpAny_bind ?_
  unfold setFlight
  refine wpAny_bind (wpAny_field he2 hd e1 ?_)
  rw [if_pos (show (Value.ref T != Value.none) = true from by simp)]
  show wpAny _ _ (setField (.ref T) 3 (rawInt X.env.locals)) _ _ _
  refine wpAny_setField hT2 hdT sz3 ?_
  have same : h2.update T (Obj.mapFields (·.setIfInBounds 3 (rawInt X.env.locals))) = h2 := Heap.update_setField_same h2 T oT ts 3 (rawInt X.env.locals) hT2 hdT e3
  dsimp only
  rw [same]
  exact wpAny_throw goal
section
variable {X : Cx}
/-- like the kit's reading of a comprehension; te by the wish about exceptions -/
def tLcX (wi : TI) (g : TG) (tt : TT) (te : WX → TE) (vs : List Nat) (W : WX) : TE := fun ρ H0 Q => wi ρ H0 fun J H1 => ∀ A, H1 A = none → ∃ M : Nat → Nat → Hp → Prop, (∃ k, M 0 k (upd H1 A (.lst []))) ∧ ∀ i k Ha, M i k Ha →
  (J.stop i Ha ∧ Q (.ref A) Ha) ∨ (J.go i Ha ∧ ∃ Y : Hp → Prop, (∀ Hb, Y Hb → ∃ k', k' < k ∧ M (i + 1) k' Hb) ∧ ∀ x Hb, J.yld i Ha x Hb → g x (wipe ρ vs) Hb fun ρ2 H2 => wipe ρ2 vs = wipe ρ vs ∧ tt ρ2 H2 fun b H3 =>
    if b = true then te (fun cls d _ Hc => W cls d ρ Hc) ρ2 H3 fun y H4 => ∃ acc, H4 A = some (.lst acc) ∧ acc.length < sizeLine ∧ Y (upd H4 A (.lst (acc ++ [y]))) else Y H3)
theorem lc_coreX {pp : List (Addr × Obj)} {s0 : Shared} {ρ : L2.St} {H0 : Hp} {Q : VK} {W : WX} {elt tg iter : Expr} {ifs : List Expr} {scope : Scope} {own : List (Str × Nat)} {pos pos' : Pos} {wi : TI} {g : TG} {tt : TT} {te : WX → TE} {use : Option (Value → Sem Unit)} {Qf : Value → Shared → Prop}
    (hs : X.stack = X.env :: X.outer) (hf : X.env.frame = some X.env.locals) (tk : Takes X W) (hc : X.calm = true) (hN : X.N.Nodup) (I : Inv X pp ρ H0 s0) (hi : PI X tg iter wi) (ok : BlkOk X.N X.env.scope scope own)
    (hg : ∀ (s : Shared) (H : Hp) (B : Addr) (cl : List (Str × Addr)) (fp : List Addr), PG (X.blk s H scope (compEnvC scope cl B X.env) fp) tg g)
    (ht : ∀ (s : Shared) (H : Hp) (B : Addr) (cl : List (Str × Addr)) (fp : List Addr), PTs (X.blk s H scope (compEnvC scope cl B X.env) fp) ifs tt)
    (he : ∀ (s : Shared) (H : Hp) (B : Addr) (cl : List (Str × Addr)) (fp : List Addr) (Wb : WX) (pn : List (Addr × Obj)) (xe : Value → Shared → Prop), TakesC ((X.blk s H scope (compEnvC scope cl B X.env) fp).tr pn xe) Wb → PE ((X.blk s H scope (compEnvC scope cl B X.env) fp).tr pn xe) elt (te Wb))
    (hfs : ∀ x, foldedSetIterable iter X.env x = pure x) (h : tLcX wi g tt te (own.map (·.2)) W ρ H0 Q)
    (hE : ∀ (A : Addr) (cenv : Env) (s' : Addr × Shared) (mm : Str → Option Value) (H' : Hp), cenv.locals = s'.1 → Inv X pp ρ H' s'.2 → Q (.ref A) H' → s'.2.heap.Ns s'.1 mm → FpOk X pp H' s'.1 → compEnds (model X.prog X.w) X.A X.xe use Qf (.ref A) cenv (.ok .next) s'.2) :
    wpAny (model X.prog X.w) X.A (comprehension (.ListComp elt [⟨tg, iter, ifs, 0⟩] scope pos) scope X.env pos' (newList []) false (eval iter X.env) use) Qf X.xe s0 := by
  have capt : ∀ y ∈ scope.names, y.2 = .free → ∃ c, X.env.cells.lookup y.1 = some c := fun y hy e => (ok.free y hy e).elim (fun k => I.ok.has _ (.inl k)) fun k => I.ok.has _ (.inr k)
  refine comprehension_at (use := use) rfl hfs (closure_ok capt) ok.kind (fun y hy e => by rw [ok.uniq y hy, e]) (thn (hi.run pp s0 ρ H0 _ I h) fun xv s1 hx => thn hx fun itv s2 h2 => ?_)
  obtain ⟨it, fp, tn, J, H2, rfl, I2, T, st2, f2, q⟩ := h2
  refine wpAny_newObj_type (newEnv_comp ?_) (by show 0 ≤ sizeLine; decide)
  generalize hA : s2.heap.objs.size = A
  have nA : H2 A = none := I2.hok.fresh (Nat.le_of_eq hA)
  obtain ⟨M, ⟨k0, w0⟩, turn⟩ := q A nA
  generalize hs3 : ({ s2 with heap := s2.heap.push { cls := .type "list", data := .seq ([] : List Value).toArray } } : Shared) = s3
  have e3 : s3.heap = s2.heap.push { cls := .type "list", data := .seq ([] : List Value).toArray } := by rw [← hs3]
  have I3 : Inv X pp ρ (upd H2 A (.lst [])) s3 := by
    rw [← hs3]
    refine I2.laid (t' := s2.toks) (fun b o z => Heap.get?_push_of_some _ z) (Nat.le_of_eq hA) ⟨Nat.zero_le _, [], 0, .nil, ?_⟩
    rw [← hA]
    exact Heap.get?_push_size _ rfl
  have below : ∀ b ∈ fp, b < s2.heap.objs.size := fun b hb => by
    obtain ⟨o, z, _⟩ := T.obj _ _ st2 b hb
    exact Heap.lt_size z
  have f3 : ∀ b ∈ fp, FpOk X pp (upd H2 A (.lst [])) b ∧ b < s3.heap.objs.size := fun b hb => ⟨⟨by rw [upd_ne (by rw [← hA]; exact Nat.ne_of_lt (below b hb))]; exact (f2 b hb).1, (f2 b hb).2⟩, by rw [e3, Heap.size_push]; exact Nat.lt_succ_of_lt (below b hb)⟩
  have st3 : tn 0 s3.heap := T.keep _ _ _ st2 fun b _ o z => by rw [e3]; exact Heap.get?_push_of_some _ z
  have I4 := block_start I3 ok hN f3
  generalize hcl : cellsFrom (s3.heap.objs.size + 1) scope.names (cloFrom X.env.cells scope.names []) = cl at I4
  have pg := hg s3 (upd H2 A (.lst [])) s3.heap.objs.size cl fp
  have pt := ht s3 (upd H2 A (.lst [])) s3.heap.objs.size cl fp
  have pe := he s3 (upd H2 A (.lst [])) s3.heap.objs.size cl fp
  have fails := fun (u : Value) (t' : Shared) => comp_fails (u := u) (t' := t') (scope := scope) (cl := cl) hs hf tk I3 (Nat.le_refl _) (fun b hb => (f3 b hb).1)
  have nfp : ∀ b ∈ fp, (upd H2 A (.lst [])) b = none := fun b hb => (f3 b hb).1.1
  show codeAny _ _ (.compStart (.ListComp elt [⟨tg, iter, ifs, 0⟩] scope pos) 0 (.ref it) (.ref A) (compEnvC scope cl s3.heap.objs.size X.env)) (compEnds (model X.prog X.w) X.A X.xe use Qf (.ref A) (compEnvC scope cl s3.heap.objs.size X.env)) { s3 with heap := pushCells (s3.heap.push { cls := .type "dict", data := .dict #[] }) scope.names }
  generalize hce : compEnvC scope cl s3.heap.objs.size X.env = ce at I4 pg pt pe fails ⊢
  have cL : ce.locals = s3.heap.objs.size := by subst hce; rfl
  generalize hH3 : upd H2 A (.lst []) = H3 at I3 I4 pg pt pe w0 nfp f3 fails
  generalize hs4 : ({ s3 with heap := pushCells (s3.heap.push { cls := .type "dict", data := .dict #[] }) scope.names } : Shared) = s4 at I4 ⊢
  have st4 : tn 0 s4.heap := T.keep _ _ _ st3 fun b _ o z => by rw [← hs4]; exact pushCells_keeps _ _ _ _ (Heap.get?_push_of_some _ z)
  have stat : ∀ {ρ' : L2.St} {H' : Hp} {s' : Shared}, Inv (X.blk s3 H3 scope ce fp) [] ρ' H' s' → (∀ b ∈ fp, H' b = none) → ∀ b ∈ fp, FpOk (X.blk s3 H3 scope ce fp) [] H' b := fun {ρ' H' s'} Z hn b hb =>
    ⟨hn b hb, (Z.ok.exf b hb).1, Z.ok.exfs b hb, .inl hb, fun x c z => (Z.ok.exf b hb).2 x c z, fun p hp => absurd (show p ∈ ([] : List (Addr × Obj)) ++ [] from hp) (by simp)⟩
  have loop : codeAny (model X.prog X.w) X.A (.compLoop (.ListComp elt [⟨tg, iter, ifs, 0⟩] scope pos) 0 (.ref it) (.ref A) ce) (compEnds (model X.prog X.w) X.A X.xe use Qf (.ref A) ce) s4 := by
    refine compLoop_any (fun k s' => ∃ i H', Inv (X.blk s3 H3 scope ce fp) [] (wipe ρ (own.map (·.2))) H' s' ∧ tn i s'.heap ∧ (∀ b ∈ fp, H' b = none) ∧ M i k H') ?_ k0 ⟨0, H3, I4, st4, nfp, w0⟩
    rintro k s5 ⟨i, H5, I5, st5, n5, w5⟩
    rcases turn i k H5 w5 with ⟨stop, qq⟩ | ⟨go, Y, hY, step⟩
    · refine thnF (T.done (X.blk s3 H3 scope ce fp) rfl rfl rfl hc i [] s5 _ H5 (fun _ _ => False) I5 (stat I5 n5) st5 stop) fun r s6 ⟨hr, I6⟩ => ?_
      subst hr
      have I7 : Inv X pp ρ H5 s6 := I3.call' (ch := fp) I6.os I6.base I6.hok I6.bare fun b hb => ⟨(f3 b hb).1.2.2.2.1, (f3 b hb).1.2.1, (f3 b hb).1.2.2.2.2.1, (f3 b hb).1.2.2.2.2.2⟩
      have nC : H5 ce.locals = none := I6.free
      rw [cL] at nC
      obtain ⟨mm, hn, _⟩ := I6.loc
      have hn : s6.heap.Ns ce.locals mm := hn
      rw [cL] at hn
      exact hE A ce (s3.heap.objs.size, s6) mm H5 cL I7 qq hn (I3.fpOk (Nat.le_refl _) nC)
    · refine thnF (T.item (X.blk s3 H3 scope ce fp) rfl rfl rfl hc i [] s5 _ H5 (fun _ _ => False) I5 (stat I5 n5) st5 go) fun r s6 ⟨u, hr, h6⟩ => ?_
      subst hr
      refine thnF h6 fun _ s7 ⟨x, H7, I7, r7, y7, st7, n7⟩ => ?_
      refine thnF (pg.run _ s7 _ H7 x u _ (I7.pinned (stat I7 n7) (T.obj _ _ st7)) r7 (step x H7 y7)) fun _ s8 ⟨ρ8, H8, I8, hw8, q8⟩ => ?_
      refine thnF (pt.run _ s8 ρ8 H8 _ I8 q8) fun b s9 ⟨H9, I9, q9⟩ => ?_
      have fin : ∀ {s' : Shared} {H' : Hp}, Inv (X.blk s3 H3 scope ce fp) ([] ++ pinsAt fp s7.heap) ρ8 H' s' → Y H' → ∃ k', k' < k ∧ ∃ i H', Inv (X.blk s3 H3 scope ce fp) [] (wipe ρ (own.map (·.2))) H' s' ∧ tn i s'.heap ∧ (∀ b ∈ fp, H' b = none) ∧ M i k' H' := fun {s' H'} Z yy => by
        obtain ⟨k', hk, w'⟩ := hY H' yy
        have there : ∀ b ∈ fp, ∀ o, s7.heap.get? b = some o → s'.heap.get? b = some o ∧ H' b = none := fun b hb o z =>
          have y := Z.pin (b, o) (List.mem_append_right _ (List.mem_append_right _ (mem_pinsAt hb z)))
          ⟨y.1, y.2.1⟩
        refine ⟨k', hk, i + 1, H', (Z.unpinned (pins := [])).weak (by rw [← hw8, wipe_length]) (fun j v z => ?_), T.keep _ _ _ st7 fun b hb o z => (there b hb o z).1, fun b hb => ?_, w'⟩
        · rw [← hw8] at z
          exact (wipe_some z).1
        · obtain ⟨o, z, _⟩ := T.obj _ _ st7 b hb
          exact (there b hb o z).2
      cases b with
      | false =>
        simp only [Bool.false_eq_true, if_false] at q9 ⊢
        exact fin I9 q9
      | true =>
        simp only [if_true] at q9 ⊢
        generalize hpn : (X.blk s3 H3 scope ce fp).pn ++ ([] ++ pinsAt fp s7.heap) = pn9
        have I9' : Inv ((X.blk s3 H3 scope ce fp).tr pn9 (XF (X.blk s3 H3 scope ce fp) (fun cls d _ Hc => W cls d ρ Hc))) [] ρ8 H9 s9 := by
          rw [← hpn]
          exact I9.toTry _
        have back : ∀ {pn' : List (Addr × Obj)} {ρ' : L2.St} {H' : Hp} {s' : Shared}, Inv ((X.blk s3 H3 scope ce fp).tr pn9 (XF (X.blk s3 H3 scope ce fp) (fun cls d _ Hc => W cls d ρ Hc))) pn' ρ' H' s' → Inv (X.blk s3 H3 scope ce fp) ([] ++ pinsAt fp s7.heap) ρ' H' s' := fun {pn' ρ' H' s'} Z => by
          rw [← hpn] at Z
          exact Z.ofTry I9.ok
        have tkc : TakesC ((X.blk s3 H3 scope ce fp).tr pn9 (XF (X.blk s3 H3 scope ce fp) (fun cls d _ Hc => W cls d ρ Hc))) (fun cls d _ Hc => W cls d ρ Hc) := fun ρ' pp' Ha sa ev sb Ia c => XF.of_call (back Ia) (fun _ _ _ z => z) c
        have run := (pe (fun cls d _ Hc => W cls d ρ Hc) pn9 _ tkc).run [] s9 ρ8 H9 _ I9' q9
        refine wpAny_mono run (fun z s10 ⟨yv, H10, I10, r10, acc, hA10, hz10, yy⟩ => ?_) fun u t' x => fails u t' x
        exact app_ok (X := X.blk s3 H3 scope ce fp) (back I10) hA10 hz10 r10 fun s11 I11 => fin I11 yy
  exact codeAny_compStart_list loop (T.self X.A 0 _ _ _ st4 loop)
/-- the comprehension as a value -/
theorem pe_lcX {W : WX} {elt tg iter : Expr} {ifs : List Expr} {scope : Scope} {own : List (Str × Nat)} {pos : Pos} {wi : TI} {g : TG} {tt : TT} {te : WX → TE} (hs : X.stack = X.env :: X.outer) (hf : X.env.frame = some X.env.locals) (tk : Takes X W) (hc : X.calm = true) (hN : X.N.Nodup) (hi : PI X tg iter wi) (ok : BlkOk X.N X.env.scope scope own)
    (hg : ∀ (s : Shared) (H : Hp) (B : Addr) (cl : List (Str × Addr)) (fp : List Addr), PG (X.blk s H scope (compEnvC scope cl B X.env) fp) tg g)
    (ht : ∀ (s : Shared) (H : Hp) (B : Addr) (cl : List (Str × Addr)) (fp : List Addr), PTs (X.blk s H scope (compEnvC scope cl B X.env) fp) ifs tt)
    (he : ∀ (s : Shared) (H : Hp) (B : Addr) (cl : List (Str × Addr)) (fp : List Addr) (Wb : WX) (pn : List (Addr × Obj)) (xe : Value → Shared → Prop), TakesC ((X.blk s H scope (compEnvC scope cl B X.env) fp).tr pn xe) Wb → PE ((X.blk s H scope (compEnvC scope cl B X.env) fp).tr pn xe) elt (te Wb))
    (hfs : ∀ x, foldedSetIterable iter X.env x = pure x := by intro _; rfl) : PE X (.ListComp elt [⟨tg, iter, ifs, 0⟩] scope pos) (tLcX wi g tt te (own.map (·.2)) W) := by
  refine ⟨fun pp s0 ρ H0 Q I h => ?_⟩
  rw [eval_ListComp]
  refine lc_coreX hs hf tk hc hN I hi ok hg ht he hfs h fun A cenv ⟨C, s'⟩ mm H' hC I' q hn f => ⟨mm, by rw [hC]; exact hn, fun h'' sb => ?_⟩
  obtain ⟨f0, f1, f2, f3, f4, f5⟩ := f
  rw [hC] at sb
  exact ⟨.ref A, H', I'.turned (t' := s'.toks) (fun b o hb e => (sb.2 b hb).trans e) f0 f1 f3 f4 f5, rfl, q⟩
/-- y = [..] -/
theorem ps_setLcX {W : WX} {i : Nat} {y : Str} {py spos : Pos} {elt tg iter : Expr} {ifs : List Expr} {scope : Scope} {own : List (Str × Nat)} {pos : Pos} {wi : TI} {g : TG} {tt : TT} {te : WX → TE} (hs : X.stack = X.env :: X.outer) (hf : X.env.frame = some X.env.locals) (tk : Takes X W) (hc : X.calm = true) (hN : X.N.Nodup)
    (hy : X.N[i]? = some y) (hyl : X.env.scope.names.lookup y = some .local) (hsw : swapsWith (.ListComp elt [⟨tg, iter, ifs, 0⟩] scope pos) (some (.Name y py)) spos.line X.env = pure true) (hi : PI X tg iter wi) (ok : BlkOk X.N X.env.scope scope own)
    (hg : ∀ (s : Shared) (H : Hp) (B : Addr) (cl : List (Str × Addr)) (fp : List Addr), PG (X.blk s H scope (compEnvC scope cl B X.env) fp) tg g)
    (ht : ∀ (s : Shared) (H : Hp) (B : Addr) (cl : List (Str × Addr)) (fp : List Addr), PTs (X.blk s H scope (compEnvC scope cl B X.env) fp) ifs tt)
    (he : ∀ (s : Shared) (H : Hp) (B : Addr) (cl : List (Str × Addr)) (fp : List Addr) (Wb : WX) (pn : List (Addr × Obj)) (xe : Value → Shared → Prop), TakesC ((X.blk s H scope (compEnvC scope cl B X.env) fp).tr pn xe) Wb → PE ((X.blk s H scope (compEnvC scope cl B X.env) fp).tr pn xe) elt (te Wb))
    (hfs : ∀ x, foldedSetIterable iter X.env x = pure x := by intro _; rfl) : PS X (.Assign [.Name y py] (.ListComp elt [⟨tg, iter, ifs, 0⟩] scope pos) spos) (tAsg (tLcX wi g tt te (own.map (·.2)) W) (gName i)) := by
  refine ⟨fun pp s0 ρ H0 D I h => ?_⟩
  rw [exec_Assign_Name_used _ _ _ _ hsw]
  refine wpAny_bind (wpAny_standAt (wpAny_bind ?_))
  show wpAny _ X.A (do let _ ← comprehension (.ListComp elt [⟨tg, iter, ifs, 0⟩] scope pos) scope X.env _ (newList []) false (eval iter X.env) (some (assign (.Name y py) X.env))) _ _ s0
  have h' : tLcX wi g tt te (own.map (·.2)) W ρ H0 (fun x H1 => gName i x ρ H1 D.nx) := h
  refine wpAny_bind (thn (lc_coreX (Qf := fun _ t => SP X pp D .next t) hs hf tk hc hN I hi ok hg ht he hfs h' fun A cenv ⟨C, t⟩ mm H' hC I' q hn f => ?_) fun _ t hq => wpAny_pure (wpAny_pure hq))
  show wpAny _ _ (assign (.Name y py) X.env (.ref A)) _ _ _
  refine wpAny_assign_Name (store_ok2 (v := V.ref A) I' hN hy (.inl hyl) rfl (fun s2 I2 ⟨a, sb, ha⟩ => ?_) (.inr hyl))
  obtain ⟨f0, f1, f2, f3, f4, f5⟩ := f
  have nCa : C ≠ a := by
    rcases ha with z | z
    · rw [z]; exact f1
    · exact fun e => f4 y a z e.symm
  refine ⟨mm, by rw [hC]; exact hn.sameBut sb nCa, fun h3 sb3 => ?_⟩
  rw [hC] at sb3
  exact ⟨_, H', I2.turned (t' := s2.toks) (fun b o hb e => (sb3.2 b hb).trans e) f0 f1 f3 f4 f5, q⟩
end
/-! ### its function -/
noncomputable def lcGoX (t : Tg) (c : Eb) (e : Ev) (env : Env') : List U → List D → Sto → Res (List D)
  | [], acc, h => .ok acc h
  | u :: us, acc, h => match t u env h with
    | some env1 => (c env1 h).noExc.bind fun k h1 => (match k with
      | true => (e env1 h1).bind fun w h2 => (match w with
        | .d x => if fits (acc.length + 1) then lcGoX t c e env us (acc ++ [x]) h2 else .stuck
        | _ => .stuck)
      | false => lcGoX t c e env us acc h1)
    | none => .stuck
noncomputable def eLcX (b : Bool) (vs : List Nat) (it : Ea) (t : Tg) (c : Eb) (e : Ev) : Ev := fun env h => (it env h).bind fun us h1 => (lcGoX t c e (wipeE env vs) us [] h1).bind fun xs h2 => mkL b xs h2
section
variable {X : Cx} {W : WX} {elt tg iter : Expr} {ifs : List Expr} {scope : Scope} {own : List (Str × Nat)} {pos : Pos} {it : Ea} {ix : List Nat} {t : Tg} {c : Eb} {e : Ev}
theorem lc_rdX {σ : L2.St} {H : Hp} {Q : VK} {b : Bool} (sub : ∀ j ∈ ix, j ∈ own.map (·.2)) (q : rd X W (rlU X.K) (eLcX b (own.map (·.2)) it t c e) σ H Q) :
    tLcX (rd X W (rlJ X.K) it) (rdG X ix t) (rd X W0 rlB c) (fun Wb => rd X Wb (rlU X.K) e) (own.map (·.2)) W σ H (gh Q) := by
  obtain ⟨env, m, h, sta, sl, out⟩ := q
  refine rd_of sta sl out fun us h1 J H1 m1 g1 s1 w1 out1 => fun D nD => ?_
  refine ⟨fun i k H' => k = us.length - i ∧ i ≤ us.length ∧ ∃ m' h' acc vacc, Gr H1 m1 H' m' ∧ Sta X.K X.mg H' m' h' ∧ H' D = some (.lst vacc) ∧ D ∉ m' ∧ RDs X.K H' vacc acc ∧
    Out X W (rlU X.K) σ H1 m1 ((lcGoX t c e (wipeE env (own.map (·.2))) (us.drop i) acc h').bind fun xs h2 => mkL b xs h2) Q,
    ⟨us.length, by simp, Nat.zero_le _, m1, h1, [], [], Gr.of_same (Same.lay nD) m1, s1.same (Same.lay nD), upd_same, s1.new nD, .nil, by simpa using out1⟩, ?_⟩
  rintro i k H2 ⟨rfl, hi2, m2, h2, acc, vacc, g2, s2, hD, nDm, racc, o2⟩
  obtain ⟨wst, wgo⟩ := w1 H2 m2 g2.kp g2.pre
  by_cases hlt : i < us.length
  · have eu : us[i]? = some us[i] := List.getElem?_eq_getElem hlt
    have ed : us.drop i = us[i] :: us.drop (i + 1) := List.drop_eq_getElem_cons hlt
    obtain ⟨go, gy⟩ := wgo i _ eu
    rw [ed] at o2
    unfold lcGoX at o2
    cases et : t us[i] (wipeE env (own.map (·.2))) h2 with
    | none => rw [et] at o2; exact o2.elim
    | some env3 =>
      rw [et] at o2
      dsimp only at o2
      refine .inr ⟨go, fun H' => us.length - (i + 1) < us.length - i ∧ i + 1 ≤ us.length ∧ ∃ m' h' acc vacc, Gr H1 m1 H' m' ∧ Sta X.K X.mg H' m' h' ∧ H' D = some (.lst vacc) ∧ D ∉ m' ∧ RDs X.K H' vacc acc ∧
        Out X W (rlU X.K) σ H1 m1 ((lcGoX t c e (wipeE env (own.map (·.2))) (us.drop (i + 1)) acc h').bind fun xs h2 => mkL b xs h2) Q, fun H' ⟨n1, n2, n3⟩ => ⟨us.length - (i + 1), n1, rfl, n2, n3⟩, fun x H3 y => ?_⟩
      obtain ⟨sm, rx⟩ := gy x H3 y
      have gg := Gr.of_same sm m2
      have g3 := g2.trans gg
      have s3 := s2.same sm
      have hD3 : H3 D = some (.lst vacc) := sm _ _ hD
      have racc3 := RDs.kp gg.kp _ _ racc
      refine ⟨us[i], wipeE env (own.map (·.2)), m2, h2, s3, ((sl.gr g1).gr g3).wipe _, rx, env3, et, fun σ3 l3 only => ⟨wipe_only only sub, ?_⟩⟩
      refine ⟨env3, m2, h2, s3, l3, ?_⟩
      generalize hc : c env3 h2 = q at o2
      cases q with
      | stuck => exact o2.elim
      | exc c1 h4 => exact o2.elim
      | ok kb h4 =>
        intro b4 H4 m4 g4 s4 r4
        cases r4
        have keepD : ∀ {Ha : Hp} {ma : List Addr} {Hb : Hp} {mb : List Addr}, Gr Ha ma Hb mb → Ha D = some (.lst vacc) → D ∉ ma → Hb D = some (.lst vacc) ∧ D ∉ mb := fun {Ha ma Hb mb} g hd nd => ⟨g.keep _ _ hd nd, fun z => by
          have q := g.fresh D z nd
          rw [hd] at q
          cases q⟩
        obtain ⟨hD4, nD4⟩ := keepD g4 hD3 nDm
        cases kb with
        | false =>
          rw [if_neg Bool.false_ne_true]
          exact ⟨by omega, hlt, m4, h4, acc, vacc, g3.trans g4, s4, hD4, nD4, RDs.kp g4.kp _ _ racc3, o2⟩
        | true =>
          rw [if_pos rfl]
          refine ⟨env3, m4, h4, s4, l3.gr g4, ?_⟩
          have o3 : Out X W (rlU X.K) σ H1 m1 (Res.bind ((e env3 h4).bind fun w h2 => match w with | .d x => if fits (acc.length + 1) then lcGoX t c e (wipeE env (own.map (·.2))) (us.drop (i + 1)) (acc ++ [x]) h2 else .stuck | _ => .stuck) fun xs h2 => mkL b xs h2) Q := o2
          generalize he : e env3 h4 = q at o3
          cases q with
          | stuck => exact o3.elim
          | exc c1 h5 =>
            intro H5 m5 g5 s5 C hC
            exact (show ∀ H' m', Gr H1 m1 H' m' → Sta X.K X.mg H' m' h5 → ExW X W c1 σ H' from o3) H5 m5 ((g3.trans g4).trans g5) s5 C hC
          | ok w h5 =>
            intro y H5 m5 g5 s5 r5
            obtain ⟨hD5, nD5⟩ := keepD g5 hD4 nD4
            rw [Res.bind_ok] at o3
            cases w with
            | ref n => exact o3.elim
            | tup us => exact o3.elim
            | exn a => exact o3.elim
            | d dx =>
              dsimp only at o3
              split at o3
              · rename_i hz
                have racc5 := RDs.kp (g4.trans g5).kp _ _ racc3
                refine ⟨vacc, hD5, by rw [racc5.len]; exact ask_iff.mp hz, by omega, hlt, m5, h5, acc ++ [dx], vacc ++ [y], ?_, ?_, upd_same, nD5, ?_, o3⟩
                · have gA := (g3.trans g4).trans g5
                  refine ⟨gA.pre, fun a o q na => ?_, gA.fresh, ⟨fun a xs q => ?_, fun a o u q => ?_⟩⟩
                  · rw [upd_ne (ne_of_none q nD)]; exact gA.keep a o q na
                  · rw [upd_ne (ne_of_none q nD)]; exact gA.kp.tup a xs q
                  · rw [upd_ne (ne_of_none q nD)]; exact gA.kp.frz a o u q
                · exact ⟨s5.nd, s5.len, fun j a ob k1 k2 => (s5.obj j a ob k1 k2).mono (upd_ne fun z => nD5 (z ▸ List.mem_of_getElem? k1)) (mut_kp hD5 trivial) ⟨[], by simp⟩⟩
                · have kp := mut_kp (y := HO.lst (vacc ++ [y])) hD5 trivial
                  exact (RDs.kp kp _ _ racc5).app (.one (RD.kp kp _ _ r5.rd))
              · exact o3.elim
  · have e' : i = us.length := by omega
    subst e'
    rw [List.drop_length] at o2
    exact .inl ⟨wst _ (Nat.le_refl _), mkL_ok2 g2 s2 nD nDm hD racc o2⟩
theorem se_lcX (b : Bool) {vs : List Nat} (own : List (Str × Nat)) (hst : X.stack = X.env :: X.outer) (hf : X.env.frame = some X.env.locals) (tk : Takes X W) (hc : X.calm = true) (hN : X.N.Nodup) (hv : own.map (·.2) = vs) (sub : ∀ j ∈ ix, j ∈ vs) (hi : SI X W tg iter it) (ok : BlkOk X.N X.env.scope scope own)
    (hg : ∀ (s : Shared) (H : Hp) (C : Addr) (cl : List (Str × Addr)) (fp : List Addr), SG (X.blk s H scope (compEnvC scope cl C X.env) fp) tg ix t)
    (ht : ∀ (s : Shared) (H : Hp) (C : Addr) (cl : List (Str × Addr)) (fp : List Addr), STs (X.blk s H scope (compEnvC scope cl C X.env) fp) W0 ifs c)
    (he : ∀ (s : Shared) (H : Hp) (C : Addr) (cl : List (Str × Addr)) (fp : List Addr) (Wb : WX) (pn : List (Addr × Obj)) (xe : Value → Shared → Prop), TakesC ((X.blk s H scope (compEnvC scope cl C X.env) fp).tr pn xe) Wb → SE ((X.blk s H scope (compEnvC scope cl C X.env) fp).tr pn xe) Wb elt e) (hs : ∀ x, foldedSetIterable iter X.env x = pure x := by intro _; rfl) :
    SE X W (.ListComp elt [⟨tg, iter, ifs, 0⟩] scope pos) (eLcX b vs it t c e) := by
  subst hv
  exact ⟨pe_imp (pe_gh (pe_lcX (te := fun Wb => rd X Wb (rlU X.K) e) hst hf tk hc hN hi.pi ok (fun s H C cl fp => (hg s H C cl fp).pg) (fun s H C cl fp => (ht s H C cl fp).pt) (fun s H C cl fp Wb pn xe t => (he s H C cl fp Wb pn xe t).pe) hs)) fun σ H Q q => lc_rdX sub q⟩
theorem ss_setLcX (b : Bool) (i : Nat) {vs : List Nat} {y : Str} {py spos : Pos} (hsw : swapsWith (.ListComp elt [⟨tg, iter, ifs, 0⟩] scope pos) (some (.Name y py)) spos.line X.env = pure true) (own : List (Str × Nat)) (hst : X.stack = X.env :: X.outer) (hf : X.env.frame = some X.env.locals) (tk : Takes X W) (hc : X.calm = true) (hN : X.N.Nodup) (hv : own.map (·.2) = vs) (sub : ∀ j ∈ ix, j ∈ vs) (hi : SI X W tg iter it) (ok : BlkOk X.N X.env.scope scope own)
    (hg : ∀ (s : Shared) (H : Hp) (C : Addr) (cl : List (Str × Addr)) (fp : List Addr), SG (X.blk s H scope (compEnvC scope cl C X.env) fp) tg ix t)
    (ht : ∀ (s : Shared) (H : Hp) (C : Addr) (cl : List (Str × Addr)) (fp : List Addr), STs (X.blk s H scope (compEnvC scope cl C X.env) fp) W0 ifs c)
    (he : ∀ (s : Shared) (H : Hp) (C : Addr) (cl : List (Str × Addr)) (fp : List Addr) (Wb : WX) (pn : List (Addr × Obj)) (xe : Value → Shared → Prop), TakesC ((X.blk s H scope (compEnvC scope cl C X.env) fp).tr pn xe) Wb → SE ((X.blk s H scope (compEnvC scope cl C X.env) fp).tr pn xe) Wb elt e)
    (hy : X.N[i]? = some y := by rfl) (hyl : X.env.scope.names.lookup y = some .local := by rfl) (hs : ∀ x, foldedSetIterable iter X.env x = pure x := by intro _; rfl) :
    SS X W (.Assign [.Name y py] (.ListComp elt [⟨tg, iter, ifs, 0⟩] scope pos) spos) (sSet i (eLcX b vs it t c e)) := by
  subst hv
  exact ⟨ps_imp (ps_gh (ps_setLcX (te := fun Wb => rd X Wb (rlU X.K) e) hst hf tk hc hN hy hyl hsw hi.pi ok (fun s H C cl fp => (hg s H C cl fp).pg) (fun s H C cl fp => (ht s H C cl fp).pt) (fun s H C cl fp Wb pn xe t => (he s H C cl fp Wb pn xe t).pe) hs)) fun D σ H ⟨env, m, h, sta, sl, out⟩ => by
    have q : rd X W (rlU X.K) (eLcX b (own.map (·.2)) it t c e) σ H (fun v H1 => D.nx (σ.set i (some v)) H1) := rd_then sta sl out fun u h1 v H1 m1 g1 s1 r1 out1 =>
      (show ∀ σ' H' m', Gr H1 m1 H' m' → Sta X.K X.mg H' m' h1 → Sl X.K H' m' σ' (env.set i (some u)) → D.nx σ' H' from out1) _ H1 m1 (Gr.refl _ _) s1 ((sl.gr g1).set r1 i)
    exact lc_rdX sub q⟩
end
end Wk

/-! T14: reversed walked, tuple * int, str(int), max of three. -/
namespace Wk
open PySem PySem.Spec PyProof.Rows L2
/-! ### for x in reversed(..) -/
def iRev (f : Ev) : Ea := fun env h => (f env h).bind fun u h1 => match u with
  | .d (.tuple xs) => .ok (xs.reverse.map .d) h1
  | .d (.list xs) => .ok (xs.reverse.map .d) h1
  | _ => .stuck
section
variable {X : Cx} {W : WX} {tg a : Expr} {f : Ev} {p pos : Pos}
theorem rev_get {α : Type} {xs : List α} {i : Nat} {x : α} (e : xs.reverse[i]? = some x) : i < xs.length ∧ xs[xs.length - 1 - i]? = some x := by
  have hi : i < xs.reverse.length := (List.getElem?_eq_some_iff.mp e).1
  rw [List.length_reverse] at hi
  rw [List.getElem?_reverse hi] at e
  exact ⟨hi, e⟩
theorem si_rev (hg : Gl X "reversed") (hm : X.mg "reversed" = none) (ha : SE X W a f) (hs : starEach [a] X.env = (false, eval a X.env) :: starEach [] X.env := by rfl) : SI X W tg (.Call (.Name "reversed" p) [a] [] pos) (iRev f) :=
  ⟨pi_imp (RT.pi_revA hg hm ha.pe hs) fun σ H R ⟨env, m, h, sta, sl, out⟩ => rd_of sta sl out fun u h1 v H1 m1 g1 s1 r1 out1 => by
    split at out1
    · rename_i ds
      cases r1.rd with
      | @tup q vs _ t d =>
        have hl := d.len
        refine ⟨q, vs, rfl, .inr ⟨t, Out.here (b := RT.ItvT X.K q vs.length) out1 s1 fun H' m' k pre => ?_⟩⟩
        have t' := k.sqT t
        refine ⟨fun i hi => ?_, fun i w e => ?_⟩
        · simp at hi
          show vs.length ≤ i
          omega
        · rw [List.getElem?_map] at e
          cases e2 : ds.reverse[i]? with
          | none => rw [e2] at e; cases e
          | some x =>
            rw [e2] at e
            cases e
            obtain ⟨hi, e3⟩ := rev_get e2
            obtain ⟨y, f1, w1⟩ := d.get e3
            rw [← hl] at f1 hi
            refine ⟨⟨hi, vs, y, t', f1⟩, fun z H'' yy => ?_⟩
            obtain ⟨rfl, yy⟩ := yy
            have g := yy vs t'
            rw [f1] at g
            cases g
            exact ⟨Same.refl _, .d (RD.kp k _ _ w1)⟩
    · rename_i ds
      cases r1.rd with
      | @lst q vs _ t d =>
        have hl := d.len
        refine ⟨q, vs, rfl, .inl ⟨t.sq, Out.here (b := Itv X.K q vs.length) out1 s1 fun H' m' k pre => ?_⟩⟩
        have t' := (k.fzL t).sq
        refine ⟨fun i hi => ?_, fun i w e => ?_⟩
        · simp at hi
          show vs.length ≤ i
          omega
        · rw [List.getElem?_map] at e
          cases e2 : ds.reverse[i]? with
          | none => rw [e2] at e; cases e
          | some x =>
            rw [e2] at e
            cases e
            obtain ⟨hi, e3⟩ := rev_get e2
            obtain ⟨y, f1, w1⟩ := d.get e3
            rw [← hl] at f1 hi
            refine ⟨⟨hi, vs, y, t', f1⟩, fun z H'' yy => ?_⟩
            obtain ⟨rfl, yy⟩ := yy
            have g := yy vs t'
            rw [f1] at g
            cases g
            exact ⟨Same.refl _, .d (RD.kp k _ _ w1)⟩
    · exact out1.elim⟩
@[simp] theorem ev_iRev (env : Env') (h : Sto) : iRev f env h = (f env h).bind fun u h1 => match u with | .d (.tuple xs) => .ok (xs.reverse.map .d) h1 | .d (.list xs) => .ok (xs.reverse.map .d) h1 | _ => .stuck := (rfl)
end
/-! ### tuple * int -/
noncomputable def opMulX (u w : U) (h : Sto) : Res U := match tupOf u, intOf w with
  | some xs, some k => if ask (xs ≠ [] ∧ 2 ≤ k ∧ k ≤ 1000 ∧ xs.length ≤ 1000) then .ok (.d (.tuple (List.replicate k.toNat xs).flatten)) h else .stuck
  | _, _ => opMul u w h
section
variable {X : Cx} {W : WX}
theorem op_mulX : OpR X (binaryOp .Mult) (fun x y H Q => rI (fun i j => mulOk i j = true) (fun i j => .int (i * j)) x y H Q ∨ rRepT X.K x y H Q) := op_mulA.or op_repT
theorem RDs.flat {K : PySem.W.Frag} {H : Hp} {vs : List V} {ds : List D} (r : RDs K H vs ds) : ∀ n : Nat, RDs K H (List.replicate n vs).flatten (List.replicate n ds).flatten
  | 0 => .nil
  | n + 1 => by
    rw [List.replicate_succ, List.replicate_succ, List.flatten_cons, List.flatten_cons]
    exact r.app (RDs.flat r n)
theorem ab_mulX : Ab2 X W opMulX (fun x y H Q => rI (fun i j => mulOk i j = true) (fun i j => .int (i * j)) x y H Q ∨ rRepT X.K x y H Q) := by
  intro σ H m h x y u w Q s ru rw out
  unfold opMulX at out
  split at out
  · rename_i xs k e1 e2
    split at out
    · rename_i hz
      obtain ⟨h0, h1, h2, h3⟩ := ask_iff.mp hz
      obtain ⟨p, vs, rfl, t1, d1⟩ := tupOf_v e1 ru
      refine .inr ⟨p, k, vs, rfl, intOf_v e2 rw, t1, fun z => h0 ?_, h1, h2, by rw [d1.len]; exact h3, fun q nq => ?_⟩
      · have := d1.len
        rw [z] at this
        exact List.eq_nil_of_length_eq_zero this.symm
      · have sm : Same H (upd H q (.tup (List.replicate k.toNat vs).flatten)) := Same.lay nq
        exact Out.ok (b := V.ref q) out (Gr.of_same sm m) (s.same sm) (.d (.tup (.inl (.inl upd_same)) (RDs.kp (Kp.same sm) _ _ (d1.flat _))))
    · exact out.elim
  · exact .inl (ab_mul σ H m h x y u w Q s ru rw out)
@[simp] theorem ev_mulXi (h : Sto) (i j : Int) : opMulX (.d (.int i)) (.d (.int j)) h = if mulOk i j then .ok (.d (.int (i * j))) h else .stuck := (rfl)
theorem ev_mulXt (h : Sto) (xs : List D) (k : Int) (h0 : xs ≠ []) (h1 : 2 ≤ k) (h2 : k ≤ 1000) (h3 : xs.length ≤ 1000) : opMulX (.d (.tuple xs)) (.d (.int k)) h = .ok (.d (.tuple (List.replicate k.toNat xs).flatten)) h := if_pos (ask_t ⟨h0, h1, h2, h3⟩)
end
/-! ### str(int) -/
noncomputable def fStr (us : List U) (h : Sto) : Res U := match us with
  | [u] => (match intOf u with
    | some i => if ask (i.natAbs.log2 < 1920) then .ok (.d (.str (toString i))) h else .stuck
    | none => .stuck)
  | _ => .stuck
/-- max of three -/
def fMax3 (us : List U) (h : Sto) : Res U := match us with
  | [u, w, z] => (match intOf u, intOf w, intOf z with
    | some i, some j, some k => .ok (.d (.int (max (max i j) k))) h
    | _, _, _ => .stuck)
  | _ => .stuck
section
variable {X : Cx} {W : WX}
theorem ab_str : AbC X W fStr (fun xs H Q => ∃ i : Int, xs = [.int i] ∧ i.natAbs.log2 < 1920 ∧ Q (.str (toString i)) H) := by
  intro σ H m h xs us Q s r out
  unfold fStr at out
  split at out
  · cases r with
    | cons ru rn =>
      cases rn
      split at out
      · rename_i i e
        split at out
        · rename_i hz
          exact ⟨i, by rw [intOf_v e ru], ask_iff.mp hz, Out.here (b := V.str _) out s (.d (.str _))⟩
        · exact out.elim
      · exact out.elim
  · exact out.elim
theorem nuMax2_int (i j : Int) : nuMax2 (.int i) (.int j) = some (.int (max i j)) := by
  show (Option.map _ (some (decide (i < j)))) = _
  by_cases h : i < j
  · simp [h, Int.max_eq_right (Int.le_of_lt h)]
  · simp [h, Int.max_eq_left (Int.not_lt.mp h)]
theorem ab_max3 : AbC X W fMax3 (rNuC3 nuMax3) := by
  intro σ H m h xs us Q s r out
  unfold fMax3 at out
  split at out
  · cases r with
    | cons ra rb =>
      cases rb with
      | cons rb rc =>
        cases rc with
        | cons rc rn =>
          cases rn
          split at out
          · rename_i i j k e1 e2 e3
            refine ⟨_, _, _, .int (max (max i j) k), rfl, ?_, Out.here (b := V.int _) out s (.d (.int _))⟩
            rw [intOf_v e1 ra, intOf_v e2 rb, intOf_v e3 rc]
            unfold nuMax3
            rw [nuMax2_int, Option.bind_some, nuMax2_int]
          · exact out.elim
  · exact out.elim
theorem ev_str (h : Sto) (i : Int) (hz : i.natAbs.log2 < 1920) : fStr [.d (.int i)] h = .ok (.d (.str (toString i))) h := if_pos (ask_t hz)
@[simp] theorem ev_max3 (h : Sto) (i j k : Int) : fMax3 [.d (.int i), .d (.int j), .d (.int k)] h = .ok (.d (.int (max (max i j) k))) h := (rfl)
end
/-! ### a op b op' c as a test -/
section
variable {X : Cx} {W : WX} {a b c : Expr} {pos : Pos} {f g k : Ev} {F G : U → U → Sto → Res U} {r r' : R2}
theorem chain_rd (ab : Ab2 X W F r) (ab' : Ab2 X W G r') {σ : L2.St} {H : Hp} {Q : VK} (z : rd X W (rlU X.K) (eChain F G f g k) σ H Q) : L2.tChain r r' (rd X W (rlU X.K) f) (rd X W (rlU X.K) g) (rd X W (rlU X.K) k) σ H Q := by
  obtain ⟨env, m, h, sta, sl, out⟩ := z
  refine rd_of sta sl out fun u h1 x H1 m1 g1 s1 r1 out1 => rd_of s1 (sl.gr g1) out1 fun w h2 y H2 m2 g2 s2 r2 out2 => ?_
  have rx := RU.kp g2.kp g2.pre _ _ r1
  refine ab σ H2 m2 h2 x y u w _ s2 rx r2 ?_
  revert out2
  generalize F u w h2 = q
  intro out2
  cases q with
  | stuck => exact out2
  | exc c h3 => exact out2
  | ok z h3 =>
    intro zv H3 m3 g3 s3 rz
    have out3 : Out X W (rlU X.K) σ H2 m2 ((match boolOf z with | some b => Res.ok b h3 | none => Res.stuck).bind fun b h3 => match b with | true => (k env h3).bind fun z h4 => G w z h4 | false => .ok (.d (.bool false)) h3) Q := out2
    cases e : boolOf z with
    | none => rw [e] at out3; exact out3.elim
    | some b =>
      rw [e] at out3
      refine ⟨b, boolOf_v e rz, ?_⟩
      have out4 := Out.gr out3 g3
      cases b with
      | false =>
        rw [if_neg Bool.false_ne_true]
        exact Out.here (b := V.bl false) out4 s3 (.d (.bl false))
      | true =>
        rw [if_pos rfl]
        refine rd_of s3 (((sl.gr g1).gr g2).gr g3) out4 fun z2 h4 y2 H4 m4 g4 s4 r4 out5 => ?_
        exact ab' σ H4 m4 h4 y y2 w z2 Q s4 (RU.kp (g3.trans g4).kp (g3.trans g4).pre _ _ r2) r4 out5
theorem st_chain {op op' : CmpOp} (ho : OpR X (compareOp op) r) (ho' : OpR X (compareOp op') r') (ab : Ab2 X W F r) (ab' : Ab2 X W G r') (ha : SE X W a f) (hb : SE X W b g) (hc : SE X W c k)
    (hm : lastMarks [op, op'] [b, c] = false := by with_unfolding_all rfl) : ST X W (.Compare a [op, op'] [b, c] pos) (Wk.tChain F G f g k) :=
  ⟨pt_imp (pt_chain ho ho' ha.pe hb.pe hc.pe hm) fun σ H Q ⟨env, m, h, sta, sl, out⟩ => chain_rd ab ab' ⟨env, m, h, sta, sl, out_bool out⟩⟩
@[simp] theorem ev_Chain (env : Env') (h : Sto) : eChain F G f g k env h = (f env h).bind fun u h1 => (g env h1).bind fun w h2 => (tB (F u w h2)).bind fun b h3 => match b with
  | true => (k env h3).bind fun z h4 => G w z h4
  | false => .ok (.d (.bool false)) h3 := (rfl)
@[simp] theorem ev_tChain (env : Env') (h : Sto) : Wk.tChain F G f g k env h = tB (eChain F G f g k env h) := (rfl)
end
/-! ### for x in text -/
def chars (x : Str) : List U := x.cps.toList.map fun c => .d (.str ⟨#[c]⟩)
def iStrE (f : Ev) : Ea := fun env h => (f env h).bind fun u h1 => match strOf u with
  | some x => .ok (chars x) h1
  | none => .stuck
section
variable {X : Cx} {W : WX} {tg a : Expr} {f : Ev}
theorem si_str (ha : SE X W a f) : SI X W tg a (iStrE f) :=
  ⟨pi_imp (pi_str ha.pe) fun σ H R ⟨env, m, h, sta, sl, out⟩ => rd_of sta sl out fun u h1 v H1 m1 g1 s1 r1 out1 => by
    split at out1
    · rename_i x ex
      refine ⟨x, strOf_v ex r1, Out.here (b := Its x) out1 s1 fun H' m' k pre => ⟨fun i hi => ?_, fun i w e => ?_⟩⟩
      · unfold chars at hi
        rw [List.length_map, Array.length_toList] at hi
        exact hi
      · unfold chars at e
        rw [List.getElem?_map] at e
        cases e2 : x.cps.toList[i]? with
        | none => rw [e2] at e; cases e
        | some c =>
          rw [e2] at e
          cases e
          have hi := (List.getElem?_eq_some_iff.mp e2).1
          rw [Array.length_toList] at hi
          refine ⟨hi, fun z H'' y => ?_⟩
          obtain ⟨rfl, c', h1, rfl⟩ := y
          rw [← Array.getElem?_toList, e2] at h1
          cases h1
          exact ⟨Same.refl _, .d (.str _)⟩
    · exact out1.elim⟩
@[simp] theorem ev_iStrE (env : Env') (h : Sto) : iStrE f env h = (f env h).bind fun u h1 => match strOf u with
  | some x => .ok (chars x) h1
  | none => .stuck := (rfl)
end
end Wk

/-! T15: except X as e, isinstance(e, Y), isinstance(e, (Y, Z)). -/
namespace Wk
open PySem PySem.Spec PyProof.Rows L2
/-- isinstance(e, (c1, ..)), e the exception that the suite holds -/
def rIsET (K : PySem.W.Frag) (D a : Addr) : List V → Hp → VK → Prop := fun xs H Q => ∃ (tp : Addr) (cs : List V) (us : List Value) (b : Bool), xs = [.ref a, .ref tp] ∧ H tp = some (.tup cs) ∧ Paired ClsV cs us ∧ PySem.W.kitAny K (.ref D) us = some b ∧ Q (.bl b) H
theorem call_isET {X : Cx} {a D : Addr} {oe : Obj} {pn : List (Addr × Obj)} (C : L2.ExcC X.K D) (hz : Zc (.ref D) none oe) (hf : ∃ vs, oe.data = .fields vs) : CallR (X.suite a ((a, oe) :: pn)) (.builtin "isinstance") (rIsET X.K D a) := by
  intro pins s σ H xs us Q I r h
  obtain ⟨tp, cs, ws, b, rfl, hT, k, e, q⟩ := h
  obtain ⟨u1, u2, rfl, r1, r2⟩ := vals2 r
  cases (show u1 = Value.ref a from r1)
  cases (show u2 = Value.ref tp from r2)
  obtain ⟨hget, _⟩ := I.pin (a, oe) (List.mem_append.mpr (.inl List.mem_cons_self))
  obtain ⟨vs, hv⟩ := hf
  have J : PySem.W.InstAt s.heap a oe D none := by
    obtain ⟨oc, od, oda, osl⟩ := oe
    obtain ⟨h1, h2⟩ := hz
    dsimp only at h1 h2 hv
    subst h1 h2 hv
    exact ⟨hget, rfl, rfl, trivial⟩
  obtain ⟨_, its, rv, o, h1, h2, n, h3⟩ := (show ObjOk X.prog X.w H s.heap tp (.tup cs) from I.hok tp _ hT)
  have e3 := ClsV.all k rv
  subst e3
  obtain ⟨oc, od, dt, sl⟩ := o
  simp only at h2 h3
  subst h2 h3
  exact PySem.W.kia_tup (PySem.W.handS_kitx_exc C.hg C.hk C.hs C.hd C.ha C.hn C.ht C.hm) I.kIn J h1 e (fun z => nomatch z) fun tk => ⟨.bl b, H, I.kept (t' := tk) fun _ _ z => z, rfl, q⟩
/-- what a suite knows of the exception at a: it is of the class c -/
structure ExA (Y : Cx) (a : Addr) (c : Str) : Prop where
  ex : ∃ C, Y.mg c = some (.ref C) ∧ CallR Y (.builtin "isinstance") (rIsE Y.K C a) ∧ CallR Y (.builtin "isinstance") (rIsET Y.K C a)
/-- a class by its name -/
inductive CN (mg : Str → Option Value) : Str → V → Value → Prop
  | own {y : Str} {D : Addr} (h : mg y = some (.ref D)) (d : (y == ("__debug__" : Str)) = false) : CN mg y (.ref D) (.ref D)
  | blt {y : Str} {n : String} (h : mg y = none) (b : bootBuiltins y = some (.type n)) (hn : y ≠ "__name__") (d : (y == ("__debug__" : Str)) = false) : CN mg y (.ty n) (.type n)
theorem CN.cls {mg : Str → Option Value} {y : Str} {v : V} {u : Value} (c : CN mg y v u) : ClsV v u := by
  cases c with
  | own h d => exact .own _
  | blt h b hn d => exact .ty _
theorem CN.pe {Y : Cx} {y : Str} {v : V} {u : Value} {pos : Pos} (c : CN Y.mg y v u) (hg : Gl Y y) : PE Y (.Name y pos) (tC v) := by
  cases c with
  | own h d => exact pe_glob hg h rfl d
  | blt h b hn d => exact pe_bltn hg h b rfl hn d
def KiOk (K : PySem.W.Frag) (mg : Str → Option Value) (ki : Str → Str → Option Bool) : Prop := ∀ c y b, ki c y = some b → ∀ C v u, mg c = some (.ref C) → CN mg y v u → PySem.W.kitOne K (.ref C) u = some b
def kiAny (ki : Str → Str → Option Bool) (c : Str) : List Str → Option Bool
  | [] => some false
  | y :: r => match ki c y with
    | some true => some true
    | some false => kiAny ki c r
    | none => none
def eIsE (i : Nat) (a : Addr) (b : Option Bool) : Ev := fun env h => match env[i]? with
  | some (some (.exn a')) => if a' = a then (match b with | some b => .ok (.d (.bool b)) h | none => .stuck) else .stuck
  | _ => .stuck
inductive CNs (mg : Str → Option Value) (N : Cx) : List Str → List Expr → List V → List Value → Prop
  | nil : CNs mg N [] [] [] []
  | cons {y : Str} {p : Pos} {v : V} {u : Value} {ys : List Str} {es : List Expr} {vs : List V} {us : List Value} (hg : Gl N y) (c : CN mg y v u) (he : starEach (.Name y p :: es) N.env = (false, eval (.Name y p) N.env) :: starEach es N.env) (r : CNs mg N ys es vs us) : CNs mg N (y :: ys) (.Name y p :: es) (v :: vs) (u :: us)
def tCs : List V → TA
  | [] => tNil
  | v :: vs => tCons (tC v) (tCs vs)
theorem tCs_of : ∀ {vs : List V} {σ : L2.St} {H : Hp} {Q : List V → Hp → Prop}, Q vs H → tCs vs σ H Q
  | [], _, _, _, q => q
  | v :: vs, σ, H, Q, q => tCs_of (vs := vs) (Q := fun xs H2 => Q (v :: xs) H2) q
section
variable {X : Cx} {W : WX} {a : Addr} {c n : Str} {ki : Str → Str → Option Bool} {p p1 p2 p3 pos : Pos} {y : Str} {i : Nat}
theorem CNs.pa {ys : List Str} {es : List Expr} {vs : List V} {us : List Value} (h : CNs X.mg X ys es vs us) : PA X es (tCs vs) := by
  induction h with
  | nil => exact pa_nil
  | cons hg c he r ih => exact pa_cons (c.pe hg) ih he
theorem CNs.cls {ys : List Str} {es : List Expr} {vs : List V} {us : List Value} (h : CNs X.mg X ys es vs us) : Paired ClsV vs us := by
  induction h with
  | nil => exact .nil
  | cons hg c he r ih => exact .cons c.cls ih
theorem CNs.any {C : Addr} {ys : List Str} {es : List Expr} {vs : List V} {us : List Value} (h : CNs X.mg X ys es vs us) (kio : KiOk X.K X.mg ki) (hc : X.mg c = some (.ref C)) : ∀ {b : Bool}, kiAny ki c ys = some b → PySem.W.kitAny X.K (.ref C) us = some b := by
  induction h with
  | nil => exact fun e => e
  | cons hg d he r ih =>
    intro b e
    unfold kiAny at e
    unfold PySem.W.kitAny
    split at e
    · rename_i q
      rw [kio c _ true q C _ _ hc d]
      exact e
    · rename_i q
      rw [kio c _ false q C _ _ hc d]
      exact ih e
    · cases e
theorem CNs.len {ys : List Str} {es : List Expr} {vs : List V} {us : List Value} (h : CNs X.mg X ys es vs us) : vs.length = ys.length := by
  induction h with
  | nil => rfl
  | cons hg c he r ih => simp [ih]
theorem eIsE_out {σ : L2.St} {H : Hp} {m : List Addr} {h : Sto} {env : Env'} {Q : VK} {b : Option Bool} (sl : Sl X.K H m σ env) (out : Out X W (rlU X.K) σ H m (eIsE i a b env h) Q) : σ[i]? = some (some (.ref a)) ∧ ∃ b', b = some b' ∧ Out X W (rlU X.K) σ H m (.ok (.d (.bool b')) h) Q := by
  unfold eIsE at out
  split at out
  · rename_i a' e
    split at out
    · rename_i ea
      subst ea
      split at out
      · rename_i b'
        obtain ⟨v, h1, h2⟩ := sl.2 i _ e
        cases h2
        exact ⟨h1, b', rfl, out⟩
      · exact out.elim
    · exact out.elim
  · exact out.elim
theorem se_isE (x : ExA X a c) (kio : KiOk X.K X.mg ki) (hg : Gl X "isinstance") (hm : X.mg "isinstance" = none) (hg2 : Gl X y) (hy : ∃ v u, CN X.mg y v u) (hN : X.N[i]? = some n := by rfl) (hv : Vis X.env.scope n := by first | exact Or.inl rfl | exact Or.inr (Or.inl rfl) | exact Or.inr (Or.inr rfl))
    (hd : (n == ("__debug__" : Str)) = false := by decide) (hcd : (n == ("__classdict__" : Str)) = false := by decide)
    (he : starEach [.Name n p1, .Name y p2] X.env = (false, eval (.Name n p1) X.env) :: starEach [.Name y p2] X.env := by rfl) (he2 : starEach [.Name y p2] X.env = (false, eval (.Name y p2) X.env) :: starEach [] X.env := by rfl)
    (hpl : (backTo pos (starEach [.Name y p2] X.env)).any (·.1) = false := by rfl) :
    SE X W (.Call (.Name "isinstance" p) [.Name n p1, .Name y p2] [] pos) (eIsE i a (ki c y)) := by
  obtain ⟨C, hC, k1, k2⟩ := x.ex
  obtain ⟨v, u, cn⟩ := hy
  refine ⟨pe_imp (pe_callB k1 hg hm (by decide +kernel) (pa_cons (pv i hN hv hd hcd) (pa_cons (cn.pe hg2) pa_nil he2) he) (by decide) (by decide) he hpl) fun σ H Q ⟨env, m, h, sta, sl, out⟩ => ?_⟩
  obtain ⟨h1, b, e, o⟩ := eIsE_out sl out
  exact ⟨.ref a, h1, v, u, b, rfl, fun w r => cn.cls.eq r, kio c y b e C v u hC cn, Out.here (b := V.bl b) o sta (.d (.bl b))⟩
theorem se_isET {ys : List Str} {es : List Expr} {ctx : _} (x : ExA X a c) (kio : KiOk X.K X.mg ki) (hg : Gl X "isinstance") (hm : X.mg "isinstance" = none) (hy : ∃ vs us, CNs X.mg X ys es vs us) (hl : ys.length ≤ sizeLine := by decide) (hN : X.N[i]? = some n := by rfl) (hv : Vis X.env.scope n := by first | exact Or.inl rfl | exact Or.inr (Or.inl rfl) | exact Or.inr (Or.inr rfl))
    (hd : (n == ("__debug__" : Str)) = false := by decide) (hcd : (n == ("__classdict__" : Str)) = false := by decide)
    (he : starEach [.Name n p1, .Tuple es ctx p2] X.env = (false, eval (.Name n p1) X.env) :: starEach [.Tuple es ctx p2] X.env := by rfl) (he2 : starEach [.Tuple es ctx p2] X.env = (false, eval (.Tuple es ctx p2) X.env) :: starEach [] X.env := by rfl)
    (hpl : (backTo pos (starEach [.Tuple es ctx p2] X.env)).any (·.1) = false := by rfl) :
    SE X W (.Call (.Name "isinstance" p) [.Name n p1, .Tuple es ctx p2] [] pos) (eIsE i a (kiAny ki c ys)) := by
  obtain ⟨C, hC, k1, k2⟩ := x.ex
  obtain ⟨vs, us, cn⟩ := hy
  refine ⟨pe_imp (pe_callB k2 hg hm (by decide +kernel) (pa_cons (pv i hN hv hd hcd) (pa_cons (pe_tup cn.pa) pa_nil he2) he) (by decide) (by decide) he hpl) fun σ H Q ⟨env, m, h, sta, sl, out⟩ => ?_⟩
  obtain ⟨h1, b, e, o⟩ := eIsE_out sl out
  refine ⟨.ref a, h1, tCs_of ⟨by rw [cn.len]; exact hl, fun tp ht => ?_⟩⟩
  exact ⟨tp, vs, us, b, rfl, upd_same, cn.cls, cn.any kio hC e, Out.ok (b := V.bl b) o (Gr.of_same (Same.lay ht) m) (sta.same (Same.lay ht)) (.d (.bl b))⟩
end
/-! ### try .. except X as e -/
noncomputable def allA (f : Addr → SRes) : SRes := open Classical in if h : ∃ r, ∀ a, f a = r then Classical.choose h else .stuck
theorem allA_of {f : Addr → SRes} {r : SRes} (h : ∀ a, f a = r) : allA f = r := by
  unfold allA
  have q : ∃ r, ∀ a, f a = r := ⟨r, h⟩
  rw [dif_pos q]
  exact (Classical.choose_spec q 0).symm.trans (h 0)
@[simp] theorem allA_const (r : SRes) : allA (fun _ => r) = r := allA_of fun _ => rfl
theorem allA_out {X : Cx} {W : WX} {D : Ends} {H : Hp} {m : List Addr} {f : Addr → SRes} (o : OutS X W D H m (allA f)) (a : Addr) : OutS X W D H m (f a) := by
  unfold allA at o
  split at o
  · rename_i h
    rw [Classical.choose_spec h a]
    exact o
  · exact o.elim
def SRes.wipe (i : Nat) : SRes → SRes
  | .next env h => .next (env.set i none) h
  | r => r
structure ExI (K : PySem.W.Frag) (mg : Str → Option Value) (c : Str) : Prop where
  ex : ∃ C, mg c = some (.ref C) ∧ L2.ExcC K C
noncomputable def sTryAs (mt : Str → Str → Option Bool) (cs : List Str) (b : Es) (d : Str) (i : Nat) (g : Addr → Str → Es) : Es := fun env h => match b env h with
  | .exc c env' h' => match mt c d with
    | some true => if cs.contains c then allA fun a => ((g a c (env'.set i (some (.exn a))) h').noEx).wipe i else .stuck
    | some false => .exc c env' h'
    | none => .stuck
  | .next env' h' => .next env' h'
  | .ret u h' => .ret u h'
  | .stuck => .stuck
theorem Sl.wipe1 {K : PySem.W.Frag} {H : Hp} {m : List Addr} {σ : L2.St} {env : Env'} (s : Sl K H m σ env) (i : Nat) : Sl K H m (σ.set i none) (env.set i none) := by
  refine ⟨by simp [s.1], fun j w e => ?_⟩
  by_cases hj : i = j
  · subst hj
    by_cases hi : i < env.length
    · rw [List.getElem?_set_self hi] at e
      cases e
    · rw [List.getElem?_eq_none (by simp; omega)] at e
      cases e
  · rw [List.getElem?_set_ne hj] at e ⊢
    exact s.2 j w e
section
variable {X : Cx} {W : WX} {mt : Str → Str → Option Bool} {body suite : List Stmt} {b₀ : Stmt} {b : Es} {d n : Str} {i : Nat} {g : Addr → Str → Es} {np pos pos' : Pos} {cs : List Str}
theorem ss_tryAs (i : Nat) (hs : X.stack = X.env :: X.outer) (hf : X.env.frame = some X.env.locals) (hN : X.N.Nodup) (tk : Takes X W) (mtok : MtOk X.K X.mg mt) (hcs : ∀ c ∈ cs, ExI X.K X.mg c) (hg : Gl X d) (hD : ∃ D, X.mg d = some (.ref D))
    (hb : ∀ (W' : WX) (pn : List (Addr × Obj)) (xe : Value → Shared → Prop), Takes (X.tr pn xe) W' → PassesOwn (model X.prog X.w) X.A X.env xe → SSs (X.tr pn xe) W' body b)
    (hsu : ∀ (a : Addr) (c : Str) (oe : Obj) (pn : List (Addr × Obj)), ExA (X.suite a ((a, oe) :: pn)) a c → SSs (X.suite a ((a, oe) :: pn)) W0 (b₀ :: suite) (g a c))
    (hi : X.N[i]? = some n := by rfl) (hln : X.env.kindOf n = some .local := by rfl) (hdb : (d == ("__debug__" : Str)) = false := by decide) :
    SS X W (.Try body [.ExceptHandler (some (.Name d np)) (some n) (b₀ :: suite) pos'] [] [] pos) (sTryAs mt cs b d i g) := by
  obtain ⟨DD, hD⟩ := hD
  refine ⟨ps_imp (ps_try_as (tb := fun W' => rdS X W' b) (ts := fun a cls dd D σ H => ∃ c C, cls = .ref C ∧ dd = none ∧ X.mg c = some (.ref C) ∧ c ∈ cs ∧ rdS X W0 (g a c) D σ H) hs hf hN hi hln ⟨hg, hdb, .inl hD⟩ tk (fun W' pn xe t p => (hb W' pn xe t p).ps) ?_) ?_⟩
  · intro a oe cls dd pn hz hf2
    refine ⟨fun pins s σ H D I q => ?_⟩
    obtain ⟨c, C, rfl, rfl, hc, hm, q⟩ := q
    obtain ⟨C', hC', ec⟩ := (hcs c hm).ex
    cases hC'.symm.trans hc
    exact (hsu a c oe pn ⟨C, hc, call_isE ec hz hf2, call_isET ec hz hf2⟩).ps.run pins s σ H D I q
  · intro D σ H ⟨env, m, h, sta, sl, out⟩
    refine ⟨env, m, h, sta, sl, ?_⟩
    unfold sTryAs at out
    generalize b env h = y at out
    cases y with
    | next e2 h2 => exact out
    | ret u h2 => exact out
    | stuck => exact out
    | exc c e' h' =>
      intro σ' H' m' gr s' sl' C hC
      dsimp only at out
      split at out
      · rename_i e
        refine ⟨true, mtok c d true e C DD hC hD, fun _ a ha => ?_, fun z => nomatch z⟩
        split at out
        · rename_i hm
          refine ⟨c, C, rfl, rfl, hC, by simpa using hm, e'.set i (some (.exn a)), m', h', s', sl'.set (.exn a) i, ?_⟩
          have o := OutS.gr (allA_out out a) gr
          generalize g a c (e'.set i (some (.exn a))) h' = z at o
          cases z with
          | next e2 h2 => exact fun σ2 H2 m2 g2 s2 l2 => o (σ2.set i none) H2 m2 g2 s2 (l2.wipe1 i)
          | ret u h2 => exact o
          | exc c2 e2 h2 => exact o.elim
          | stuck => exact o
        · exact out.elim
      · rename_i e
        exact ⟨false, mtok c d false e C DD hC hD, fun z => (nomatch z), fun _ => (show ∀ σ2 H2 m2, Gr H m H2 m2 → Sta X.K X.mg H2 m2 h' → Sl X.K H2 m2 σ2 e' → ExW X W c σ2 H2 from out) σ' H' m' gr s' sl' C hC⟩
      · exact out.elim
end
/-! ### looked up -/
theorem cns_nil {mg : Str → Option Value} {N : Cx} : ∃ vs us, CNs mg N [] [] vs us := ⟨_, _, .nil⟩
theorem cns_cons {mg : Str → Option Value} {N : Cx} {y : Str} {p : Pos} {ys : List Str} {es : List Expr} (c : ∃ v u, CN mg y v u) (r : ∃ vs us, CNs mg N ys es vs us) (hg : Gl N y := by rfl) (he : starEach (.Name y p :: es) N.env = (false, eval (.Name y p) N.env) :: starEach es N.env := by rfl) : ∃ vs us, CNs mg N (y :: ys) (.Name y p :: es) vs us := by
  obtain ⟨v, u, c⟩ := c
  obtain ⟨vs, us, r⟩ := r
  exact ⟨_, _, .cons hg c he r⟩
section
variable {K : PySem.W.Frag} {mg : Str → Option Value} {h : Heap}
theorem cn_own {y : Str} {C : Addr} (X : K.In h) (G : h.Ns mainGlobals mg) (a : PySem.W.nsIn K mainGlobals y = some (some (.ref C))) (d : (y == ("__debug__" : Str)) = false := by decide) : ∃ v u, CN mg y v u := ⟨_, _, .own (PySem.W.mg_of X G a) d⟩
theorem cn_blt {y : Str} (n : String) (a : mg y = none) (b : bootBuiltins y = some (.type n)) (hn : y ≠ "__name__" := by decide) (d : (y == ("__debug__" : Str)) = false := by decide) : ∃ v u, CN mg y v u := ⟨_, _, .blt a b hn d⟩
theorem exI_mk {c : Str} {C : Addr} (X : K.In h) (G : h.Ns mainGlobals mg) (a : PySem.W.nsIn K mainGlobals c = some (some (.ref C)))
    (p1 : PySem.W.findIn K (.ref C) "__getattribute__" = some (some (.builtin "BaseException.__getattribute__"))) (p2 : PySem.W.findIn K (.ref C) "__getattr__" = some none) (p3 : PySem.W.subIn K (.ref C) (.type "BaseException") = some true)
    (p4 : PySem.W.hasDictIn K C = true) (p5 : PySem.W.findIn K (.ref C) "__class__" = some (some (.builtin "object.__class__"))) (p6 : PySem.W.specialIn K (.builtin "object.__class__") "__get__" = some (some (.builtin "getset_descriptor.__get__")))
    (p7 : PySem.W.takesIn K (.builtin "object.__class__") = some true) (p8 : PySem.W.mroIn K C (.type "object") = some true) : ExI K mg c := ⟨C, PySem.W.mg_of X G a, p1, p2, p3, p4, p5, p6, p7, p8⟩
def KiOne (K : PySem.W.Frag) (mg : Str → Option Value) (c y : Str) (b : Bool) : Prop := ∀ C v u, mg c = some (.ref C) → CN mg y v u → PySem.W.kitOne K (.ref C) u = some b
theorem kit_exm {t c : Value} {b : Bool} (e : PySem.W.exmOne K t c = some b) (n : (t == c) = true → b = true) : PySem.W.kitOne K t c = some b := by
  unfold PySem.W.exmOne at e
  unfold PySem.W.kitOne
  split
  · rename_i q
    rw [n q]
  · split at e
    · exact e
    · cases e
theorem kiOne_mk {c y : Str} {b : Bool} {C D : Addr} (X : K.In h) (G : h.Ns mainGlobals mg) (a : PySem.W.nsIn K mainGlobals c = some (some (.ref C))) (a' : PySem.W.nsIn K mainGlobals y = some (some (.ref D))) (e : PySem.W.exmOne K (.ref C) (.ref D) = some b) (n : (Value.ref C == Value.ref D) = true → b = true) : KiOne K mg c y b := fun C' v u h1 h2 => by
  cases (PySem.W.mg_of X G a).symm.trans h1
  cases h2 with
  | own k d =>
    cases (PySem.W.mg_of X G a').symm.trans k
    exact kit_exm e n
  | blt k _ _ _ => cases (PySem.W.mg_of X G a').symm.trans k
theorem kiOneB_mk {c y : Str} {b : Bool} {C : Addr} {m : String} (X : K.In h) (G : h.Ns mainGlobals mg) (a : PySem.W.nsIn K mainGlobals c = some (some (.ref C))) (a' : mg y = none) (hb : bootBuiltins y = some (.type m)) (e : PySem.W.exmOne K (.ref C) (.type m) = some b) : KiOne K mg c y b := fun C' v u h1 h2 => by
  cases (PySem.W.mg_of X G a).symm.trans h1
  cases h2 with
  | own k d => cases a'.symm.trans k
  | blt k kb _ _ =>
    cases hb.symm.trans kb
    exact kit_exm e fun z => nomatch (eq_of_beq z)
theorem kiOk_mk {l : List (Str × Str × Bool)} (z : ∀ x ∈ l, KiOne K mg x.1 x.2.1 x.2.2) : KiOk K mg (mtOf l) := fun c d b e C v u h1 h2 => by
  unfold mtOf at e
  cases q : l.find? fun z => z.1 == c && z.2.1 == d with
  | none => rw [q] at e; cases e
  | some y =>
    rw [q] at e
    cases e
    have hy := List.find?_some q
    rw [Bool.and_eq_true] at hy
    have e1 : y.1 = c := eq_of_beq hy.1
    have e2 : y.2.1 = d := eq_of_beq hy.2
    have := z y (List.mem_of_find?_eq_some q) C v u
    rw [e1, e2] at this
    exact this h1 h2
end
end Wk

set_option maxHeartbeats 4000000
/-! T16: tuple * int, for any int. -/
namespace Wk
open PySem PySem.Spec PyProof.Rows L2
theorem tuple_mulS (l : Addr) (items : Array Value) (n : Nat) (sl : Array (Option Value)) (dd : Option Addr) (x : Int) (u : Tok) (c0 : (decide (x < -(2 ^ 63)) || decide (x ≥ 2 ^ 63)) = false) (c1 : (items.isEmpty || x == 1) = true) :
    Meets (Builtin.«tuple.__mul__» ⟨[.ref l, .int x u], []⟩) (fun _ R s => s.heap.get? l = some { cls := .type "tuple", dict := dd, data := .seq items n, slots := sl } ∧
      R (.ok (.ret (Value.ref l))) s) :=
  .of_wp fun prog w A R s h => by
    obtain ⟨hp, g, d, tk, os⟩ := s
    obtain ⟨hl, h⟩ := h
    have f1 := AutoSeq1.idx_int
    wp_walk using wpAny_loadPart' hl
    repeat (first
      | (refine wpAny_ite_false (decide_eq_false (by rw [c0]; exact Bool.false_ne_true)) ?_; wp_walk using wpAny_loadPart' hl)
      | (refine wpAny_ite_true (decide_eq_true (by rw [c1])) ?_; wp_walk using wpAny_loadPart' hl))
    exact ⟨_, rfl, h⟩
theorem tuple_mulZ (l : Addr) (items : Array Value) (n : Nat) (sl : Array (Option Value)) (dd : Option Addr) (x : Int) (u : Tok) (c0 : (decide (x < -(2 ^ 63)) || decide (x ≥ 2 ^ 63)) = false) (c1 : (items.isEmpty || x == 1) = false) (c2 : (decide (x ≤ 0) || items.isEmpty) = true) :
    Meets (Builtin.«tuple.__mul__» ⟨[.ref l, .int x u], []⟩) (fun _ R s => s.heap.get? l = some { cls := .type "tuple", dict := dd, data := .seq items n, slots := sl } ∧
      R (.ok (.ret (Value.ref s.heap.objs.size))) { s with heap := s.heap.push { cls := Value.type "tuple", data := Data.seq #[] }, toks := s.toks }) :=
  .of_wp fun prog w A R s h => by
    obtain ⟨hp, g, d, tk, os⟩ := s
    obtain ⟨hl, h⟩ := h
    have f1 := AutoSeq1.idx_int
    wp_walk using wpAny_loadPart' hl
    repeat (first
      | (refine wpAny_ite_false (decide_eq_false (by rw [c0]; exact Bool.false_ne_true)) ?_; wp_walk using wpAny_loadPart' hl)
      | (refine wpAny_ite_false (decide_eq_false (by rw [c1]; exact Bool.false_ne_true)) ?_; wp_walk using wpAny_loadPart' hl)
      | (refine wpAny_ite_true (decide_eq_true (by rw [c2])) ?_; wp_walk using wpAny_loadPart' hl)
      | (refine wpAny_ite_false (decide_eq_false (Nat.not_lt.mpr (Nat.zero_le _))) ?_; wp_walk using wpAny_loadPart' hl))
    exact ⟨_, rfl, h⟩
def rRepY (K : PySem.W.Frag) : R2 := fun x y H Q => ∃ l k xs, x = .ref l ∧ y = .int k ∧ SqT K H l xs ∧ -1000000 ≤ k ∧ k ≤ 1000000 ∧ xs.length * k.toNat ≤ 1000000 ∧
  (xs = [] ∨ k = 1 → Q (.ref l) H) ∧ (¬ (xs = [] ∨ k = 1) → ∀ p, H p = none → Q (.ref p) (upd H p (.tup (List.replicate k.toNat xs).flatten)))
section
variable {X : Cx}
theorem op_repY : OpR X (binaryOp .Mult) (rRepY X.K) := by
  intro pins s σ H x y v u Q I rx ry h
  obtain ⟨l, k, xs, rfl, rfl, hT, h1, h2, hz, q1, q2⟩ := h
  cases rx
  obtain ⟨t, rfl⟩ := ry
  obtain ⟨its, r, ⟨⟨cls, dd, data, sl⟩, ho, hc, n, hd⟩, hs⟩ := I.tuple hT
  simp only at hc hd
  subst hc hd
  have hle : its.length = xs.length := r.length.symm
  have c0 : (decide (k < -(2 ^ 63)) || decide (k ≥ 2 ^ 63)) = false := by
    rw [decide_eq_false (by omega), decide_eq_false (by omega)] <;> rfl
  have hie : its.toArray.isEmpty = decide (xs = []) := by
    cases its with
    | nil =>
      have : xs = [] := List.eq_nil_of_length_eq_zero hle.symm
      rw [this]; rfl
    | cons a b =>
      have : xs ≠ [] := fun e => by rw [e] at hle; simp at hle
      rw [decide_eq_false this]; rfl
  by_cases hc : xs = [] ∨ k = 1
  · have c1 : (its.toArray.isEmpty || k == 1) = true := by
      rw [hie]
      rcases hc with e | e
      · rw [decide_eq_true e]; rfl
      · rw [e]; simp
    refine wpAny_binaryOp_repeat_ref (T := "tuple") (U := "int") (by decide) ⟨_, ho, rfl⟩ (fun s' => typeIs_int s' k t) noFill_tuple_mul F.fills_int_mul F.slot_int_rmul repeat_tuple F.slot_int_index.lookup
      (call_meets F.slot_int_rmul (typeIs_int s k t) F.entry_int_rmul (F.args_int_rmul_2 _ _) (int_rmul_tuple k t l its.toArray n dd sl)
        ⟨ho, rfl, ⟨_, ho, rfl⟩, call_meets F.slot_tuple_mul ⟨_, ho, rfl⟩ F.entry_tuple_mul (F.args_tuple_mul_2 _ _) (tuple_mulS l its.toArray n sl dd k t c0 c1) ⟨ho, ?_⟩⟩)
    exact ⟨.ref l, H, I, rfl, q1 hc⟩
  · have hx : xs ≠ [] := fun e => hc (.inl e)
    have hk : k ≠ 1 := fun e => hc (.inr e)
    have hi : its.toArray.isEmpty = false := by rw [hie]; exact decide_eq_false hx
    have c1 : (its.toArray.isEmpty || k == 1) = false := by
      rw [hi, Bool.false_or]
      exact beq_eq_false_iff_ne.mpr hk
    by_cases h0 : k ≤ 0
    · have c2 : (decide (k ≤ 0) || its.toArray.isEmpty) = true := by rw [decide_eq_true h0]; rfl
      have e0 : (List.replicate k.toNat xs).flatten = [] := by rw [show k.toNat = 0 by omega]; rfl
      rw [e0] at q2
      refine wpAny_binaryOp_repeat_ref (T := "tuple") (U := "int") (by decide) ⟨_, ho, rfl⟩ (fun s' => typeIs_int s' k t) noFill_tuple_mul F.fills_int_mul F.slot_int_rmul repeat_tuple F.slot_int_index.lookup
        (call_meets F.slot_int_rmul (typeIs_int s k t) F.entry_int_rmul (F.args_int_rmul_2 _ _) (int_rmul_tuple k t l its.toArray n dd sl)
          ⟨ho, rfl, ⟨_, ho, rfl⟩, call_meets F.slot_tuple_mul ⟨_, ho, rfl⟩ F.entry_tuple_mul (F.args_tuple_mul_2 _ _) (tuple_mulZ l its.toArray n sl dd k t c0 c1 c2) ⟨ho, ?_⟩⟩)
      refine ⟨.ref s.heap.objs.size, _, I.laid (t' := s.toks) (o := .tup []) (fun b ob q => Heap.get?_push_of_some _ q) (Nat.le_refl _) ?_, rfl, q2 hc _ (I.hok.fresh (Nat.le_refl _))⟩
      exact ⟨by simp, _, .nil, IsTup.new _ _⟩
    · have hsz0 : its.toArray.size = xs.length := by rw [List.size_toArray, hle]
      have hkn : (k.toNat : Int) = k := by omega
      have hm : ((its.toArray.size : Nat) : Int) * k ≤ 1000000 := by
        have e : ((xs.length : Nat) : Int) * ((k.toNat : Nat) : Int) ≤ 1000000 := by
          rw [← Int.natCast_mul]
          exact Int.ofNat_le.mpr hz
        rw [hkn] at e
        rw [hsz0]
        exact e
      have flen : (List.replicate k.toNat its).flatten.length ≤ sizeLine := by
        rw [PyProof.Rows.lm_len_rep_flat, hle, sizeLine_eq, Nat.mul_comm]
        omega
      have c2 : (decide (k ≤ 0) || its.toArray.isEmpty) = false := by
        rw [hi, Bool.or_false]
        exact decide_eq_false h0
      have c4 : Builtin.Tuple.tupleTooMany (((its.toArray.size : Nat) : Int) * k) = false := by
        unfold Builtin.Tuple.tupleTooMany
        rw [sizeLine_eq]
        exact decide_eq_false (by omega)
      refine wpAny_binaryOp_repeat_ref (T := "tuple") (U := "int") (by decide) ⟨_, ho, rfl⟩ (fun s' => typeIs_int s' k t) noFill_tuple_mul F.fills_int_mul F.slot_int_rmul repeat_tuple F.slot_int_index.lookup
        (call_meets F.slot_int_rmul (typeIs_int s k t) F.entry_int_rmul (F.args_int_rmul_2 _ _) (int_rmul_tuple k t l its.toArray n dd sl)
          ⟨ho, rfl, ⟨_, ho, rfl⟩, call_meets F.slot_tuple_mul ⟨_, ho, rfl⟩ F.entry_tuple_mul (F.args_tuple_mul_2 _ _) (tuple_mulW l its.toArray n dd sl k t c0 c1 c2 (by omega) c4 (by rw [size_rep, List.size_toArray]; exact flen)) ⟨ho, ?_⟩⟩)
      rw [size_rep]
      refine ⟨.ref s.heap.objs.size, _, I.laid (t' := s.toks) (o := .tup (List.replicate k.toNat xs).flatten) (fun b ob q => Heap.get?_push_of_some _ q) (Nat.le_refl _) ?_, rfl, q2 hc _ (I.hok.fresh (Nat.le_refl _))⟩
      exact ⟨by rw [PyProof.Rows.lm_len_rep_flat, sizeLine_eq, Nat.mul_comm]; omega, _, r.rep k.toNat, IsTup.new _ _⟩
end
/-- tuple * int -/
noncomputable def opMulY (u w : U) (h : Sto) : Res U := match tupOf u, intOf w with
  | some xs, some k => if ask (-1000000 ≤ k ∧ k ≤ 1000000 ∧ xs.length * k.toNat ≤ 1000000) then .ok (.d (.tuple (List.replicate k.toNat xs).flatten)) h else .stuck
  | _, _ => opMul u w h
section
variable {X : Cx} {W : WX}
theorem op_mulY : OpR X (binaryOp .Mult) (fun x y H Q => rI (fun i j => mulOk i j = true) (fun i j => .int (i * j)) x y H Q ∨ rRepY X.K x y H Q) := op_mulA.or op_repY
theorem ab_mulY : Ab2 X W opMulY (fun x y H Q => rI (fun i j => mulOk i j = true) (fun i j => .int (i * j)) x y H Q ∨ rRepY X.K x y H Q) := by
  intro σ H m h x y u w Q s ru rw out
  unfold opMulY at out
  split at out
  · rename_i xs k e1 e2
    split at out
    · rename_i hz
      obtain ⟨h1, h2, h3⟩ := ask_iff.mp hz
      obtain ⟨p, vs, rfl, t1, d1⟩ := tupOf_v e1 ru
      refine .inr ⟨p, k, vs, rfl, intOf_v e2 rw, t1, h1, h2, by rw [d1.len]; exact h3, fun z => ?_, fun _ q nq => ?_⟩
      · have e : (List.replicate k.toNat xs).flatten = xs := by
          rcases z with z | z
          · have : xs = [] := by
              have := d1.len
              rw [z] at this
              exact List.eq_nil_of_length_eq_zero this.symm
            rw [this]
            simp
          · rw [z]; simp
        rw [e] at out
        exact Out.here (b := V.ref p) out s (.d (.tup t1 d1))
      · have sm : Same H (upd H q (.tup (List.replicate k.toNat vs).flatten)) := Same.lay nq
        exact Out.ok (b := V.ref q) out (Gr.of_same sm m) (s.same sm) (.d (.tup (.inl (.inl upd_same)) (RDs.kp (Kp.same sm) _ _ (d1.flat _))))
    · exact out.elim
  · exact .inl (ab_mul σ H m h x y u w Q s ru rw out)
@[simp] theorem ev_mulYi (h : Sto) (i j : Int) : opMulY (.d (.int i)) (.d (.int j)) h = if mulOk i j then .ok (.d (.int (i * j))) h else .stuck := (rfl)
theorem ev_mulYt (h : Sto) (xs : List D) (k : Int) (h1 : -1000000 ≤ k) (h2 : k ≤ 1000000) (h3 : xs.length * k.toNat ≤ 1000000) : opMulY (.d (.tuple xs)) (.d (.int k)) h = .ok (.d (.tuple (List.replicate k.toNat xs).flatten)) h := if_pos (ask_t ⟨h1, h2, h3⟩)
end
end Wk

/-! T17: lists of things, extend, dict displays by texts. -/
namespace Wk
open PySem PySem.Spec PyProof.Rows L2
def eLsu (r : Ea) : Ev := fun env h => (r env h).bind fun us h1 => if us.length ≤ 1000 then .ok (.ref h1.length) (h1 ++ [.lsu us]) else .stuck
def lsOf (h : Sto) (u : U) : Option (List U) := match u with
  | .ref n => (match h[n]? with
    | some (.lsu us) => some us
    | _ => none)
  | _ => none
theorem lsOf_v {K : PySem.W.Frag} {mg : Str → Option Value} {H : Hp} {m : List Addr} {h : Sto} {v : V} {u : U} {us : List U} (s : Sta K mg H m h) (e : lsOf h u = some us) (r : RU K H m v u) : ∃ a vs, v = .ref a ∧ SqL K H a vs ∧ RUs K H m vs us := by
  unfold lsOf at e
  split at e
  · split at e
    · rename_i n us' hn
      cases e
      cases r with
      | ref hm =>
        obtain ⟨vs, h1, h2⟩ := s.obj _ _ _ hm hn
        exact ⟨_, vs, rfl, .inl (.inl h1), h2⟩
    · cases e
  · cases e
def opIxL (u w : U) (h : Sto) : Res U := match lsOf h u with
  | some us => (match intOf w with
    | some i => (match atI us i with | some x => .ok x h | none => .stuck)
    | none => .stuck)
  | none => match u with
    | .d (.str z) => (match intOf w with
      | some i => if z.length ≤ 1000 then (match atI z.cps.toList i with | some c => .ok (.d (.str ⟨#[c]⟩)) h | none => .stuck) else .stuck
      | none => .stuck)
    | u => opIx u w h
def gTupL (n : Nat) (r : Tgs) : Tg := fun u env h => match lsOf h u with
  | some us => if us.length = n then r us env h else none
  | none => none
noncomputable def fExt (u : U) (us : List U) (h : Sto) : Res U := match u, us with
  | .ref n, [.ref k] => (match h[n]?, h[k]? with
    | some (.lst xs), some (.lst ys) => if fits (xs.length + ys.length) then .ok (.d .none) (h.set n (.lst (xs ++ ys))) else .stuck
    | _, _ => .stuck)
  | _, _ => .stuck
section
variable {X : Cx} {W : WX} {a b : Expr} {es : List Expr} {pos : Pos} {f g : Ev} {ix : List Nat} {ts : Tgs}
theorem se_lsu {r : Ea} (h : SA X W es r) : SE X W (.List es pos) (eLsu r) :=
  ⟨pe_imp (pe_lst h.pa) fun σ H Q ⟨env, m, h, sta, sl, out⟩ => rd_of sta sl out fun us h1 xs H1 m1 g1 s1 r1 out1 => by
    split at out1
    · rename_i hz
      refine ⟨by rw [RUs.len r1]; exact line1000 hz, fun p np => ?_⟩
      exact Out.ok (b := V.ref p) out1 (Gr.push np) (s1.push np ⟨xs, upd_same, RUs.kp (Kp.same (Same.lay np)) ⟨[p], rfl⟩ _ _ r1⟩) (.ref (by rw [← s1.len]; simp))
    · exact out1.elim⟩
theorem se_ixL (hs : PlainIx b) (ha : SE X W a f) (hb : SE X W b g) : SE X W (.Subscript a b pos) (eBin opIxL f g) :=
  ⟨pe_imp (pe_ix ix_seq ha.pe hb.pe hs) fun σ H Q ⟨env, m, h, sta, sl, out⟩ => rd_of sta sl out fun u h1 x H1 m1 g1 s1 r1 out1 => rd_of s1 (sl.gr g1) out1 fun w h2 y H2 m2 g2 s2 r2 out2 => by
    have ru := RU.kp g2.kp g2.pre _ _ r1
    unfold opIxL at out2
    split at out2
    · rename_i us eu
      split at out2
      · rename_i i ei
        have ey := intOf_v ei r2
        split at out2
        · rename_i d ed
          obtain ⟨p, vs, rfl, t1, d1⟩ := lsOf_v s2 eu ru
          obtain ⟨v, h3, h4⟩ := atI_rus d1 ed
          exact .inl ⟨p, vs, i, v, rfl, ey, t1, h3, Out.here out2 s2 h4⟩
        · exact out2.elim
      · exact out2.elim
    · split at out2
      · rename_i z eu
        split at out2
        · rename_i i ei
          have ey := intOf_v ei r2
          split at out2
          · rename_i hz
            split at out2
            · rename_i c ec
              cases ru.rd
              exact .inr (.inr ⟨z, i, c, rfl, ey, line1000 hz, ec, Out.here (b := V.str _) out2 s2 (.d (.str _))⟩)
            · exact out2.elim
          · exact out2.elim
        · exact out2.elim
      · unfold opIx at out2
        split at out2
        · exact out2.elim
        · rename_i i ei
          have ey := intOf_v ei r2
          split at out2
          · rename_i xs e
            obtain ⟨p, vs, rfl, t1, d1⟩ := tupOf_v e ru
            split at out2
            · rename_i d ed
              obtain ⟨v, h3, h4⟩ := atI_rds d1 ed
              exact .inr (.inl ⟨p, vs, i, v, rfl, ey, t1, h3, Out.here out2 s2 (.d h4)⟩)
            · exact out2.elim
          · split at out2
            · rename_i xs e
              obtain ⟨p, vs, rfl, t1, d1⟩ := listOf_v s2 e ru
              split at out2
              · rename_i d ed
                obtain ⟨v, h3, h4⟩ := atI_rds d1 ed
                exact .inl ⟨p, vs, i, v, rfl, ey, t1, h3, Out.here out2 s2 (.d h4)⟩
              · exact out2.elim
            · split at out2
              · split at out2
                · rename_i d ed
                  cases ru with
                  | tup t1 d1 =>
                    obtain ⟨v, h3, h4⟩ := atI_rus d1 ed
                    exact .inr (.inl ⟨_, _, i, v, rfl, ey, t1, h3, Out.here out2 s2 h4⟩)
                · exact out2.elim
              · exact out2.elim⟩
theorem sg_tupL {k n : Nat} (hc : X.calm = true) (h : SGs X es ix ts) (hn : (assignEach es X.env).length = n := by rfl) (hst : (assignEach es X.env).findIdx? (·.1) = none := by rfl) : SG X (.Tuple es k pos) ix (gTupL n ts) :=
  ⟨pg_imp (pg_unl hc h.pg hn hst) fun v σ H Q ⟨u, env, m, hh, sta, sl, r, env', e, q⟩ => by
    unfold gTupL at e
    split at e
    · rename_i us eu
      split at e
      · rename_i hl
        obtain ⟨p, vs, rfl, t1, r1⟩ := lsOf_v sta eu r
        have hvs : vs.length = n := (RUs.len r1).trans hl
        exact ⟨p, vs, rfl, t1, hvs, us, env, m, hh, sta, sl, r1, env', e, q⟩
      · cases e
    · cases e⟩
theorem ab_ext : AbM X W fExt rExtend := by
  intro σ H m h x xs u us Q s ru rus out
  unfold fExt at out
  split at out
  · rename_i n k
    split at out
    · rename_i ds es ed ee
      split at out
      · rename_i hz
        cases ru with
        | ref hm =>
          rename_i a
          cases rus with
          | cons rx rn =>
            cases rn
            cases rx with
            | ref hk =>
              rename_i b
              obtain ⟨vs, k1, k2⟩ := s.obj _ _ _ hm ed
              obtain ⟨ws, j1, j2⟩ := s.obj _ _ _ hk ee
              refine ⟨a, b, vs, ws, rfl, rfl, k1, j1, by rw [k2.len, j2.len]; exact ask_iff.mp hz, ?_⟩
              refine Out.ok (b := V.non) out (Gr.write (List.mem_of_getElem? hm) k1 trivial) (s.write hm k1 trivial ⟨_, upd_same, ?_⟩) (.d .non)
              exact (RDs.kp (mut_kp k1 trivial) _ _ k2).app (RDs.kp (mut_kp k1 trivial) _ _ j2)
      · exact out.elim
    · exact out.elim
  · exact out.elim
end
/-! ### a slice of a tuple with things -/
section
variable {K : PySem.W.Frag} {H : Hp} {m : List Addr}
theorem RUs.take : ∀ (n : Nat) {ds : List U} {vs : List V}, RUs K H m vs ds → RUs K H m (vs.take n) (ds.take n)
  | 0, _, _, _ => by simp; exact .nil
  | _ + 1, [], _, h => by cases h; exact .nil
  | n + 1, _ :: _, _, h => by cases h with | cons a b => exact .cons a (RUs.take n b)
theorem RUs.drop : ∀ (n : Nat) {ds : List U} {vs : List V}, RUs K H m vs ds → RUs K H m (vs.drop n) (ds.drop n)
  | 0, _, _, h => by simpa using h
  | _ + 1, [], _, h => by cases h; exact .nil
  | n + 1, _ :: _, _, h => by cases h with | cons a b => exact RUs.drop n b
theorem RUs.cut {us : List U} {vs : List V} (h : RUs K H m vs us) (lo hi : Option Int) : RUs K H m (cutV vs lo hi) (cutD us lo hi) := by
  unfold cutD cutV
  rw [RUs.len h]
  exact (h.drop _).take _
end
noncomputable def eSlU (f : Ev) (lo hi : Eo) : Ev := fun env h => (f env h).bind fun u h1 => (lo env h1).bind fun l h2 => (hi env h2).bind fun r h3 => match u with
  | .tup us => .ok (.tup (cutD us l r)) h3
  | _ => .stuck
theorem se_slU {X : Cx} {W : WX} {e : Expr} {lo hi : Option Expr} {f : Ev} {l r : Eo} {pos p2 : Pos} (he : SE X W e f) (hl : SO X W lo l) (hu : SO X W hi r) : SE X W (.Subscript e (.Slice lo hi none p2) pos) (eSlU f l r) :=
  ⟨pe_imp (pe_slice sl_tupA he.pe hl.po hu.po) fun σ H Q ⟨env, m, h, sta, sl, out⟩ => rd_of sta sl out fun u h1 x H1 m1 g1 s1 r1 out1 =>
    rd_of (rl2 := rlO) s1 (sl.gr g1) out1 fun i1 h2 i2 H2 m2 g2 s2 r2 out2 => rd_of (rl2 := rlO) s2 ((sl.gr g1).gr g2) out2 fun j1 h3 j2 H3 m3 g3 s3 r3 out3 => by
      cases r2
      cases r3
      have ru := RU.kp (g2.trans g3).kp (g2.trans g3).pre _ _ r1
      split at out3
      · rename_i us
        cases ru with
        | tup t1 d1 =>
          rename_i p vs
          refine ⟨p, vs, rfl, t1, fun hw => ?_, fun hw q nq => ?_⟩
          · have e1 : cutD us i1 j1 = us := by
              unfold cutD
              rw [← RUs.len d1, hw.1, hw.2]
              simp [RUs.len d1]
            rw [e1] at out3
            exact Out.here (b := V.ref p) out3 s3 (.tup t1 d1)
          · have sm : Same H3 (upd H3 q (.tup (cutV vs i1 j1))) := Same.lay nq
            exact Out.ok (b := V.ref q) out3 (Gr.of_same sm m3) (s3.same sm) (.tup (.inl (.inl upd_same)) (RUs.kp (Kp.same sm) ⟨[], by simp⟩ _ _ (d1.cut _ _)))
      · exact out3.elim⟩
@[simp] theorem ev_SlU (f : Ev) (lo hi : Eo) (env : Env') (h : Sto) : eSlU f lo hi env h = (f env h).bind fun u h1 => (lo env h1).bind fun l h2 => (hi env h2).bind fun r h3 => match u with | .tup us => .ok (.tup (cutD us l r)) h3 | _ => .stuck := (rfl)
/-! ### {text: e, ..} -/
def dspGo : List (Str × Ev) → Env' → Sto → Res (List (Key × U))
  | [], _, h => .ok [] h
  | (k, f) :: r, env, h => (f env h).bind fun u h1 => (dspGo r env h1).bind fun kvs h2 => .ok ((.inr k, u) :: kvs) h2
def mergeU (kvs more : List (Key × U)) : List (Key × U) := more.foldl (fun acc kv => putU acc kv.1 kv.2) kvs
def eDsp (ps : List (Str × Ev)) : Ev := fun env h => (dspGo ps env (h ++ [.dct []])).bind fun kvs h2 => match h2[h.length]? with
  | some (.dct []) => if kvs.length ≤ 15 then .ok (.ref h.length) (h2.set h.length (.dct (mergeU [] kvs))) else .stuck
  | _ => .stuck
def rlP (K : PySem.W.Frag) : Hp → List Addr → List (V × V) → List (Key × U) → Prop := fun H m ps kvs => ∃ gs : List (Key × V), ps = gs.map (fun kv => (kV kv.1, kv.2)) ∧ RK K H m gs kvs
theorem RK.merge {K : PySem.W.Frag} {H : Hp} {m : List Addr} {gs' : List (Key × V)} {kvs' : List (Key × U)} (r' : RK K H m gs' kvs') : ∀ {gs : List (Key × V)} {kvs : List (Key × U)}, RK K H m gs kvs → RK K H m (mergeK gs gs') (mergeU kvs kvs') := by
  unfold RK at r'
  induction r' with
  | nil => intro gs kvs r; exact r
  | @cons p q l l' h t ih =>
    intro gs kvs r
    show RK K H m (mergeK (putK gs p.1 p.2) l) (mergeU (putU kvs q.1 q.2) l')
    rw [← h.1]
    exact ih (r.put p.1 h.2)
section
variable {X : Cx} {W : WX} {pos : Pos}
def dspT (X : Cx) (W : WX) (ps : List (Str × Ev)) : List (TE × TE) := ps.map fun p => (tC (.str p.1), rd X W (rlU X.K) p.2)
theorem dsp_ok : ∀ (ps : List (Str × Ev)) {σ : L2.St} {H : Hp} {Q : List (V × V) → Hp → Prop}, rd X W (rlP X.K) (dspGo ps) σ H Q → tPairs (dspT X W ps) σ H Q
  | [], σ, H, Q, ⟨env, m, h, sta, sl, out⟩ => Out.here (b := ([] : List (V × V))) out sta ⟨[], rfl, .nil⟩
  | (k, f) :: r, σ, H, Q, ⟨env, m, h, sta, sl, out⟩ => by
    show tC (.str k) σ H fun x H1 => rd X W (rlU X.K) f σ H1 fun y H2 => tPairs (dspT X W r) σ H2 fun ps H3 => Q ((x, y) :: ps) H3
    show rd X W (rlU X.K) f σ H fun y H2 => tPairs (dspT X W r) σ H2 fun ps H3 => Q ((V.str k, y) :: ps) H3
    refine rd_of sta sl out fun u h1 x H1 m1 g1 s1 r1 out1 => dsp_ok r ?_
    refine rd_of s1 (sl.gr g1) out1 fun kvs h2 ps H2 m2 g2 s2 ⟨gs, e2, r2⟩ out2 => ?_
    subst e2
    exact Out.here (b := (V.str k, x) :: gs.map fun kv => (kV kv.1, kv.2)) out2 s2 ⟨(.inr k, x) :: gs, rfl, .cons ⟨rfl, RU.kp g2.kp g2.pre _ _ r1⟩ r2⟩
structure SPs (X : Cx) (W : WX) (pos : Pos) (keys : List (Option Expr)) (values : List Expr) (ps : List (Str × Ev)) : Prop where
  pp : PPs X pos keys values (dspT X W ps)
theorem sp_nil : SPs X W pos [] [] [] := ⟨pps_nil⟩
theorem sp_cons {k : Str} {j : Nat} {p2 : Pos} {e : Expr} {f : Ev} {ks : List (Option Expr)} {vs : List Expr} {ps : List (Str × Ev)} (he : SE X W e f) (hr : SPs X W pos ks vs ps) : SPs X W pos (some (.Constant (.str k) j p2) :: ks) (e :: vs) ((k, f) :: ps) := ⟨pps_cons pe_str he.pe hr.pp⟩
theorem se_dsp {keys : List (Option Expr)} {values : List Expr} {ps : List (Str × Ev)} (h : SPs X W pos keys values ps) (hall : keys.all (·.isSome) = true) (hl : keys.length = values.length) (h0 : keys ≠ []) (h15 : keys.length ≤ 15) : SE X W (.Dict keys values pos) (eDsp ps) :=
  ⟨pe_imp (pe_disp h.pp hall hl h0 h15) fun σ H Q ⟨env, m, h, sta, sl, out⟩ p np => dsp_ok ps (by
    have st1 : Sta X.K X.mg (upd H p (.dK [])) (m ++ [p]) (h ++ [.dct []]) := sta.push np ⟨[], upd_same, .nil⟩
    have gp := Gr.push (m := m) (x := .dK []) np
    refine rd_of st1 (sl.gr gp) (Out.gr out gp) fun kvs h2 qs H2 m2 g2 s2 ⟨gs, e2, r2⟩ out2 => ?_
    split at out2
    · rename_i hn
      split at out2
      · rename_i h15
        have hm : m2[h.length]? = some p := by
          obtain ⟨e, he⟩ := g2.pre
          rw [he, List.getElem?_append_left (by simp [sta.len]), ← sta.len]
          simp
        obtain ⟨gs0, hH, rk⟩ := s2.obj _ _ _ hm hn
        cases rk
        refine ⟨hH, gs, e2, by rw [r2.len]; exact h15, ?_⟩
        have kp := mut_kp (y := HO.dK (mergeK [] gs)) hH trivial
        have gw := Gr.write (y := HO.dK (mergeK [] gs)) (List.mem_of_getElem? hm) hH trivial
        exact Out.ok (b := V.ref p) out2 gw (s2.write hm hH trivial ⟨_, upd_same, RK.merge (paired_imp (fun p q z => ⟨z.1, RU.kp kp ⟨[], by simp⟩ _ _ z.2⟩) r2) .nil⟩) (.ref hm)
      · exact out2.elim
    · exact out2.elim)⟩
@[simp] theorem ev_Lsu (fa : Ea) (env : Env') (h : Sto) : eLsu fa env h = (fa env h).bind fun us h1 => if us.length ≤ 1000 then .ok (.ref h1.length) (h1 ++ [.lsu us]) else .stuck := (rfl)
@[simp] theorem ev_gTL (n : Nat) (r : Tgs) (u : U) (env : Env') (h : Sto) : gTupL n r u env h = match lsOf h u with | some us => if us.length = n then r us env h else none | none => none := (rfl)
@[simp] theorem ev_lsR (n : Nat) (h : Sto) : lsOf h (.ref n) = match h[n]? with | some (.lsu us) => some us | _ => none := (rfl)
@[simp] theorem ev_ixLT (d : List D) (w : U) (h : Sto) : opIxL (.d (.tuple d)) w h = opIx (.d (.tuple d)) w h := (rfl)
@[simp] theorem ev_ixLL (d : List D) (w : U) (h : Sto) : opIxL (.d (.list d)) w h = opIx (.d (.list d)) w h := (rfl)
@[simp] theorem ev_ixLS (z : Str) (i : Int) (h : Sto) : opIxL (.d (.str z)) (.d (.int i)) h = if z.length ≤ 1000 then (match atI z.cps.toList i with | some c => .ok (.d (.str ⟨#[c]⟩)) h | none => .stuck) else .stuck := (rfl)
@[simp] theorem ev_ixLR (n : Nat) (i : Int) (h : Sto) : opIxL (.ref n) (.d (.int i)) h = match lsOf h (.ref n) with | some us => (match atI us i with | some x => .ok x h | none => .stuck) | none => opIx (.ref n) (.d (.int i)) h := (rfl)
@[simp] theorem ev_ixLt (us : List U) (w : U) (h : Sto) : opIxL (.tup us) w h = opIx (.tup us) w h := (rfl)
end
end Wk

/-! T18: sum, max of a list of ints. -/
namespace Wk
open PySem PySem.Spec PyProof.Rows L2
def intsOf : List D → Option (List Int)
  | [] => some []
  | .int i :: r => (intsOf r).map (i :: ·)
  | _ :: _ => none
theorem intsOf_eq : ∀ {xs : List D} {ns : List Int}, intsOf xs = some ns → xs = ns.map .int
  | [], ns, e => by cases e; rfl
  | .int i :: r, ns, e => by
    rw [intsOf] at e
    cases q : intsOf r with
    | none => rw [q] at e; cases e
    | some m => rw [q] at e; cases e; rw [intsOf_eq q]; rfl
  | .none :: _, _, e => by cases e
  | .bool _ :: _, _, e => by cases e
  | .str _ :: _, _, e => by cases e
  | .list _ :: _, _, e => by cases e
  | .tuple _ :: _, _, e => by cases e
  | .dict _ :: _, _, e => by cases e
theorem intsOf_map : ∀ ns : List Int, intsOf (ns.map .int) = some ns
  | [] => rfl
  | n :: r => by rw [List.map_cons, intsOf, intsOf_map r]; rfl
theorem RDs.intsV {K : PySem.W.Frag} {H : Hp} : ∀ {ns : List Int} {vs : List V}, RDs K H vs (ns.map .int) → vs = ns.map V.int
  | [], _, h => by cases h; rfl
  | n :: r, _, h => by
    cases h with
    | cons a b => cases a; rw [RDs.intsV b]; rfl
def maxOf : Int → List Int → Int
  | m, [] => m
  | m, n :: r => maxOf (if m < n then n else m) r
theorem maxOf_ge : ∀ (r : List Int) (m : Int), m ≤ maxOf m r ∧ (∀ y ∈ r, y ≤ maxOf m r) ∧ (maxOf m r = m ∨ maxOf m r ∈ r)
  | [], m => ⟨Int.le_refl _, (fun _ h => by cases h), .inl rfl⟩
  | n :: r, m => by
    obtain ⟨h1, h2, h3⟩ := maxOf_ge r (if m < n then n else m)
    rw [maxOf]
    refine ⟨?_, fun y hy => ?_, ?_⟩
    · split at h1 <;> rename_i h <;> (try rw [if_pos h]) <;> (try rw [if_neg h]) <;> omega
    · rcases List.mem_cons.mp hy with z | z
      · rw [z]; split at h1 <;> rename_i h <;> (try rw [if_pos h]) <;> (try rw [if_neg h]) <;> omega
      · exact h2 y z
    · rcases h3 with z | z
      · rw [z]
        split
        · right; exact List.mem_cons_self
        · left; rfl
      · right; exact List.mem_cons_of_mem _ z
def fSum (us : List U) (h : Sto) : Res U := match us with
  | [u] => (match listOf h u with
    | some xs => (match intsOf xs with
      | some ns => .ok (.d (.int ns.sum)) h
      | none => .stuck)
    | none => .stuck)
  | _ => .stuck
def fMaxL (us : List U) (h : Sto) : Res U := match us with
  | [u] => (match listOf h u with
    | some xs => (match intsOf xs with
      | some (n :: ns) => .ok (.d (.int (maxOf n ns))) h
      | _ => .stuck)
    | none => .stuck)
  | _ => .stuck
section
variable {X : Cx} {W : WX}
theorem ab_sum : AbC X W fSum (rSum X.K) := by
  intro σ H m h xs us Q s r out
  unfold fSum at out
  split at out
  · rename_i u
    cases r with
    | cons ra rb =>
      cases rb
      split at out
      · rename_i ys ey
        split at out
        · rename_i ns en
          obtain ⟨a, vs, rfl, t1, d1⟩ := listOf_v s ey ra
          rw [intsOf_eq en] at d1
          rw [d1.intsV] at t1
          exact ⟨a, ns, rfl, t1, Out.here (b := V.int _) out s (.d (.int _))⟩
        · exact out.elim
      · exact out.elim
  · exact out.elim
theorem ab_maxL : AbC X W fMaxL (rMax X.K) := by
  intro σ H m h xs us Q s r out
  unfold fMaxL at out
  split at out
  · rename_i u
    cases r with
    | cons ra rb =>
      cases rb
      split at out
      · rename_i ys ey
        split at out
        · rename_i n ns en
          obtain ⟨a, vs, rfl, t1, d1⟩ := listOf_v s ey ra
          rw [intsOf_eq en] at d1
          rw [d1.intsV] at t1
          refine ⟨a, n :: ns, rfl, t1, by simp, fun k hk hle => ?_⟩
          obtain ⟨h1, h2, h3⟩ := maxOf_ge ns n
          have e : k = maxOf n ns := by
            have a1 : maxOf n ns ≤ k := hle _ (by
              rcases h3 with z | z
              · rw [z]; exact List.mem_cons_self
              · exact List.mem_cons_of_mem _ z)
            have a2 : k ≤ maxOf n ns := by
              rcases List.mem_cons.mp hk with z | z
              · rw [z]; exact h1
              · exact h2 k z
            omega
          rw [e]
          exact Out.here (b := V.int _) out s (.d (.int _))
        · exact out.elim
      · exact out.elim
  · exact out.elim
theorem bt_sum : bootBuiltins "sum" = some (.builtin "sum") := by decide +kernel
theorem ev_sum (ns : List Int) (h : Sto) : fSum [.d (.list (ns.map .int))] h = .ok (.d (.int ns.sum)) h := by
  unfold fSum
  have : Wk.listOf h (.d (.list (ns.map .int))) = some (ns.map .int) := rfl
  simp only [this, intsOf_map]
theorem ev_maxL (n : Int) (ns : List Int) (h : Sto) : fMaxL [.d (.list (.int n :: ns.map .int))] h = .ok (.d (.int (maxOf n ns))) h := by
  unfold fMaxL
  have : intsOf (PyData.int n :: ns.map .int) = some (n :: ns) := intsOf_map (n :: ns)
  have e : Wk.listOf h (.d (.list (.int n :: ns.map .int))) = some (.int n :: ns.map .int) := rfl
  simp only [e, this]
end
end Wk

/-! T19: dicts whose keys are tuples of ints and of such tuples. -/
namespace Wk
open PySem PySem.Spec PyProof.Rows L2
/-! ### data as keys -/
mutual
def nkD : D → Option NestedKey
  | .int i => some (.num i)
  | .tuple ds => (nkDs ds).map .tup
  | _ => none
def nkDs : List D → Option (List NestedKey)
  | [] => some []
  | d :: ds => match nkD d, nkDs ds with
    | some k, some ks => some (k :: ks)
    | _, _ => none
end
mutual
theorem nkD_ok : ∀ (d : D) (k : NestedKey), nkD d = some k → k.data = d ∧ pureK k = true
  | .int i, k, e => by rw [nkD] at e; cases e; exact ⟨by rw [NestedKey.data], by rw [pureK]⟩
  | .tuple ds, k, e => by
    rw [nkD] at e
    cases q : nkDs ds with
    | none => rw [q] at e; cases e
    | some ks =>
      rw [q] at e
      cases e
      obtain ⟨h1, h2⟩ := nkDs_ok ds ks q
      exact ⟨by rw [NestedKey.data, h1], by rw [pureK]; exact h2⟩
  | .none, k, e => by simp [nkD] at e
  | .bool _, k, e => by simp [nkD] at e
  | .str _, k, e => by simp [nkD] at e
  | .list _, k, e => by simp [nkD] at e
  | .dict _, k, e => by simp [nkD] at e
theorem nkDs_ok : ∀ (ds : List D) (ks : List NestedKey), nkDs ds = some ks → NestedKey.datas ks = ds ∧ pureKs ks = true
  | [], ks, e => by rw [nkDs] at e; cases e; exact ⟨by rw [NestedKey.datas], by rw [pureKs]⟩
  | d :: ds, ks, e => by
    rw [nkDs] at e
    cases q1 : nkD d with
    | none => rw [q1] at e; cases e
    | some k =>
      cases q2 : nkDs ds with
      | none => rw [q1, q2] at e; cases e
      | some ks' =>
        rw [q1, q2] at e
        cases e
        obtain ⟨a1, a2⟩ := nkD_ok d k q1
        obtain ⟨b1, b2⟩ := nkDs_ok ds ks' q2
        exact ⟨by rw [NestedKey.datas, a1, b1], by rw [pureKs, a2, b2]; rfl⟩
end
def keyN (u : U) : Option NestedKey := match u with
  | .d (.tuple ds) => (match nkD (.tuple ds) with
    | some k => if k.depth ≤ 8 then some k else none
    | none => none)
  | _ => none
structure KyA (K : PySem.W.Frag) (H : Hp) (b : Addr) (k : NestedKey) : Prop where
  pu : pureK k = true
  dp : k.depth ≤ 8
  rd : RD K H (.ref b) k.data
theorem keyN_v {K : PySem.W.Frag} {H : Hp} {m : List Addr} {v : V} {u : U} {k : NestedKey} (e : keyN u = some k) (r : RU K H m v u) : ∃ b, v = .ref b ∧ KyA K H b k := by
  unfold keyN at e
  split at e
  · rename_i ds
    split at e
    · rename_i k' ek
      split at e
      · rename_i hd
        cases e
        obtain ⟨h1, h2⟩ := nkD_ok _ _ ek
        have rr := r.rd
        cases rr with
        | tup a b => exact ⟨_, rfl, h2, hd, by rw [h1]; exact .tup a b⟩
      · cases e
    · cases e
  · cases e
mutual
theorem nest_of {X : Cx} {pins : List (Addr × Obj)} {σ : L2.St} {H : Hp} {s : Shared} (I : L2.Inv X pins σ H s) : ∀ (k : NestedKey) (v : V) (u : Value), pureK k = true → RD X.K H v k.data → RelV v u → NestedIs s.heap k u
  | .num i, v, u, hp, r, ru => by
    rw [NestedKey.data] at r
    cases r
    obtain ⟨t, rfl⟩ := ru
    exact .int i t
  | .tup ks, v, u, hp, r, ru => by
    rw [pureK] at hp
    rw [NestedKey.data] at r
    cases r with
    | tup a b =>
      cases (show u = Value.ref _ from ru)
      obtain ⟨its, rv, ⟨o, ho, hc, n, hd⟩, _⟩ := I.tuple a
      exact .tup ho hc hd (by rw [List.toList_toArray]; exact nests_of I ks _ its hp b rv)
  | .none, v, u, hp, r, ru => by rw [pureK] at hp; cases hp
  | .text _, v, u, hp, r, ru => by rw [pureK] at hp; cases hp
theorem nests_of {X : Cx} {pins : List (Addr × Obj)} {σ : L2.St} {H : Hp} {s : Shared} (I : L2.Inv X pins σ H s) : ∀ (ks : List NestedKey) (vs : List V) (us : List Value), pureKs ks = true → RDs X.K H vs (NestedKey.datas ks) → Vals vs us → NestedAll s.heap ks us
  | [], vs, us, hp, r, ru => by
    rw [NestedKey.datas] at r
    cases r
    cases ru
    exact .nil
  | k :: ks, vs, us, hp, r, ru => by
    rw [pureKs, Bool.and_eq_true] at hp
    rw [NestedKey.datas] at r
    cases r with
    | cons a b =>
      cases ru with
      | cons c d => exact .cons (nest_of I k _ _ hp.1 a c) (nests_of I ks _ _ hp.2 b d)
end
theorem key_isN {X : Cx} {pins : List (Addr × Obj)} {σ : L2.St} {H : Hp} {s : Shared} {b : Addr} {k : NestedKey} (I : L2.Inv X pins σ H s) (h : KyA X.K H b k) : (nestedKind X.prog X.w).is s.heap k b := ⟨nest_of I k _ _ h.pu h.rd rfl, h.dp⟩
/-! ### the dict in the heap -/
structure DX (K : PySem.W.Frag) (H : Hp) (a : Addr) (xs : XS) : Prop where
  sys : (a == sysModules) = false
  nd : (xs.map (·.1)).Nodup
  sz : xs.length ≤ sizeLine
  ks : ∀ x ∈ xs, KyA K H x.2.1 x.1
theorem paired_left {α β : Type} {F : α → β → Prop} : ∀ {l : List α} {r : List β}, Paired F l r → ∀ x ∈ l, ∃ y ∈ r, F x y
  | _, _, .nil, x, hx => nomatch hx
  | _, _, .cons p q, x, hx => by
    rcases List.mem_cons.mp hx with z | z
    · subst z; exact ⟨_, List.mem_cons_self, p⟩
    · obtain ⟨y, hy, hf⟩ := paired_left q x z
      exact ⟨y, List.mem_cons_of_mem _ hy, hf⟩
theorem DN.dx {K : PySem.W.Frag} {H : Hp} {m : List Addr} {a : Addr} {xs : XS} {kvs : List (NestedKey × U)} (d : DN K H m a xs kvs) : DX K H a xs :=
  ⟨d.sys, d.nd, d.sz, fun x hx => by
    obtain ⟨y, _, h1, h2, h3, _⟩ := paired_left d.p x hx
    exact ⟨h2.1, h2.2, h3⟩⟩
theorem eK_entry {P : Program} {w : World} {x : NestedKey × Addr × Value} (h : pureK x.1 = true) : eK x = entryOfKey (nestedKind P w) x := by
  unfold eK entryOfKey
  show _ = DictEntry.mk (x.1.hash w) _ _
  rw [hK_hash w x.1 h]
theorem dx_dict {X : Cx} {pins : List (Addr × Obj)} {σ : L2.St} {H : Hp} {s : Shared} {a : Addr} {xs : XS} (I : L2.Inv X pins σ H s) (e : Rd H a (DNo a xs)) (d : DX X.K H a xs) : s.heap.DictOfH (nestedKind X.prog X.w) a xs := by
  obtain ⟨⟨o, es, ep, h1, h2, h3, h4⟩, _, _⟩ := (show ObjOk X.prog X.w H s.heap a (DNo a xs) from e.ok I.hok)
  refine ⟨o, es, ep, h1, h2, h3, ?_, fun x hx => key_isN I (d.ks x hx), d.nd⟩
  rw [h4]
  exact List.map_congr_left fun x hx => eK_entry (d.ks x hx).pu
theorem dx_obj {P : Program} {w : World} {H' : Hp} {h' : Heap} {a : Addr} {xs : XS} (hk : ∀ x ∈ xs, pureK x.1 = true) (d : h'.DictOfH (nestedKind P w) a xs) : ObjOk P w H' h' a (DNo a xs) := by
  obtain ⟨o, es, ep, h1, h2, h3, h4, h5, h6⟩ := d
  refine ⟨⟨o, es, ep, h1, h2, h3, ?_⟩, ⟨o, h1⟩, fun g1 g2 ⟨o, es, ep, h1, h2, h3, h4⟩ k => ⟨o, es, ep, k o h1, h2, h3, h4⟩⟩
  rw [h4]
  exact List.map_congr_left fun x hx => (eK_entry (hk x hx)).symm
theorem roomN {X : Cx} (hu : X.A.units + 64 < cLine) : (nestedKind X.prog X.w).room X.A.in1 := by
  show X.A.in1.units + 8 < cLine
  have : X.A.in1.units = X.A.units + 1 := rfl
  omega
/-! ### readings -/
def valN (kvs : List (NestedKey × U)) (k : NestedKey) : Option U := (kvs.find? fun kv => decide (kv.1 = k)).map (·.2)
def putN (kvs : List (NestedKey × U)) (k : NestedKey) (v : U) : List (NestedKey × U) := if kvs.any fun kv => decide (kv.1 = k) then kvs.map fun kv => if kv.1 = k then (kv.1, v) else kv else kvs ++ [(k, v)]
def dnOf (h : Sto) : U → Option (List (NestedKey × U))
  | .ref n => match h[n]? with
    | some (.dtp kvs) => some kvs
    | some (.fdt kvs) => some kvs
    | _ => none
  | _ => none
theorem dnOf_v {K : PySem.W.Frag} {mg : Str → Option Value} {H : Hp} {m : List Addr} {h : Sto} {v : V} {u : U} {kvs : List (NestedKey × U)} (s : Sta K mg H m h) (e : dnOf h u = some kvs) (r : RU K H m v u) : ∃ a xs, v = .ref a ∧ Rd H a (DNo a xs) ∧ DN K H m a xs kvs := by
  unfold dnOf at e
  split at e
  · cases r with
    | ref hm =>
      split at e
      · rename_i n kvs' ho
        cases e
        obtain ⟨xs, h1, h2⟩ := s.obj _ _ _ hm ho
        exact ⟨_, xs, rfl, .inl h1, h2⟩
      · rename_i n kvs' ho
        cases e
        obtain ⟨o, xs, h1, h2⟩ := s.obj _ _ _ hm ho
        exact ⟨_, xs, rfl, .inr ⟨o, h1⟩, h2⟩
      · cases e
  · cases e
theorem DN.val {K : PySem.W.Frag} {H : Hp} {m : List Addr} {a : Addr} {xs : XS} {kvs : List (NestedKey × U)} (d : DN K H m a xs kvs) (k : NestedKey) : (atKey xs k = none ∧ valN kvs k = none) ∨ ∃ p u v, atKey xs k = some p ∧ valN kvs k = some u ∧ RU K H m v u ∧ RelV v p.2 := by
  have h := d.p
  clear d
  induction h with
  | nil => exact .inl ⟨rfl, rfl⟩
  | @cons x kv l r z _ ih =>
    obtain ⟨z1, z2, z3, v, z4, z5⟩ := z
    by_cases e : x.1 = k
    · refine .inr ⟨x.2, kv.2, v, ?_, ?_, z4, z5⟩
      · unfold atKey; simp [e]
      · unfold valN; simp [← z1, e]
    · have e1 : decide (x.1 = k) = false := decide_eq_false e
      have e2 : decide (kv.1 = k) = false := decide_eq_false (by rw [← z1]; exact e)
      have s1 : atKey (x :: l) k = atKey l k := by unfold atKey; simp [e]
      have s2 : valN (kv :: r) k = valN r k := by unfold valN; rw [List.find?_cons, e2]
      rw [s1, s2]
      exact ih
theorem DN.put {K : PySem.W.Frag} {H : Hp} {m : List Addr} {a b : Addr} {xs : XS} {kvs : List (NestedKey × U)} (d : DN K H m a xs kvs) {k : NestedKey} (hk : KyA K H b k) {v : V} {u : U} {r : Value} (ru : RU K H m v u) (rr : RelV v r) (hz : xs.length < sizeLine) : DN K H m a (storedH xs k b r) (putN kvs k u) := by
  have any : (kvs.any fun kv => decide (kv.1 = k)) = (atKey xs k).isSome := by
    have h := d.p
    clear d hz
    induction h with
    | nil => rfl
    | @cons x kv l r z _ ih =>
      obtain ⟨z1, _⟩ := z
      rw [List.any_cons, ih]
      by_cases e : x.1 = k
      · rw [← z1, e]; unfold atKey; simp [e]
      · have e1 : decide (kv.1 = k) = false := decide_eq_false (by rw [← z1]; exact e)
        have s1 : atKey (x :: l) k = atKey l k := by unfold atKey; simp [e]
        rw [e1, s1, Bool.false_or]
  have keys : (xs.map (putAt k r)).map (·.1) = xs.map (·.1) := by
    rw [List.map_map]
    refine List.map_congr_left fun x _ => ?_
    show (putAt k r x).1 = x.1
    unfold putAt
    split <;> rfl
  unfold storedH putN
  rw [any]
  by_cases hs : (atKey xs k).isSome = true
  · rw [if_pos hs, if_pos hs]
    refine ⟨d.sys, by rw [keys]; exact d.nd, by rw [List.length_map]; exact d.sz, ?_⟩
    have h := d.p
    clear d any keys hs hz
    induction h with
    | nil => exact .nil
    | @cons x kv l r' z _ ih =>
      rw [List.map_cons, List.map_cons]
      refine .cons ?_ ih
      obtain ⟨z1, z2, z3, v', z4, z5⟩ := z
      unfold putAt
      by_cases e : x.1 = k
      · rw [if_pos e, if_pos (by rw [← z1]; exact e)]
        exact ⟨z1, z2, z3, v, ru, rr⟩
      · rw [if_neg e, if_neg (by rw [← z1]; exact e)]
        exact ⟨z1, z2, z3, v', z4, z5⟩
  · rw [if_neg hs, if_neg hs]
    have hn : k ∉ xs.map (·.1) := fun hm => by
      obtain ⟨x, hx, ex⟩ := List.mem_map.mp hm
      apply hs
      unfold atKey
      rw [Option.isSome_map, List.find?_isSome]
      exact ⟨x, hx, decide_eq_true ex⟩
    refine ⟨d.sys, ?_, by rw [List.length_append, List.length_singleton]; omega, ?_⟩
    · rw [List.map_append, List.nodup_append]
      refine ⟨d.nd, by simp, fun x hx y hy => ?_⟩
      simp at hy
      rw [hy]
      exact fun z => hn (z ▸ hx)
    · exact Paired.snoc d.p ⟨rfl, ⟨hk.pu, hk.dp⟩, hk.rd, v, ru, rr⟩
/-! ### {} -/
def eNNew : Ev := fun _ h => .ok (.ref h.length) (h ++ [.dtp []])
section
variable {X : Cx} {W : WX} {o i e value : Expr} {pos pos' apos cpos : Pos} {fo fi fv fx : Ev} {td ty tv tx : TE}
theorem pe_nnew : PE X (.Dict [] [] pos) (fun _ H Q => ∀ p, H p = none → (p == sysModules) = false → Q (.ref p) (upd H p (DNo p []))) := ⟨fun pins s σ H Q I h => by
  have hb : (s.heap.objs.size == sysModules) = false := beq_eq_false_iff_ne.mpr (Ne.symm (Nat.ne_of_lt I.big))
  refine wpAny_Dict_empty ⟨.ref s.heap.objs.size, _, I.laid (a := s.heap.objs.size) (o := DNo s.heap.objs.size []) (t' := s.toks) (fun _ _ q => Heap.get?_push_of_some _ q) (Nat.le_refl _) ?_, rfl, h _ (I.hok.fresh (Nat.le_refl _)) hb⟩
  exact dx_obj (P := X.prog) (w := X.w) (fun x hx => by cases hx) (Heap.DictOfH.new s.heap)⟩
theorem se_nnew : SE X W (.Dict [] [] pos) eNNew :=
  ⟨pe_imp pe_nnew fun σ H Q ⟨env, m, h, sta, sl, out⟩ p np hs => Out.ok (b := V.ref p) out (Gr.push np) (sta.push np ⟨[], upd_same, hs, List.nodup_nil, Nat.zero_le _, .nil⟩) (.ref (by rw [← sta.len]; simp))⟩
/-! ### d[k] -/
def opNGet (u w : U) (h : Sto) : Res U := match dnOf h u, keyN w with
  | some kvs, some k => (match valN kvs k with
    | some x => .ok x h
    | none => .stuck)
  | _, _ => .stuck
def tNGet (K : PySem.W.Frag) (td ty : TE) : TE := fun σ H Q => td σ H fun x H1 => ty σ H1 fun y H2 => ∃ a b xs k p v, x = .ref a ∧ y = .ref b ∧ Rd H2 a (DNo a xs) ∧ DX K H2 a xs ∧ KyA K H2 b k ∧ atKey xs k = some p ∧ RelV v p.2 ∧ Q v H2
theorem pe_nget (hu : X.A.units + 64 < cLine) (ho : PE X o td) (hi : PE X i ty) (hs : NoSl i) : PE X (.Subscript o i pos) (tNGet X.K td ty) := by
  refine ⟨fun pins s σ H Q I h => ?_⟩
  refine subD_of PySem.F.slot_dict_getitem.lookup hs (thn (ho.run pins s σ H _ I h) fun u s1 ⟨x, H1, I1, rx, q1⟩ => thn (hi.run pins s1 σ H1 _ I1 q1) fun iv s2 ⟨y, H2, I2, ry, a, b, xs, k, p, v, ex, ey, hd, dx, hk, hp, rv, q2⟩ => ?_)
  subst ex ey
  obtain rfl : u = Value.ref a := rx
  obtain rfl : iv = Value.ref b := ry
  have dd := dx_dict I2 hd dx
  exact ⟨dd.typeIs, wpAny_getItem_heap (roomN hu) (key_isN I2 hk) dd hp ⟨v, H2, I2.tok _, rv, q2⟩⟩
theorem se_nget (hu : X.A.units + 64 < cLine) (ho : SE X W o fo) (hi : SE X W i fi) (hs : NoSl i := by intro _ _; rfl) : SE X W (.Subscript o i pos) (eBin opNGet fo fi) :=
  ⟨pe_imp (pe_nget hu ho.pe hi.pe hs) fun σ H Q ⟨env, m, h, sta, sl, out⟩ => rd_of sta sl out fun u h1 x H1 m1 g1 s1 r1 out1 => rd_of s1 (sl.gr g1) out1 fun w h2 y H2 m2 g2 s2 r2 out2 => by
    have ru := RU.kp g2.kp g2.pre _ _ r1
    unfold opNGet at out2
    split at out2
    · rename_i kvs k ed ek
      obtain ⟨a, xs, rfl, hd, dn⟩ := dnOf_v s2 ed ru
      obtain ⟨b, rfl, hk⟩ := keyN_v ek r2
      split at out2
      · rename_i z ez
        rcases dn.val k with ⟨_, h2⟩ | ⟨p, u', v, h1, h2, rv, rr⟩
        · rw [ez] at h2; cases h2
        · rw [ez] at h2
          cases h2
          exact ⟨a, b, xs, k, p, v, rfl, rfl, hd, dn.dx, hk, h1, rr, Out.here (b := v) out2 s2 rv⟩
      · exact out2.elim
    · exact out2.elim⟩
/-! ### d.get(k, x) -/
def eNGet2 (fo fk fx : Ev) : Ev := fun env h => (fo env h).bind fun u h1 => match dnOf h1 u with
  | some _ => (fk env h1).bind fun w h2 => (fx env h2).bind fun x h3 => (match dnOf h3 u, keyN w with
    | some kvs, some k => .ok ((valN kvs k).getD x) h3
    | _, _ => .stuck)
  | none => .stuck
def tNGet2 (K : PySem.W.Frag) (td ty tx : TE) : TE := fun σ H Q => td σ H fun x H1 => ∃ a xs0, x = .ref a ∧ Rd H1 a (DNo a xs0) ∧ DX K H1 a xs0 ∧ ty σ H1 fun y H2 => tx σ H2 fun z H3 => ∃ b xs k, y = .ref b ∧ Rd H3 a (DNo a xs) ∧ DX K H3 a xs ∧ KyA K H3 b k ∧
  (atKey xs k = none → Q z H3) ∧ (∀ p, atKey xs k = some p → ∃ v, RelV v p.2 ∧ Q v H3)
theorem dx_at {pins : List (Addr × Obj)} {σ : L2.St} {H : Hp} {s : Shared} {a : Addr} {xs : XS} (I : L2.Inv X pins σ H s) (e : Rd H a (DNo a xs)) (d : DX X.K H a xs) : s.TypeIs (.ref a) "dict" ∧ (∀ b, Value.ref a = .ref b → ∃ ob, s.heap.get? b = some ob ∧ ob.dict = none) := by
  have dd := dx_dict I e d
  refine ⟨dd.typeIs, fun b q => ?_⟩
  cases q
  obtain ⟨ob, _, _, h1, h2, _⟩ := dd
  exact ⟨ob, h1, h2.2.1⟩
theorem pe_nget2 (hu : X.A.units + 64 < cLine) (ho : PE X o td) (hi : PE X i ty) (he : PE X e tx) (m : M2 X o "get" apos i e cpos) : PE X (.Call (.Attribute o "get" apos) [i, e] [] cpos) (tNGet2 X.K td ty tx) := by
  refine ⟨fun pins s σ H Q I h => ?_⟩
  refine wpAny_Call_method m.base m.few m.line PySem.F.plainAttrs_dict PySem.F.slot_dict_get PySem.F.type_dict_get (thn (ho.run pins s σ H _ I h) fun u s1 ⟨x, H1, I1, rx, a, xs0, ex, hd, dx, q1⟩ => ?_)
  subst ex
  obtain rfl : u = Value.ref a := rx
  obtain ⟨t1, t2⟩ := dx_at I1 hd dx
  refine ⟨t1, t2, ?_⟩
  rw [m.trees]
  refine Calls.callWith_builtin rfl (Calls.evalArgs_plain (Calls.spliced_cons (thn (hi.run pins s1 σ H1 _ I1 q1) fun iv s2 ⟨y, H2, I2, ry, q2⟩ =>
    Calls.spliced_cons (thn (he.run pins s2 σ H2 _ I2 q2) fun fv s3 ⟨z, H3, I3, rz, b, xs, k, ey, hd3, dx3, hk, k1, k2⟩ => Calls.spliced_nil ?_))))
  subst ey
  obtain rfl : iv = Value.ref b := ry
  have dd := dx_dict I3 hd3 dx3
  refine call_meetsIn PySem.F.slot_dict_get dd.typeIs PySem.F.entry_dict_get (PySem.F.args_dict_get_3 _ _ _) (meetsH_dict_get_default (nestedKind X.prog X.w) a b dx3.sys fv) ⟨roomN hu, k, xs, key_isN I3 hk, dd, ?_⟩
  cases q : atKey xs k with
  | none => exact ⟨z, H3, I3.tok _, rz, k1 q⟩
  | some p =>
    obtain ⟨v, rv, q3⟩ := k2 p q
    exact ⟨v, H3, I3.tok _, rv, q3⟩
theorem se_nget2 (hu : X.A.units + 64 < cLine) (ho : SE X W o fo) (hi : SE X W i fi) (hx : SE X W e fx) (m : M2 X o "get" apos i e cpos) : SE X W (.Call (.Attribute o "get" apos) [i, e] [] cpos) (eNGet2 fo fi fx) :=
  ⟨pe_imp (pe_nget2 hu ho.pe hi.pe hx.pe m) fun σ H Q ⟨env, m, h, sta, sl, out⟩ => rd_of sta sl out fun u h1 x H1 m1 g1 s1 r1 out1 => by
    split at out1
    · rename_i kvs ed
      obtain ⟨a, xs0, rfl, hd, dn⟩ := dnOf_v s1 ed r1
      refine ⟨a, xs0, rfl, hd, dn.dx, rd_of s1 (sl.gr g1) out1 fun w h2 y H2 m2 g2 s2 r2 out2 => rd_of s2 ((sl.gr g1).gr g2) out2 fun z h3 zv H3 m3 g3 s3 r3 out3 => ?_⟩
      have ru := RU.kp (g2.trans g3).kp (g2.trans g3).pre _ _ r1
      have ry := RU.kp g3.kp g3.pre _ _ r2
      split at out3
      · rename_i kvs' k ed' ek
        obtain ⟨a', xs, e1, hd3, dn3⟩ := dnOf_v s3 ed' ru
        cases e1
        obtain ⟨b, rfl, hk⟩ := keyN_v ek ry
        refine ⟨b, xs, k, rfl, hd3, dn3.dx, hk, fun hn => ?_, fun p hp => ?_⟩
        · rcases dn3.val k with ⟨_, l2⟩ | ⟨p, u', v, l1, l2, rv, rr⟩
          · rw [l2] at out3
            exact Out.here (b := zv) out3 s3 r3
          · rw [hn] at l1; cases l1
        · rcases dn3.val k with ⟨l1, l2⟩ | ⟨p', u', v, l1, l2, rv, rr⟩
          · rw [hp] at l1; cases l1
          · rw [hp] at l1
            cases l1
            rw [l2] at out3
            exact ⟨v, rr, Out.here (b := v) out3 s3 rv⟩
      · exact out3.elim
    · exact out1.elim⟩
/-! ### d[k] = e -/
noncomputable def nPut (u w x : U) (h : Sto) : Option Sto := match u with
  | .ref n => (match h[n]?, keyN w with
    | some (.dtp kvs), some k => if ask (kvs.length < sizeLine) then some (h.set n (.dtp (putN kvs k x))) else none
    | _, _ => none)
  | _ => none
noncomputable def sNPutS (fv fo fk : Ev) : Es := fun env h => (fv env h).then_ env fun x h1 => (fo env h1).then_ env fun u h2 => (fk env h2).then_ env fun w h3 => match nPut u w x h3 with
  | some h4 => .next env h4
  | none => .stuck
def sNPut (K : PySem.W.Frag) (td ty tv : TE) : TS := fun D σ H => tv σ H fun v H1 => td σ H1 fun x H2 => ty σ H2 fun y H3 => ∃ a b xs k, x = .ref a ∧ y = .ref b ∧ H3 a = some (DNo a xs) ∧ DX K H3 a xs ∧ KyA K H3 b k ∧ ∀ r, RelV v r → D.nx σ (upd H3 a (DNo a (storedH xs k b r)))
theorem ps_nput (hu : X.A.units + 64 < cLine) (ho : PE X o td) (hi : PE X i ty) (hv : PE X value tv) (hs : swapsWith value (some (.Subscript o i pos')) pos.line X.env = pure false) :
    PS X (.Assign [.Subscript o i pos'] value pos) (sNPut X.K td ty tv) := by
  refine ⟨fun pins s σ H D I h => ?_⟩
  refine wpAny_Assign_Subscript (thn (hv.run pins s σ H _ I h) fun r s1 ⟨v, H1, I1, rv, q1⟩ => thn (ho.run pins s1 σ H1 _ I1 q1) fun u s2 ⟨x, H2, I2, rx, q2⟩ => thn (hi.run pins s2 σ H2 _ I2 q2) fun iv s3 ⟨y, H3, I3, ry, a, b, xs, k, ex, ey, hd, dx, hk, q3⟩ => ?_) hs
  subst ex ey
  obtain rfl : u = Value.ref a := rx
  obtain rfl : iv = Value.ref b := ry
  have dd := dx_dict I3 (.inl hd) dx
  refine wpAny_setItem_heap (hsz := dx.sz) (roomN hu) (key_isN I3 hk) dd fun h' dd' hs' => ?_
  have he : ∃ q, h'.get? a = some q := let ⟨q, _, _, hq, _⟩ := dd'; ⟨q, hq⟩
  refine ⟨σ, _, d_write I3 (by rw [hd]; exact True.intro) hs' he (dx_obj (fun x hx => ?_) dd'), q3 r rv⟩
  unfold storedH at hx
  split at hx
  · obtain ⟨z, hz, rfl⟩ := List.mem_map.mp hx
    have := (dx.ks z hz).pu
    unfold putAt
    split <;> exact this
  · rcases List.mem_append.mp hx with z | z
    · exact (dx.ks x z).pu
    · rw [List.mem_singleton.mp z]; exact hk.pu
theorem ss_nput (hu : X.A.units + 64 < cLine) (hv : SE X W value fv) (ho : SE X W o fo) (hi : SE X W i fi) (hs : swapsWith value (some (.Subscript o i pos')) pos.line X.env = pure false := by rfl) : SS X W (.Assign [.Subscript o i pos'] value pos) (sNPutS fv fo fi) :=
  ⟨ps_imp (ps_nput hu ho.pe hi.pe hv.pe hs) fun D σ H ⟨env, m, h, sta, sl, out⟩ => rd_then sta sl out fun x h1 xv H1 m1 g1 s1 rx out1 => rd_then s1 (sl.gr g1) out1 fun u h2 uv H2 m2 g2 s2 ru out2 => rd_then s2 ((sl.gr g1).gr g2) out2 fun w h3 wv H3 m3 g3 s3 rw out3 => by
    have ru3 := RU.kp g3.kp g3.pre _ _ ru
    have rx3 := RU.kp (g2.trans g3).kp (g2.trans g3).pre _ _ rx
    split at out3
    · rename_i h4 e4
      unfold nPut at e4
      split at e4
      · rename_i n
        split at e4
        · rename_i kvs k hn ek
          split at e4
          · rename_i hl
            cases e4
            cases ru3 with
            | ref hm =>
              rename_i a
              obtain ⟨xs, hH, dn⟩ := s3.obj _ _ _ hm hn
              obtain ⟨b, rfl, hk⟩ := keyN_v ek rw
              refine ⟨a, b, xs, k, rfl, rfl, hH, dn.dx, hk, fun r rr => ?_⟩
              have kp := mut_kp (y := DNo a (storedH xs k b r)) hH trivial
              have gw := Gr.write (y := DNo a (storedH xs k b r)) (List.mem_of_getElem? hm) hH trivial
              have hlen : xs.length < sizeLine := by rw [Paired.length dn.p]; exact ask_iff.mp hl
              exact (show ∀ σ' H' m', Gr H3 m3 H' m' → Sta X.K X.mg H' m' _ → Sl X.K H' m' σ' env → D.nx σ' H' from out3) σ _ m3 gw
                (s3.write hm hH trivial ⟨_, upd_same, (dn.put hk rx3 rr hlen).kp kp ⟨[], by simp⟩⟩) ((((sl.gr g1).gr g2).gr g3).gr gw)
          · cases e4
        · cases e4
      · cases e4
    · exact out3.elim⟩
/-! ### k in d, k not in d -/
def opNIn (n : Bool) (u w : U) (h : Sto) : Res U := match keyN u, dnOf h w with
  | some k, some kvs => .ok (.d (.bool (xor n (valN kvs k).isSome))) h
  | _, _ => .stuck
def rNIn (K : PySem.W.Frag) (n : Bool) : R2 := fun x y H Q => ∃ a b xs k, y = .ref a ∧ x = .ref b ∧ Rd H a (DNo a xs) ∧ DX K H a xs ∧ KyA K H b k ∧ Q (.bl (xor n (atKey xs k).isSome)) H
theorem op_nIn (hu : X.A.units + 64 < cLine) : OpR X (compareOp .In) (rNIn X.K false) := by
  intro pins s σ H x y v u Q I rx ry h
  obtain ⟨a, b, xs, k, rfl, rfl, hd, dx, hk, q⟩ := h
  obtain rfl : v = Value.ref b := rx
  obtain rfl : u = Value.ref a := ry
  refine wpAny_in_heap (roomN hu) (key_isN I hk) dx.sys (dx_dict I hd dx) ⟨.bl _, H, I.tok _, rfl, ?_⟩
  rw [Bool.false_xor] at q
  exact q
theorem op_nNotIn (hu : X.A.units + 64 < cLine) : OpR X (compareOp .NotIn) (rNIn X.K true) := by
  intro pins s σ H x y v u Q I rx ry h
  obtain ⟨a, b, xs, k, rfl, rfl, hd, dx, hk, q⟩ := h
  obtain rfl : v = Value.ref b := rx
  obtain rfl : u = Value.ref a := ry
  refine wpAny_notIn_heap (roomN hu) (key_isN I hk) dx.sys (dx_dict I hd dx) ⟨.bl _, H, I.tok _, rfl, ?_⟩
  rw [Bool.true_xor] at q
  exact q
theorem ab_nIn (n : Bool) : Ab2 X W (opNIn n) (rNIn X.K n) := by
  intro σ H m h x y u w Q s ru rw out
  unfold opNIn at out
  split at out
  · rename_i k kvs ek ed
    obtain ⟨a, xs, rfl, hd, dn⟩ := dnOf_v s ed rw
    obtain ⟨b, rfl, hk⟩ := keyN_v ek ru
    refine ⟨a, b, xs, k, rfl, rfl, hd, dn.dx, hk, ?_⟩
    have e : (valN kvs k).isSome = (atKey xs k).isSome := by
      rcases dn.val k with ⟨l1, l2⟩ | ⟨p, u', v, l1, l2, _, _⟩ <;> rw [l1, l2] <;> rfl
    rw [e] at out
    exact Out.here (b := V.bl _) out s (.d (.bl _))
  · exact out.elim
end
end Wk

/-! T20: dicts by nested keys, walked: for k, v in d.items(), for k in d. -/
namespace Wk
open PySem PySem.Spec PyProof.Rows L2
/-- the pairs of the locked dict at d, each a new tuple -/
def Itn (d : Addr) (o : Obj) (xs : XS) (vs : List V) : It :=
  ⟨fun i H => H d = some (.frz o (DNo d xs)) ∧ i < xs.length, fun i H x H' => ∃ T y v, xs[i]? = some y ∧ vs[i]? = some v ∧ x = .ref T ∧ H T = none ∧ H' = upd H T (.tup [.ref y.2.1, v]), fun i H => H d = some (.frz o (DNo d xs)) ∧ xs.length ≤ i⟩
/-- its keys -/
def Itkn (d : Addr) (o : Obj) (xs : XS) : It :=
  ⟨fun i H => H d = some (.frz o (DNo d xs)) ∧ i < xs.length, fun i H x H' => H' = H ∧ ∃ y, xs[i]? = some y ∧ x = .ref y.2.1, fun i H => H d = some (.frz o (DNo d xs)) ∧ xs.length ≤ i⟩
theorem frzN {X : Cx} {pins : List (Addr × Obj)} {σ : L2.St} {H : Hp} {s : Shared} {d : Addr} {o : Obj} {xs : XS} (I : L2.Inv X pins σ H s) (h : H d = some (.frz o (DNo d xs))) : s.heap.get? d = some o ∧ o.ExactDict ∧ ∃ es ep, o.data = .dict es ep ∧ es.toList = xs.map eK := by
  obtain ⟨h1, ⟨o', es, ep, k1, k2, k3, k4⟩, _, _⟩ := I.hok d _ h
  rw [h1] at k1
  cases k1
  exact ⟨h1, k2, es, ep, k3, k4⟩
theorem eK_at {es : Array DictEntry} {xs : XS} (he : es.toList = xs.map eK) (j : Nat) : es[j]? = (xs[j]?).map eK := by
  rw [← Array.getElem?_toList, he, List.getElem?_map]
theorem eK_size {es : Array DictEntry} {xs : XS} (he : es.toList = xs.map eK) : es.size = xs.length := by
  rw [← Array.length_toList, he, List.length_map]
theorem paired_at {α β : Type} {F : α → β → Prop} : ∀ {l : List α} {r : List β} {i : Nat} {y : β}, Paired F l r → r[i]? = some y → ∃ x, l[i]? = some x ∧ F x y
  | _, _, i, y, .nil, e => by simp at e
  | _, _, 0, y, .cons p q, e => by simp at e; subst e; exact ⟨_, rfl, p⟩
  | _, _, i + 1, y, .cons p q, e => by
    obtain ⟨x, h1, h2⟩ := paired_at (i := i) q (by simpa using e)
    exact ⟨x, by simpa using h1, h2⟩
section
variable {P : Program} {w : World} {K : PySem.W.Frag} {d : Addr} {o : Obj} {es : Array DictEntry} {ep : Nat} {xs : XS} {vs : List V}
theorem turn_itemsN {elts : List Expr} {kk : Nat} {tpos : Pos} (it : Addr) (hod : o.data = .dict es ep) (hv : Paired (fun v x => RelV v x.2.2) vs xs) :
    Turn P w K (.Tuple elts kk tpos) (Itn d o xs vs) [it] it (fun i h => ∃ ok ov, IsItemIter h it d i xs.length ep ok ov) where
  mem := by simp
  obj := fun i h st b hb => by
    have e : b = it := by simpa using hb
    subst e
    obtain ⟨ok, ov, e⟩ := st
    exact ⟨_, e, fun v z => nomatch z⟩
  keep := fun i h h' st k => let ⟨ok, ov, e⟩ := st; ⟨ok, ov, k it (by simp) _ e⟩
  item := by
    intro X hP hw hK hc i pins s σ H E I hf st hg
    subst hP hw hK
    obtain ⟨hd, hi⟩ := hg
    obtain ⟨hgd, hx, es', ep', hdt, he⟩ := frzN I hd
    obtain ⟨rfl, rfl⟩ := dict_ep hod hdt
    have hsz := eK_size he
    obtain ⟨y, hy⟩ : ∃ p, xs[i]? = some p := ⟨xs[i], List.getElem?_eq_getElem hi⟩
    obtain ⟨v, hv1, rv⟩ := paired_at hv hy
    obtain ⟨ok, ov, hit⟩ := st
    rw [← hsz] at hit
    have hlt : it < s.heap.objs.size := Heap.lt_size hit
    have hi' : i < es'.size := by omega
    have hen : es'[i] = eK y := by
      have := eK_at he i
      rw [hy, Array.getElem?_eq_getElem hi'] at this
      exact Option.some.inj this
    refine DT.nextI hit ⟨o, hgd, hx, hdt⟩ hi' fun h' ho hT hz hk => ?_
    rw [hen] at ho hT
    refine ⟨_, rfl, wpAny_letOwnedTupleGo_items (s := { s with heap := h' }) ho fun h'' he' sb => ?_⟩
    have hT2 : h''.get? s.heap.objs.size = some { cls := .type "tuple", data := .seq #[(eK y).key, (eK y).val] } := (sb.2 _ (Nat.ne_of_gt hlt)).trans hT
    have new : ObjOk X.prog X.w (upd H s.heap.objs.size (.tup [.ref y.2.1, v])) h'' s.heap.objs.size (.tup [.ref y.2.1, v]) :=
      ⟨by show 2 ≤ sizeLine; decide, [(eK y).key, (eK y).val], .cons (show RelV (.ref y.2.1) (.ref y.2.1) from rfl) (.cons rv .nil), ⟨_, hT2, rfl, _, rfl⟩⟩
    have I1 : L2.Inv X pins σ (upd H s.heap.objs.size (.tup [.ref y.2.1, v])) { s with heap := h'' } :=
      I.turnedNew (t' := s.toks) (ch := [it]) (fun b ob hb e => (sb.2 b (by simpa using hb)).trans (hk b ob (by simpa using hb) e)) hf (Nat.le_refl _) new
    refine ⟨.ref s.heap.objs.size, _, I1, rfl, ⟨_, y, v, hy, hv1, rfl, I.hok.fresh (Nat.le_refl _), rfl⟩, ⟨(eK y).key, (eK y).val, by rw [← hsz]; exact he'⟩, fun b hb => ?_⟩
    · have e : b = it := by simpa using hb
      rw [e, upd_ne (Nat.ne_of_lt hlt)]
      exact (hf it (by simp)).1
  done := by
    intro X hP hw hK hc i pins s σ H E I hf st hg
    subst hP hw hK
    obtain ⟨hd, hi⟩ := hg
    obtain ⟨f0, f1, f2, f3, f4, f5⟩ := hf it (by simp)
    obtain ⟨hgd, hx, es', ep', hdt, he⟩ := frzN I hd
    obtain ⟨rfl, rfl⟩ := dict_ep hod hdt
    have hsz := eK_size he
    obtain ⟨ok, ov, hit⟩ := st
    rw [← hsz] at hit
    exact DT.endI (I.ok.hd hc) hit ⟨o, hgd, hx, hdt⟩ (by omega) fun h' eb => ⟨rfl, I.turned (t' := s.toks) (fun b ob hb e => eb b ob hb e) f0 f1 f3 f4 f5⟩
  self := fun A i s Q E st h => let ⟨_, _, e⟩ := st; PySem.W.kcp_self e h
theorem turn_keysN {tg : Expr} (it : Addr) (hod : o.data = .dict es ep) : Turn P w K tg (Itkn d o xs) [it] it (fun i h => h.IsKeyIter it d i xs.length ep) where
  mem := by simp
  obj := fun i h st b hb => by
    have e : b = it := by simpa using hb
    subst e
    obtain ⟨oi, e, c, dd⟩ := st
    exact ⟨oi, e, fun v z => by rw [dd] at z; cases z⟩
  keep := fun i h h' st k => st.at fun oi e => k it (by simp) oi e
  item := by
    intro X hP hw hK hc i pins s σ H E I hf st hg
    subst hP hw hK
    obtain ⟨hd, hi⟩ := hg
    obtain ⟨f0, f1, f2, f3, f4, f5⟩ := hf it (by simp)
    obtain ⟨hgd, hx, es', ep', hdt, he⟩ := frzN I hd
    obtain ⟨rfl, rfl⟩ := dict_ep hod hdt
    have hsz := eK_size he
    obtain ⟨y, hy⟩ : ∃ p, xs[i]? = some p := ⟨xs[i], List.getElem?_eq_getElem hi⟩
    have hen : es'[i]? = some (eK y) := by rw [eK_at he i, hy]; rfl
    refine next_key_item st hgd hdt hsz hen fun h' st' sb => ?_
    have I1 : L2.Inv X pins σ H { s with heap := h' } := I.turned (t' := s.toks) (fun b ob hb e => (sb.2 b hb).trans e) f0 f1 f3 f4 f5
    obtain ⟨oi, e, c, dd⟩ := id st'
    exact ⟨_, rfl, go_of (s := { s with heap := h' }) e c dd (by decide) ⟨.ref y.2.1, H, I1, rfl, ⟨rfl, y, hy, rfl⟩, st', fun b hb => (hf b hb).1⟩⟩
  done := by
    intro X hP hw hK hc i pins s σ H E I hf st hg
    subst hP hw hK
    obtain ⟨hd, hi⟩ := hg
    obtain ⟨f0, f1, f2, f3, f4, f5⟩ := hf it (by simp)
    obtain ⟨hgd, hx, es', ep', hdt, he⟩ := frzN I hd
    obtain ⟨rfl, rfl⟩ := dict_ep hod hdt
    exact next_key_end (I.ok.hd hc) st hgd hdt (eK_size he) hi fun h' eb => ⟨rfl, I.turned (t' := s.toks) (fun b ob hb e => eb b ob hb e) f0 f1 f3 f4 f5⟩
  self := fun A i s Q E st h => by
    refine wpAny_pyIter_slot st.typeIs PySem.F.slot_dict_keyiterator_iter (wpAny_call_entry PySem.F.slot_dict_keyiterator_iter st.typeIs PySem.F.entry_dict_keyiterator_iter ?_ (PySem.F.args_dict_keyiterator_iter_1 _))
    show wpAny _ _ (ret (.ref it)) _ _ s
    exact wpAny_pure ⟨_, rfl, "dict_keyiterator", _, st.typeIs, PySem.F.slot_dict_keyiterator_next.lookup, h⟩
end
def iNItems (td : TE) : TI := fun σ H R => td σ H fun x H1 => ∃ d xs vs, x = .ref d ∧ (d == sysModules) = false ∧ Paired (fun v x => RelV v x.2.2) vs xs ∧
  ((H1 d = some (DNo d xs) ∧ ∀ o, R (Itn d o xs vs) (upd H1 d (.frz o (DNo d xs)))) ∨ ∃ o, H1 d = some (.frz o (DNo d xs)) ∧ R (Itn d o xs vs) H1)
def iNKeys (td : TE) : TI := fun σ H R => td σ H fun x H1 => ∃ d xs, x = .ref d ∧ (d == sysModules) = false ∧
  ((H1 d = some (DNo d xs) ∧ ∀ o, R (Itkn d o xs) (upd H1 d (.frz o (DNo d xs)))) ∨ ∃ o, H1 d = some (.frz o (DNo d xs)) ∧ R (Itkn d o xs) H1)
section
variable {X : Cx} {W : WX} {tg e : Expr} {td : TE} {apos cpos : Pos} {f : Ev}
theorem pi_nitems {elts : List Expr} {kk : Nat} {tpos : Pos} (he : PE X e td) (hbase : attributeBase e "items" X.env (eval e X.env) = eval e X.env := by rfl) (hline : (apos.endLine == cpos.line) = true := by rfl) :
    PI X (.Tuple elts kk tpos) (.Call (.Attribute e "items" apos) [] [] cpos) (iNItems td) := by
  refine ⟨fun pins s σ H R I h => ?_⟩
  refine wpAny_Call_method (T := "dict") (id := "dict.items") hbase rfl hline PySem.F.plainAttrs_dict PySem.F.slot_dict_items PySem.F.type_dict_items (thn (he.run pins s σ H _ I h) fun u s1 ⟨x, H0, I0, rx, d, xs, vs, ex, hs, hv, q0⟩ => ?_)
  subst ex
  obtain rfl : u = Value.ref d := rx
  obtain ⟨o, H1, I1, hd, q⟩ : ∃ o H1, L2.Inv X pins σ H1 s1 ∧ H1 d = some (.frz o (DNo d xs)) ∧ R (Itn d o xs vs) H1 := by
    rcases q0 with ⟨hd, q⟩ | ⟨o, hd, q⟩
    · obtain ⟨od, I2⟩ := I0.lock hd trivial
      exact ⟨od, _, I2, upd_same, q od⟩
    · exact ⟨o, H0, I0, hd, q⟩
  obtain ⟨hgd, hx, es, ep, hdt, hee⟩ := frzN I1 hd
  have hsz := eK_size hee
  have raw : DT.Raw s1.heap d es ep := ⟨o, hgd, hx, hdt⟩
  refine ⟨raw.typeIs, fun b z => (by cases z; exact ⟨o, hgd, hx.2.1⟩), ?_⟩
  have I2 : L2.Inv X pins σ H1 { s1 with heap := s1.heap.push { cls := .type "dict_items", data := .fields #[.ref d] } } := I1.kept (t' := s1.toks) fun b ob q => Heap.get?_push_of_some _ q
  have fin : wpAny (model X.prog X.w) X.A (pyIter (.ref s1.heap.objs.size)) (PIE X pins σ (.Tuple elts kk tpos) R) X.xe { s1 with heap := s1.heap.push { cls := .type "dict_items", data := .fields #[.ref d] } } := by
    refine DT.iterI (d := d) ⟨_, Heap.get?_push_size _ rfl, rfl, rfl⟩ (raw.push _) (pi_one (tk := s1.toks) I2 _ (turn_itemsN _ hdt hv) ⟨.none, .none, ?_⟩ q)
    rw [← hsz]
    exact Heap.get?_push_size _ rfl
  show wpAny _ _ (callWith cpos (.builtin "dict.items") [.ref d] [] []) _ X.xe s1
  exact method_meetsIn PySem.F.slot_dict_items PySem.F.entry_dict_items rfl (PySem.evalArgs_none ⟨rfl, raw.typeIs, PySem.F.args_dict_items_1 _, _, DT.meetsItems (es := es) (ep := ep) hs, raw, fin⟩)
theorem pi_nkeys (he : PE X e td) : PI X tg e (iNKeys td) := by
  refine ⟨fun pins s σ H R I h => ?_⟩
  refine thn (he.run pins s σ H _ I h) fun u s1 ⟨x, H0, I0, rx, d, xs, ex, hs, q0⟩ => ?_
  subst ex
  obtain rfl : u = Value.ref d := rx
  obtain ⟨o, H1, I1, hd, q⟩ : ∃ o H1, L2.Inv X pins σ H1 s1 ∧ H1 d = some (.frz o (DNo d xs)) ∧ R (Itkn d o xs) H1 := by
    rcases q0 with ⟨hd, q⟩ | ⟨o, hd, q⟩
    · obtain ⟨od, I2⟩ := I0.lock hd trivial
      exact ⟨od, _, I2, upd_same, q od⟩
    · exact ⟨o, H0, I0, hd, q⟩
  obtain ⟨hgd, hx, es, ep, hdt, hee⟩ := frzN I1 hd
  have hsz := eK_size hee
  refine iter_keys hs hgd hx hdt (pi_one (tk := s1.toks) I1 _ (turn_keysN _ hdt) ⟨_, Heap.get?_push_size _ rfl, rfl, ?_⟩ q)
  rw [hsz] <;> rfl
/-! ### over the store -/
def pairU (kv : NestedKey × U) : U := match kv.2 with
  | .d x => .d (.tuple [kv.1.data, x])
  | u => .tup [.d kv.1.data, u]
def iNIt (f : Ev) : Ea := fun env h => (f env h).bind fun u h1 => match u with
  | .ref n => (match h1[n]? with
    | some (.dtp kvs) => .ok (kvs.map pairU) (h1.set n (.fdt kvs))
    | some (.fdt kvs) => .ok (kvs.map pairU) h1
    | _ => .stuck)
  | _ => .stuck
def iNK (f : Ev) : Ea := fun env h => (f env h).bind fun u h1 => match u with
  | .ref n => (match h1[n]? with
    | some (.dtp kvs) => .ok (kvs.map fun kv => .d kv.1.data) (h1.set n (.fdt kvs))
    | some (.fdt kvs) => .ok (kvs.map fun kv => .d kv.1.data) h1
    | _ => .stuck)
  | _ => .stuck
theorem DN.vals {K : PySem.W.Frag} {H : Hp} {m : List Addr} {a : Addr} {xs : XS} {kvs : List (NestedKey × U)} (d : DN K H m a xs kvs) : ∃ vs, Paired (fun v x => RelV v x.2.2) vs xs ∧ RUs K H m vs (kvs.map (·.2)) := by
  have h := d.p
  clear d
  induction h with
  | nil => exact ⟨[], .nil, .nil⟩
  | @cons x kv l r z _ ih =>
    obtain ⟨vs, h1, h2⟩ := ih
    obtain ⟨_, _, _, v, z4, z5⟩ := z
    exact ⟨v :: vs, .cons z5 h1, .cons z4 h2⟩
theorem paired_at' {α β : Type} {F : α → β → Prop} : ∀ {l : List α} {r : List β} {i : Nat} {x : α}, Paired F l r → l[i]? = some x → ∃ y, r[i]? = some y ∧ F x y
  | _, _, i, y, .nil, e => by simp at e
  | _, _, 0, y, .cons p q, e => by simp at e; subst e; exact ⟨_, rfl, p⟩
  | _, _, i + 1, y, .cons p q, e => by
    obtain ⟨x, h1, h2⟩ := paired_at' (i := i) q (by simpa using e)
    exact ⟨x, by simpa using h1, h2⟩
theorem wlk_items {K : PySem.W.Frag} {H : Hp} {m : List Addr} {d : Addr} {o : Obj} {xs : XS} {vs : List V} {kvs : List (NestedKey × U)} (hd : H d = some (.frz o (DNo d xs))) (dn : DN K H m d xs kvs) (hv : RUs K H m vs (kvs.map (·.2))) : Wlk K (Itn d o xs vs) H m (kvs.map pairU) := fun H' m' k pre => by
  have hd' := k.frz _ _ _ hd
  have hl : xs.length = kvs.length := Paired.length dn.p
  refine ⟨fun i hi => ⟨hd', by rw [List.length_map] at hi; omega⟩, fun i u e => ?_⟩
  rw [List.getElem?_map] at e
  cases q : kvs[i]? with
  | none => rw [q] at e; cases e
  | some kv =>
    rw [q] at e
    cases e
    have hi := (List.getElem?_eq_some_iff.mp q).1
    refine ⟨⟨hd', by omega⟩, fun x H'' yy => ?_⟩
    obtain ⟨T, y, v, hy, hv1, rfl, hT, rfl⟩ := yy
    have sm : Same H' (upd H' T (.tup [.ref y.2.1, v])) := Same.lay hT
    refine ⟨sm, ?_⟩
    obtain ⟨kv', q1, z1, z2, z3, v', z4, z5⟩ := paired_at' (dn.kp k pre).p hy
    rw [q] at q1
    cases q1
    obtain ⟨v2, e2, r2⟩ := RUs.get (RUs.kp k pre _ _ hv) (show (kvs.map (·.2))[i]? = some kv.2 by rw [List.getElem?_map, q]; rfl)
    rw [hv1] at e2
    cases e2
    have rk : RD K (upd H' T (.tup [.ref y.2.1, v])) (.ref y.2.1) kv.1.data := by rw [← z1]; exact RD.kp (Kp.same sm) _ _ z3
    have rv : RU K (upd H' T (.tup [.ref y.2.1, v])) m' v kv.2 := RU.kp (Kp.same sm) ⟨[], by simp⟩ _ _ r2
    unfold pairU
    split
    · rename_i x hx
      rw [hx] at rv
      exact .d (.tup (.inl (.inl upd_same)) (.cons rk (.cons rv.rd .nil)))
    · exact .tup (.inl (.inl upd_same)) (.cons (.d rk) (.cons rv .nil))
theorem wlk_nkeys {K : PySem.W.Frag} {H : Hp} {m : List Addr} {d : Addr} {o : Obj} {xs : XS} {kvs : List (NestedKey × U)} (hd : H d = some (.frz o (DNo d xs))) (dn : DN K H m d xs kvs) : Wlk K (Itkn d o xs) H m (kvs.map fun kv => .d kv.1.data) := fun H' m' k pre => by
  have hd' := k.frz _ _ _ hd
  have hl : xs.length = kvs.length := Paired.length dn.p
  refine ⟨fun i hi => ⟨hd', by rw [List.length_map] at hi; omega⟩, fun i u e => ?_⟩
  rw [List.getElem?_map] at e
  cases q : kvs[i]? with
  | none => rw [q] at e; cases e
  | some kv =>
    rw [q] at e
    cases e
    have hi := (List.getElem?_eq_some_iff.mp q).1
    refine ⟨⟨hd', by omega⟩, fun x H'' yy => ?_⟩
    obtain ⟨rfl, y, hy, rfl⟩ := yy
    obtain ⟨kv', q1, z1, z2, z3, _⟩ := paired_at' (dn.kp k pre).p hy
    rw [q] at q1
    cases q1
    exact ⟨Same.refl _, .d (by rw [← z1]; exact z3)⟩
theorem si_nitems {elts : List Expr} {kk : Nat} {tpos : Pos} (he : SE X W e f) (hbase : attributeBase e "items" X.env (eval e X.env) = eval e X.env := by rfl) (hline : (apos.endLine == cpos.line) = true := by rfl) :
    SI X W (.Tuple elts kk tpos) (.Call (.Attribute e "items" apos) [] [] cpos) (iNIt f) :=
  ⟨pi_imp (pi_nitems he.pe hbase hline) fun σ H R ⟨env, m, h, sta, sl, out⟩ => rd_of sta sl out fun u h1 v H1 m1 g1 s1 r1 out1 => by
    split at out1
    · rename_i n
      cases r1 with
      | ref hm =>
        rename_i a
        split at out1
        · rename_i kvs hn
          obtain ⟨xs, hH, dn⟩ := s1.obj _ _ _ hm hn
          obtain ⟨vs, hv, rv⟩ := dn.vals
          refine ⟨a, xs, vs, rfl, dn.sys, hv, .inl ⟨hH, fun o => ?_⟩⟩
          have kp := mut_kp (y := HO.frz o (DNo a xs)) hH trivial
          have gw := Gr.write (y := HO.frz o (DNo a xs)) (List.mem_of_getElem? hm) hH trivial
          have dn' : DN X.K (upd H1 a (.frz o (DNo a xs))) m1 a xs kvs := dn.kp kp ⟨[], by simp⟩
          exact Out.ok (b := Itn a o xs vs) out1 gw (s1.write hm hH trivial ⟨o, xs, upd_same, dn'⟩) (wlk_items upd_same dn' (RUs.kp kp ⟨[], by simp⟩ _ _ rv))
        · rename_i kvs hn
          obtain ⟨o, xs, hH, dn⟩ := s1.obj _ _ _ hm hn
          obtain ⟨vs, hv, rv⟩ := dn.vals
          exact ⟨a, xs, vs, rfl, dn.sys, hv, .inr ⟨o, hH, Out.here (b := Itn a o xs vs) out1 s1 (wlk_items hH dn rv)⟩⟩
        · exact out1.elim
    · exact out1.elim⟩
theorem si_nkeys (he : SE X W e f) : SI X W tg e (iNK f) :=
  ⟨pi_imp (pi_nkeys he.pe) fun σ H R ⟨env, m, h, sta, sl, out⟩ => rd_of sta sl out fun u h1 v H1 m1 g1 s1 r1 out1 => by
    split at out1
    · rename_i n
      cases r1 with
      | ref hm =>
        rename_i a
        split at out1
        · rename_i kvs hn
          obtain ⟨xs, hH, dn⟩ := s1.obj _ _ _ hm hn
          refine ⟨a, xs, rfl, dn.sys, .inl ⟨hH, fun o => ?_⟩⟩
          have kp := mut_kp (y := HO.frz o (DNo a xs)) hH trivial
          have gw := Gr.write (y := HO.frz o (DNo a xs)) (List.mem_of_getElem? hm) hH trivial
          have dn' : DN X.K (upd H1 a (.frz o (DNo a xs))) m1 a xs kvs := dn.kp kp ⟨[], by simp⟩
          exact Out.ok (b := Itkn a o xs) out1 gw (s1.write hm hH trivial ⟨o, xs, upd_same, dn'⟩) (wlk_nkeys upd_same dn')
        · rename_i kvs hn
          obtain ⟨o, xs, hH, dn⟩ := s1.obj _ _ _ hm hn
          exact ⟨a, xs, rfl, dn.sys, .inr ⟨o, hH, Out.here (b := Itkn a o xs) out1 s1 (wlk_nkeys hH dn)⟩⟩
        · exact out1.elim
    · exact out1.elim⟩
@[simp] theorem ev_NNew (env : Env') (h : Sto) : eNNew env h = .ok (.ref h.length) (h ++ [.dtp []]) := (rfl)
@[simp] theorem ev_NGet2 (fo fk fx : Ev) (env : Env') (h : Sto) : eNGet2 fo fk fx env h = (fo env h).bind fun u h1 => match dnOf h1 u with | some _ => (fk env h1).bind fun w h2 => (fx env h2).bind fun x h3 => (match dnOf h3 u, keyN w with | some kvs, some k => .ok ((valN kvs k).getD x) h3 | _, _ => .stuck) | none => .stuck := (rfl)
theorem ev_NPutS (fv fo fk : Ev) (env : Env') (h : Sto) : sNPutS fv fo fk env h = (fv env h).then_ env fun x h1 => (fo env h1).then_ env fun u h2 => (fk env h2).then_ env fun w h3 => match nPut u w x h3 with | some h4 => .next env h4 | none => .stuck := (rfl)
end
end Wk

/-! T22: sorted(xs) of strokes: tuples of an int and tuples of ints, all of one shape. -/
namespace Wk
open PySem PySem.Spec PyProof.Rows L2
/-! ### how keys of one shape compare -/
mutual
def kInts : NestedKey → List Int
  | .num i => [i]
  | .tup ks => kIntsL ks
  | .none => []
  | .text _ => []
def kIntsL : List NestedKey → List Int
  | [] => []
  | k :: ks => kInts k ++ kIntsL ks
end
mutual
/-- two keys of one shape -/
def alikeK : NestedKey → NestedKey → Bool
  | .num _, .num _ => true
  | .tup xs, .tup ys => alikeKs xs ys
  | _, _ => false
def alikeKs : List NestedKey → List NestedKey → Bool
  | [], [] => true
  | x :: xs, y :: ys => alikeK x y && alikeKs xs ys
  | _, _ => false
end
mutual
theorem alike_len : ∀ x y : NestedKey, alikeK x y = true → (kInts x).length = (kInts y).length
  | .num _, .num _, _ => by rw [kInts, kInts]; rfl
  | .tup xs, .tup ys, h => by rw [alikeK] at h; rw [kInts, kInts]; exact alikes_len xs ys h
  | .num _, .tup _, h => by simp [alikeK] at h
  | .num _, .none, h => by simp [alikeK] at h
  | .num _, .text _, h => by simp [alikeK] at h
  | .tup _, .num _, h => by simp [alikeK] at h
  | .tup _, .none, h => by simp [alikeK] at h
  | .tup _, .text _, h => by simp [alikeK] at h
  | .none, _, h => by simp [alikeK] at h
  | .text _, _, h => by simp [alikeK] at h
theorem alikes_len : ∀ xs ys : List NestedKey, alikeKs xs ys = true → (kIntsL xs).length = (kIntsL ys).length
  | [], [], _ => rfl
  | x :: xs, y :: ys, h => by
    rw [alikeKs, Bool.and_eq_true] at h
    rw [kIntsL, kIntsL, List.length_append, List.length_append, alike_len x y h.1, alikes_len xs ys h.2]
  | [], _ :: _, h => by simp [alikeKs] at h
  | _ :: _, [], h => by simp [alikeKs] at h
end
mutual
theorem alike_beq : ∀ x y : NestedKey, alikeK x y = true → NestedKey.beq x y = decide (kInts x = kInts y)
  | .num a, .num b, _ => by
    rw [NestedKey.beq, kInts, kInts, Bool.eq_iff_iff]
    simp
  | .tup xs, .tup ys, h => by rw [alikeK] at h; rw [NestedKey.beq, kInts, kInts]; exact alikes_beq xs ys h
  | .num _, .tup _, h => by simp [alikeK] at h
  | .num _, .none, h => by simp [alikeK] at h
  | .num _, .text _, h => by simp [alikeK] at h
  | .tup _, .num _, h => by simp [alikeK] at h
  | .tup _, .none, h => by simp [alikeK] at h
  | .tup _, .text _, h => by simp [alikeK] at h
  | .none, _, h => by simp [alikeK] at h
  | .text _, _, h => by simp [alikeK] at h
theorem alikes_beq : ∀ xs ys : List NestedKey, alikeKs xs ys = true → NestedKey.beqAll xs ys = decide (kIntsL xs = kIntsL ys)
  | [], [], _ => by rw [NestedKey.beqAll, kIntsL]; simp
  | x :: xs, y :: ys, h => by
    rw [alikeKs, Bool.and_eq_true] at h
    rw [NestedKey.beqAll, kIntsL, kIntsL, alike_beq x y h.1, alikes_beq xs ys h.2, Bool.eq_iff_iff, Bool.and_eq_true, decide_eq_true_iff, decide_eq_true_iff, decide_eq_true_iff]
    constructor
    · rintro ⟨a, b⟩; rw [a, b]
    · intro e; exact List.append_inj e (alike_len x y h.1)
  | [], _ :: _, h => by simp [alikeKs] at h
  | _ :: _, [], h => by simp [alikeKs] at h
end
theorem lex_app : ∀ (a b c d : List Int), a.length = b.length → HT.lexLt (a ++ c) (b ++ d) = if a = b then HT.lexLt c d else HT.lexLt a b
  | [], [], c, d, _ => by simp
  | [], _ :: _, _, _, h => by cases h
  | _ :: _, [], _, _, h => by cases h
  | x :: a, y :: b, c, d, h => by
    have ih := lex_app a b c d (by simpa using h)
    rw [List.cons_append, List.cons_append]
    rw [HT.lexLt_cons, HT.lexLt_cons, ih]
    by_cases e : x = y
    · subst e
      by_cases e2 : a = b
      · subst e2; simp
      · simp [e2]
    · simp [e]
/-! ### keys of ints in the heap -/
mutual
inductive IntK (h : Heap) : NestedKey → Value → Prop
  | num (i t) : IntK h (.num i) (.int i t)
  | tup {a o vs n ks} : h.get? a = some o → o.cls = .type "tuple" → o.data = .seq vs n → IntKs h ks vs.toList → IntK h (.tup ks) (.ref a)
inductive IntKs (h : Heap) : List NestedKey → List Value → Prop
  | nil : IntKs h [] []
  | cons {k v ks vs} : IntK h k v → IntKs h ks vs → IntKs h (k :: ks) (v :: vs)
end
mutual
theorem IntK.nst {h : Heap} : ∀ (k : NestedKey) (v : Value), IntK h k v → NestedIs h k v
  | .num i, _, r => by cases r; exact .int _ _
  | .tup ks, _, r => by
    cases r with
    | tup a b c d => exact .tup a b c (IntKs.nst ks _ d)
  | .none, _, r => by cases r
  | .text _, _, r => by cases r
theorem IntKs.nst {h : Heap} : ∀ (ks : List NestedKey) (vs : List Value), IntKs h ks vs → NestedAll h ks vs
  | [], _, r => by cases r; exact .nil
  | k :: ks, _, r => by
    cases r with
    | cons a b => exact .cons (IntK.nst k _ a) (IntKs.nst ks _ b)
end
mutual
theorem IntK.kept {h h' : Heap} (kp : ∀ a o, h.get? a = some o → o.cls = .type "tuple" → h'.get? a = some o) : ∀ (k : NestedKey) (v : Value), IntK h k v → IntK h' k v
  | .num i, _, r => by cases r; exact .num _ _
  | .tup ks, _, r => by
    cases r with
    | tup a b c d => exact .tup (kp _ _ a b) b c (IntKs.kept kp ks _ d)
  | .none, _, r => by cases r
  | .text _, _, r => by cases r
theorem IntKs.kept {h h' : Heap} (kp : ∀ a o, h.get? a = some o → o.cls = .type "tuple" → h'.get? a = some o) : ∀ (ks : List NestedKey) (vs : List Value), IntKs h ks vs → IntKs h' ks vs
  | [], _, r => by cases r; exact .nil
  | k :: ks, _, r => by
    cases r with
    | cons a b => exact .cons (IntK.kept kp k _ a) (IntKs.kept kp ks _ b)
end
mutual
theorem intK_of {X : Cx} {pins : List (Addr × Obj)} {σ : L2.St} {H : Hp} {s : Shared} (I : L2.Inv X pins σ H s) : ∀ (k : NestedKey) (v : V) (u : Value), pureK k = true → RD X.K H v k.data → RelV v u → IntK s.heap k u
  | .num i, v, u, hp, r, ru => by
    rw [NestedKey.data] at r
    cases r
    obtain ⟨t, rfl⟩ := ru
    exact .num i t
  | .tup ks, v, u, hp, r, ru => by
    rw [pureK] at hp
    rw [NestedKey.data] at r
    cases r with
    | tup a b =>
      cases (show u = Value.ref _ from ru)
      obtain ⟨its, rv, ⟨o, ho, hc, n, hd⟩, _⟩ := I.tuple a
      exact .tup ho hc hd (by rw [List.toList_toArray]; exact intKs_of I ks _ its hp b rv)
  | .none, v, u, hp, r, ru => by rw [pureK] at hp; cases hp
  | .text _, v, u, hp, r, ru => by rw [pureK] at hp; cases hp
theorem intKs_of {X : Cx} {pins : List (Addr × Obj)} {σ : L2.St} {H : Hp} {s : Shared} (I : L2.Inv X pins σ H s) : ∀ (ks : List NestedKey) (vs : List V) (us : List Value), pureKs ks = true → RDs X.K H vs (NestedKey.datas ks) → Vals vs us → IntKs s.heap ks us
  | [], vs, us, hp, r, ru => by
    rw [NestedKey.datas] at r
    cases r
    cases ru
    exact .nil
  | k :: ks, vs, us, hp, r, ru => by
    rw [pureKs, Bool.and_eq_true] at hp
    rw [NestedKey.datas] at r
    cases r with
    | cons a b =>
      cases ru with
      | cons c d => exact .cons (intK_of I k _ _ hp.1 a c) (intKs_of I ks _ _ hp.2 b d)
end
theorem IntKs.len {h : Heap} : ∀ {ks : List NestedKey} {vs : List Value}, IntKs h ks vs → vs.length = ks.length
  | [], _, r => by cases r; rfl
  | k :: ks, _, r => by
    cases r with
    | cons a b => rw [List.length_cons, List.length_cons, IntKs.len b]
abbrev kLtAt (xs ys : List NestedKey) (j : Nat) : Bool := HT.lexLt (kInts (xs.getD j .none)) (kInts (ys.getD j .none))
theorem first_lex : ∀ xs ys : List NestedKey, alikeKs xs ys = true → SeqAt.firstLt (keyEqAt xs ys) (kLtAt xs ys) false (List.range xs.length) = HT.lexLt (kIntsL xs) (kIntsL ys)
  | [], [], _ => rfl
  | x :: xs, y :: ys, h => by
    rw [alikeKs, Bool.and_eq_true] at h
    have ih := first_lex xs ys h.2
    have sh : ∀ l : List Nat, SeqAt.firstLt (keyEqAt (x :: xs) (y :: ys)) (kLtAt (x :: xs) (y :: ys)) false (l.map (· + 1)) = SeqAt.firstLt (keyEqAt xs ys) (kLtAt xs ys) false l := fun l => by
      induction l with
      | nil => rfl
      | cons j l ihl =>
        rw [List.map_cons]
        unfold SeqAt.firstLt
        rw [ihl]
        rfl
    rw [List.length_cons, List.range_succ_eq_map, kIntsL, kIntsL, lex_app _ _ _ _ (alike_len x y h.1), ← ih, ← sh]
    have e0 : keyEqAt (x :: xs) (y :: ys) 0 = decide (kInts x = kInts y) := alike_beq x y h.1
    by_cases e : kInts x = kInts y
    · rw [if_pos e]
      exact SeqAt.firstLt_yes (by rw [e0]; exact decide_eq_true e)
    · rw [if_neg e]
      exact SeqAt.firstLt_no (by rw [e0]; exact decide_eq_false e)
  | [], _ :: _, h => by simp [alikeKs] at h
  | _ :: _, [], h => by simp [alikeKs] at h
theorem alikes_len2 : ∀ {xs ys : List NestedKey}, alikeKs xs ys = true → xs.length = ys.length
  | [], [], _ => rfl
  | x :: xs, y :: ys, h => by
    rw [alikeKs, Bool.and_eq_true] at h
    rw [List.length_cons, List.length_cons, alikes_len2 h.2]
  | [], _ :: _, h => by simp [alikeKs] at h
  | _ :: _, [], h => by simp [alikeKs] at h
mutual
theorem rcLt_key : ∀ (x y : NestedKey) (A : Around) (s : Shared) (a b : Value), alikeK x y = true → IntK s.heap x a → IntK s.heap y b → A.units + min x.depth y.depth < cLine → SeqAt.RcLt A s a b (HT.lexLt (kInts x) (kInts y))
  | .num i, .num j, A, s, _, _, _, ra, rb, hu => by
    cases ra
    cases rb
    rename_i t u
    have e : HT.lexLt (kInts (.num i)) (kInts (.num j)) = decide (i < j) := by
      rw [kInts, kInts]
      unfold HT.lexLt
      by_cases e : i = j
      · subst e; simp [HT.lexLt]
      · rw [if_neg e]
    rw [e]
    exact fun prog w E Q h => HT.rcLt_int A s i t j u prog w E Q h
  | .tup xs, .tup ys, A, s, _, _, al, ra, rb, hu => by
    rw [alikeK] at al
    cases ra with
    | @tup l o vs n _ h1 h2 h3 h4 =>
      cases rb with
      | @tup l' o' vs' n' _ k1 k2 k3 k4 =>
        have hl : s.heap.IsTuple l vs := ⟨_, h1, h2, _, h3⟩
        have hl' : s.heap.IsTuple l' vs' := ⟨_, k1, k2, _, k3⟩
        have n1 : vs.size = xs.length := by simpa using h4.len
        have n2 : vs'.size = ys.length := by simpa using k4.len
        have n3 := alikes_len2 al
        have q := SeqAt.RcLt.tuples (A := A) (e := keyEqAt xs ys) (r := kLtAt xs ys) hl hl' (by omega) (fun j j1 j2 => by
          have := eqAt_keys xs ys A.in1 s vs.toList vs'.toList (IntKs.nst _ _ h4) (IntKs.nst _ _ k4) (by rw [NestedKey.depth, NestedKey.depth] at hu; show A.units + 1 + _ < _; omega) j (by simpa using j1) (by simpa using j2)
          simpa using this) (fun j j1 j2 _ => by
          have := rcLt_keys xs ys A.in1 s vs.toList vs'.toList al h4 k4 (by rw [NestedKey.depth, NestedKey.depth] at hu; show A.units + 1 + _ < _; omega) j (by simpa using j1) (by simpa using j2)
          simpa using this)
        have e1 : decide (vs.size < vs'.size) = false := decide_eq_false (by omega)
        have e2 : min vs.size vs'.size = xs.length := by omega
        rw [e1, e2, first_lex xs ys al] at q
        rw [kInts, kInts]
        exact q
  | .num _, .tup _, _, _, _, _, h, _, _, _ => by simp [alikeK] at h
  | .num _, .none, _, _, _, _, h, _, _, _ => by simp [alikeK] at h
  | .num _, .text _, _, _, _, _, h, _, _, _ => by simp [alikeK] at h
  | .tup _, .num _, _, _, _, _, h, _, _, _ => by simp [alikeK] at h
  | .tup _, .none, _, _, _, _, h, _, _, _ => by simp [alikeK] at h
  | .tup _, .text _, _, _, _, _, h, _, _, _ => by simp [alikeK] at h
  | .none, _, _, _, _, _, h, _, _, _ => by simp [alikeK] at h
  | .text _, _, _, _, _, _, h, _, _, _ => by simp [alikeK] at h
theorem rcLt_keys : ∀ (xs ys : List NestedKey) (A : Around) (s : Shared) (vs ws : List Value), alikeKs xs ys = true → IntKs s.heap xs vs → IntKs s.heap ys ws →
    A.units + min (NestedKey.depthAll xs) (NestedKey.depthAll ys) < cLine → ∀ j (h1 : j < vs.length) (h2 : j < ws.length), SeqAt.RcLt A s vs[j] ws[j] (kLtAt xs ys j)
  | [], _, _, _, _, _, _, ra, _, _, j, h1, _ => by cases ra; exact absurd h1 (Nat.not_lt_zero _)
  | _ :: _, [], _, _, _, _, h, _, _, _, j, _, h2 => by simp [alikeKs] at h
  | x :: xs, y :: ys, A, s, _, _, al, ra, rb, hu, j, h1, h2 => by
    rw [alikeKs, Bool.and_eq_true] at al
    rw [NestedKey.depthAll, NestedKey.depthAll] at hu
    cases ra with
    | cons r rs =>
      cases rb with
      | cons r' rs' =>
        cases j with
        | zero => exact rcLt_key x y A s _ _ al.1 r r' (by omega)
        | succ j => exact rcLt_keys xs ys A s _ _ al.2 rs rs' (by omega) j (Nat.lt_of_succ_lt_succ h1) (Nat.lt_of_succ_lt_succ h2)
end
/-! ### sorting them -/
section
variable {prog : Program} {w : World} {A : Around} {E : Value → Shared → Prop} {s : Shared}
/-- the first item is an int -/
def headNum : List NestedKey → Bool
  | .num _ :: _ => true
  | _ => false
theorem katLex_keys {Q : Bool → Shared → Prop} : ∀ (xs ys : List NestedKey) (ps qs : List Value) (i : Nat), alikeKs xs ys = true → IntKs s.heap xs ps → IntKs s.heap ys qs → (i = 0 → headNum xs = true) → A.units + NestedKey.depthAll xs < cLine →
    Q (HT.lexLt (kIntsL xs) (kIntsL ys)) s → PySem.W.KatLex prog w A true false Q (ps.zip qs) i s
  | [], [], _, _, i, _, ra, rb, _, _, h => by
    cases ra
    cases rb
    exact PySem.W.kat_nil h
  | x :: xs, y :: ys, _, _, i, al, ra, rb, hn, hu, h => by
    rw [alikeKs, Bool.and_eq_true] at al
    rw [NestedKey.depthAll] at hu
    rw [kIntsL, kIntsL, lex_app _ _ _ _ (alike_len x y al.1)] at h
    cases ra with
    | cons a as =>
      cases rb with
      | cons b bs =>
        rename_i p ps q qs
        rw [List.zip_cons_cons]
        refine PySem.W.kat_cons (eqAt_key x y A s p q (IntK.nst _ _ a) (IntK.nst _ _ b) (by omega) prog w _ _ ?_)
        rw [alike_beq x y al.1]
        refine PySem.W.kat_go (fun e => ?_) (fun e => ?_)
        · have e := of_decide_eq_true e
          rw [if_pos e] at h
          exact PySem.W.kat_yes (katLex_keys xs ys ps qs (i + 1) al.2 as bs (fun z => by omega) (by omega) h)
        · have e := of_decide_eq_false e
          rw [if_neg e] at h
          refine PySem.W.kat_no ?_
          cases i with
          | zero =>
            have hx := hn rfl
            cases a with
            | num i t =>
              cases b with
              | num j u =>
                refine TS.oneLt_ints _ ?_
                have e2 : HT.lexLt (kInts (.num i)) (kInts (.num j)) = decide (i < j) := by
                  rw [kInts, kInts, HT.lexLt_cons]
                  by_cases e : i = j
                  · subst e; simp [HT.lexLt]
                  · rw [if_neg e]
                rw [← e2]
                exact h
              | tup _ _ _ _ => simp [alikeK] at al
            | tup _ _ _ _ => simp [headNum] at hx
          | succ i =>
            rw [show (true && (i + 1 == 0)) = false by simp]
            exact PySem.W.kat_one _ _ (rcLt_key x y A s p q al.1 a b (by omega) prog w _ _ h)
  | [], _ :: _, _, _, _, h, _, _, _, _, _ => by simp [alikeKs] at h
  | _ :: _, [], _, _, _, h, _, _, _, _, _ => by simp [alikeKs] at h
/-- values that are such keys -/
structure SkV (h : Heap) (k : Value → NestedKey) (vs : List Value) : Prop where
  is : ∀ v ∈ vs, IntK h (k v) v
  al : ∀ v ∈ vs, ∀ u ∈ vs, alikeK (k v) (k u) = true
  hd : ∀ v ∈ vs, ∃ xs, k v = .tup xs ∧ headNum xs = true ∧ NestedKey.depthAll xs ≤ 8
abbrev ltSk (k : Value → NestedKey) (v u : Value) : Bool := HT.lexLt (kInts (k v)) (kInts (k u))
theorem swo_sk (k : Value → NestedKey) : SrtO.Swo (ltSk k) := NtL.swo_lexL fun v => kInts (k v)
theorem sk_cmp {vs : List Value} {k : Value → NestedKey} (sk : SkV s.heap k vs) (hu : A.units + 64 < cLine) : SrtO.Cmp prog w A s (tuples' true) (fun p => p.1 ∈ vs) (SrtO.lt2 (ltSk k)) := by
  intro p q hm hm'
  obtain ⟨xs, e1, n1, d1⟩ := sk.hd _ hm
  obtain ⟨ys, e2, n2, d2⟩ := sk.hd _ hm'
  have i1 := sk.is _ hm
  have i2 := sk.is _ hm'
  have al := sk.al _ hm _ hm'
  rw [e1] at i1 al
  rw [e2] at i2 al
  rw [alikeK] at al
  show wpAny (model prog w) A (keyLt' (tuples' true) p.1 q.1) (fun r s' => s' = s ∧ r = HT.lexLt (kInts (k p.1)) (kInts (k q.1))) (fun _ _ => False) s
  rw [e1, e2, kInts, kInts]
  generalize p.1 = v at i1
  generalize q.1 = u at i2
  cases i1 with
  | tup a1 a2 a3 a4 =>
    cases i2 with
    | tup b1 b2 b3 b4 =>
      rename_i vs1 _ _ _ vs2 _
      refine PySem.W.kat_lt a1 a3 b1 b3 ?_
      have hz : decide (vs1.size < vs2.size) = false := decide_eq_false (by
        have z1 : vs1.size = xs.length := by simpa using a4.len
        have z2 : vs2.size = ys.length := by simpa using b4.len
        have z3 := alikes_len2 al
        omega)
      rw [hz]
      exact katLex_keys xs ys _ _ 0 al a4 b4 (fun _ => n1) (by omega) ⟨rfl, rfl⟩
theorem sk_firsts {h : Heap} {k : Value → NestedKey} : ∀ {vs : List Value}, (∀ v ∈ vs, IntK h (k v) v) → (∀ v ∈ vs, ∃ xs, k v = .tup xs ∧ headNum xs = true) → ∃ fs, PySem.W.KatTups h vs fs ∧ fs.length = vs.length ∧ ∀ f ∈ fs, ∃ x t, f = Value.int x t
  | [], _, _ => ⟨[], PySem.W.KatTups.nil, rfl, fun f hf => nomatch hf⟩
  | v :: vs, hi, hk => by
    obtain ⟨fs, h1, h2, h3⟩ := sk_firsts (vs := vs) (fun u hu => hi u (List.mem_cons_of_mem _ hu)) (fun u hu => hk u (List.mem_cons_of_mem _ hu))
    obtain ⟨xs, e, hn⟩ := hk v List.mem_cons_self
    have iv := hi v List.mem_cons_self
    rw [e] at iv
    cases iv with
    | tup a1 a2 a3 a4 =>
      rename_i a o its n
      cases a4' : its.toList with
      | nil =>
        rw [a4'] at a4
        cases a4
        simp [headNum] at hn
      | cons f r =>
        rw [a4'] at a4
        cases a4 with
        | cons c cs =>
          cases c with
          | num i t =>
            have hf : its[0]? = some (.int i t) := by
              rw [← Array.getElem?_toList, a4']
              rfl
            exact ⟨.int i t :: fs, PySem.W.KatTups.cons a1 a2 a3 hf h1, by rw [List.length_cons, List.length_cons, h2], fun g hg => by
              rcases List.mem_cons.mp hg with z | z
              · exact ⟨i, t, z⟩
              · exact h3 g z⟩
          | tup _ _ _ _ => simp [headNum] at hn
theorem sk_sortable {a : Addr} {vs : List Value} {k : Value → NestedKey} (h0 : 0 < vs.length) (sk : SkV s.heap k vs) (ha : ∀ o, s.heap.get? a = some o → o.cls ≠ .type "tuple") (hu : A.units + 64 < cLine) : SrtO.SortableO prog w A s a vs (ltSk k) := by
  intro h' keep
  have is' : ∀ v ∈ vs, IntK h' (k v) v := fun v hm => IntK.kept (fun b o e c => keep b o (fun z => by subst z; exact ha o e c) e) _ _ (sk.is v hm)
  obtain ⟨fs, h1, h2, h3⟩ := sk_firsts is' fun v hv => by
    obtain ⟨xs, e, n, _⟩ := sk.hd v hv
    exact ⟨xs, e, n⟩
  refine ⟨tuples' true, fun Q E hq => ?_, sk_cmp (s := { s with heap := h' }) ⟨is', sk.al, sk.hd⟩ hu⟩
  refine PySem.W.kat_kind (T := .type "int") h1 (by omega) (fun f hm => ?_) (by rfl) ?_
  · obtain ⟨x, t, rfl⟩ := h3 f hm
    exact PySem.W.Looks.now
  · have e : (Value.type "int" != Value.type "tuple") = true := by first | decide +kernel | rfl | decide
    rw [e]
    exact hq
end
section
variable {prog : Program} {w : World} {A : Around} {E : Value → Shared → Prop} {s : Shared}
/-- the heap where the items of a sequence were gathered into a list -/
abbrev gath (h : Heap) (vs : List Value) : Heap := (h.push (seqObj "list" #[] 0)).update h.objs.size (Obj.mapSeq (· ++ vs.toArray))
theorem gather {l : Addr} {vs : List Value} {o : Obj} {n : Nat} {T : String} {Q : List Value → Shared → Prop} (ho : s.heap.get? l = some o) (hc : o.cls = .type T) (hd : o.data = .seq vs.toArray n) (hT : T = "list" ∨ T = "tuple") (hz : vs.length ≤ sizeLine)
    (h : Q vs { s with heap := gath s.heap vs }) : wpAny (model prog w) A (collect (.ref l)) Q E s := by
  have hp : (s.heap.push (seqObj "list" #[] 0)).get? l = some o := Heap.get?_push_of_some _ ho
  have hn : (s.heap.push (seqObj "list" #[] 0)).get? s.heap.objs.size = some (seqObj "list" #[] 0) := Heap.get?_push_size _ rfl
  unfold collect
  refine wpAny_bind (wpAny_runValue (codeAny_builtin entry_proto_collect' ?_))
  show wpAny (model prog w) _ (do again (.builtin "list.__iadd__" ⟨[← newList [], .ref l], []⟩)) _ _ s
  refine wpAny_bind (wpAny_newList (wpAny_pure ⟨Code.quiet_builtin _ (by decide +kernel), codeAny_builtin entry_list_iadd' ?_⟩))
  have big : (#[] ++ vs.toArray : Array Value).size ≤ sizeLine + 1 := by simp only [Array.size_append, List.size_toArray, List.length_nil]; omega
  have emp : (#[] ++ vs.toArray : Array Value).toList = vs := by simp
  have main : wpAny (model prog w) A (do
      let o ← load s.heap.objs.size
      match o.data with
      | .seq xs _ => pure xs.toList
      | _ => unsupported "internal:collect") Q E { s with heap := gath s.heap vs } := by
    refine wpAny_bind (wpAny_load (get?_update_seq hn _) ?_)
    refine (?_ : wpAny _ _ (pure ((#[] : Array Value) ++ vs.toArray).toList) Q E _)
    rw [emp]
    exact wpAny_pure h
  refine (?_ : wpAny _ _ (Builtin.List.listExtendWith (.ref s.heap.objs.size) (.ref l) (.ref s.heap.objs.size)) _ _ { s with heap := s.heap.push (seqObj "list" #[] 0) })
  unfold Builtin.List.listExtendWith
  refine wpAny_bind (wpAny_typeOf (T := T) ⟨o, hp, hc⟩ ?_)
  have cond : (Builtin.List.listSameRef (.ref s.heap.objs.size) (.ref l) || Value.type T == Value.type "list" || Value.type T == Value.type "tuple") = true := by
    rcases hT with z | z
    · subst z
      rw [show (Value.type "list" == Value.type "list") = true by rfl]
      simp
    · subst z
      rw [show (Value.type "tuple" == Value.type "tuple") = true by rfl]
      simp
  rw [if_pos cond]
  refine wpAny_bind (listItems_at hp hd ?_)
  refine wpAny_bind (listItems_at (xs := #[]) (n := 0) hn rfl ?_)
  rw [if_neg (by simp)]
  exact wpAny_bind (listUpdate_at (xs := #[]) (n := 0) hn rfl (wpAny_pure main) (Nat.zero_le _) big)
/-- sorted(l), l a list or a tuple of any things that a strict weak order tells apart -/
theorem sorted_any {l : Addr} {vs : List Value} {ltv : Value → Value → Bool} {o : Obj} {n : Nat} {T : String} {Q : Value → Shared → Prop} (O : SrtO.Swo ltv) (ho : s.heap.get? l = some o) (hc : o.cls = .type T) (hd : o.data = .seq vs.toArray n) (hT : T = "list" ∨ T = "tuple") (hz : vs.length ≤ sizeLine)
    (hS : 2 ≤ vs.length → ∀ (h₁ : Heap) (a : Addr), h₁.get? a = some (seqObj "list" vs.toArray 0) → (∀ b o, s.heap.get? b = some o → b ≠ a ∧ h₁.get? b = some o) → SrtO.SortableO prog w A.in1.in1 { s with heap := h₁ } a vs ltv)
    (h : ∀ out : List Value, SrtO.Srtd ltv out → SrtO.Stb ltv out vs → Q (.ref (s.heap.objs.size + 1)) { s with heap := sortedAll s.heap vs out.toArray }) :
    wpAny (model prog w) A (call (.builtin "sorted") [.ref l]) Q E s := by
  have size : (gath s.heap vs).objs.size = s.heap.objs.size + 1 := by rw [Heap.size_update, size_push']
  have new : ((gath s.heap vs).push (seqObj "list" vs.toArray 0)).get? (s.heap.objs.size + 1) = some (seqObj "list" vs.toArray 0) := by rw [← size]; exact Heap.get?_push_size _ rfl
  have old : ∀ b o, s.heap.get? b = some o → b ≠ s.heap.objs.size + 1 ∧ ((gath s.heap vs).push (seqObj "list" vs.toArray 0)).get? b = some o := fun b o q => by
    have lt : b < s.heap.objs.size := Heap.lt_size q
    have q2 : (gath s.heap vs).get? b = some o := by
      rw [Heap.get?_update_ne _ _ _ _ (Nat.ne_of_lt lt)]
      exact Heap.get?_push_of_some _ q
    exact ⟨Nat.ne_of_lt (Nat.lt_succ_of_lt lt), Heap.get?_push_of_some _ q2⟩
  refine Calls.call_function_entry kind_sorted plain_sorted entry_sorted (args_sorted1 _) ?_
  unfold Builtin.«sorted»
  refine wpAny_bind (m := checkCount "sorted" 1 1 _) (wpAny_pure (wpAny_bind (gather ho hc hd hT hz (wpAny_bind (wpAny_newList ?_ hz)))))
  refine (?_ : wpAny _ _ _ _ _ { s with heap := (gath s.heap vs).push (seqObj "list" vs.toArray 0) })
  rw [size]
  have call : wpAny (model prog w) A.in1 (call (.builtin "list.sort") [.ref (s.heap.objs.size + 1)]) (fun _ s' => ∃ out : List Value, SrtO.Srtd ltv out ∧ SrtO.Stb ltv out vs ∧ s' = { s with heap := sortedAll s.heap vs out.toArray }) (fun _ _ => False) { s with heap := (gath s.heap vs).push (seqObj "list" vs.toArray 0) } :=
    wpAny_call_entry slot_list_sort ⟨_, new, rfl⟩ entry_list_sort (SrtO.list_sort_ord O new hz (fun h2 => hS h2 _ _ new old) fun out hs hb => ⟨_, rfl, out, hs, hb, rfl⟩) (args_list_sort _)
  refine wpAny_bind (wpAny_holding (wpAny_mono call (fun v s' hv => ?_) fun _ _ z => z.elim))
  obtain ⟨out, h1, h2, rfl⟩ := hv
  exact wpAny_pure ⟨_, rfl, h out h1 h2⟩
end
/-! ### the rule -/
mutual
theorem nkD_data : ∀ k : NestedKey, pureK k = true → nkD k.data = some k
  | .num i, _ => by rw [NestedKey.data, nkD]
  | .tup ks, h => by rw [pureK] at h; rw [NestedKey.data, nkD, nkDs_data ks h]; rfl
  | .none, h => by rw [pureK] at h; cases h
  | .text _, h => by rw [pureK] at h; cases h
theorem nkDs_data : ∀ ks : List NestedKey, pureKs ks = true → nkDs (NestedKey.datas ks) = some ks
  | [], _ => by rw [NestedKey.datas, nkDs]
  | k :: ks, h => by
    rw [pureKs, Bool.and_eq_true] at h
    rw [NestedKey.datas, nkDs, nkD_data k h.1, nkDs_data ks h.2]
end
def dInts (d : D) : List Int := match nkD d with
  | some k => kInts k
  | none => []
def leD (x y : D) : Bool := !HT.lexLt (dInts y) (dInts x)
def sortD (ds : List D) : List D := ds.mergeSort leD
structure SkOk (ks : List NestedKey) : Prop where
  pu : ∀ k ∈ ks, pureK k = true
  hd : ∀ k ∈ ks, ∃ xs, k = .tup xs ∧ headNum xs = true ∧ NestedKey.depthAll xs ≤ 8
  al : ∀ k ∈ ks, ∀ j ∈ ks, alikeK k j = true
theorem leD_data {k j : NestedKey} (h : pureK k = true) (h' : pureK j = true) : leD k.data j.data = !HT.lexLt (kInts j) (kInts k) := by
  unfold leD dInts
  rw [nkD_data k h, nkD_data j h']
theorem lex_antisym : ∀ a b : List Int, a.length = b.length → HT.lexLt a b = false → HT.lexLt b a = false → a = b
  | [], [], _, _, _ => rfl
  | [], _ :: _, h, _, _ => by cases h
  | _ :: _, [], h, _, _ => by cases h
  | x :: a, y :: b, h, h1, h2 => by
    rw [HT.lexLt_cons] at h1 h2
    by_cases e : x = y
    · subst e
      rw [if_pos rfl] at h1 h2
      rw [lex_antisym a b (by simpa using h) h1 h2]
    · rw [if_neg e] at h1
      rw [if_neg (fun z => e z.symm)] at h2
      have := of_decide_eq_false h1
      have := of_decide_eq_false h2
      omega
/-- what is sorted, and has the same items, is what sortD gives -/
theorem sortD_uniq {ks js : List NestedKey} (ok : SkOk ks) (p : js.Perm ks) (hs : js.Pairwise fun x y => HT.lexLt (kInts y) (kInts x) = false) : js.map NestedKey.data = sortD (ks.map NestedKey.data) := by
  have pu : ∀ k ∈ js, pureK k = true := fun k hk => ok.pu k (p.mem_iff.mp hk)
  refine List.Perm.eq_of_pairwise (le := fun x y => leD x y = true) (fun a b ha hb h1 h2 => ?_) ?_ ?_ ?_
  · obtain ⟨k, hk, rfl⟩ := List.mem_map.mp ha
    obtain ⟨j, hj, rfl⟩ := List.mem_map.mp ((List.mem_mergeSort (le := leD)).mp hb)
    have hk' := p.mem_iff.mp hk
    rw [leD_data (pu k hk) (ok.pu j hj), Bool.not_eq_true'] at h1
    rw [leD_data (ok.pu j hj) (pu k hk), Bool.not_eq_true'] at h2
    have al := ok.al k hk' j hj
    have e := lex_antisym _ _ (alike_len k j al) h2 h1
    have e2 := alike_beq k j al
    rw [decide_eq_true e] at e2
    rw [NestedKey.eq_of_beq k j e2]
  · rw [List.pairwise_map]
    refine List.Pairwise.imp_of_mem (fun {a b} ha hb h => ?_) hs
    rw [leD_data (pu a ha) (pu b hb), h]
    rfl
  · refine List.pairwise_mergeSort (le := leD) (fun a b c h1 h2 => ?_) (fun a b => ?_) _
    · unfold leD at *
      rw [Bool.not_eq_true'] at *
      exact NtL.lex_tr _ _ _ h1 h2
    · unfold leD
      cases q : HT.lexLt (dInts b) (dInts a) with
      | false => rfl
      | true => rw [NtL.lex_asym _ _ q]; rfl
  · exact (p.map _).trans (List.mergeSort_perm _ _).symm
noncomputable def sortOk (ds : List D) : Bool := ask (∃ ks, ds = ks.map NestedKey.data ∧ SkOk ks)
noncomputable def fSorted (b : Bool) (us : List U) (h : Sto) : Res U := match us with
  | [u] => (match seqOf h u with
    | some xs => if sortOk xs then mkL b (sortD xs) h else .stuck
    | none => .stuck)
  | _ => .stuck
def rSortedN (K : PySem.W.Frag) : List V → Hp → VK → Prop := fun xs H Q => ∃ (a : Addr) (vs : List V) (ks : List NestedKey), xs = [V.ref a] ∧ (SqL K H a vs ∨ SqT K H a vs) ∧ RDs K H vs (ks.map NestedKey.data) ∧ SkOk ks ∧
  ∀ (p : Addr) (ys : List V), H p = none → RDs K H ys (sortD (ks.map NestedKey.data)) → Q (.ref p) (upd H p (.lst ys))
theorem rds_map {K : PySem.W.Frag} {H : Hp} {α : Type} {f : α → V} {g : α → D} : ∀ {l : List α}, (∀ x ∈ l, RD K H (f x) (g x)) → RDs K H (l.map f) (l.map g)
  | [], _ => .nil
  | x :: l, h => .cons (h x List.mem_cons_self) (rds_map fun y hy => h y (List.mem_cons_of_mem _ hy))
theorem rd_refs {K : PySem.W.Frag} {H : Hp} : ∀ {ks : List NestedKey} {vs : List V}, RDs K H vs (ks.map NestedKey.data) → (∀ k ∈ ks, ∃ xs, k = .tup xs) → ∀ v ∈ vs, ∃ a, v = V.ref a
  | [], _, r, _, v, hv => by cases r; cases hv
  | k :: ks, _, r, hk, v, hv => by
    cases r with
    | cons a b =>
      rcases List.mem_cons.mp hv with z | z
      · subst z
        obtain ⟨xs, rfl⟩ := hk k List.mem_cons_self
        rw [NestedKey.data] at a
        cases a
        exact ⟨_, rfl⟩
      · exact rd_refs b (fun j hj => hk j (List.mem_cons_of_mem _ hj)) v z
/-- the key that a value is -/
noncomputable def keyV (h : Heap) (v : Value) : NestedKey := @Classical.epsilon _ ⟨NestedKey.none⟩ fun k => IntK h k v
theorem keyV_eq {h : Heap} {v : Value} {k : NestedKey} (i : IntK h k v) : keyV h v = k :=
  NestedIs.inj _ _ v (IntK.nst _ _ (@Classical.epsilon_spec_aux _ ⟨NestedKey.none⟩ (fun k => IntK h k v) ⟨k, i⟩)) (IntK.nst _ _ i)
theorem keys_vals {X : Cx} {pins : List (Addr × Obj)} {σ : L2.St} {H : Hp} {s : Shared} (I : L2.Inv X pins σ H s) : ∀ {ks : List NestedKey} {vs : List V} {us : List Value}, (∀ k ∈ ks, pureK k = true) → RDs X.K H vs (ks.map NestedKey.data) → Vals vs us →
    us.map (keyV s.heap) = ks ∧ ∀ u ∈ us, IntK s.heap (keyV s.heap u) u ∧ ∃ v ∈ vs, RelV v u ∧ RD X.K H v (keyV s.heap u).data
  | [], _, _, _, r, rv => by
    cases r
    cases rv
    exact ⟨rfl, fun u hu => nomatch hu⟩
  | k :: ks, _, _, hk, r, rv => by
    cases r with
    | cons a b =>
      cases rv with
      | cons c d =>
        obtain ⟨e1, e2⟩ := keys_vals I (fun j hj => hk j (List.mem_cons_of_mem _ hj)) b d
        have i := intK_of I k _ _ (hk k List.mem_cons_self) a c
        have e := keyV_eq i
        refine ⟨by rw [List.map_cons, e, e1], fun u hu => ?_⟩
        rcases List.mem_cons.mp hu with z | z
        · subst z
          rw [e]
          exact ⟨i, _, List.mem_cons_self, c, a⟩
        · obtain ⟨h1, v, h2, h3⟩ := e2 u z
          exact ⟨h1, v, List.mem_cons_of_mem _ h2, h3⟩
section
variable {X : Cx} {W : WX}
theorem cr_sortedN (hu : X.A.units + 68 < cLine) : CallR X (.builtin "sorted") (rSortedN X.K) := by
  intro pins s σ H xs us Q I r h
  obtain ⟨a, vs, ks, rfl, hs, rd, ok, q⟩ := h
  obtain ⟨its, T, o, n, rv, ho, hc, hd, hT, hz⟩ : ∃ (its : List Value) (T : String) (o : Obj) (n : Nat), Vals vs its ∧ s.heap.get? a = some o ∧ o.cls = .type T ∧ o.data = .seq its.toArray n ∧ (T = "list" ∨ T = "tuple") ∧ vs.length ≤ sizeLine := by
    rcases hs with hs | hs
    · obtain ⟨its, rv, ⟨o, n, e, c1, c2, c3⟩, hz⟩ := I.list hs
      exact ⟨its, "list", o, n, rv, e, c1, c3, .inl rfl, hz⟩
    · obtain ⟨its, rv, ⟨o, e, c1, n, c2⟩, hz⟩ := I.tuple hs
      exact ⟨its, "tuple", o, n, rv, e, c1, c2, .inr rfl, hz⟩
  obtain ⟨u, rfl, ru⟩ := vals1 r
  obtain rfl : u = Value.ref a := ru
  obtain ⟨k1, k2⟩ := keys_vals I ok.pu rd rv
  have hm : ∀ u ∈ its, keyV s.heap u ∈ ks := fun u hu => by rw [← k1]; exact List.mem_map.mpr ⟨u, hu, rfl⟩
  have sk : SkV s.heap (keyV s.heap) its := ⟨fun u hu => (k2 u hu).1, fun v hv u hu => ok.al _ (hm v hv) _ (hm u hu), fun v hv => ok.hd _ (hm v hv)⟩
  obtain ⟨e1, e2⟩ := refs_back rv (rd_refs rd fun k hk => by
    obtain ⟨xs, e, _⟩ := ok.hd k hk
    exact ⟨xs, e⟩)
  refine sorted_any (swo_sk (keyV s.heap)) ho hc hd hT (by rw [← rv.length]; exact hz) (fun h2 h₁ b hb kp => ?_) fun out h1 h2 => ?_
  · refine sk_sortable (s := { s with heap := h₁ }) (by omega) ⟨fun v hv => IntK.kept (fun c o e _ => (kp c o e).2) _ _ (sk.is v hv), sk.al, sk.hd⟩ (fun o e => ?_) (by show X.A.units + 1 + 1 + 64 < cLine; omega)
    have e' : some o = some (seqObj "list" its.toArray 0) := e.symm.trans hb
    cases e'
    intro c
    exact absurd (Value.type.inj c) (by decide)
  · have h3 : ∀ u ∈ out, ∃ a, u = Value.ref a := fun u hu => e2 u (h2.perm.mem_iff.mp hu)
    obtain ⟨ep, he'⟩ := PyProof.Rows.sortedAll_at s.heap its out.toArray
    have hlen : (out.map backV).length ≤ sizeLine := by
      rw [List.length_map, h2.perm.length_eq, ← rv.length]
      exact hz
    have dd : (out.map (keyV s.heap)).map NestedKey.data = sortD (ks.map NestedKey.data) := by
      refine sortD_uniq ok (by rw [← k1]; exact h2.perm.map _) ?_
      rw [List.pairwise_map]
      exact h1
    refine ⟨.ref _, upd H (s.heap.objs.size + 1) (.lst (out.map backV)), I.laid (t' := s.toks) (fun _ _ => PyProof.Rows.sortedAll_old) (Nat.le_succ _) ⟨hlen, out, ep, vals_back h3, he'⟩, rfl, q _ _ (I.hok.fresh (Nat.le_succ _)) ?_⟩
    rw [← dd, List.map_map]
    refine rds_map fun u hu => ?_
    obtain ⟨b, eb⟩ := h3 u hu
    obtain ⟨_, v, hv, rv1, rv2⟩ := k2 u (h2.perm.mem_iff.mp hu)
    subst eb
    rw [e1] at hv
    obtain ⟨u', hu', rfl⟩ := List.mem_map.mp hv
    obtain ⟨b', rfl⟩ := e2 u' hu'
    have : Value.ref b = Value.ref b' := rv1
    rw [← this] at rv2
    exact rv2
theorem ab_sorted (b : Bool) : AbC X W (fSorted b) (fun xs H Q => rSortedN X.K xs H (gh Q)) := by
  intro σ H m h xs us Q s r out
  unfold fSorted at out
  split at out
  · cases r with
    | cons ru rn =>
      cases rn
      split at out
      · rename_i ys e
        split at out
        · rename_i hk
          obtain ⟨ks, rfl, ok⟩ := ask_iff.mp hk
          obtain ⟨p, ws, rfl, t1, d1⟩ := seqOf_v s e ru
          exact ⟨p, ws, ks, rfl, t1, d1, ok, fun l zs nl rz => mkL_ok s nl rz out⟩
        · exact out.elim
      · exact out.elim
  · exact out.elim
end
theorem bt_sorted : bootBuiltins "sorted" = some (.builtin "sorted") := by decide +kernel
theorem units68 {k : Nat} {A : Around} (r : Room k A) : A.units + 68 < cLine := by have := r.un; omega
theorem ev_sorted {b : Bool} {u : U} {h : Sto} {xs : List D} (e : seqOf h u = some xs) (ok : sortOk xs = true) : fSorted b [u] h = mkL b (sortD xs) h := by
  show (match seqOf h u with | some xs => if sortOk xs then mkL b (sortD xs) h else .stuck | none => .stuck) = _
  rw [e]
  show (if sortOk xs then mkL b (sortD xs) h else .stuck) = _
  rw [ok]
  rfl
end Wk

/-! FL: the floor: numbers, places, steps. -/
namespace Wk
open PySem L2
@[simp] theorem ev_lcN (t : Tg) (c : Eb) (e : Ev) (env : Env') (acc : List D) (h : Sto) : lcGo t c e env [] acc h = .ok acc h := (rfl)
@[simp] theorem ev_lcC (t : Tg) (c : Eb) (e : Ev) (env : Env') (u : U) (us : List U) (acc : List D) (h : Sto) : lcGo t c e env (u :: us) acc h = match t u env h with
    | some env1 => (c env1 h).bind fun k h1 => (match k with
      | true => (e env1 h1).bind fun w h2 => (match w with
        | .d x => if fits (acc.length + 1) then lcGo t c e env us (acc ++ [x]) h2 else .stuck
        | _ => .stuck)
      | false => lcGo t c e env us acc h1)
    | none => .stuck := (rfl)
@[simp] theorem ev_yes (env : Env') (h : Sto) : cYes env h = .ok true h := (rfl)
@[simp] theorem fits_s {n : Nat} (h : n ≤ 16777216) : fits n = true := fits_of h
@[simp] theorem ev_iSeq (f : Ev) (env : Env') (h : Sto) : iSeq f env h = (f env h).bind fun u h1 => match u with
  | .d (.tuple xs) => .ok (xs.map .d) h1
  | .d (.list xs) => .ok (xs.map .d) h1
  | .tup us => .ok us h1
  | _ => .stuck := (rfl)
@[simp] theorem ev_forN (t : Tg) (b : Es) (env : Env') (h : Sto) : forGo t b [] env h = .next env h := (rfl)
@[simp] theorem ev_forC (t : Tg) (b : Es) (u : U) (us : List U) (env : Env') (h : Sto) : forGo t b (u :: us) env h = match t u env h with | some env1 => (b env1 h).seq (forGo t b us) | none => .stuck := (rfl)
@[simp] theorem atI_0 {α : Type} (x : α) (r : List α) : atI (x :: r) 0 = some x := by
  have := atI_nat (xs := x :: r) (j := 0) (v := x) rfl
  exact this
@[simp] theorem atI_1 {α : Type} (x y : α) (r : List α) : atI (x :: y :: r) 1 = some y := by
  have := atI_nat (xs := x :: y :: r) (j := 1) (v := y) rfl
  exact this
@[simp] theorem atI_2 {α : Type} (x y z : α) (r : List α) : atI (x :: y :: z :: r) 2 = some z := by
  have := atI_nat (xs := x :: y :: z :: r) (j := 2) (v := z) rfl
  exact this
@[simp] theorem atI_3 {α : Type} (x y z w : α) (r : List α) : atI (x :: y :: z :: w :: r) 3 = some w := by
  have := atI_nat (xs := x :: y :: z :: w :: r) (j := 3) (v := w) rfl
  exact this
@[simp] theorem atI_4 {α : Type} (x y z w v : α) (r : List α) : atI (x :: y :: z :: w :: v :: r) 4 = some v := by
  have := atI_nat (xs := x :: y :: z :: w :: v :: r) (j := 4) (v := v) rfl
  exact this
/-- == of data that are no texts -/
theorem ev_eqD {x y : D} (n : Bool) (h : Sto) (nx : ∀ s, x ≠ .str s) (sx : SeqAt.shaped x = true) (sy : SeqAt.shaped y = true) : opEqB n (.d x) (.d y) h = .ok (.d (.bool (xor n (PyData.eqv x y)))) h := by
  have e : strOf (.d x) = none := by
    cases x with
    | str s => exact absurd rfl (nx s)
    | _ => rfl
  unfold opEqB
  rw [e]
  simp only [dataOf, sx, sy, Bool.and_self, if_true]
theorem ev_eqS {x : D} (n : Bool) (h : Sto) (nx : ∀ s, x ≠ .str s) (sx : SeqAt.shaped x = true) : opEqB n (.d x) (.d x) h = .ok (.d (.bool (!n))) h := by
  rw [ev_eqD n h nx sx sx, SeqAt.eqv_refl _ (SeqAt.canLay_of_shaped sx), Bool.xor_true]

/-- a place -/
structure P4 where
  a : Int
  b : Int
  c : Int
  d : Int
def P4.e (p : P4) : D := .tuple [.tuple [.int p.a, .int p.b], .tuple [.int p.c, .int p.d]]
theorem P4.shaped (p : P4) : SeqAt.shaped p.e = true := (rfl)
theorem P4.ns (p : P4) : ∀ s, p.e ≠ .str s := fun s z => nomatch z
@[simp] theorem ev_eqP (n : Bool) (p : P4) (h : Sto) : opEqB n (.d p.e) (.d p.e) h = .ok (.d (.bool (!n))) h := ev_eqS n h p.ns p.shaped
/-- the ways of the eight headings -/
def xa (h : Int) : Int := if h = 0 then 1 else if h = 4 then -1 else 0
def xb (h : Int) : Int := if h = 1 ∨ h = 7 then 1 else if h = 3 ∨ h = 5 then -1 else 0
def ya (h : Int) : Int := if h = 2 then 1 else if h = 6 then -1 else 0
def yb (h : Int) : Int := if h = 1 ∨ h = 3 then 1 else if h = 5 ∨ h = 7 then -1 else 0
def mv (h s : Int) (p : P4) : P4 := ⟨p.a + s * xa h, p.b + s * xb h, p.c + s * ya h, p.d + s * yb h⟩

def c_EAST : D := (.tuple [(.int 1), (.int 1), (.int 0), (.int (-1)), (.int (-1)), (.int (-1)), (.int 0), (.int 1)])
noncomputable def B_plus : Es := (sRet (eTup (aCons (eBin (opAdd false) (eBin opIx (eV 0) (eC (.int 0))) (eBin opIx (eV 1) (eC (.int 0)))) (aCons (eBin (opAdd false) (eBin opIx (eV 0) (eC (.int 1))) (eBin opIx (eV 1) (eC (.int 1)))) aNil))))
noncomputable def B_way_of : Es := (sSeq (sSet 2 (eBin opMul (eV 1) (eBin opIx (eC c_EAST) (eV 0))))
    (sSeq (sSet 3 (eBin opMul (eV 1) (eBin opIx (eC c_EAST) (eBin opMod (eBin (opAdd false) (eV 0) (eC (.int 6))) (eC (.int 8))))))
    (sSeq (sIf (tBin opEq (eBin opMod (eV 0) (eC (.int 2))) (eC (.int 0)))
    (sRet (eTup (aCons (eTup (aCons (eV 2) (aCons (eC (.int 0)) aNil))) (aCons (eTup (aCons (eV 3) (aCons (eC (.int 0)) aNil))) aNil))))
    sNil)
    (sRet (eTup (aCons (eTup (aCons (eC (.int 0)) (aCons (eV 2) aNil))) (aCons (eTup (aCons (eC (.int 0)) (aCons (eV 3) aNil))) aNil)))))))
noncomputable def B_moved : Es := (sSeq (sAsg (gTup' 2 (gCons' (gN 3) (gCons' (gN 4) gNil'))) (eCall (pfOf 4 B_way_of) (aCons (eV 1) (aCons (eV 2) aNil))))
    (sRet (eTup (aCons (eCall (pfOf 2 B_plus) (aCons (eBin opIx (eV 0) (eC (.int 0))) (aCons (eV 3) aNil))) (aCons (eCall (pfOf 2 B_plus) (aCons (eBin opIx (eV 0) (eC (.int 1))) (aCons (eV 4) aNil))) aNil)))))
theorem plus_ev (a b c d : Int) : pfOf 2 B_plus [.tuple [.int a, .int b], .tuple [.int c, .int d]] = .ok (.tuple [.int (a + c), .int (b + d)]) := by
  unfold B_plus
  simp [pfOf_ap]
theorem heads {h : Int} (h0 : 0 ≤ h) (h1 : h < 8) : h = 0 ∨ h = 1 ∨ h = 2 ∨ h = 3 ∨ h = 4 ∨ h = 5 ∨ h = 6 ∨ h = 7 := by omega
theorem east_at {h : Int} (h0 : 0 ≤ h) (h1 : h < 8) : ∃ x : Int, atI [PyData.int 1, .int 1, .int 0, .int (-1), .int (-1), .int (-1), .int 0, .int 1] h = some (.int x) ∧ x.natAbs ≤ 1 := by
  rcases heads h0 h1 with z | z | z | z | z | z | z | z <;> subst z <;> exact ⟨_, rfl, by decide⟩
theorem way_ev (h s : Int) (h0 : 0 ≤ h) (h1 : h < 8) : pfOf 4 B_way_of [.int h, .int s] = .ok (.tuple [.tuple [.int (s * xa h), .int (s * xb h)], .tuple [.int (s * ya h), .int (s * yb h)]]) := by
  have ix : ∀ (j : Nat) (x : D), [PyData.int 1, .int 1, .int 0, .int (-1), .int (-1), .int (-1), .int 0, .int 1][j]? = some x → atI [PyData.int 1, .int 1, .int 0, .int (-1), .int (-1), .int (-1), .int 0, .int 1] (j : Int) = some x := fun j x e => atI_nat e
  have i0 := ix 0 _ rfl
  have i1 := ix 1 _ rfl
  have i2 := ix 2 _ rfl
  have i3 := ix 3 _ rfl
  have i4 := ix 4 _ rfl
  have i5 := ix 5 _ rfl
  have i6 := ix 6 _ rfl
  have i7 := ix 7 _ rfl
  simp only [Int.ofNat_eq_natCast, Int.cast_ofNat_Int] at i0 i1 i2 i3 i4 i5 i6 i7
  unfold B_way_of c_EAST
  rcases heads h0 h1 with z | z | z | z | z | z | z | z <;> subst z <;> simp [pfOf_ap, i5, i6, i7, xa, xb, ya, yb]
theorem moved_ev (p : P4) (h s : Int) (h0 : 0 ≤ h) (h1 : h < 8) : pfOf 5 B_moved [p.e, .int h, .int s] = .ok (mv h s p).e := by
  rw [pfOf_ap]
  unfold B_moved P4.e mv
  simp [way_ev h s h0 h1, plus_ev]
theorem mv_zero (h : Int) (p : P4) : mv h 0 p = p := by
  unfold mv
  simp
theorem mv_mv (h s t : Int) (p : P4) : mv h t (mv h s p) = mv h (s + t) p := by
  unfold mv
  simp only [P4.mk.injEq]
  refine ⟨?_, ?_, ?_, ?_⟩ <;> grind
theorem mv_opp {h : Int} (s : Int) (p : P4) (h0 : 0 ≤ h) (h1 : h < 8) : mv ((h + 4) % 8) s p = mv h (-s) p := by
  unfold mv
  rcases heads h0 h1 with z | z | z | z | z | z | z | z <;> subst z <;> simp [xa, xb, ya, yb]
theorem mv_par {h : Int} (s : Int) (p : P4) (h0 : 0 ≤ h) (h1 : h < 8) : ((mv h s p).b + (mv h s p).d) % 2 = (p.b + p.d) % 2 := by
  unfold mv
  rcases heads h0 h1 with z | z | z | z | z | z | z | z <;> subst z <;> simp [xb, yb] <;> omega
theorem ev_pow6 (h : Sto) : opPow (.d (.int 10)) (.d (.int 6)) h = .ok (.d (.int 1000000)) h := by
  rw [ev_pow _ _ (by decide) (by decide) (by decide)]
  rfl
theorem two_at {α : Type} (a b : α) (x : Int) : ∃ y, atI [a, b] (x % 2) = some y ∧ (y = a ∨ y = b) := by
  have h : x % 2 = 0 ∨ x % 2 = 1 := by omega
  rcases h with z | z <;> rw [z]
  · exact ⟨a, atI_0 _ _, .inl rfl⟩
  · exact ⟨b, atI_1 _ _ _, .inr rfl⟩
/-! ### turned and mirrored -/
def rot (p : P4) : P4 := ⟨(p.b - p.d) / 2, p.a - p.c, (p.b + p.d) / 2, p.a + p.c⟩
def rotN : Nat → P4 → P4
  | 0, p => p
  | n + 1, p => rot (rotN n p)
def mir (p : P4) : P4 := ⟨p.a, p.b, -p.c, -p.d⟩
noncomputable def B_minus : Es := (sRet (eTup (aCons (eBin opSub (eBin opIx (eV 0) (eC (.int 0))) (eBin opIx (eV 1) (eC (.int 0)))) (aCons (eBin opSub (eBin opIx (eV 0) (eC (.int 1))) (eBin opIx (eV 1) (eC (.int 1)))) aNil))))
noncomputable def B_halved : Es := (sRet (eTup (aCons (eBin opFdiv (eBin opIx (eV 0) (eC (.int 1))) (eC (.int 2))) (aCons (eBin opIx (eV 0) (eC (.int 0))) aNil))))
noncomputable def B_mirrored_place : Es := (sRet (eTup (aCons (eBin opIx (eV 0) (eC (.int 0))) (aCons (eTup (aCons (eBin opSub (eC (.int 0)) (eBin opIx (eBin opIx (eV 0) (eC (.int 1))) (eC (.int 0)))) (aCons (eBin opSub (eC (.int 0)) (eBin opIx (eBin opIx (eV 0) (eC (.int 1))) (eC (.int 1)))) aNil))) aNil))))
noncomputable def L_turned_place_0 : Es := (sSeq (sAsg (gTup' 2 (gCons' (gN 3) (gCons' (gN 4) gNil'))) (eV 0))
    (sSet 0 (eTup (aCons (eCall (pfOf 1 B_halved) (aCons (eCall (pfOf 2 B_minus) (aCons (eV 3) (aCons (eV 4) aNil))) aNil)) (aCons (eCall (pfOf 1 B_halved) (aCons (eCall (pfOf 2 B_plus) (aCons (eV 3) (aCons (eV 4) aNil))) aNil)) aNil)))))
noncomputable def B_turned_place : Es := (sSeq (sFor (iR1 (aCons (eBin opMod (eV 1) (eC (.int 8))) aNil)) (gN 2) L_turned_place_0)
    (sRet (eV 0)))
theorem minus_ev (a b c d : Int) : pfOf 2 B_minus [.tuple [.int a, .int b], .tuple [.int c, .int d]] = .ok (.tuple [.int (a - c), .int (b - d)]) := by
  unfold B_minus
  simp [pfOf_ap]
theorem halved_ev (a b : Int) : pfOf 1 B_halved [.tuple [.int a, .int b]] = .ok (.tuple [.int (b / 2), .int a]) := by
  unfold B_halved
  simp [pfOf_ap]
theorem mirrored_ev (p : P4) : pfOf 1 B_mirrored_place [p.e] = .ok (mir p).e := by
  unfold B_mirrored_place P4.e mir
  simp [pfOf_ap]
theorem turned_ev (p : P4) (k : Int) : pfOf 5 B_turned_place [p.e, .int k] = .ok (rotN (k % 8).toNat p).e := by
  have h0 := Int.emod_nonneg k (show (8 : Int) ≠ 0 by decide)
  have h1 := Int.emod_lt_of_pos k (show (0 : Int) < 8 by decide)
  have hr : rngOk (k % 8) = true := rng_of (by omega) (by omega)
  obtain ⟨env', h', e, y2, y3, y4, rfl, rfl⟩ := forGo_inv (t := gN 2) (b := L_turned_place_0) (us := iRange (k % 8).toNat 0)
    (fun i env h => ∃ (y2 y3 y4 : Option U), env = [some (.d (rotN i p).e), some (.d (.int k)), y2, y3, y4] ∧ h = []) 0
    (env := [some (.d p.e), some (.d (.int k)), none, none, none]) (h := []) ⟨none, none, none, rfl, rfl⟩ (fun i u env h eu hI => by
      obtain ⟨y2, y3, y4, rfl, rfl⟩ := hI
      obtain ⟨hi, rfl⟩ := iRange_get eu
      refine ⟨_, [some (.d (rotN (0 + i + 1) p).e), some (.d (.int k)), some (.d (.int (0 + i))), some (.d (.tuple [.int (rotN (0 + i) p).a, .int (rotN (0 + i) p).b])), some (.d (.tuple [.int (rotN (0 + i) p).c, .int (rotN (0 + i) p).d]))], [], rfl, ?_, _, _, _, rfl, rfl⟩
      unfold L_turned_place_0
      simp [P4.e, minus_ev, plus_ev, halved_ev, rotN, rot])
  rw [pfOf_ap]
  unfold B_turned_place
  rw [iRange_len] at e
  simp [hr, e]
def P4.par (p : P4) : Prop := (p.b + p.d) % 2 = 0
theorem rot_par (p : P4) : (rot p).par := by
  unfold P4.par rot
  dsimp only
  omega
theorem rotN_par {p : P4} (h : p.par) : ∀ n, (rotN n p).par
  | 0 => h
  | n + 1 => rot_par _
theorem mir_par {p : P4} (h : p.par) : (mir p).par := by
  unfold P4.par mir at *
  dsimp only
  omega
theorem mv_par' {h : Int} (s : Int) {p : P4} (h0 : 0 ≤ h) (h1 : h < 8) (q : p.par) : (mv h s p).par := by
  unfold P4.par at *
  rw [mv_par s p h0 h1]
  exact q
theorem mir_mir (p : P4) : mir (mir p) = p := by
  unfold mir
  simp
theorem rot_mv {h : Int} (s : Int) {p : P4} (h0 : 0 ≤ h) (h1 : h < 8) : rot (mv h s p) = mv ((h + 1) % 8) s (rot p) := by
  unfold rot mv
  simp only [P4.mk.injEq]
  rcases heads h0 h1 with z | z | z | z | z | z | z | z <;> subst z <;> simp [xa, xb, ya, yb] <;> omega
theorem rotN_mv {h : Int} (s : Int) {p : P4} (h0 : 0 ≤ h) (h1 : h < 8) : ∀ n : Nat, rotN n (mv h s p) = mv ((h + n) % 8) s (rotN n p)
  | 0 => by
    show mv h s p = mv ((h + 0) % 8) s p
    rw [Int.add_zero, Int.emod_eq_of_lt h0 h1]
  | n + 1 => by
    show rot (rotN n (mv h s p)) = mv _ s (rot (rotN n p))
    rw [rotN_mv s h0 h1 n, rot_mv s (Int.emod_nonneg _ (by decide)) (Int.emod_lt_of_pos _ (by decide))]
    congr 1
    omega
theorem mir_mv {h : Int} (s : Int) {p : P4} (h0 : 0 ≤ h) (h1 : h < 8) : mir (mv h s p) = mv ((8 - h) % 8) s (mir p) := by
  unfold mir mv
  simp only [P4.mk.injEq]
  rcases heads h0 h1 with z | z | z | z | z | z | z | z <;> subst z <;> simp [xa, xb, ya, yb] <;> omega
/-- back by one eighth -/
def tor (p : P4) : P4 := ⟨(p.b + p.d) / 2, p.a + p.c, (p.d - p.b) / 2, p.c - p.a⟩
theorem tor_rot {p : P4} (h : p.par) : tor (rot p) = p := by
  unfold P4.par at h
  unfold tor rot
  rcases p with ⟨a, b, c, d⟩
  simp only [P4.mk.injEq] at *
  omega
theorem rot_mir {p : P4} (h : p.par) : rot (mir (rot p)) = mir p := by
  unfold P4.par at h
  unfold mir rot
  rcases p with ⟨a, b, c, d⟩
  simp only [P4.mk.injEq] at *
  omega
theorem rotN_add (p : P4) (m : Nat) : ∀ n, rotN (n + m) p = rotN n (rotN m p)
  | 0 => by rw [Nat.zero_add]; rfl
  | n + 1 => by
    rw [Nat.add_right_comm]
    show rot (rotN (n + m) p) = rot (rotN n (rotN m p))
    rw [rotN_add p m n]
theorem rotN_mir {p : P4} (h : p.par) : ∀ n, rotN n (mir (rotN n p)) = mir p
  | 0 => rfl
  | n + 1 => by
    rw [rotN_add (mir (rotN (n + 1) p)) 1 n]
    show rotN n (rot (mir (rot (rotN n p)))) = mir p
    rw [rot_mir (rotN_par h n), rotN_mir h n]
theorem rot8 {p : P4} (h : p.par) : rotN 8 p = p := by
  unfold P4.par at h
  rcases p with ⟨a, b, c, d⟩
  simp only [rotN, rot, P4.mk.injEq] at *
  omega
theorem rotN_back {p : P4} (h : p.par) {n : Nat} (hn : n ≤ 8) : rotN (8 - n) (mir p) = mir (rotN n p) := by
  have e := rotN_mir (rotN_par h n) (8 - n)
  have q : rotN (8 - n) (rotN n p) = p := by
    rw [← rotN_add, Nat.sub_add_cancel hn]
    exact rot8 h
  rw [q] at e
  exact e
end Wk

/-! WL: bounds of places, lists in the store. -/
namespace Wk
open PySem L2
def P4.bd (n : Int) (p : P4) : Prop := (-n ≤ p.a ∧ p.a ≤ n) ∧ (-n ≤ p.b ∧ p.b ≤ n) ∧ (-n ≤ p.c ∧ p.c ≤ n) ∧ -n ≤ p.d ∧ p.d ≤ n
theorem P4.bd.mono {m n : Int} {p : P4} (h : p.bd m) (l : m ≤ n) : p.bd n := by unfold P4.bd at *; omega
theorem mv_bd {n m h s : Int} {p : P4} (h0 : 0 ≤ h) (h1 : h < 8) (b : p.bd n) (hs : -m ≤ s) (hs2 : s ≤ m) : (mv h s p).bd (n + m) := by
  unfold P4.bd at *
  unfold mv
  rcases heads h0 h1 with z | z | z | z | z | z | z | z <;> subst z <;> simp [xa, xb, ya, yb] <;> omega
theorem lst_ref (xs : List D) (n : Int) (h0 : 0 ≤ n) (h1 : n < xs.length) : ∃ x, atI xs n = some x ∧ x ∈ xs := atI_in h0 h1
theorem ixR (xs : List D) (i : Int) : opIx (.ref 0) (.d (.int i)) [.lst xs] = match atI xs i with | some x => .ok (.d x) [.lst xs] | none => .stuck := (rfl)
theorem lenR (xs : List D) : fLen [.ref 0] [.lst xs] = .ok (.d (.int xs.length)) [.lst xs] := (rfl)
theorem slR (b : Bool) (xs : List D) (lo hi : Option Int) : opSl b (.ref 0) lo hi [.lst xs] = mkL b (cutD xs lo hi) [.lst xs] := (rfl)
theorem addRL (xs ys : List D) (h : xs.length + ys.length ≤ 16777216) : opAdd false (.ref 0) (.d (.list ys)) [.lst xs] = .ok (.d (.list (xs ++ ys))) [.lst xs] := by
  show (if fits (xs.length + ys.length) then mkL false (xs ++ ys) [.lst xs] else .stuck) = _
  rw [fits_of h]
  rfl
theorem addLL (xs ys : List D) (h : Sto) (hl : xs.length + ys.length ≤ 16777216) : opAdd false (.d (.list xs)) (.d (.list ys)) h = .ok (.d (.list (xs ++ ys))) h := by
  show (if fits (xs.length + ys.length) then mkL false (xs ++ ys) h else .stuck) = _
  rw [fits_of hl]
  rfl
theorem three {α : Type} {l : List α} (h : l.length = 3) : ∃ a b c, l = [a, b, c] := by
  match l, h with
  | [a, b, c], _ => exact ⟨a, b, c, rfl⟩
theorem pick {l : List Int} (hl : 0 < l.length) (hb : ∀ x ∈ l, 0 ≤ x ∧ x < 8) (i : Int) : ∃ h : Int, atI (l.map PyData.int) (i % l.length) = some (.int h) ∧ 0 ≤ h ∧ h < 8 := by
  obtain ⟨x, e, hx⟩ := atI_in (xs := l) (i := i % l.length) (Int.emod_nonneg _ (by omega)) (Int.emod_lt_of_pos _ (by omega))
  exact ⟨x, by rw [atI_map, e]; rfl, hb x hx⟩
theorem heads_at (i : Int) : ∃ l : List Int, atI [PyData.list [.int 0, .int 1, .int 2, .int 3, .int 4, .int 5, .int 6, .int 7], .list [.int 0, .int 2, .int 4, .int 6], .list [.int 1, .int 2, .int 3, .int 4, .int 5, .int 6, .int 7, .int 0], .list [.int 0, .int 1, .int 1, .int 4, .int 5]] (i % 4) = some (.list (l.map .int)) ∧ 0 < l.length ∧ ∀ x ∈ l, 0 ≤ x ∧ x < 8 := by
  have h : i % 4 = 0 ∨ i % 4 = 1 ∨ i % 4 = 2 ∨ i % 4 = 3 := by omega
  rcases h with z | z | z | z <;> rw [z]
  · exact ⟨[0, 1, 2, 3, 4, 5, 6, 7], atI_0 _ _, by decide, by decide⟩
  · exact ⟨[0, 2, 4, 6], atI_1 _ _ _, by decide, by decide⟩
  · exact ⟨[1, 2, 3, 4, 5, 6, 7, 0], atI_2 _ _ _ _, by decide, by decide⟩
  · exact ⟨[0, 1, 1, 4, 5], atI_3 _ _ _ _ _, by decide, by decide⟩
theorem fars_at (i : Int) : ∃ f : Int, atI [PyData.int 2, .int 3, .int 6, .int 1000] (i % 4) = some (.int f) ∧ 0 < f ∧ f ≤ 1000 := by
  have h : i % 4 = 0 ∨ i % 4 = 1 ∨ i % 4 = 2 ∨ i % 4 = 3 := by omega
  rcases h with z | z | z | z <;> rw [z]
  · exact ⟨2, atI_0 _ _, by decide, by decide⟩
  · exact ⟨3, atI_1 _ _ _, by decide, by decide⟩
  · exact ⟨6, atI_2 _ _ _ _, by decide, by decide⟩
  · exact ⟨1000, atI_3 _ _ _ _ _, by decide, by decide⟩

theorem lcGo_mapF {α : Type} {t : Tg} {e : Ev} {env : Env'} {h : Sto} (en : α → U) (f : α → D) : ∀ (l : List α) (acc : List D), (∀ x ∈ l, ∃ env1, t (en x) env h = some env1 ∧ e env1 h = .ok (.d (f x)) h) → acc.length + l.length ≤ 16777216 → lcGo t cYes e env (l.map en) acc h = .ok (acc ++ l.map f) h
  | [], acc, _, _ => by simp
  | x :: l, acc, H, hl => by
    obtain ⟨env1, e1, e2⟩ := H x List.mem_cons_self
    rw [List.length_cons] at hl
    have ih := lcGo_mapF (t := t) (e := e) (env := env) (h := h) en f l (acc ++ [f x]) (fun v hv => H v (List.mem_cons_of_mem _ hv)) (by rw [List.length_append, List.length_singleton]; omega)
    have hf : fits (acc.length + 1) = true := fits_of (by omega)
    simp [e1, e2, hf, ih]
/-! ### a way, pair by pair -/
def pairs {α : Type} : List α → List (α × α)
  | p :: q :: r => (p, q) :: pairs (q :: r)
  | _ => []
theorem zip_pairs {α : Type} : ∀ l : List α, List.zipWith (fun x y => (x, y)) l.dropLast l.tail = pairs l
  | [] => rfl
  | [p] => rfl
  | p :: q :: r => by
    have ih := zip_pairs (q :: r)
    have e : (p :: q :: r).dropLast = p :: (q :: r).dropLast := List.dropLast_cons_of_ne_nil (by simp)
    rw [e, List.tail_cons, pairs, ← ih]
    cases r with
    | nil => rfl
    | cons a r => rfl
def prU (z : D × D) : U := .d (.tuple [z.1, z.2])
theorem zipD_pairs (l : List D) : zipD l.dropLast l.tail = (pairs l).map prU := by
  rw [← zip_pairs]
  unfold zipD
  rw [List.map_zipWith]
  rfl
theorem pairs_map {α β : Type} (f : α → β) : ∀ l : List α, pairs (l.map f) = (pairs l).map fun z => (f z.1, f z.2)
  | [] => rfl
  | [p] => rfl
  | p :: q :: r => by
    have ih := pairs_map f (q :: r)
    simp only [List.map_cons] at ih ⊢
    rw [pairs, pairs, ih]
    rfl
theorem cut_front {α : Type} (l : List α) : cutD l none (some (-1)) = l.dropLast := by
  unfold cutD
  rw [List.dropLast_eq_take]
  have h1 : HT.sIx l.length 0 none = 0 := rfl
  have h2 : HT.sIx l.length l.length (some (-1)) = l.length - 1 := by
    unfold HT.sIx
    simp
    omega
  rw [h1, h2]
  simp
theorem cut_tail {α : Type} (l : List α) : cutD l (some 1) none = l.tail := by
  unfold cutD
  have h1 : HT.sIx l.length 0 (some 1) = min 1 l.length := HT.sIx_nat _ _ 1
  have h2 : HT.sIx l.length l.length none = l.length := rfl
  rw [h1, h2]
  cases l with
  | nil => rfl
  | cons a r => simp
theorem cut_to {α : Type} (l : List α) (n : Nat) (h : n ≤ l.length) : cutD l none (some (n : Int)) = l.take n := by
  unfold cutD
  have h1 : HT.sIx l.length 0 none = 0 := rfl
  have h2 : HT.sIx l.length l.length (some (n : Int)) = n := by
    rw [HT.sIx_nat]
    omega
  rw [h1, h2]
  simp
theorem cut_from {α : Type} (l : List α) (n : Nat) (h : n ≤ l.length) : cutD l (some (n : Int)) none = l.drop n := by
  unfold cutD
  have h1 : HT.sIx l.length 0 (some (n : Int)) = n := by
    rw [HT.sIx_nat]
    omega
  have h2 : HT.sIx l.length l.length none = l.length := rfl
  rw [h1, h2, List.take_of_length_le]
  simp
theorem cut_fb {α : Type} (l : List α) (n : Nat) (h : n < l.length) : cutD l (some (n : Int)) (some (-1)) = (l.dropLast).drop n := by
  unfold cutD
  have h1 : HT.sIx l.length 0 (some (n : Int)) = n := by
    rw [HT.sIx_nat]
    omega
  have h2 : HT.sIx l.length l.length (some (-1)) = l.length - 1 := by
    unfold HT.sIx
    simp
    omega
  rw [h1, h2, List.dropLast_eq_take, List.drop_take]
/-- a sum along a way -/
def sumP {α : Type} (f : α → α → Int) : List α → Int
  | p :: q :: r => f p q + sumP f (q :: r)
  | _ => 0
theorem sumP_app {α : Type} (f : α → α → Int) (x : α) (m : List α) : ∀ l : List α, sumP f (l ++ x :: m) = sumP f (l ++ [x]) + sumP f (x :: m)
  | [] => by simp [sumP]
  | [p] => by simp [sumP]
  | p :: q :: r => by
    have ih := sumP_app f x m (q :: r)
    simp only [List.cons_append] at ih ⊢
    rw [sumP, sumP, ih]
    omega
theorem sumP_snoc {α : Type} (f : α → α → Int) (l : List α) (x y : α) : sumP f (l ++ [x, y]) = sumP f (l ++ [x]) + f x y := by
  rw [sumP_app f x [y] l]
  simp [sumP]
theorem sumP_rev {α : Type} (f : α → α → Int) : ∀ l : List α, sumP f l.reverse = sumP (fun p q => f q p) l
  | [] => rfl
  | [p] => rfl
  | p :: q :: r => by
    have ih := sumP_rev f (q :: r)
    rw [List.reverse_cons, List.reverse_cons, List.append_assoc, List.singleton_append, sumP_snoc, sumP, ← List.reverse_cons, ih]
    omega
theorem sumP_map {α β : Type} (g : α → β) (f : β → β → Int) : ∀ l : List α, sumP f (l.map g) = sumP (fun p q => f (g p) (g q)) l
  | [] => rfl
  | [p] => rfl
  | p :: q :: r => by
    have ih := sumP_map g f (q :: r)
    simp only [List.map_cons] at ih ⊢
    rw [sumP, sumP, ih]
theorem sumP_congr {α : Type} {f g : α → α → Int} (h : ∀ p q, f p q = g p q) : ∀ l : List α, sumP f l = sumP g l
  | [] => rfl
  | [p] => rfl
  | p :: q :: r => by
    have ih := sumP_congr h (q :: r)
    rw [sumP, sumP, ih, h]
theorem sumP_mul {α : Type} (k : Int) (f : α → α → Int) : ∀ l : List α, sumP (fun p q => k * f p q) l = k * sumP f l
  | [] => by simp [sumP]
  | [p] => by simp [sumP]
  | p :: q :: r => by
    have ih := sumP_mul k f (q :: r)
    rw [sumP, sumP, ih, Int.mul_add]
theorem sumP_neg {α : Type} (f : α → α → Int) (l : List α) : sumP (fun p q => - f p q) l = - sumP f l := by
  have h := sumP_mul (-1) f l
  rw [show (fun p q => - f p q) = (fun p q => -1 * f p q) from funext fun p => funext fun q => by omega, h]
  omega
theorem sumP_tel {α : Type} (f : α → α → Int) (g : α → Int) : ∀ (l : List α) (p q : α), sumP (fun x y => f x y + (g y - g x)) (p :: (l ++ [q])) = sumP f (p :: (l ++ [q])) + (g q - g p)
  | [], p, q => by simp [sumP]
  | x :: l, p, q => by
    have ih := sumP_tel f g l x q
    simp only [List.cons_append] at ih ⊢
    rw [sumP, sumP, ih]
    omega
/-- a closed way, begun at another of its places -/
theorem sumP_turn {α : Type} (f : α → α → Int) (q : α) (r : List α) (n : Nat) (x : α) (hn : n < (q :: r).length) (hx : (q :: r)[n]? = some x) : sumP f ((q :: r).drop n ++ (q :: r).take n ++ [x]) = sumP f (q :: (r ++ [q])) := by
  cases n with
  | zero =>
    simp at hx
    subst hx
    simp
  | succ n =>
    have hn' : n < r.length := by simpa using hn
    have hx' : r[n]? = some x := by simpa using hx
    have ed : r.drop n = x :: r.drop (n + 1) := by
      rw [List.drop_eq_getElem_cons hn']
      rw [List.getElem?_eq_getElem hn'] at hx'
      cases hx'
      rfl
    have e1 : (q :: r).drop (n + 1) ++ (q :: r).take (n + 1) ++ [x] = (x :: r.drop (n + 1)) ++ q :: (r.take n ++ [x]) := by
      rw [List.drop_succ_cons, List.take_succ_cons, ed]
      simp
    have e2 : q :: (r ++ [q]) = (q :: r.take n) ++ x :: (r.drop (n + 1) ++ [q]) := by
      rw [show r ++ [q] = (r.take n ++ r.drop n) ++ [q] by rw [List.take_append_drop], ed]
      simp
    rw [e1, e2, sumP_app, sumP_app f x]
    simp only [List.cons_append]
    omega
end Wk

/-! RNL: the hand in the store. -/
namespace Wk
open PySem L2
section
variable {f g k : Ev} {fa : Ea} {env : Env'} {h : Sto} {u w : U}
@[simp] theorem ev_Fld (c f' : Str) : eFld c f' f env h = (f env h).bind fun u h1 => match insOf h1 u with
  | some (c', fs) => if c' = c then (match fs.lookup f' with
    | some w => .ok w h1
    | none => .stuck) else .stuck
  | none => .stuck := (rfl)
@[simp] theorem ev_FldS (c f' : Str) : sFldS c f' f g env h = (f env h).then_ env fun w h1 => (g env h1).then_ env fun u h2 => match u with
  | .ref n => (match h2[n]? with
    | some (.ins c' fs) => if c' = c ∧ fs.length < 1000 then .next env (h2.set n (.ins c' (putG f' w fs))) else .stuck
    | _ => .stuck)
  | _ => .stuck := (rfl)
@[simp] theorem ev_insR (n : Nat) : insOf h (.ref n) = match h[n]? with | some (.ins c fs) => some (c, fs) | _ => none := (rfl)
@[simp] theorem ev_Mth (c m : Str) (F : SF) : eMth c m F f fa env h = (f env h).bind fun u h1 => match insOf h1 u with
  | some (c', fs) => if c' = c ∧ fs.lookup m = none then (fa env h1).bind fun us h2 => F (u :: us) h2 else .stuck
  | none => .stuck := (rfl)
@[simp] theorem ev_Mk (c : Str) (F : SF) : eMk c F fa env h = (fa env h).bind fun us h1 => (F (.ref h1.length :: us) (h1 ++ [.ins c []])).bind (retN h1.length) := (rfl)
@[simp] theorem ev_retN (n : Nat) : retN n (.d .none) h = .ok (.ref n) h := (rfl)
@[simp] theorem ev_Raise (c : Str) : sRaise c env h = .exc c env h := (rfl)
@[simp] theorem ev_DNew : eDNew env h = .ok (.ref h.length) (h ++ [.dct []]) := (rfl)
@[simp] theorem ev_RetN : sRetN env h = .ret (.d .none) h := (rfl)
theorem sfOf_ap (n : Nat) (B : Es) (us : List U) (h : Sto) : sfOf n B us h = match B (us.map some ++ List.replicate (n - us.length) none) h with
  | .ret u h' => .ok u h'
  | .next _ h' => .ok (.d .none) h'
  | .exc c _ h' => .exc c h'
  | .stuck => .stuck := (rfl)
end
@[simp] theorem ev_eqStr (n : Bool) (x y : Str) (h : Sto) : opEqB n (.d (.str x)) (.d (.str y)) h = .ok (.d (.bool (xor n (decide (x = y))))) h := (rfl)
/-- what the hand holds -/
structure Hd where
  spot : P4
  heading : Int
  down : Bool
  ink : Int
  turns : Int
  rest : Int
  marks : List (Key × U)
  strokes : List D
  corners : List D
  plain : List D
def hfs (n : Nat) (x : Hd) : List (Str × U) := [("spot", .d x.spot.e), ("heading", .d (.int x.heading)), ("is_down", .d (.bool x.down)), ("ink", .d (.int x.ink)), ("marks", .ref (n + 1)), ("strokes", .ref (n + 2)), ("corners", .ref (n + 3)), ("turns", .d (.int x.turns)), ("rest", .d (.int x.rest)), ("plain", .ref (n + 4))]
structure HS (n : Nat) (x : Hd) (h : Sto) : Prop where
  o : h[n]? = some (.ins "Hand" (hfs n x))
  m : h[n + 1]? = some (.dct x.marks)
  s : h[n + 2]? = some (.lst x.strokes)
  c : h[n + 3]? = some (.lst x.corners)
  p : h[n + 4]? = some (.lst x.plain)
/-- the store with the hand x at n -/
def hset (n : Nat) (x : Hd) (h : Sto) : Sto := ((((h.set n (.ins "Hand" (hfs n x))).set (n + 1) (.dct x.marks)).set (n + 2) (.lst x.strokes)).set (n + 3) (.lst x.corners)).set (n + 4) (.lst x.plain)
theorem hset_len (n : Nat) (x : Hd) (h : Sto) : (hset n x h).length = h.length := by simp [hset]
theorem HS.lt {n : Nat} {x : Hd} {h : Sto} (s : HS n x h) : n + 4 < h.length := (List.getElem?_eq_some_iff.mp s.p).1
theorem hset_get {n : Nat} {x : Hd} {h : Sto} (hl : n + 4 < h.length) (i : Nat) : (hset n x h)[i]? = if i = n then some (.ins "Hand" (hfs n x)) else if i = n + 1 then some (.dct x.marks) else if i = n + 2 then some (.lst x.strokes) else if i = n + 3 then some (.lst x.corners) else if i = n + 4 then some (.lst x.plain) else h[i]? := by
  unfold hset
  simp only [List.getElem?_set, List.length_set]
  by_cases h0 : i = n
  · subst h0
    simp [show ¬ i + 4 = i by omega, show ¬ i + 3 = i by omega, show ¬ i + 2 = i by omega, show ¬ i + 1 = i by omega, show i < h.length by omega]
  · by_cases h1 : i = n + 1
    · subst h1
      simp [show n + 1 < h.length by omega]
    · by_cases h2 : i = n + 2
      · subst h2
        simp [show n + 2 < h.length by omega]
      · by_cases h3 : i = n + 3
        · subst h3
          simp [show n + 3 < h.length by omega]
        · by_cases h4 : i = n + 4
          · subst h4
            simp [hl]
          · simp [h0, h1, h2, h3, h4, show ¬ n + 4 = i by omega, show ¬ n + 3 = i by omega, show ¬ n + 2 = i by omega, show ¬ n + 1 = i by omega, show ¬ n = i by omega]
theorem HS.set {n : Nat} {x x' : Hd} {h : Sto} (s : HS n x h) : HS n x' (hset n x' h) := by
  have hl := s.lt
  constructor <;> rw [hset_get hl] <;> simp
theorem hset_hset {n : Nat} {x x' : Hd} {h : Sto} (hl : n + 4 < h.length) : hset n x' (hset n x h) = hset n x' h := by
  apply List.ext_getElem?
  intro i
  rw [hset_get (by rw [hset_len]; exact hl), hset_get hl, hset_get hl]
  by_cases h0 : i = n <;> by_cases h1 : i = n + 1 <;> by_cases h2 : i = n + 2 <;> by_cases h3 : i = n + 3 <;> by_cases h4 : i = n + 4 <;> simp [h0, h1, h2, h3, h4]
/-- another store is the one with the hand x' -/
theorem hset_is {n : Nat} {x' : Hd} {h h' : Sto} (hl : n + 4 < h.length) (s : HS n x' h') (e : ∀ i, i ≠ n → i ≠ n + 1 → i ≠ n + 2 → i ≠ n + 3 → i ≠ n + 4 → h'[i]? = h[i]?) : h' = hset n x' h := by
  apply List.ext_getElem?
  intro i
  rw [hset_get hl]
  by_cases h0 : i = n
  · subst h0; rw [if_pos rfl]; exact s.o
  · rw [if_neg h0]
    by_cases h1 : i = n + 1
    · subst h1; rw [if_pos rfl]; exact s.m
    · rw [if_neg h1]
      by_cases h2 : i = n + 2
      · subst h2; rw [if_pos rfl]; exact s.s
      · rw [if_neg h2]
        by_cases h3 : i = n + 3
        · subst h3; rw [if_pos rfl]; exact s.c
        · rw [if_neg h3]
          by_cases h4 : i = n + 4
          · subst h4; rw [if_pos rfl]; exact s.p
          · rw [if_neg h4]; exact e i h0 h1 h2 h3 h4
theorem HS.self {n : Nat} {x : Hd} {h : Sto} (s : HS n x h) : hset n x h = h := (hset_is s.lt s fun _ _ _ _ _ _ => rfl).symm
/-- only the object itself -/
theorem hset_o {n : Nat} {x x' : Hd} {h : Sto} (s : HS n x h) (e1 : x'.marks = x.marks) (e2 : x'.strokes = x.strokes) (e3 : x'.corners = x.corners) (e4 : x'.plain = x.plain) : h.set n (.ins "Hand" (hfs n x')) = hset n x' h := by
  have hl := s.lt
  refine hset_is hl ⟨by rw [List.getElem?_set_self (by omega)], ?_, ?_, ?_, ?_⟩ fun i h0 _ _ _ _ => by rw [List.getElem?_set_ne (Ne.symm h0)]
  · rw [List.getElem?_set_ne (by omega), e1]; exact s.m
  · rw [List.getElem?_set_ne (by omega), e2]; exact s.s
  · rw [List.getElem?_set_ne (by omega), e3]; exact s.c
  · rw [List.getElem?_set_ne (by omega), e4]; exact s.p

section
variable (n : Nat) (x : Hd)
@[simp] theorem lk_spot : (hfs n x).lookup ("spot" : Str) = some (U.d x.spot.e) := by with_unfolding_all rfl
@[simp] theorem lk_heading : (hfs n x).lookup ("heading" : Str) = some (U.d (.int x.heading)) := by with_unfolding_all rfl
@[simp] theorem lk_is_down : (hfs n x).lookup ("is_down" : Str) = some (U.d (.bool x.down)) := by with_unfolding_all rfl
@[simp] theorem lk_ink : (hfs n x).lookup ("ink" : Str) = some (U.d (.int x.ink)) := by with_unfolding_all rfl
@[simp] theorem lk_marks : (hfs n x).lookup ("marks" : Str) = some (U.ref (n + 1)) := by with_unfolding_all rfl
@[simp] theorem lk_strokes : (hfs n x).lookup ("strokes" : Str) = some (U.ref (n + 2)) := by with_unfolding_all rfl
@[simp] theorem lk_corners : (hfs n x).lookup ("corners" : Str) = some (U.ref (n + 3)) := by with_unfolding_all rfl
@[simp] theorem lk_turns : (hfs n x).lookup ("turns" : Str) = some (U.d (.int x.turns)) := by with_unfolding_all rfl
@[simp] theorem lk_rest : (hfs n x).lookup ("rest" : Str) = some (U.d (.int x.rest)) := by with_unfolding_all rfl
@[simp] theorem lk_plain : (hfs n x).lookup ("plain" : Str) = some (U.ref (n + 4)) := by with_unfolding_all rfl
@[simp] theorem lm_deed : (hfs n x).lookup ("deed" : Str) = none := by with_unfolding_all rfl
@[simp] theorem lm_go : (hfs n x).lookup ("go" : Str) = none := by with_unfolding_all rfl
@[simp] theorem lm_turn : (hfs n x).lookup ("turn" : Str) = none := by with_unfolding_all rfl
@[simp] theorem lm_back : (hfs n x).lookup ("back" : Str) = none := by with_unfolding_all rfl
@[simp] theorem lm_state : (hfs n x).lookup ("state" : Str) = none := by with_unfolding_all rfl
@[simp] theorem pt_spot (p : P4) : putG "spot" (.d p.e) (hfs n x) = hfs n { x with spot := p } := by with_unfolding_all rfl
@[simp] theorem pt_heading (i : Int) : putG "heading" (.d (.int i)) (hfs n x) = hfs n { x with heading := i } := by with_unfolding_all rfl
@[simp] theorem pt_down (i : Bool) : putG "is_down" (.d (.bool i)) (hfs n x) = hfs n { x with down := i } := by with_unfolding_all rfl
@[simp] theorem pt_ink (i : Int) : putG "ink" (.d (.int i)) (hfs n x) = hfs n { x with ink := i } := by with_unfolding_all rfl
@[simp] theorem pt_turns (i : Int) : putG "turns" (.d (.int i)) (hfs n x) = hfs n { x with turns := i } := by with_unfolding_all rfl
@[simp] theorem pt_rest (i : Int) : putG "rest" (.d (.int i)) (hfs n x) = hfs n { x with rest := i } := by with_unfolding_all rfl
@[simp] theorem hfs_len : (hfs n x).length = 10 := (rfl)
end

/-- there is a place n in the store -/
def InS (n : Nat) (h : Sto) : Prop := n < h.length
@[simp] theorem inS_set (n m : Nat) (a : Ob) (h : Sto) : InS n (h.set m a) ↔ InS n h := by simp [InS]
@[simp] theorem gs_same {n : Nat} {h : Sto} {a : Ob} (hn : InS n h) : (h.set n a)[n]? = some a := List.getElem?_set_self hn
@[simp] theorem gs_ne {n m : Nat} {h : Sto} {a : Ob} (hn : m ≠ n) : (h.set m a)[n]? = h[n]? := List.getElem?_set_ne hn
theorem HS.i {n : Nat} {x : Hd} {h : Sto} (s : HS n x h) : InS n h ∧ InS (n + 1) h ∧ InS (n + 2) h ∧ InS (n + 3) h ∧ InS (n + 4) h := by
  have := s.lt
  unfold InS
  omega
def cfs (w : U) (ns : List D) (k : D) : List (Str × U) := [("words", w), ("numbers", .d (.list ns)), ("count", .d k)]
theorem lc_value (w : U) (ns : List D) (k : D) : (cfs w ns k).lookup ("value" : Str) = none := by with_unfolding_all rfl
/-- simple statements -/
inductive Smp where
  | go (v : Int)
  | turn (v : Int)
  | ink (v : Int)
  | up
  | down
def Smp.e : Smp → D
  | .go v => .tuple [.str "go", .int v]
  | .turn v => .tuple [.str "turn", .int v]
  | .ink v => .tuple [.str "ink", .int v]
  | .up => .tuple [.str "up"]
  | .down => .tuple [.str "down"]
def Smp.small : Smp → Prop
  | .go v => v.natAbs ≤ 1000000
  | .turn v => v.natAbs ≤ 1000000
  | .ink v => v.natAbs ≤ 1000000
  | _ => True
def Smp.verb : Smp → Str
  | .go _ => "go"
  | .turn _ => "turn"
  | .ink _ => "ink"
  | .up => "up"
  | .down => "down"
def Smp.val : Smp → Int
  | .go v => v
  | .turn v => v
  | .ink v => v
  | _ => 0
def Hd.st (x : Hd) : D := .tuple [x.spot.e, .int x.heading, .bool x.down, .int x.ink]
/-- what a simple statement does, but the deed and the note -/
def Smp.act (s : Smp) (x : Hd) : Hd := match s with
  | .go t => { x with spot := mv x.heading t x.spot, strokes := if x.down = true ∧ t ≠ 0 then x.strokes ++ [.tuple [.int x.ink, x.spot.e, (mv x.heading t x.spot).e]] else x.strokes, corners := x.corners ++ [(mv x.heading t x.spot).e] }
  | .turn e => { x with turns := x.turns + e, heading := (x.heading + e) % 8 }
  | .ink v => { x with ink := v % 8 }
  | .up => { x with down := false }
  | .down => { x with down := true }
def Hd.noted (x : Hd) (s : Smp) : Hd := { x with plain := x.plain ++ [.tuple [.str s.verb, .int s.val, x.st]] }
def Hd.ok (x : Hd) (n : Nat) : Prop := 0 ≤ x.heading ∧ x.heading < 8 ∧ x.strokes.length < n ∧ x.corners.length < n ∧ x.plain.length < n
def Hd.less (x : Hd) : Hd := { x with rest := x.rest - 1 }
def Smp.done (k : Smp) (x : Hd) : Hd := k.act (x.less.noted k)
theorem hset3 {n : Nat} {x y z : Hd} {h : Sto} (hl : n + 4 < h.length) : hset n z (hset n y (hset n x h)) = hset n z h := by
  rw [hset_hset (by rw [hset_len]; exact hl), hset_hset hl]
/-- a plain body walked -/
def wk : List Smp → Hd → Hd × Bool
  | [], x => (x, true)
  | k :: r, x => if x.rest ≤ 0 then (x, false) else wk r (k.done x)
theorem done_ok {k : Smp} {x : Hd} {b : Nat} (h : x.ok b) : (k.done x).ok (b + 1) := by
  obtain ⟨h0, h1, h2, h3, h4⟩ := h
  have e := Int.emod_nonneg (x.heading + k.val) (show (8 : Int) ≠ 0 by decide)
  have e' := Int.emod_lt_of_pos (x.heading + k.val) (show (0 : Int) < 8 by decide)
  cases k with
  | go v =>
    refine ⟨h0, h1, ?_, ?_, ?_⟩
    · show (if x.down = true ∧ v ≠ 0 then _ else _ : List D).length < _
      split
      · show (x.strokes ++ _).length < _
        rw [List.length_append, List.length_singleton]; omega
      · show x.strokes.length < _; omega
    · show (x.corners ++ _).length < _
      rw [List.length_append, List.length_singleton]; omega
    · show (x.plain ++ _).length < _
      rw [List.length_append, List.length_singleton]; omega
  | turn v =>
    refine ⟨e, e', ?_, ?_, ?_⟩
    · show x.strokes.length < _; omega
    · show x.corners.length < _; omega
    · show (x.plain ++ _).length < _
      rw [List.length_append, List.length_singleton]; omega
  | ink v =>
    refine ⟨h0, h1, ?_, ?_, ?_⟩
    · show x.strokes.length < _; omega
    · show x.corners.length < _; omega
    · show (x.plain ++ _).length < _
      rw [List.length_append, List.length_singleton]; omega
  | up =>
    refine ⟨h0, h1, ?_, ?_, ?_⟩
    · show x.strokes.length < _; omega
    · show x.corners.length < _; omega
    · show (x.plain ++ _).length < _
      rw [List.length_append, List.length_singleton]; omega
  | down =>
    refine ⟨h0, h1, ?_, ?_, ?_⟩
    · show x.strokes.length < _; omega
    · show x.corners.length < _; omega
    · show (x.plain ++ _).length < _
      rw [List.length_append, List.length_singleton]; omega
def hd0 (most : Int) : Hd := ⟨⟨0, 0, 0, 0⟩, 0, true, 0, 0, most, [], [], [P4.e ⟨0, 0, 0, 0⟩], []⟩
def hb (n : Nat) (x : Hd) : Sto := [.ins "Hand" (hfs n x), .dct x.marks, .lst x.strokes, .lst x.corners, .lst x.plain]
theorem hb_HS (h t : Sto) (x : Hd) : HS h.length x (h ++ (hb h.length x ++ t)) := by
  have e : ∀ i, (h ++ (hb h.length x ++ t))[h.length + i]? = (hb h.length x ++ t)[i]? := fun i => by
    rw [List.getElem?_append_right (by omega), Nat.add_sub_cancel_left]
  exact ⟨by have := e 0; rw [Nat.add_zero] at this; rw [this]; rfl, e 1, e 2, e 3, e 4⟩
theorem hset_hb (h t : Sto) (x y : Hd) : hset h.length y (h ++ (hb h.length x ++ t)) = h ++ (hb h.length y ++ t) := by
  symm
  refine hset_is (hb_HS h t x).lt (hb_HS h t y) fun i h0 h1 h2 h3 h4 => ?_
  by_cases hi : i < h.length
  · rw [List.getElem?_append_left hi, List.getElem?_append_left hi]
  · obtain ⟨j, rfl⟩ : ∃ j, i = h.length + (5 + j) := ⟨i - h.length - 5, by omega⟩
    have e : ∀ z : Hd, (h ++ (hb h.length z ++ t))[h.length + (5 + j)]? = t[j]? := fun z => by
      rw [List.getElem?_append_right (by omega), Nat.add_sub_cancel_left]
      have hz : (hb h.length z).length = 5 := rfl
      rw [List.getElem?_append_right (by rw [hz]; omega), hz, Nat.add_sub_cancel_left]
    rw [e, e]
@[simp] theorem ev_allR (n : Nat) (r : List U) : allD (.ref n :: r) = none := (rfl)
end Wk

/-! DK: a deck of numbers in the store, drawn from its end. -/
namespace Wk
open PySem L2
def dk (ds : List Int) : List D := (ds.map PyData.int).reverse
@[simp] theorem ev_lenRf (n : Nat) (h : Sto) : fLen [.ref n] h = match h[n]? with | some (.lst xs) => .ok (.d (.int xs.length)) h | some (.frz xs) => .ok (.d (.int xs.length)) h | _ => .stuck := by
  unfold fLen lenOf
  simp only [tupOf, strOf, ev_lstR]
  cases e : h[n]? with
  | none => rfl
  | some o => cases o <;> rfl
@[simp] theorem ev_popRf (n : Nat) (h : Sto) : fPop (.ref n) [] h = match h[n]? with | some (.lst xs) => (match xs[xs.length - 1]? with | some y => .ok (.d y) (h.set n (.lst xs.dropLast)) | none => .stuck) | _ => .stuck := (rfl)
theorem dk_len (ds : List Int) : (dk ds).length = ds.length := by simp [dk]
theorem dk_last (c : Int) (ds : List Int) : (dk (c :: ds))[(dk (c :: ds)).length - 1]? = some (.int c) := by
  simp [dk]
theorem dk_drop (c : Int) (ds : List Int) : (dk (c :: ds)).dropLast = dk ds := by
  simp [dk]
theorem set_self {n : Nat} {h : Sto} {a : Ob} (e : h[n]? = some a) : h.set n a = h := by
  apply List.ext_getElem?
  intro i
  rw [List.getElem?_set]
  split
  · rename_i hi
    subst hi
    split
    · exact e.symm
    · rename_i hl
      exact (List.getElem?_eq_none (Nat.not_lt.mp hl)).symm
  · rfl
theorem get_lt {n : Nat} {h : Sto} {a : Ob} (e : h[n]? = some a) : InS n h := (List.getElem?_eq_some_iff.mp e).1
@[simp] theorem set2 (n : Nat) (h : Sto) (a b : Ob) : (h.set n a).set n b = h.set n b := List.set_set ..
/-! ### data that can be held against each other -/
def Shp (k : Nat) (d : D) : Prop := d.canLay0 = true ∧ d.depth ≤ k
theorem Shp.int (k : Nat) (i : Int) : Shp k (.int i) := ⟨rfl, by rw [PyData.depth] <;> first | exact Nat.zero_le _ | (intros; simp)⟩
theorem Shp.bool (k : Nat) (i : Bool) : Shp k (.bool i) := ⟨rfl, by rw [PyData.depth] <;> first | exact Nat.zero_le _ | (intros; simp)⟩
theorem Shp.none (k : Nat) : Shp k .none := ⟨rfl, by rw [PyData.depth] <;> first | exact Nat.zero_le _ | (intros; simp)⟩
theorem Shp.str (k : Nat) {x : Str} (h : PySem.PyData.canLay0 (.str x) = true) : Shp k (.str x) := ⟨h, by rw [PyData.depth] <;> first | exact Nat.zero_le _ | (intros; simp)⟩
theorem canAll {xs : List D} (h : ∀ x ∈ xs, x.canLay0 = true) : PyData.canLayAll0 xs = true := by
  induction xs with
  | nil => rfl
  | cons a r ih =>
    rw [PyData.canLayAll0, h a List.mem_cons_self, Bool.true_and]
    exact ih fun x hx => h x (List.mem_cons_of_mem _ hx)
theorem depAll {k : Nat} {xs : List D} (h : ∀ x ∈ xs, x.depth ≤ k) : PyData.depthAll xs ≤ k := by
  induction xs with
  | nil => rw [PyData.depthAll]; exact Nat.zero_le _
  | cons a r ih =>
    rw [PyData.depthAll]
    exact Nat.max_le.mpr ⟨h a List.mem_cons_self, ih fun x hx => h x (List.mem_cons_of_mem _ hx)⟩
theorem Shp.tuple {k : Nat} {xs : List D} (h : ∀ x ∈ xs, Shp k x) : Shp (k + 1) (.tuple xs) := by
  refine ⟨?_, ?_⟩
  · rw [PyData.canLay0]; exact canAll fun x hx => (h x hx).1
  · rw [PyData.depth]
    have := depAll fun x hx => (h x hx).2
    omega
theorem Shp.list {k : Nat} {xs : List D} (h : ∀ x ∈ xs, Shp k x) : Shp (k + 1) (.list xs) := by
  refine ⟨?_, ?_⟩
  · rw [PyData.canLay0]; exact canAll fun x hx => (h x hx).1
  · rw [PyData.depth]
    have := depAll fun x hx => (h x hx).2
    omega
theorem Shp.mono {k m : Nat} {d : D} (h : Shp k d) (l : k ≤ m) : Shp m d := ⟨h.1, Nat.le_trans h.2 l⟩
theorem Shp.shaped {k : Nat} {d : D} (h : Shp k d) (l : k ≤ 64) : SeqAt.shaped d = true := by
  unfold SeqAt.shaped
  rw [h.1, decide_eq_true (Nat.le_trans h.2 l)]
  rfl
theorem Shp.place (p : P4) : Shp 2 p.e := by
  refine Shp.tuple fun x hx => ?_
  simp only [List.mem_cons, List.not_mem_nil, or_false] at hx
  rcases hx with rfl | rfl <;> refine Shp.tuple fun y hy => ?_ <;> simp only [List.mem_cons, List.not_mem_nil, or_false] at hy <;> rcases hy with rfl | rfl <;> exact .int _ _
theorem ixU (us : List U) (i : Int) (h : Sto) : opIx (.tup us) (.d (.int i)) h = match atI us i with | some x => .ok x h | none => .stuck := (rfl)
theorem isiU (us : List U) (h : Sto) : opIsi .tuple (.tup us) h = .ok (.d (.bool true)) h := (rfl)
theorem isiR (n : Nat) (xs : List D) (h : Sto) (e : h[n]? = some (.lst xs)) : opIsi .list (.ref n) h = .ok (.d (.bool true)) h := by
  unfold opIsi isTyU
  simp [e]
theorem lenU (us : List U) (h : Sto) : fLen [.tup us] h = .ok (.d (.int us.length)) h := (rfl)
theorem tupR (n : Nat) (xs : List D) (h : Sto) (e : h[n]? = some (.lst xs)) : fTuple [.ref n] h = .ok (.d (.tuple xs)) h := by
  have : seqOf h (.ref n) = some xs := by
    show listOf h (.ref n) = some xs
    simp [e]
  unfold fTuple
  simp only [this]
theorem lisR (b : Bool) (n : Nat) (xs : List D) (h : Sto) (e : h[n]? = some (.lst xs)) : fList b [.ref n] h = mkL b xs h := by
  have : seqOf h (.ref n) = some xs := by
    show listOf h (.ref n) = some xs
    simp [e]
  unfold fList
  simp only [this]
@[simp] theorem tupL (xs : List D) (h : Sto) : fTuple [.d (.list xs)] h = .ok (.d (.tuple xs)) h := (rfl)
@[simp] theorem tupT (xs : List D) (h : Sto) : fTuple [.d (.tuple xs)] h = .ok (.d (.tuple xs)) h := (rfl)
@[simp] theorem lisL (b : Bool) (xs : List D) (h : Sto) : fList b [.d (.list xs)] h = mkL b xs h := (rfl)
@[simp] theorem lisT (b : Bool) (xs : List D) (h : Sto) : fList b [.d (.tuple xs)] h = mkL b xs h := (rfl)
theorem ev_eqBl (n a b : Bool) (h : Sto) : opEqB n (.d (.bool a)) (.d (.bool b)) h = .ok (.d (.bool (xor n (a == b)))) h := by
  cases a <;> cases b <;> cases n <;> rfl
theorem addTT (xs ys : List D) (h : Sto) (hl : xs.length + ys.length ≤ 16777216) : opAdd false (.d (.tuple xs)) (.d (.tuple ys)) h = .ok (.d (.tuple (xs ++ ys))) h := by
  show (if fits (xs.length + ys.length) then _ else Res.stuck) = _
  rw [fits_of hl]
  rfl
theorem cut_to' {α : Type} (l : List α) (n : Nat) : cutD l none (some (n : Int)) = l.take n := by
  unfold cutD
  have h1 : HT.sIx l.length 0 none = 0 := rfl
  rw [h1, HT.sIx_nat]
  simp
/-- the items that pass a test -/
theorem lcGo_yes {t : Tg} {c : Eb} {e : Ev} {env : Env'} {h : Sto} : ∀ {us : List D} {acc : List D}, (∀ u ∈ us, ∃ env1, t (.d u) env h = some env1 ∧ c env1 h = .ok true h ∧ e env1 h = .ok (.d u) h) → acc.length + us.length ≤ 16777216 → lcGo t c e env (us.map .d) acc h = .ok (acc ++ us) h
  | [], acc, _, _ => by simp
  | u :: us, acc, H, hl => by
    obtain ⟨env1, e1, e2, e3⟩ := H u List.mem_cons_self
    rw [List.length_cons] at hl
    have hf : fits (acc.length + 1) = true := fits_of (by omega)
    rw [List.map_cons, ev_lcC, e1]
    simp only [e2, e3, Res.bind_ok, hf, if_true]
    rw [lcGo_yes (fun v hv => H v (List.mem_cons_of_mem _ hv)) (by rw [List.length_append, List.length_singleton]; omega)]
    simp
end Wk

/-! BK: plain bodies walked, and walked backwards. -/
namespace Wk
open PySem L2
/-- backwards: one statement -/
def Smp.inv (k : Smp) (pen : Bool) (ink : Int) : Smp := match k with
  | .ink _ => .ink ink
  | .go v => .go (0 - v)
  | .turn v => .turn (0 - v)
  | _ => if pen then .down else .up
def Smp.pen' (k : Smp) (pen : Bool) : Bool := match k with
  | .up => false
  | .down => true
  | _ => pen
def Smp.ink' (k : Smp) (ink : Int) : Int := match k with
  | .ink v => v % 8
  | _ => ink
def bkw : List Smp → Bool → Int → List Smp
  | [], _, _ => []
  | k :: r, pen, ink => k.inv pen ink :: bkw r (k.pen' pen) (k.ink' ink)
theorem bkw_len : ∀ (l : List Smp) (pen : Bool) (ink : Int), (bkw l pen ink).length = l.length
  | [], _, _ => rfl
  | k :: r, pen, ink => by rw [bkw, List.length_cons, List.length_cons, bkw_len]
theorem bkw_small : ∀ (l : List Smp) (pen : Bool) (ink : Int), (∀ k ∈ l, k.small) → 0 ≤ ink → ink < 8 → ∀ k ∈ bkw l pen ink, k.small
  | [], _, _, _, _, _ => by simp [bkw]
  | k :: r, pen, ink, sm, h0, h1 => by
    intro x hx
    rw [bkw] at hx
    rcases List.mem_cons.mp hx with z | z
    · subst z
      have hk := sm k List.mem_cons_self
      cases k with
      | go v => show Int.natAbs _ ≤ _; have : v.natAbs ≤ 1000000 := hk; omega
      | turn v => show Int.natAbs _ ≤ _; have : v.natAbs ≤ 1000000 := hk; omega
      | ink v => show Int.natAbs _ ≤ _; omega
      | up => cases pen <;> trivial
      | down => cases pen <;> trivial
    · refine bkw_small r _ _ (fun y hy => sm y (List.mem_cons_of_mem _ hy)) ?_ ?_ x z
      · cases k <;> first | exact h0 | exact Int.emod_nonneg _ (show (8 : Int) ≠ 0 by decide)
      · cases k <;> first | exact h1 | exact Int.emod_lt_of_pos _ (show (0 : Int) < 8 by decide)
/-- the hand's core -/
structure Cr where
  spot : P4
  heading : Int
  pen : Bool
  ink : Int
def Smp.cr (k : Smp) (x : Cr) : Cr := match k with
  | .go v => { x with spot := mv x.heading v x.spot }
  | .turn v => { x with heading := (x.heading + v) % 8 }
  | .ink v => { x with ink := v % 8 }
  | .up => { x with pen := false }
  | .down => { x with pen := true }
structure Stk where
  ink : Int
  a : P4
  b : P4
def Stk.e (s : Stk) : D := .tuple [.int s.ink, s.a.e, s.b.e]
def Smp.dr (k : Smp) (x : Cr) : List Stk := match k with
  | .go v => if x.pen = true ∧ v ≠ 0 then [⟨x.ink, x.spot, mv x.heading v x.spot⟩] else []
  | _ => []
def crs : List Smp → Cr → Cr
  | [], x => x
  | k :: r, x => crs r (k.cr x)
def drs : List Smp → Cr → List Stk
  | [], _ => []
  | k :: r, x => k.dr x ++ drs r (k.cr x)
theorem crs_app : ∀ (l m : List Smp) (x : Cr), crs (l ++ m) x = crs m (crs l x)
  | [], _, _ => rfl
  | k :: r, m, x => crs_app r m (k.cr x)
theorem drs_app : ∀ (l m : List Smp) (x : Cr), drs (l ++ m) x = drs l x ++ drs m (crs l x)
  | [], _, _ => rfl
  | k :: r, m, x => by
    show k.dr x ++ drs (r ++ m) (k.cr x) = k.dr x ++ drs r (k.cr x) ++ drs m (crs r (k.cr x))
    rw [drs_app r m, List.append_assoc]
def Cr.ok (x : Cr) : Prop := 0 ≤ x.heading ∧ x.heading < 8 ∧ 0 ≤ x.ink ∧ x.ink < 8
theorem cr_ok {k : Smp} {x : Cr} (h : x.ok) : (k.cr x).ok := by
  obtain ⟨h0, h1, h2, h3⟩ := h
  cases k with
  | go v => exact ⟨h0, h1, h2, h3⟩
  | turn v => exact ⟨Int.emod_nonneg _ (by decide), Int.emod_lt_of_pos _ (by decide), h2, h3⟩
  | ink v => exact ⟨h0, h1, Int.emod_nonneg _ (by decide), Int.emod_lt_of_pos _ (by decide)⟩
  | up => exact ⟨h0, h1, h2, h3⟩
  | down => exact ⟨h0, h1, h2, h3⟩
theorem mv_neg (h v : Int) (p : P4) : mv h (0 - v) (mv h v p) = p := by
  unfold mv
  cases p with
  | mk a b c d =>
    simp only [P4.mk.injEq, Int.sub_mul, Int.zero_mul]
    refine ⟨?_, ?_, ?_, ?_⟩ <;> omega
def Stk.rev (s : Stk) : Stk := ⟨s.ink, s.b, s.a⟩
theorem inv_cr {k : Smp} {x : Cr} (h : x.ok) : (k.inv x.pen x.ink).cr (k.cr x) = x ∧ (k.inv x.pen x.ink).dr (k.cr x) = (k.dr x).map Stk.rev := by
  obtain ⟨h0, h1, h2, h3⟩ := h
  obtain ⟨sp, hd, pn, ik⟩ := x
  cases k with
  | go v =>
    refine ⟨?_, ?_⟩
    · simp only [Smp.inv, Smp.cr, mv_neg]
    · simp only [Smp.inv, Smp.cr, Smp.dr, mv_neg]
      by_cases hv : v = 0
      · subst hv; simp
      · cases pn <;> simp [hv, Stk.rev]
  | turn v =>
    refine ⟨?_, rfl⟩
    simp only [Smp.inv, Smp.cr, Cr.mk.injEq, true_and, and_true]
    show ((hd + v) % 8 + (0 - v)) % 8 = hd
    have : 0 ≤ hd ∧ hd < 8 := ⟨h0, h1⟩
    omega
  | ink v =>
    refine ⟨?_, rfl⟩
    simp only [Smp.inv, Smp.cr, Cr.mk.injEq, true_and]
    exact Int.emod_eq_of_lt h2 h3
  | up => cases pn <;> exact ⟨rfl, rfl⟩
  | down => cases pn <;> exact ⟨rfl, rfl⟩
theorem cr_pen (k : Smp) (x : Cr) : (k.cr x).pen = k.pen' x.pen ∧ (k.cr x).ink = k.ink' x.ink := by cases k <;> exact ⟨rfl, rfl⟩
theorem back_ok : ∀ (l : List Smp) (x : Cr), x.ok → crs (bkw l x.pen x.ink).reverse (crs l x) = x ∧ drs (bkw l x.pen x.ink).reverse (crs l x) = ((drs l x).map Stk.rev).reverse
  | [], x, _ => ⟨rfl, rfl⟩
  | k :: r, x, h => by
    obtain ⟨i1, i2⟩ := back_ok r (k.cr x) (cr_ok h)
    obtain ⟨c1, c2⟩ := cr_pen k x
    rw [c1, c2] at i1 i2
    obtain ⟨j1, j2⟩ := inv_cr (k := k) h
    show crs (k.inv x.pen x.ink :: bkw r (k.pen' x.pen) (k.ink' x.ink)).reverse (crs r (k.cr x)) = x ∧ drs (k.inv x.pen x.ink :: bkw r (k.pen' x.pen) (k.ink' x.ink)).reverse (crs r (k.cr x)) = ((k.dr x ++ drs r (k.cr x)).map Stk.rev).reverse
    rw [List.reverse_cons, crs_app, drs_app, i1, i2]
    refine ⟨j1, ?_⟩
    show _ ++ ((k.inv x.pen x.ink).dr (k.cr x) ++ []) = _
    rw [j2, List.append_nil, List.map_append, List.reverse_append]
    congr 1
    cases k with
    | go v =>
      show ((if _ then _ else _ : List Stk).map Stk.rev) = ((if _ then _ else _ : List Stk).map Stk.rev).reverse
      split <;> rfl
    | _ => rfl
def Hd.cr (x : Hd) : Cr := ⟨x.spot, x.heading, x.down, x.ink⟩
theorem done_cr (k : Smp) (x : Hd) : (k.done x).cr = k.cr x.cr ∧ (k.done x).strokes = x.strokes ++ (k.dr x.cr).map Stk.e ∧ (k.done x).rest = x.rest - 1 := by
  cases k with
  | go v =>
    refine ⟨rfl, ?_, rfl⟩
    show (if x.down = true ∧ v ≠ 0 then x.strokes ++ [.tuple [.int x.ink, x.spot.e, (mv x.heading v x.spot).e]] else x.strokes) = x.strokes ++ (if x.down = true ∧ v ≠ 0 then _ else _ : List Stk).map Stk.e
    split
    · rfl
    · simp
  | _ => exact ⟨rfl, by simp [Smp.dr, Smp.done, Smp.act, Hd.less, Hd.noted], rfl⟩
theorem wk_all : ∀ (l : List Smp) (x : Hd), (l.length : Int) ≤ x.rest → (wk l x).2 = true ∧ (wk l x).1.cr = crs l x.cr ∧ (wk l x).1.strokes = x.strokes ++ (drs l x.cr).map Stk.e
  | [], x, _ => ⟨rfl, rfl, by simp [wk, drs]⟩
  | k :: r, x, h => by
    rw [List.length_cons] at h
    have hr : ¬ x.rest ≤ 0 := by omega
    obtain ⟨d1, d2, d3⟩ := done_cr k x
    obtain ⟨i1, i2, i3⟩ := wk_all r (k.done x) (by rw [d3]; omega)
    rw [wk, if_neg hr]
    refine ⟨i1, ?_, ?_⟩
    · rw [i2, d1]; rfl
    · rw [i3, d2, d1]
      simp [drs]
def cr0 : Cr := ⟨⟨0, 0, 0, 0⟩, 0, true, 0⟩
theorem cr0_ok : cr0.ok := ⟨by decide, by decide, by decide, by decide⟩
theorem crs_ok : ∀ (l : List Smp) {x : Cr}, x.ok → (crs l x).ok
  | [], _, h => h
  | k :: r, _, h => crs_ok r (cr_ok h)
theorem drs_len : ∀ (l : List Smp) (x : Cr), (drs l x).length ≤ l.length
  | [], _ => Nat.le_refl _
  | k :: r, x => by
    have ih := drs_len r (k.cr x)
    show (k.dr x ++ drs r (k.cr x)).length ≤ _
    rw [List.length_append, List.length_cons]
    have : (k.dr x).length ≤ 1 := by
      cases k with
      | go v =>
        show (if _ then _ else _ : List Stk).length ≤ 1
        split <;> simp
      | _ => simp [Smp.dr]
    omega
theorem Stk.shp (s : Stk) : Shp 3 s.e := by
  refine Shp.tuple fun x hx => ?_
  simp only [List.mem_cons, List.not_mem_nil, or_false] at hx
  rcases hx with rfl | rfl | rfl
  · exact .int _ _
  · exact .place _
  · exact .place _
theorem Smp.shp (k : Smp) : Shp 1 k.e := by
  cases k <;> refine Shp.tuple fun x hx => ?_ <;> simp only [List.mem_cons, List.not_mem_nil, or_false] at hx
  · rcases hx with rfl | rfl
    · exact .str _ (by decide +kernel)
    · exact .int _ _
  · rcases hx with rfl | rfl
    · exact .str _ (by decide +kernel)
    · exact .int _ _
  · rcases hx with rfl | rfl
    · exact .str _ (by decide +kernel)
    · exact .int _ _
  · subst hx; exact .str _ (by decide +kernel)
  · subst hx; exact .str _ (by decide +kernel)
end Wk

/-! PG: programs as Lean things, and what the hand does by them. -/
namespace Wk
open PySem L2
/-! ### programs -/
inductive Amt where
  | int (i : Int)
  | cnt (t m : Int)
  | num (t : Int) (k : Nat) (m : Int)
def nName : Nat → Str
  | 0 => "n0"
  | 1 => "n1"
  | 2 => "n2"
  | _ => "n3"
def Amt.e : Amt → D
  | .int i => .int i
  | .cnt t m => .tuple [.int t, .str "count", .int m]
  | .num t k m => .tuple [.int t, .str (nName k), .int m]
def sm6 (i : Int) : Prop := i.natAbs ≤ 1000000
/-- an amount in the body of a word that takes tk numbers -/
def Amt.wf (tk : Nat) : Amt → Prop
  | .int i => sm6 i
  | .cnt t m => sm6 t ∧ sm6 m
  | .num t k m => sm6 t ∧ sm6 m ∧ k < tk ∧ k < 4
inductive Stm where
  | go (a : Amt)
  | turn (a : Amt)
  | ink (a : Amt)
  | up
  | down
  | mark (n : Int)
  | back (n : Int)
  | again (a : Amt) (b : List Stm)
  | iff (a : Amt) (b c : List Stm)
  | call (w : Str) (as : List Amt)
mutual
def Stm.e : Stm → D
  | .go a => .tuple [.str "go", a.e]
  | .turn a => .tuple [.str "turn", a.e]
  | .ink a => .tuple [.str "ink", a.e]
  | .up => .tuple [.str "up"]
  | .down => .tuple [.str "down"]
  | .mark n => .tuple [.str "mark", .int n]
  | .back n => .tuple [.str "back", .int n]
  | .again a b => .tuple [.str "again", a.e, .tuple (bE b)]
  | .iff a b c => .tuple [.str "if", a.e, .tuple (bE b), .tuple (bE c)]
  | .call w as => .tuple [.str "do", .str w, .tuple (as.map Amt.e)]
def bE : List Stm → List D
  | [] => []
  | s :: r => s.e :: bE r
end
theorem bE_map : ∀ b : List Stm, bE b = b.map Stm.e
  | [] => rfl
  | s :: r => by rw [bE, List.map_cons, bE_map r]
/-- words: name, how many numbers, body -/
structure Wrd where
  name : Str
  many : Nat
  body : List Stm
def Wrd.e (w : Wrd) : D := .tuple [.str w.name, .int w.many, .tuple (bE w.body)]
mutual
/-- a statement of a word that takes tk numbers, with the words ws ahead of it -/
def Stm.wf (ws : List Wrd) (tk : Nat) : Stm → Prop
  | .go a => a.wf tk
  | .turn a => a.wf tk
  | .ink a => a.wf tk
  | .up => True
  | .down => True
  | .mark n => 0 ≤ n ∧ n ≤ 9
  | .back n => 0 ≤ n ∧ n ≤ 9
  | .again a b => a.wf tk ∧ bWf ws tk b
  | .iff a b c => a.wf tk ∧ bWf ws tk b ∧ bWf ws tk c
  | .call w as => (∃ x ∈ ws, x.name = w ∧ x.many = as.length) ∧ ∀ a ∈ as, a.wf tk
def bWf (ws : List Wrd) (tk : Nat) : List Stm → Prop
  | [] => True
  | s :: r => s.wf ws tk ∧ bWf ws tk r
/-- how deep agains and ifs stand one within another -/
def Stm.deep : Stm → Nat
  | .again _ b => bDeep b + 1
  | .iff _ b c => max (bDeep b) (bDeep c) + 1
  | _ => 0
def bDeep : List Stm → Nat
  | [] => 0
  | s :: r => max s.deep (bDeep r)
end
/-- the words, the last first: each knows those behind it in the list -/
def wsWf : List Wrd → Prop
  | [] => True
  | w :: r => bWf r w.many w.body ∧ w.many ≤ 4 ∧ bDeep w.body ≤ 3 ∧ (∀ x ∈ r, x.name ≠ w.name) ∧ wsWf r

/-! ### the hand -/
inductive Vb where
  | go
  | turn
  | ink
  | up
  | down
  | mark
  | back
def Vb.s : Vb → Str
  | .go => "go"
  | .turn => "turn"
  | .ink => "ink"
  | .up => "up"
  | .down => "down"
  | .mark => "mark"
  | .back => "back"
def Cr.e (c : Cr) : D := .tuple [c.spot.e, .int c.heading, .bool c.pen, .int c.ink]
structure Nt where
  v : Vb
  i : Int
  c : Cr
def Nt.e (t : Nt) : D := .tuple [.str t.v.s, .int t.i, t.c.e]
abbrev Mks := List (Int × (P4 × Int))
def mget (m : Mks) (k : Int) : Option (P4 × Int) := (m.find? fun z => decide (z.1 = k)).map (·.2)
def mput (m : Mks) (k : Int) (v : P4 × Int) : Mks := if m.any fun z => decide (z.1 = k) then m.map fun z => if z.1 = k then (z.1, v) else z else m ++ [(k, v)]
structure Hn where
  c : Cr
  turns : Int
  rest : Int
  marks : Mks
  strokes : List Stk
  corners : List P4
  plain : List Nt
def mkE (z : Int × (P4 × Int)) : Key × U := (.inl z.1, .d (.tuple [z.2.1.e, .int z.2.2]))
def Hn.h (y : Hn) : Hd := ⟨y.c.spot, y.c.heading, y.c.pen, y.c.ink, y.turns, y.rest, y.marks.map mkE, y.strokes.map Stk.e, y.corners.map P4.e, y.plain.map Nt.e⟩
def Hn.less (y : Hn) : Hn := { y with rest := y.rest - 1 }
def Hn.note (y : Hn) (v : Vb) (i : Int) : Hn := { y with plain := y.plain ++ [⟨v, i, y.c⟩] }
theorem valU_mk (m : Mks) (k : Int) : valU (m.map mkE) (.inl k) = (mget m k).map fun v => .d (.tuple [v.1.e, .int v.2]) := by
  unfold valU mget
  induction m with
  | nil => rfl
  | cons z r ih =>
    by_cases e : z.1 = k
    · simp [mkE, e]
    · simp only [List.map_cons, List.find?_cons]
      have e1 : decide ((mkE z).1 = Sum.inl k) = false := decide_eq_false fun q => e (Sum.inl.inj q)
      have e2 : decide (z.1 = k) = false := decide_eq_false e
      rw [e1, e2]
      exact ih
theorem any_mk (m : Mks) (k : Int) : ((m.map mkE).any fun kv => decide (kv.1 = .inl k)) = m.any fun z => decide (z.1 = k) := by
  induction m with
  | nil => rfl
  | cons z r ih =>
    rw [List.map_cons, List.any_cons, List.any_cons, ih]
    congr 1
    simp [mkE]
theorem putU_mk (m : Mks) (k : Int) (v : P4 × Int) : putU (m.map mkE) (.inl k) (.d (.tuple [v.1.e, .int v.2])) = (mput m k v).map mkE := by
  unfold putU mput
  rw [any_mk]
  split
  · rw [List.map_map, List.map_map]
    refine List.map_congr_left fun z _ => ?_
    by_cases e : z.1 = k
    · simp [mkE, e]
    · have : ¬ (mkE z).1 = .inl k := fun q => e (Sum.inl.inj q)
      simp [this, e]
  · simp [mkE]
theorem mput_len (m : Mks) (k : Int) (v : P4 × Int) : (mput m k v).length ≤ m.length + 1 := by
  unfold mput
  split
  · simp
  · simp
theorem mget_any (m : Mks) (k : Int) : (m.any fun z => decide (z.1 = k)) = (mget m k).isSome := by
  unfold mget
  induction m with
  | nil => rfl
  | cons z r ih =>
    rw [List.any_cons, List.find?_cons]
    cases e : decide (z.1 = k) with
    | true => rfl
    | false => rw [Bool.false_or]; exact ih
/-- what a deed without a body does; none: no such mark -/
def Vb.act (v : Vb) (i : Int) (y : Hn) : Option Hn := match v with
  | .go => some { y with c := { y.c with spot := mv y.c.heading i y.c.spot }, strokes := y.strokes ++ (if y.c.pen = true ∧ i ≠ 0 then [⟨y.c.ink, y.c.spot, mv y.c.heading i y.c.spot⟩] else []), corners := y.corners ++ [mv y.c.heading i y.c.spot] }
  | .turn => some { y with turns := y.turns + i, c := { y.c with heading := (y.c.heading + i) % 8 } }
  | .ink => some { y with c := { y.c with ink := i % 8 } }
  | .up => some { y with c := { y.c with pen := false } }
  | .down => some { y with c := { y.c with pen := true } }
  | .mark => some { y with marks := mput y.marks i (y.c.spot, y.c.heading) }
  | .back => match mget y.marks i with
    | some v => some { y with c := { y.c with spot := v.1, heading := v.2 }, corners := y.corners ++ [v.1] }
    | none => none
/-- whole numbers of the hand within bounds, lists shorter than n -/
structure Hn.ok (y : Hn) (n : Nat) : Prop where
  h0 : 0 ≤ y.c.heading
  h1 : y.c.heading < 8
  m : ∀ z ∈ y.marks, 0 ≤ z.2.2 ∧ z.2.2 < 8
  lm : y.marks.length < n
  ls : y.strokes.length < n
  lc : y.corners.length < n
  lp : y.plain.length < n
theorem Hn.ok.mono {y : Hn} {n m : Nat} (h : y.ok n) (l : n ≤ m) : y.ok m := ⟨h.h0, h.h1, h.m, Nat.lt_of_lt_of_le h.lm l, Nat.lt_of_lt_of_le h.ls l, Nat.lt_of_lt_of_le h.lc l, Nat.lt_of_lt_of_le h.lp l⟩
theorem mget_mem {m : Mks} {k : Int} {v : P4 × Int} (h : mget m k = some v) : (k, v) ∈ m := by
  unfold mget at h
  cases q : m.find? fun z => decide (z.1 = k) with
  | none => rw [q] at h; cases h
  | some z =>
    rw [q] at h
    cases h
    have h1 := List.mem_of_find?_eq_some q
    have h2 : z.1 = k := of_decide_eq_true (List.find?_some (p := fun z : Int × (P4 × Int) => decide (z.1 = k)) q)
    rw [← h2]
    exact h1
theorem mput_mem {m : Mks} {k : Int} {v : P4 × Int} {z : Int × (P4 × Int)} (h : z ∈ mput m k v) : z ∈ m ∨ z = (k, v) := by
  unfold mput at h
  split at h
  · obtain ⟨x, hx, rfl⟩ := List.mem_map.mp h
    by_cases e : x.1 = k
    · right; simp [e]
    · left; simp [e]; exact hx
  · rcases List.mem_append.mp h with q | q
    · exact .inl q
    · exact .inr (List.mem_singleton.mp q)
theorem act_ok {v : Vb} {i : Int} {y z : Hn} {n : Nat} (h : y.ok n) (e : v.act i y = some z) : z.ok (n + 1) := by
  obtain ⟨h0, h1, hm, lm, ls, lc, lp⟩ := h
  cases v with
  | go =>
    cases e
    refine ⟨h0, h1, hm, Nat.lt_succ_of_lt lm, ?_, ?_, Nat.lt_succ_of_lt lp⟩
    · show (y.strokes ++ _).length < _
      rw [List.length_append]
      split <;> simp <;> omega
    · show (y.corners ++ _).length < _
      simp; omega
  | turn => cases e; exact ⟨Int.emod_nonneg _ (by decide), Int.emod_lt_of_pos _ (by decide), hm, Nat.lt_succ_of_lt lm, Nat.lt_succ_of_lt ls, Nat.lt_succ_of_lt lc, Nat.lt_succ_of_lt lp⟩
  | ink => cases e; exact ⟨h0, h1, hm, Nat.lt_succ_of_lt lm, Nat.lt_succ_of_lt ls, Nat.lt_succ_of_lt lc, Nat.lt_succ_of_lt lp⟩
  | up => cases e; exact ⟨h0, h1, hm, Nat.lt_succ_of_lt lm, Nat.lt_succ_of_lt ls, Nat.lt_succ_of_lt lc, Nat.lt_succ_of_lt lp⟩
  | down => cases e; exact ⟨h0, h1, hm, Nat.lt_succ_of_lt lm, Nat.lt_succ_of_lt ls, Nat.lt_succ_of_lt lc, Nat.lt_succ_of_lt lp⟩
  | mark =>
    cases e
    refine ⟨h0, h1, fun z hz => ?_, ?_, Nat.lt_succ_of_lt ls, Nat.lt_succ_of_lt lc, Nat.lt_succ_of_lt lp⟩
    · rcases mput_mem hz with q | q
      · exact hm z q
      · rw [q]; exact ⟨h0, h1⟩
    · have := mput_len y.marks i (y.c.spot, y.c.heading)
      show (mput _ _ _).length < _
      omega
  | back =>
    cases hv : mget y.marks i with
    | none => simp only [Vb.act, hv] at e; cases e
    | some v =>
      simp only [Vb.act, hv] at e
      cases e
      have := hm _ (mget_mem hv)
      refine ⟨this.1, this.2, hm, Nat.lt_succ_of_lt lm, Nat.lt_succ_of_lt ls, ?_, Nat.lt_succ_of_lt lp⟩
      show (y.corners ++ _).length < _
      simp; omega
/-! ### bodies done -/
structure Cl where
  ws : List (Str × List Stm)
  ns : List Int
  ct : Int
def Cl.val (c : Cl) : Amt → Int
  | .int i => i
  | .cnt t m => t * c.ct + m
  | .num t k m => t * c.ns.getD k 0 + m
inductive Rn where
  | ok (y : Hn)
  | exc (e : Str) (y : Hn)
  | out
def Rn.bind (r : Rn) (k : Hn → Rn) : Rn := match r with
  | .ok y => k y
  | .exc e y => .exc e y
  | .out => .out
def great (v : Int) : Bool := decide (1000000 < v.natAbs)
def prim (v : Vb) (i : Int) (y : Hn) : Rn := match v.act i (y.note v i) with
  | some z => .ok z
  | none => .exc "NoMark" (y.note v i)
def iB (S : Stm → Cl → Hn → Rn) : List Stm → Cl → Hn → Rn
  | [], _, y => .ok y
  | s :: r, c, y => (S s c y).bind fun y => iB S r c y
def iAg (B : Cl → Hn → Rn) (c : Cl) : Nat → Nat → Hn → Rn
  | 0, _, y => .ok y
  | m + 1, k, y => if y.rest ≤ 0 then .exc "Stopped" y else (B { c with ct := k } y.less).bind fun y => iAg B c m (k + 1) y
/-- the amounts of a do, none where one is too great -/
def vals (c : Cl) : List Amt → Option (List Int)
  | [] => some []
  | a :: r => if great (c.val a) then none else (vals c r).map (c.val a :: ·)
def wGet (ws : List (Str × List Stm)) (w : Str) : Option (List Stm) := (ws.find? fun z => decide (z.1 = w)).map (·.2)
def iS : Nat → Stm → Cl → Hn → Rn
  | 0, _, _, _ => .out
  | n + 1, s, c, y => if y.rest ≤ 0 then .exc "Stopped" y else match s with
    | .go a => if great (c.val a) then .exc "TooGreat" y.less else prim .go (c.val a) y.less
    | .turn a => if great (c.val a) then .exc "TooGreat" y.less else prim .turn (c.val a) y.less
    | .ink a => if great (c.val a) then .exc "TooGreat" y.less else prim .ink (c.val a) y.less
    | .up => prim .up 0 y.less
    | .down => prim .down 0 y.less
    | .mark i => prim .mark i y.less
    | .back i => prim .back i y.less
    | .again a b => if great (c.val a) then .exc "TooGreat" y.less else iAg (fun c y => iB (iS n) b c y) c (c.val a).toNat 0 y.less
    | .iff a b b' => if great (c.val a) then .exc "TooGreat" y.less else iB (iS n) (if c.val a ≤ 0 then b' else b) c y.less
    | .call w as => match vals c as with
      | none => .exc "TooGreat" y.less
      | some vs => match wGet c.ws w with
        | some b => iB (iS n) b ⟨c.ws, vs, 0⟩ y.less
        | none => .out
def Rn.hn : Rn → Option Hn
  | .ok y => some y
  | .exc _ y => some y
  | .out => none
end Wk

/-! RN: the hand and what surrounds it in the store, while bodies are done. -/
namespace Wk
open PySem L2
theorem hset_app {n : Nat} {x : Hd} {h t : Sto} (hl : n + 4 < h.length) : hset n x h ++ t = hset n x (h ++ t) := by
  apply List.ext_getElem?
  intro i
  rw [hset_get (by rw [List.length_append]; omega)]
  by_cases hi : i < h.length
  · rw [List.getElem?_append_left (by rw [hset_len]; exact hi), hset_get hl, List.getElem?_append_left hi]
  · rw [List.getElem?_append_right (by rw [hset_len]; omega), hset_len, List.getElem?_append_right (by omega)]
    rw [if_neg (by omega), if_neg (by omega), if_neg (by omega), if_neg (by omega), if_neg (by omega)]
theorem HS.app {n : Nat} {x : Hd} {h : Sto} (s : HS n x h) (t : Sto) : HS n x (h ++ t) := by
  have hl := s.lt
  refine ⟨?_, ?_, ?_, ?_, ?_⟩
  · rw [List.getElem?_append_left (by omega)]; exact s.o
  · rw [List.getElem?_append_left (by omega)]; exact s.m
  · rw [List.getElem?_append_left (by omega)]; exact s.s
  · rw [List.getElem?_append_left (by omega)]; exact s.c
  · rw [List.getElem?_append_left (by omega)]; exact s.p
theorem hset_two {n : Nat} {x y : Hd} {h t u : Sto} (hl : n + 4 < h.length) : hset n x (hset n y (h ++ t) ++ u) = hset n x (h ++ (t ++ u)) := by
  rw [hset_app (by rw [List.length_append]; omega), hset_hset (by rw [List.length_append, List.length_append]; omega), List.append_assoc]
def wE (z : Str × List Stm) : Key × U := (.inr z.1, .d (.tuple (bE z.2)))
theorem valU_wE (ws : List (Str × List Stm)) (w : Str) : valU (ws.map wE) (.inr w) = (wGet ws w).map fun b => .d (.tuple (bE b)) := by
  unfold valU wGet
  induction ws with
  | nil => rfl
  | cons z r ih =>
    rw [List.map_cons, List.find?_cons, List.find?_cons]
    by_cases e : z.1 = w
    · have e1 : decide ((wE z).1 = Sum.inr w) = true := decide_eq_true (by simp [wE, e])
      have e2 : decide (z.1 = w) = true := decide_eq_true e
      rw [e1, e2]
      rfl
    · have e1 : decide ((wE z).1 = Sum.inr w) = false := decide_eq_false fun q => e (Sum.inr.inj q)
      have e2 : decide (z.1 = w) = false := decide_eq_false e
      rw [e1, e2]
      exact ih
/-- the call at c, its words at wd -/
structure CS (n wd c : Nat) (cl : Cl) (h : Sto) : Prop where
  w : h[wd]? = some (.dct (cl.ws.map wE))
  k : h[c]? = some (.ins "Call" (cfs (.ref wd) (cl.ns.map PyData.int) (.int cl.ct)))
  dw : wd < n ∨ n + 4 < wd
  dc : c < n ∨ n + 4 < c
theorem CS.keep {n wd c : Nat} {cl : Cl} {h t : Sto} {x : Hd} (s : CS n wd c cl h) (hl : n + 4 < h.length) : CS n wd c cl (hset n x (h ++ t)) := by
  have h1 := (List.getElem?_eq_some_iff.mp s.w).1
  have h2 := (List.getElem?_eq_some_iff.mp s.k).1
  have d1 := s.dw
  have d2 := s.dc
  refine ⟨?_, ?_, s.dw, s.dc⟩
  · rw [hset_get (by rw [List.length_append]; omega), if_neg (by omega), if_neg (by omega), if_neg (by omega), if_neg (by omega), if_neg (by omega), List.getElem?_append_left h1]
    exact s.w
  · rw [hset_get (by rw [List.length_append]; omega), if_neg (by omega), if_neg (by omega), if_neg (by omega), if_neg (by omega), if_neg (by omega), List.getElem?_append_left h2]
    exact s.k
/-- what a function did to the store with the hand at n -/
def RHd (n : Nat) (h : Sto) (r : Res U) : Rn → Prop
  | .ok y => ∃ t, r = .ok (.d .none) (hset n y.h (h ++ t))
  | .exc e y => ∃ t, r = .exc e (hset n y.h (h ++ t))
  | .out => True
/-- words of a program: all that stand in its dict -/
structure GW (ws : List Wrd) : Prop where
  b : ∀ x ∈ ws, bWf ws x.many x.body
  u : ∀ x ∈ ws, ∀ y ∈ ws, x.name = y.name → x = y
def dictW (ws : List Wrd) : List (Str × List Stm) := ws.map fun x => (x.name, x.body)
theorem wGet_dict {ws : List Wrd} (u : ∀ x ∈ ws, ∀ y ∈ ws, x.name = y.name → x = y) {x : Wrd} (hx : x ∈ ws) : wGet (dictW ws) x.name = some x.body := by
  unfold wGet dictW
  rw [List.find?_map]
  cases q : ws.find? ((fun z : Str × List Stm => decide (z.1 = x.name)) ∘ fun x => (x.name, x.body)) with
  | none =>
    have := List.find?_eq_none.mp q x hx
    simp at this
  | some y =>
    have h1 := List.mem_of_find?_eq_some q
    have h2 := List.find?_some q
    simp only [Function.comp] at h2
    have h3 := of_decide_eq_true h2
    rw [u y h1 x hx h3]
    rfl
/-- bounds while deeds are done -/
structure Hn.iv (y : Hn) : Prop where
  r : y.rest ≤ 50000
  o : y.ok (99000 - y.rest.toNat)
theorem Hn.iv.less {y : Hn} (h : y.iv) (hr : ¬ y.rest ≤ 0) : y.less.iv := by
  have h1 : y.less.rest = y.rest - 1 := rfl
  refine ⟨by rw [h1]; have := h.r; omega, ?_⟩
  have o := h.o
  rw [h1]
  exact ⟨o.h0, o.h1, o.m, by have := o.lm; show y.marks.length < _; omega, by have := o.ls; show y.strokes.length < _; omega, by have := o.lc; show y.corners.length < _; omega, by have := o.lp; show y.plain.length < _; omega⟩
theorem note_ok {y : Hn} {v : Vb} {i : Int} {k : Nat} (h : y.ok k) : (y.note v i).ok (k + 1) := ⟨h.h0, h.h1, h.m, Nat.lt_succ_of_lt h.lm, Nat.lt_succ_of_lt h.ls, Nat.lt_succ_of_lt h.lc, by
  show (y.plain ++ _).length < _
  rw [List.length_append, List.length_singleton]
  have := h.lp
  omega⟩
theorem act_len {v : Vb} {i : Int} {y z : Hn} (e : v.act i y = some z) : z.rest = y.rest ∧ z.plain = y.plain := by
  cases v with
  | back =>
    cases hv : mget y.marks i with
    | none => simp only [Vb.act, hv] at e; cases e
    | some v =>
      simp only [Vb.act, hv] at e
      cases e
      exact ⟨rfl, rfl⟩
  | _ => cases e; exact ⟨rfl, rfl⟩
/-- a deed without a body, counted -/
theorem prim_iv {v : Vb} {i : Int} {y z : Hn} (h : y.iv) (hr : ¬ y.rest ≤ 0) (e : v.act i (y.less.note v i) = some z) : z.iv := by
  have o := h.o
  have hl : (y.less.note v i).rest = y.rest - 1 := rfl
  obtain ⟨e1, e2⟩ := act_len e
  have hr' := h.r
  refine ⟨by rw [e1, hl]; omega, ?_⟩
  have o1 : ({ y.less with plain := [] } : Hn).ok (99000 - y.rest.toNat) := ⟨o.h0, o.h1, o.m, o.lm, o.ls, o.lc, by have := o.lp; show 0 < _; omega⟩
  have e' : v.act i { y.less with plain := [] } = some { z with plain := [] } := by
    cases v with
    | back =>
      cases hv : mget y.marks i with
      | none =>
        have hv' : mget (y.less.note Vb.back i).marks i = none := hv
        simp only [Vb.act, hv'] at e
        cases e
      | some v =>
        have hv' : mget (y.less.note Vb.back i).marks i = some v := hv
        have hv2 : mget ({ y.less with plain := [] } : Hn).marks i = some v := hv
        simp only [Vb.act, hv'] at e
        simp only [Vb.act, hv2]
        cases e
        rfl
    | _ => cases e; rfl
  have o2 := act_ok o1 e'
  have ln : (y.less.note v i).plain.length = y.plain.length + 1 := by
    show (y.plain ++ _).length = _
    rw [List.length_append, List.length_singleton]
  have hz : 99000 - z.rest.toNat = 99000 - y.rest.toNat + 1 := by rw [e1, hl]; omega
  rw [hz]
  exact ⟨o2.h0, o2.h1, o2.m, o2.lm, o2.ls, o2.lc, by rw [e2, ln]; have := o.lp; omega⟩
theorem note_iv {v : Vb} {i : Int} {y : Hn} (h : y.iv) (hr : ¬ y.rest ≤ 0) : (y.less.note v i).iv := by
  have hr' := h.r
  have hl : (y.less.note v i).rest = y.rest - 1 := rfl
  refine ⟨by rw [hl]; omega, ?_⟩
  have := note_ok (v := v) (i := i) (y := y.less) (k := 99000 - y.rest.toNat) ⟨h.o.h0, h.o.h1, h.o.m, h.o.lm, h.o.ls, h.o.lc, h.o.lp⟩
  rw [hl, show 99000 - (y.rest - 1).toNat = 99000 - y.rest.toNat + 1 by omega]
  exact this
def riv : Rn → Prop
  | .ok y => y.iv
  | .exc _ y => y.iv
  | .out => True
theorem prim_riv {v : Vb} {i : Int} {y : Hn} (h : y.iv) (hr : ¬ y.rest ≤ 0) : riv (prim v i y.less) := by
  unfold prim
  split
  · rename_i z e
    exact prim_iv h hr e
  · exact note_iv h hr
theorem iB_riv {S : Stm → Cl → Hn → Rn} (hS : ∀ s c y, y.iv → riv (S s c y)) : ∀ (b : List Stm) (c : Cl) (y : Hn), y.iv → riv (iB S b c y)
  | [], _, y, h => h
  | s :: r, c, y, h => by
    have h1 := hS s c y h
    unfold iB
    cases q : S s c y with
    | ok z => rw [q] at h1; exact iB_riv hS r c z h1
    | exc e z => rw [q] at h1; exact h1
    | out => trivial
theorem iAg_riv {B : Cl → Hn → Rn} (hB : ∀ c y, y.iv → riv (B c y)) (c : Cl) : ∀ (m k : Nat) (y : Hn), y.iv → riv (iAg B c m k y)
  | 0, _, y, h => h
  | m + 1, k, y, h => by
    unfold iAg
    by_cases hr : y.rest ≤ 0
    · rw [if_pos hr]; exact h
    · rw [if_neg hr]
      have h1 := hB { c with ct := k } y.less (h.less hr)
      cases q : B { c with ct := k } y.less with
      | ok z => rw [q] at h1; exact iAg_riv hB c m (k + 1) z h1
      | exc e z => rw [q] at h1; exact h1
      | out => trivial
theorem iS_riv : ∀ (n : Nat) (s : Stm) (c : Cl) (y : Hn), y.iv → riv (iS n s c y)
  | 0, _, _, _, _ => trivial
  | n + 1, s, c, y, h => by
    have ih := fun b c y => iB_riv (S := iS n) (iS_riv n) b c y
    unfold iS
    by_cases hr : y.rest ≤ 0
    · rw [if_pos hr]; exact h
    · rw [if_neg hr]
      have hl := h.less hr
      cases s with
      | go a => dsimp only; split; exact hl; exact prim_riv h hr
      | turn a => dsimp only; split; exact hl; exact prim_riv h hr
      | ink a => dsimp only; split; exact hl; exact prim_riv h hr
      | up => exact prim_riv h hr
      | down => exact prim_riv h hr
      | mark i => exact prim_riv h hr
      | back i => exact prim_riv h hr
      | again a b => dsimp only; split; exact hl; exact iAg_riv (fun c y hy => ih b c y hy) c _ _ _ hl
      | iff a b b' => dsimp only; split; exact hl; exact ih _ _ _ hl
      | call w as =>
        dsimp only
        split
        · exact hl
        · split
          · exact ih _ _ _ hl
          · trivial
theorem lc_words (w : U) (ns : List D) (k : D) : (cfs w ns k).lookup ("words" : Str) = some w := by with_unfolding_all rfl
theorem lc_numbers (w : U) (ns : List D) (k : D) : (cfs w ns k).lookup ("numbers" : Str) = some (.d (.list ns)) := by with_unfolding_all rfl
theorem lc_count (w : U) (ns : List D) (k : D) : (cfs w ns k).lookup ("count" : Str) = some (.d k) := by with_unfolding_all rfl
theorem lc_source (w : U) (ns : List D) (k : D) : (cfs w ns k).lookup ("source_value" : Str) = none := by with_unfolding_all rfl
/-! ### there is room enough -/
mutual
theorem Stm.wf_mono {r r' : List Wrd} {tk : Nat} (h : ∀ x ∈ r, x ∈ r') : ∀ (s : Stm), s.wf r tk → s.wf r' tk
  | .go _, w => by rw [Stm.wf] at w ⊢; exact w
  | .turn _, w => by rw [Stm.wf] at w ⊢; exact w
  | .ink _, w => by rw [Stm.wf] at w ⊢; exact w
  | .up, _ => by rw [Stm.wf]; trivial
  | .down, _ => by rw [Stm.wf]; trivial
  | .mark _, w => by rw [Stm.wf] at w ⊢; exact w
  | .back _, w => by rw [Stm.wf] at w ⊢; exact w
  | .again _ b, w => by rw [Stm.wf] at w ⊢; exact ⟨w.1, bWf_mono h b w.2⟩
  | .iff _ b c, w => by rw [Stm.wf] at w ⊢; exact ⟨w.1, bWf_mono h b w.2.1, bWf_mono h c w.2.2⟩
  | .call _ _, w => by
    rw [Stm.wf] at w ⊢
    obtain ⟨⟨x, hx, e⟩, q⟩ := w
    exact ⟨⟨x, h x hx, e⟩, q⟩
theorem bWf_mono {r r' : List Wrd} {tk : Nat} (h : ∀ x ∈ r, x ∈ r') : ∀ (b : List Stm), bWf r tk b → bWf r' tk b
  | [], _ => by rw [bWf]; trivial
  | s :: b, w => by rw [bWf] at w ⊢; exact ⟨Stm.wf_mono h s w.1, bWf_mono h b w.2⟩
end
theorem wsWf_at : ∀ {r : List Wrd}, wsWf r → ∀ {x : Wrd}, x ∈ r → ∃ r', wsWf r' ∧ r'.length < r.length ∧ bWf r' x.many x.body ∧ bDeep x.body ≤ 3 ∧ x.many ≤ 4 ∧ ∀ z ∈ r', z ∈ r
  | w :: r, h, x, hx => by
    obtain ⟨h1, h2, h3, h4, h5⟩ := h
    rcases List.mem_cons.mp hx with e | e
    · subst e
      exact ⟨r, h5, Nat.lt_succ_self _, h1, h3, h2, fun z hz => List.mem_cons_of_mem _ hz⟩
    · obtain ⟨r', k1, k2, k3, k4, k5, k6⟩ := wsWf_at h5 e
      exact ⟨r', k1, Nat.lt_succ_of_lt k2, k3, k4, k5, fun z hz => List.mem_cons_of_mem _ (k6 z hz)⟩
theorem wsWf_uniq : ∀ {r : List Wrd}, wsWf r → ∀ x ∈ r, ∀ y ∈ r, x.name = y.name → x = y
  | w :: r, h, x, hx, y, hy, e => by
    obtain ⟨h1, h2, h3, h4, h5⟩ := h
    rcases List.mem_cons.mp hx with ex | ex <;> rcases List.mem_cons.mp hy with ey | ey
    · rw [ex, ey]
    · subst ex; exact absurd e.symm (h4 y ey)
    · subst ey; exact absurd e (h4 x ex)
    · exact wsWf_uniq h5 x ex y ey e
theorem wsWf_gw {r all : List Wrd} (h : wsWf r) (e : ∀ x, x ∈ all ↔ x ∈ r) : GW all := by
  refine ⟨fun x hx => ?_, fun x hx y hy => wsWf_uniq h x ((e x).mp hx) y ((e y).mp hy)⟩
  obtain ⟨r', k1, k2, k3, k4, k5, k6⟩ := wsWf_at h ((e x).mp hx)
  exact bWf_mono (fun z hz => (e z).mpr (k6 z hz)) _ k3
theorem bDeep_le {s : Stm} : ∀ {b : List Stm}, s ∈ b → s.deep ≤ bDeep b
  | t :: b, h => by
    rw [bDeep]
    rcases List.mem_cons.mp h with e | e
    · subst e; exact Nat.le_max_left _ _
    · exact Nat.le_trans (bDeep_le e) (Nat.le_max_right _ _)
theorem bWf_mem {r : List Wrd} {tk : Nat} {s : Stm} : ∀ {b : List Stm}, bWf r tk b → s ∈ b → s.wf r tk
  | t :: b, w, h => by
    rw [bWf] at w
    rcases List.mem_cons.mp h with e | e
    · subst e; exact w.1
    · exact bWf_mem w.2 e
theorem iB_in {S : Stm → Cl → Hn → Rn} {c : Cl} : ∀ {b : List Stm} {y : Hn}, (∀ s ∈ b, ∀ y, S s c y ≠ .out) → iB S b c y ≠ .out
  | [], y, _ => fun z => nomatch z
  | s :: r, y, h => by
    unfold iB
    cases q : S s c y with
    | out => exact absurd q (h s List.mem_cons_self y)
    | exc e z => exact fun z => nomatch z
    | ok z => exact iB_in fun t ht y => h t (List.mem_cons_of_mem _ ht) y
theorem iAg_in {B : Cl → Hn → Rn} {c : Cl} (hB : ∀ k y, B { c with ct := k } y ≠ .out) : ∀ {m k : Nat} {y : Hn}, iAg B c m k y ≠ .out
  | 0, _, _ => fun z => nomatch z
  | m + 1, k, y => by
    unfold iAg
    split
    · exact fun z => nomatch z
    · cases q : B { c with ct := k } y.less with
      | out => exact absurd q (hB _ _)
      | exc e z => exact fun z => nomatch z
      | ok z => exact iAg_in hB
theorem prim_in {v : Vb} {i : Int} {y : Hn} : prim v i y ≠ .out := by
  unfold prim
  split <;> exact fun z => nomatch z
theorem iS_in : ∀ (n : Nat) (s : Stm) (c : Cl) (y : Hn) (r : List Wrd) (tk : Nat), wsWf r → (∀ x ∈ r, wGet c.ws x.name = some x.body) → s.wf r tk → s.deep + 1 + 4 * r.length ≤ n → iS n s c y ≠ .out
  | 0, _, _, _, _, _, _, _, _, h => by omega
  | n + 1, s, c, y, r, tk, wr, hw, wf, h => by
    unfold iS
    split
    · exact fun z => nomatch z
    · cases s with
      | go a => dsimp only; split; exact fun z => nomatch z; exact prim_in
      | turn a => dsimp only; split; exact fun z => nomatch z; exact prim_in
      | ink a => dsimp only; split; exact fun z => nomatch z; exact prim_in
      | up => exact prim_in
      | down => exact prim_in
      | mark i => exact prim_in
      | back i => exact prim_in
      | again a b =>
        dsimp only
        rw [Stm.wf] at wf
        rw [Stm.deep] at h
        split
        · exact fun z => nomatch z
        · exact iAg_in fun k y => iB_in fun t ht y => iS_in n t _ y r tk wr hw (bWf_mem wf.2 ht) (by have := bDeep_le ht; omega)
      | iff a b b' =>
        dsimp only
        rw [Stm.wf] at wf
        rw [Stm.deep] at h
        split
        · exact fun z => nomatch z
        · refine iB_in fun t ht y => ?_
          split at ht
          · exact iS_in n t _ y r tk wr hw (bWf_mem wf.2.2 ht) (by have := bDeep_le ht; omega)
          · exact iS_in n t _ y r tk wr hw (bWf_mem wf.2.1 ht) (by have := bDeep_le ht; omega)
      | call w as =>
        dsimp only
        rw [Stm.wf] at wf
        obtain ⟨⟨x, hx, hxn, hxm⟩, _⟩ := wf
        split
        · exact fun z => nomatch z
        · have hg := hw x hx
          rw [hxn] at hg
          rw [hg]
          dsimp only
          obtain ⟨r', k1, k2, k3, k4, k5, k6⟩ := wsWf_at wr hx
          refine iB_in fun t ht y => iS_in n t _ y r' x.many k1 (fun z hz => hw z (k6 z hz)) (bWf_mem k3 ht) ?_
          have := bDeep_le ht
          omega
/-! ### the names of what is raised -/
def okE : Rn → Prop
  | .exc e _ => e = "Stopped" ∨ e = "TooGreat" ∨ e = "NoMark"
  | _ => True
theorem prim_okE {v : Vb} {i : Int} {y : Hn} : okE (prim v i y) := by
  unfold prim
  split
  · trivial
  · exact .inr (.inr rfl)
theorem iB_okE {S : Stm → Cl → Hn → Rn} (hS : ∀ s c y, okE (S s c y)) : ∀ (b : List Stm) (c : Cl) (y : Hn), okE (iB S b c y)
  | [], _, _ => trivial
  | s :: r, c, y => by
    unfold iB
    have h1 := hS s c y
    cases q : S s c y with
    | out => trivial
    | exc e z => rw [q] at h1; exact h1
    | ok z => exact iB_okE hS r c z
theorem iAg_okE {B : Cl → Hn → Rn} (hB : ∀ c y, okE (B c y)) (c : Cl) : ∀ (m k : Nat) (y : Hn), okE (iAg B c m k y)
  | 0, _, _ => trivial
  | m + 1, k, y => by
    unfold iAg
    split
    · exact .inl rfl
    · have h1 := hB { c with ct := k } y.less
      cases q : B { c with ct := k } y.less with
      | out => trivial
      | exc e z => rw [q] at h1; exact h1
      | ok z => exact iAg_okE hB c m (k + 1) z
theorem iS_okE : ∀ (n : Nat) (s : Stm) (c : Cl) (y : Hn), okE (iS n s c y)
  | 0, _, _, _ => trivial
  | n + 1, s, c, y => by
    have ih := fun b c y => iB_okE (S := iS n) (iS_okE n) b c y
    unfold iS
    split
    · exact .inl rfl
    · cases s with
      | go a => dsimp only; split; exact .inr (.inl rfl); exact prim_okE
      | turn a => dsimp only; split; exact .inr (.inl rfl); exact prim_okE
      | ink a => dsimp only; split; exact .inr (.inl rfl); exact prim_okE
      | up => exact prim_okE
      | down => exact prim_okE
      | mark i => exact prim_okE
      | back i => exact prim_okE
      | again a b => dsimp only; split; exact .inr (.inl rfl); exact iAg_okE (fun c y => ih b c y) c _ _ _
      | iff a b b' => dsimp only; split; exact .inr (.inl rfl); exact ih _ _ _
      | call w as =>
        dsimp only
        split
        · exact .inr (.inl rfl)
        · split
          · exact ih _ _ _
          · trivial
/-- a run by so many deeds -/
def hn0 (most : Int) : Hn := ⟨cr0, 0, most, [], [], [⟨0, 0, 0, 0⟩], []⟩
theorem hn0_h (most : Int) : (hn0 most).h = hd0 most := rfl
theorem hn0_iv {most : Int} (h : most ≤ 50000) : (hn0 most).iv := ⟨h, by
  show (hn0 most).ok (99000 - most.toNat)
  have : most.toNat ≤ 50000 := by omega
  exact ⟨Int.le_refl 0, show (0 : Int) < 8 by decide, by simp [hn0], by show 0 < _; omega, by show 0 < _; omega, by show 1 < _; omega, by show 0 < _; omega⟩⟩
def runR (ws : List Wrd) (b : List Stm) (most : Int) : Rn := iB (iS 49) b ⟨dictW ws, [], 0⟩ (hn0 most)
/-- a good program: its words, its body -/
structure GP (ws : List Wrd) (b : List Stm) : Prop where
  w : wsWf ws.reverse
  l : ws.length ≤ 6
  f : bWf ws 0 b
  d : bDeep b ≤ 4
theorem GP.gw {ws : List Wrd} {b : List Stm} (g : GP ws b) : GW ws := wsWf_gw g.w fun x => List.mem_reverse.symm
theorem GP.in_ {ws : List Wrd} {b : List Stm} (g : GP ws b) (most : Int) : runR ws b most ≠ .out := by
  refine iB_in fun s hs y => iS_in 49 s _ y ws.reverse 0 g.w (fun x hx => wGet_dict g.gw.u (List.mem_reverse.mp hx)) (Stm.wf_mono (fun x hx => List.mem_reverse.mpr hx) s (bWf_mem g.f hs)) ?_
  have := bDeep_le hs
  have := g.d
  have := g.l
  rw [List.length_reverse]
  omega
theorem GP.many {ws : List Wrd} {b : List Stm} (g : GP ws b) : ∀ x ∈ ws, x.many ≤ 900 := fun x hx => by
  obtain ⟨r', k1, k2, k3, k4, k5, k6⟩ := wsWf_at g.w (List.mem_reverse.mpr hx)
  omega
def progE (ws : List Wrd) (b : List Stm) : D := .tuple [.tuple (ws.map Wrd.e), .tuple (bE b)]
end Wk

/-! PG2: what the laws' own programs are like; a deck that is drawn from. -/
namespace Wk
open PySem L2
def Amt.cn (i : Bool) : Amt → Prop
  | .cnt _ _ => i = true
  | _ => True
def Amt.sml : Amt → Prop
  | .int i => -9 ≤ i ∧ i ≤ 9
  | .cnt t m => (-3 ≤ t ∧ t ≤ 3) ∧ -3 ≤ m ∧ m ≤ 3
  | .num t _ m => (-3 ≤ t ∧ t ≤ 3) ∧ -3 ≤ m ∧ m ≤ 3
mutual
/-- count stands only within an again -/
def Stm.cn (i : Bool) : Stm → Prop
  | .go a => a.cn i
  | .turn a => a.cn i
  | .ink a => a.cn i
  | .again a b => a.cn i ∧ bCn true b
  | .iff a b c => a.cn i ∧ bCn i b ∧ bCn i c
  | .call _ as => ∀ a ∈ as, a.cn i
  | _ => True
def bCn (i : Bool) : List Stm → Prop
  | [] => True
  | s :: r => s.cn i ∧ bCn i r
def Stm.sml : Stm → Prop
  | .go a => a.sml
  | .turn a => a.sml
  | .ink a => a.sml
  | .again a b => a.sml ∧ bSml b
  | .iff a b c => a.sml ∧ bSml b ∧ bSml c
  | .call _ as => ∀ a ∈ as, a.sml
  | _ => True
def bSml : List Stm → Prop
  | [] => True
  | s :: r => s.sml ∧ bSml r
def Stm.size : Stm → Nat
  | .again _ b => bSize b + 1
  | .iff _ b c => bSize b + bSize c + 1
  | _ => 1
def bSize : List Stm → Nat
  | [] => 0
  | s :: r => s.size + bSize r
end
/-- all that the laws' drawn statements are -/
structure Stm.gd (ws : List Wrd) (tk : Nat) (i : Bool) (d : Nat) (s : Stm) : Prop where
  w : s.wf ws tk
  c : s.cn i
  m : s.sml
  d : s.deep ≤ d
structure bGd (ws : List Wrd) (tk : Nat) (i : Bool) (d : Nat) (b : List Stm) : Prop where
  w : bWf ws tk b
  c : bCn i b
  m : bSml b
  d : bDeep b ≤ d
theorem bGd.nil {ws : List Wrd} {tk : Nat} {i : Bool} {d : Nat} : bGd ws tk i d [] := ⟨by rw [bWf]; trivial, by rw [bCn]; trivial, by rw [bSml]; trivial, by rw [bDeep]; exact Nat.zero_le _⟩
theorem bWf_app {ws : List Wrd} {tk : Nat} : ∀ {b c : List Stm}, bWf ws tk b → bWf ws tk c → bWf ws tk (b ++ c)
  | [], _, _, h => h
  | s :: r, c, h, h' => by
    rw [bWf] at h
    rw [List.cons_append, bWf]
    exact ⟨h.1, bWf_app h.2 h'⟩
theorem bCn_app {i : Bool} : ∀ {b c : List Stm}, bCn i b → bCn i c → bCn i (b ++ c)
  | [], _, _, h => h
  | s :: r, c, h, h' => by
    rw [bCn] at h
    rw [List.cons_append, bCn]
    exact ⟨h.1, bCn_app h.2 h'⟩
theorem bSml_app : ∀ {b c : List Stm}, bSml b → bSml c → bSml (b ++ c)
  | [], _, _, h => h
  | s :: r, c, h, h' => by
    rw [bSml] at h
    rw [List.cons_append, bSml]
    exact ⟨h.1, bSml_app h.2 h'⟩
theorem bDeep_app {d : Nat} : ∀ {b c : List Stm}, bDeep b ≤ d → bDeep c ≤ d → bDeep (b ++ c) ≤ d
  | [], _, _, h => h
  | s :: r, c, h, h' => by
    rw [bDeep] at h
    rw [List.cons_append, bDeep]
    exact Nat.max_le.mpr ⟨(Nat.max_le.mp h).1, bDeep_app (Nat.max_le.mp h).2 h'⟩
theorem bSize_app : ∀ (b c : List Stm), bSize (b ++ c) = bSize b + bSize c
  | [], c => by rw [List.nil_append, bSize]; omega
  | s :: r, c => by rw [List.cons_append, bSize, bSize, bSize_app r c]; omega
theorem bGd.app {ws : List Wrd} {tk : Nat} {i : Bool} {d : Nat} {b c : List Stm} (h : bGd ws tk i d b) (h' : bGd ws tk i d c) : bGd ws tk i d (b ++ c) := ⟨bWf_app h.w h'.w, bCn_app h.c h'.c, bSml_app h.m h'.m, bDeep_app h.d h'.d⟩
theorem bGd.one {ws : List Wrd} {tk : Nat} {i : Bool} {d : Nat} {s : Stm} (h : s.gd ws tk i d) : bGd ws tk i d [s] := by
  refine ⟨?_, ?_, ?_, ?_⟩
  · rw [bWf, bWf]; exact ⟨h.w, trivial⟩
  · rw [bCn, bCn]; exact ⟨h.c, trivial⟩
  · rw [bSml, bSml]; exact ⟨h.m, trivial⟩
  · rw [bDeep, bDeep]; exact Nat.max_le.mpr ⟨h.d, Nat.zero_le _⟩
theorem bSize_one (s : Stm) : bSize [s] = s.size := by rw [bSize, bSize]; omega
theorem bE_app : ∀ (b c : List Stm), bE (b ++ c) = bE b ++ bE c
  | [], _ => rfl
  | s :: r, c => by rw [List.cons_append, bE, bE, bE_app r c]; rfl
theorem bE_len : ∀ b : List Stm, (bE b).length = b.length
  | [] => rfl
  | s :: r => by rw [bE, List.length_cons, List.length_cons, bE_len r]
theorem len_size : ∀ b : List Stm, b.length ≤ bSize b
  | [] => Nat.zero_le _
  | s :: r => by
    have := len_size r
    rw [bSize, List.length_cons]
    have : 1 ≤ s.size := by cases s <;> simp [Stm.size]
    omega
/-! ### the deck -/
def okD (ds : List Int) : Prop := ∀ c ∈ ds, 0 ≤ c ∧ c < 1000
theorem okD.hd {ds : List Int} (h : okD ds) : 0 ≤ ds.headD 0 ∧ ds.headD 0 < 1000 := by
  cases ds with
  | nil => exact ⟨by decide, by decide⟩
  | cons c r => exact h c List.mem_cons_self
theorem okD.tl {ds : List Int} (h : okD ds) : okD ds.tail := fun c hc => h c (List.mem_of_mem_tail hc)
/-- the store, its deck at n now ds -/
def dst (n : Nat) (ds : List Int) (h t : Sto) : Sto := h.set n (.lst (dk ds)) ++ t
theorem dst_get {n : Nat} {ds : List Int} {h t : Sto} (hn : InS n h) : (dst n ds h t)[n]? = some (.lst (dk ds)) := by
  unfold dst
  rw [List.getElem?_append_left (by rw [List.length_set]; exact hn)]
  exact gs_same hn
theorem dst_in {n m : Nat} {ds : List Int} {h t : Sto} (hn : InS m h) : InS m (dst n ds h t) := by
  unfold InS dst at *
  rw [List.length_append, List.length_set]
  omega
theorem dst_other {n m : Nat} {ds : List Int} {h t : Sto} {o : Ob} (hm : m ≠ n) (e : h[m]? = some o) : (dst n ds h t)[m]? = some o := by
  unfold dst
  rw [List.getElem?_append_left (by rw [List.length_set]; exact (List.getElem?_eq_some_iff.mp e).1), List.getElem?_set_ne (Ne.symm hm)]
  exact e
theorem dst_dst {n : Nat} {ds ds' : List Int} {h t t' : Sto} (hn : InS n h) : dst n ds' (dst n ds h t) t' = dst n ds' h (t ++ t') := by
  unfold dst
  rw [List.set_append_left _ _ (by rw [List.length_set]; exact hn), List.set_set, List.append_assoc]
theorem dst_set {n : Nat} {ds ds' : List Int} {h t : Sto} (hn : InS n h) : (dst n ds h t).set n (.lst (dk ds')) = dst n ds' h t := by
  unfold dst
  rw [List.set_append_left _ _ (by rw [List.length_set]; exact hn), List.set_set]
theorem dst_nil {n : Nat} {ds : List Int} {h : Sto} : h.set n (.lst (dk ds)) = dst n ds h [] := by
  unfold dst
  rw [List.append_nil]
theorem dst_self {n : Nat} {ds : List Int} {h : Sto} (e : h[n]? = some (.lst (dk ds))) : dst n ds h [] = h := by
  unfold dst
  rw [List.append_nil, set_self e]
theorem ixRf {n : Nat} {h : Sto} {xs : List D} (e : h[n]? = some (.lst xs)) (i : Int) : opIx (.ref n) (.d (.int i)) h = match atI xs i with | some x => .ok (.d x) h | none => .stuck := by
  unfold opIx
  simp only [ev_intOf, tupOf, ev_lstR, e]
  all_goals (cases atI xs i <;> rfl)
theorem addRfL {n : Nat} {h : Sto} {xs ys : List D} (e : h[n]? = some (.lst xs)) (hl : xs.length + ys.length ≤ 16777216) : opAdd false (.ref n) (.d (.list ys)) h = .ok (.d (.list (xs ++ ys))) h := by
  unfold opAdd
  simp only [intOf, tupOf, strOf, ev_lstR, e, ev_lstD, fits_of hl, if_true]
  rfl
def wNames : List Str := ["leaf", "go", "x", "star", "turn", "backward"]
def wSize : List Wrd → Nat
  | [] => 0
  | w :: r => bSize w.body + wSize r
theorem wSize_app : ∀ (a b : List Wrd), wSize (a ++ b) = wSize a + wSize b
  | [], b => by rw [List.nil_append, wSize]; omega
  | w :: r, b => by rw [List.cons_append, wSize, wSize, wSize_app r b]; omega
/-- a drawn program, beyond what GP tells -/
structure GX (ws : List Wrd) (b : List Stm) (most : Nat) : Prop where
  g : GP ws b
  c : bCn false b
  m : bSml b
  wc : ∀ x ∈ ws, bCn false x.body
  wm : ∀ x ∈ ws, bSml x.body
  sz : bSize b + wSize ws ≤ most
  nm : ws.map Wrd.name = wNames.take ws.length
theorem nm_new {ws : List Wrd} (h : ws.map Wrd.name = wNames.take ws.length) (l : ws.length < 6) {z : Str} (hz : wNames[ws.length]? = some z) : ∀ x ∈ ws, x.name ≠ z := by
  intro x hx e
  have hm : x.name ∈ wNames.take ws.length := by rw [← h]; exact List.mem_map.mpr ⟨x, hx, rfl⟩
  rw [e] at hm
  obtain ⟨i, hi, ei⟩ := List.getElem_of_mem hm
  rw [List.getElem_take] at ei
  rw [List.length_take] at hi
  obtain ⟨hj, ej⟩ := List.getElem?_eq_some_iff.mp hz
  have e2 : wNames[i]'(by omega) = wNames[ws.length] := ei.trans ej.symm
  have key : ∀ i j : Fin 6, wNames[i.1]'(i.2) = wNames[j.1]'(j.2) → i = j := by decide
  have := congrArg Fin.val (key ⟨i, by omega⟩ ⟨ws.length, l⟩ e2)
  simp at this
  omega
end Wk

/-! SIM: programs with amounts so many times over, and how their runs go along with the first one's. -/
namespace Wk
open PySem L2
def Amt.mul (k : Int) : Amt → Amt
  | .int i => .int (i * k)
  | .cnt t m => .cnt (t * k) (m * k)
  | .num t j m => .num (t * k) j (m * k)
theorem val_mul (c : Cl) (k : Int) (a : Amt) : c.val (a.mul k) = c.val a * k := by
  cases a with
  | int i => rfl
  | cnt t m =>
    show t * k * c.ct + m * k = (t * c.ct + m) * k
    rw [Int.add_mul, Int.mul_right_comm]
  | num t j m =>
    show t * k * c.ns.getD j 0 + m * k = (t * c.ns.getD j 0 + m) * k
    rw [Int.add_mul, Int.mul_right_comm]
theorem mul_mul (a : Amt) (j k : Int) : (a.mul j).mul k = a.mul (j * k) := by
  cases a <;> simp [Amt.mul, Int.mul_assoc]
theorem mul_one (a : Amt) : a.mul 1 = a := by cases a <;> simp [Amt.mul]
mutual
/-- gos kg times over, turns kt times over -/
def Stm.ov (kg kt : Int) : Stm → Stm
  | .go a => .go (a.mul kg)
  | .turn a => .turn (a.mul kt)
  | .again a b => .again a (bOv kg kt b)
  | .iff a b c => .iff a (bOv kg kt b) (bOv kg kt c)
  | .ink a => .ink a
  | .up => .up
  | .down => .down
  | .mark n => .mark n
  | .back n => .back n
  | .call w as => .call w as
def bOv (kg kt : Int) : List Stm → List Stm
  | [] => []
  | s :: r => s.ov kg kt :: bOv kg kt r
end
mutual
theorem Stm.ov_ov (j k j' k' : Int) : ∀ s : Stm, (s.ov j k).ov j' k' = s.ov (j * j') (k * k')
  | .go a => by simp [Stm.ov, mul_mul]
  | .turn a => by simp [Stm.ov, mul_mul]
  | .again a b => by simp [Stm.ov, bOv_ov j k j' k' b]
  | .iff a b c => by simp [Stm.ov, bOv_ov j k j' k' b, bOv_ov j k j' k' c]
  | .ink a => by simp [Stm.ov]
  | .up => by simp [Stm.ov]
  | .down => by simp [Stm.ov]
  | .mark n => by simp [Stm.ov]
  | .back n => by simp [Stm.ov]
  | .call w as => by simp [Stm.ov]
theorem bOv_ov (j k j' k' : Int) : ∀ b : List Stm, bOv j' k' (bOv j k b) = bOv (j * j') (k * k') b
  | [] => by simp [bOv]
  | s :: r => by simp [bOv, Stm.ov_ov j k j' k' s, bOv_ov j k j' k' r]
end
mutual
theorem Stm.ov_one : ∀ s : Stm, s.ov 1 1 = s
  | .go a => by simp [Stm.ov, mul_one]
  | .turn a => by simp [Stm.ov, mul_one]
  | .again a b => by simp [Stm.ov, bOv_one b]
  | .iff a b c => by simp [Stm.ov, bOv_one b, bOv_one c]
  | .ink a => by simp [Stm.ov]
  | .up => by simp [Stm.ov]
  | .down => by simp [Stm.ov]
  | .mark n => by simp [Stm.ov]
  | .back n => by simp [Stm.ov]
  | .call w as => by simp [Stm.ov]
theorem bOv_one : ∀ b : List Stm, bOv 1 1 b = b
  | [] => by simp [bOv]
  | s :: r => by simp [bOv, Stm.ov_one s, bOv_one r]
end
def Wrd.ov (kg kt : Int) (w : Wrd) : Wrd := { w with body := bOv kg kt w.body }
def wsOv (kg kt : Int) (ws : List (Str × List Stm)) : List (Str × List Stm) := ws.map fun z => (z.1, bOv kg kt z.2)
def Cl.ov (kg kt : Int) (c : Cl) : Cl := { c with ws := wsOv kg kt c.ws }
theorem wGet_ov (kg kt : Int) (ws : List (Str × List Stm)) (w : Str) : wGet (wsOv kg kt ws) w = (wGet ws w).map (bOv kg kt) := by
  unfold wGet wsOv
  rw [List.find?_map]
  have : ((fun z : Str × List Stm => decide (z.1 = w)) ∘ fun z : Str × List Stm => (z.1, bOv kg kt z.2)) = fun z => decide (z.1 = w) := rfl
  rw [this]
  cases ws.find? fun z => decide (z.1 = w) <;> rfl
theorem dictW_ov (kg kt : Int) (ws : List Wrd) : dictW (ws.map (Wrd.ov kg kt)) = wsOv kg kt (dictW ws) := by
  unfold dictW wsOv
  rw [List.map_map, List.map_map]
  rfl
def mapR (f : Hn → Hn) : Rn → Rn
  | .ok y => .ok (f y)
  | .exc e y => .exc e (f y)
  | .out => .out
def scl (kt : Int) (v : Vb) (i : Int) : Int := match v with
  | .turn => i * kt
  | _ => i
/-- f goes along with the hand, where the turns are kt times over -/
structure Sim (f : Hn → Hn) (kt : Int) : Prop where
  rest : ∀ y, (f y).rest = y.rest
  less : ∀ y, f y.less = (f y).less
  prim : ∀ v i y, y.iv → prim v (scl kt v i) (f y) = mapR f (prim v i y)
  great : ∀ v : Int, great (v * kt) = great v
theorem val_ov (c : Cl) (kg kt : Int) (a : Amt) : (c.ov kg kt).val a = c.val a := by cases a <;> rfl
theorem vals_ov (c : Cl) (kg kt : Int) : ∀ as : List Amt, vals (c.ov kg kt) as = vals c as
  | [] => rfl
  | a :: r => by rw [vals, vals, val_ov, vals_ov c kg kt r]
theorem iB_sim {f : Hn → Hn} {kt : Int} {S : Stm → Cl → Hn → Rn} (hiv : ∀ s c y, y.iv → riv (S s c y)) (hS : ∀ s c y, y.iv → S (s.ov 1 kt) (c.ov 1 kt) (f y) = mapR f (S s c y)) : ∀ (b : List Stm) (c : Cl) (y : Hn), y.iv → iB S (bOv 1 kt b) (c.ov 1 kt) (f y) = mapR f (iB S b c y)
  | [], _, _, _ => by simp [bOv, iB, mapR]
  | s :: r, c, y, h => by
    rw [bOv, iB, iB, hS s c y h]
    have h1 := hiv s c y h
    cases q : S s c y with
    | out => rfl
    | exc e z => rfl
    | ok z =>
      rw [q] at h1
      exact iB_sim hiv hS r c z h1
theorem iAg_sim {f : Hn → Hn} {kt : Int} (sim : Sim f kt) {B B' : Cl → Hn → Rn} (hiv : ∀ c y, y.iv → riv (B c y)) (hB : ∀ c y, y.iv → B' (c.ov 1 kt) (f y) = mapR f (B c y)) (c : Cl) : ∀ (m k : Nat) (y : Hn), y.iv → iAg B' (c.ov 1 kt) m k (f y) = mapR f (iAg B c m k y)
  | 0, _, _, _ => rfl
  | m + 1, k, y, h => by
    unfold iAg
    rw [sim.rest]
    by_cases hr : y.rest ≤ 0
    · rw [if_pos hr, if_pos hr]; rfl
    · rw [if_neg hr, if_neg hr, ← sim.less]
      have e : ({ c.ov 1 kt with ct := (k : Int) } : Cl) = ({ c with ct := (k : Int) } : Cl).ov 1 kt := rfl
      rw [e, hB _ _ (h.less hr)]
      have h1 := hiv { c with ct := (k : Int) } y.less (h.less hr)
      cases q : B { c with ct := (k : Int) } y.less with
      | out => rfl
      | exc e z => rfl
      | ok z =>
        rw [q] at h1
        exact iAg_sim sim hiv hB c m (k + 1) z h1
theorem iS_sim {f : Hn → Hn} {kt : Int} (sim : Sim f kt) : ∀ (n : Nat) (s : Stm) (c : Cl) (y : Hn), y.iv → iS n (s.ov 1 kt) (c.ov 1 kt) (f y) = mapR f (iS n s c y)
  | 0, _, _, _, _ => rfl
  | n + 1, s, c, y, h => by
    have ih := fun b c y hy => iB_sim (S := iS n) (iS_riv n) (iS_sim sim n) b c y hy
    unfold iS
    rw [sim.rest]
    by_cases hr : y.rest ≤ 0
    · rw [if_pos hr, if_pos hr]; rfl
    · rw [if_neg hr, if_neg hr, ← sim.less]
      have hl := h.less hr
      have pr := fun v i => sim.prim v i y.less hl
      cases s with
      | go a =>
        simp only [Stm.ov, val_ov, mul_one]
        split
        · rfl
        · exact pr .go _
      | turn a =>
        simp only [Stm.ov, val_ov, val_mul, sim.great]
        split
        · rfl
        · exact pr .turn _
      | ink a =>
        simp only [Stm.ov, val_ov]
        split
        · rfl
        · exact pr .ink _
      | up => simp only [Stm.ov]; exact pr .up 0
      | down => simp only [Stm.ov]; exact pr .down 0
      | mark i => simp only [Stm.ov]; exact pr .mark i
      | back i => simp only [Stm.ov]; exact pr .back i
      | again a b =>
        simp only [Stm.ov, val_ov]
        split
        · rfl
        · exact iAg_sim sim (fun c y hy => iB_riv (iS_riv n) b c y hy) (fun c y hy => ih b c y hy) c _ _ _ hl
      | iff a b b' =>
        simp only [Stm.ov, val_ov]
        split
        · rfl
        · split
          · exact ih b' c _ hl
          · exact ih b c _ hl
      | call w as =>
        simp only [Stm.ov, vals_ov]
        cases q : vals c as with
        | none => rfl
        | some vs =>
          dsimp only
          have hg : wGet (c.ov 1 kt).ws w = (wGet c.ws w).map (bOv 1 kt) := wGet_ov 1 kt c.ws w
          rw [hg]
          cases q2 : wGet c.ws w with
          | none => rfl
          | some b => exact ih b ⟨c.ws, vs, 0⟩ _ hl
/-! ### mirrored -/
def mirC (c : Cr) : Cr := { c with spot := mir c.spot, heading := (8 - c.heading) % 8 }
def mirS (s : Stk) : Stk := ⟨s.ink, mir s.a, mir s.b⟩
def mirM (z : Int × (P4 × Int)) : Int × (P4 × Int) := (z.1, (mir z.2.1, (8 - z.2.2) % 8))
def mirT (t : Nt) : Nt := ⟨t.v, match t.v with | .turn => -t.i | _ => t.i, mirC t.c⟩
def mirH (y : Hn) : Hn := ⟨mirC y.c, -y.turns, y.rest, y.marks.map mirM, y.strokes.map mirS, y.corners.map mir, y.plain.map mirT⟩
theorem mget_mir (m : Mks) (k : Int) : mget (m.map mirM) k = (mget m k).map fun v => (mir v.1, (8 - v.2) % 8) := by
  unfold mget
  rw [List.find?_map]
  have : ((fun z : Int × (P4 × Int) => decide (z.1 = k)) ∘ mirM) = fun z => decide (z.1 = k) := rfl
  rw [this]
  cases m.find? fun z => decide (z.1 = k) <;> rfl
theorem mput_mir (m : Mks) (k : Int) (v : P4 × Int) : mput (m.map mirM) k (mir v.1, (8 - v.2) % 8) = (mput m k v).map mirM := by
  unfold mput
  rw [List.any_map]
  have : ((fun z : Int × (P4 × Int) => decide (z.1 = k)) ∘ mirM) = fun z => decide (z.1 = k) := rfl
  rw [this]
  split
  · rw [List.map_map, List.map_map]
    refine List.map_congr_left fun z _ => ?_
    simp only [Function.comp]
    by_cases e : z.1 = k
    · have e' : (mirM z).1 = k := e
      rw [if_pos e', if_pos e]
      rfl
    · have e' : ¬ (mirM z).1 = k := e
      rw [if_neg e', if_neg e]
  · rw [List.map_append]
    rfl
theorem mir_sim : Sim mirH (-1) where
  rest := fun _ => rfl
  less := fun _ => rfl
  great := fun v => by unfold great; simp
  prim := fun v i y h => by
    have h0 := h.o.h0
    have h1 := h.o.h1
    have nt : (mirH y).note v (scl (-1) v i) = mirH (y.note v i) := by
      unfold Hn.note mirH
      simp only [Hn.mk.injEq, true_and, List.map_append, List.map_cons, List.map_nil]
      congr 2
      unfold mirT
      cases v <;> simp [scl]
    unfold prim
    rw [nt]
    have key : v.act (scl (-1) v i) (mirH (y.note v i)) = (v.act i (y.note v i)).map mirH := by
      have e0 : 0 ≤ (y.note v i).c.heading := h0
      have e1 : (y.note v i).c.heading < 8 := h1
      generalize y.note v i = x at *
      cases v with
      | go =>
        simp only [Vb.act, Option.map_some, Option.some.injEq, scl]
        have em : mir (mv x.c.heading i x.c.spot) = mv ((8 - x.c.heading) % 8) i (mir x.c.spot) := mir_mv i e0 e1
        unfold mirH
        simp only [Hn.mk.injEq, true_and, and_true]
        refine ⟨?_, ?_, ?_⟩
        · unfold mirC
          simp [em]
        · rw [List.map_append]
          congr 1
          show (if x.c.pen = true ∧ i ≠ 0 then [(⟨x.c.ink, mir x.c.spot, mv ((8 - x.c.heading) % 8) i (mir x.c.spot)⟩ : Stk)] else []) = _
          split
          · simp [mirS, em]
          · rfl
        · rw [List.map_append]
          simp [em, mirC]
      | turn =>
        simp only [Vb.act, Option.map_some, Option.some.injEq, scl]
        unfold mirH mirC
        simp only [Hn.mk.injEq, Cr.mk.injEq, true_and, and_true]
        refine ⟨?_, ?_⟩
        · show ((8 - x.c.heading) % 8 + i * -1) % 8 = (8 - (x.c.heading + i) % 8) % 8
          omega
        · omega
      | ink => rfl
      | up => rfl
      | down => rfl
      | mark =>
        simp only [Vb.act, Option.map_some, Option.some.injEq, scl]
        unfold mirH
        simp only [Hn.mk.injEq, true_and, and_true]
        exact mput_mir x.marks i (x.c.spot, x.c.heading)
      | back =>
        have hg : mget (mirH x).marks i = (mget x.marks i).map fun v => (mir v.1, (8 - v.2) % 8) := mget_mir x.marks i
        simp only [Vb.act, hg, scl]
        cases mget x.marks i with
        | none => rfl
        | some v =>
          simp only [Option.map_some, Option.some.injEq]
          unfold mirH mirC
          simp
    rw [key]
    cases v.act i (y.note v i) <;> rfl
/-! ### what is told -/
def tell (y : Hn) (d : Bool) : D := .tuple [.list (y.strokes.map Stk.e), .list (y.corners.map P4.e), y.c.e, .int y.turns, .bool d]
def ranD : Rn → D
  | .ok y => .list [.str "", tell y true]
  | .exc e y => if e = "Stopped" then .list [.str "", tell y false] else if e = "NoMark" then .list [.str "mark", .none] else .list [.str "great", .none]
  | .out => .none
theorem ranD_stop (y : Hn) : ranD (.exc "Stopped" y) = .list [.str "", tell y false] := by
  unfold ranD
  dsimp only
  rw [if_pos rfl]
theorem ranD_great (y : Hn) : ranD (.exc "TooGreat" y) = .list [.str "great", .none] := by
  unfold ranD
  dsimp only
  rw [if_neg (of_decide_eq_false (by decide)), if_neg (of_decide_eq_false (by decide))]
theorem ranD_mark (y : Hn) : ranD (.exc "NoMark" y) = .list [.str "mark", .none] := by
  unfold ranD
  dsimp only
  rw [if_neg (of_decide_eq_false (by decide)), if_pos rfl]
/-! ### good programs stay good -/
theorem Amt.wf_mul {tk : Nat} {a : Amt} {k : Int} (hk : k = 1 ∨ k = -1) (h : a.wf tk) : (a.mul k).wf tk := by
  have key : ∀ i : Int, sm6 i → sm6 (i * k) := fun i hi => by
    unfold sm6 at *
    rcases hk with z | z <;> subst z
    · rw [Int.mul_one]; exact hi
    · rw [Int.natAbs_mul]
      simpa using hi
  cases a with
  | int i => exact key i h
  | cnt t m => exact ⟨key t h.1, key m h.2⟩
  | num t j m => exact ⟨key t h.1, key m h.2.1, h.2.2⟩
mutual
theorem Stm.wf_ov {ws : List Wrd} {tk : Nat} {kg kt : Int} (hg : kg = 1 ∨ kg = -1) (ht : kt = 1 ∨ kt = -1) : ∀ (s : Stm), s.wf ws tk → (s.ov kg kt).wf (ws.map (Wrd.ov kg kt)) tk
  | .go a, w => by rw [Stm.wf] at w; rw [Stm.ov, Stm.wf]; exact Amt.wf_mul hg w
  | .turn a, w => by rw [Stm.wf] at w; rw [Stm.ov, Stm.wf]; exact Amt.wf_mul ht w
  | .ink a, w => by rw [Stm.wf] at w; rw [Stm.ov, Stm.wf]; exact w
  | .up, _ => by rw [Stm.ov, Stm.wf]; trivial
  | .down, _ => by rw [Stm.ov, Stm.wf]; trivial
  | .mark _, w => by rw [Stm.wf] at w; rw [Stm.ov, Stm.wf]; exact w
  | .back _, w => by rw [Stm.wf] at w; rw [Stm.ov, Stm.wf]; exact w
  | .again _ b, w => by rw [Stm.wf] at w; rw [Stm.ov, Stm.wf]; exact ⟨w.1, bWf_ov hg ht b w.2⟩
  | .iff _ b c, w => by rw [Stm.wf] at w; rw [Stm.ov, Stm.wf]; exact ⟨w.1, bWf_ov hg ht b w.2.1, bWf_ov hg ht c w.2.2⟩
  | .call _ _, w => by
    rw [Stm.wf] at w
    rw [Stm.ov, Stm.wf]
    obtain ⟨⟨x, hx, e1, e2⟩, q⟩ := w
    exact ⟨⟨x.ov kg kt, List.mem_map.mpr ⟨x, hx, rfl⟩, e1, e2⟩, q⟩
theorem bWf_ov {ws : List Wrd} {tk : Nat} {kg kt : Int} (hg : kg = 1 ∨ kg = -1) (ht : kt = 1 ∨ kt = -1) : ∀ (b : List Stm), bWf ws tk b → bWf (ws.map (Wrd.ov kg kt)) tk (bOv kg kt b)
  | [], _ => by rw [bOv, bWf]; trivial
  | s :: r, w => by rw [bWf] at w; rw [bOv, bWf]; exact ⟨Stm.wf_ov hg ht s w.1, bWf_ov hg ht r w.2⟩
end
mutual
theorem Stm.deep_ov (kg kt : Int) : ∀ (s : Stm), (s.ov kg kt).deep = s.deep
  | .go a => by simp [Stm.ov, Stm.deep]
  | .turn a => by simp [Stm.ov, Stm.deep]
  | .ink a => by simp [Stm.ov]
  | .up => by simp [Stm.ov]
  | .down => by simp [Stm.ov]
  | .mark _ => by simp [Stm.ov]
  | .back _ => by simp [Stm.ov]
  | .again _ b => by simp [Stm.ov, Stm.deep, bDeep_ov kg kt b]
  | .iff _ b c => by simp [Stm.ov, Stm.deep, bDeep_ov kg kt b, bDeep_ov kg kt c]
  | .call _ _ => by simp [Stm.ov]
theorem bDeep_ov (kg kt : Int) : ∀ (b : List Stm), bDeep (bOv kg kt b) = bDeep b
  | [] => by simp [bOv]
  | s :: r => by simp [bOv, bDeep, Stm.deep_ov kg kt s, bDeep_ov kg kt r]
end
theorem wsWf_ov {kg kt : Int} (hg : kg = 1 ∨ kg = -1) (ht : kt = 1 ∨ kt = -1) : ∀ {r : List Wrd}, wsWf r → wsWf (r.map (Wrd.ov kg kt))
  | [], _ => trivial
  | w :: r, h => by
    obtain ⟨h1, h2, h3, h4, h5⟩ := h
    refine ⟨bWf_ov hg ht _ h1, h2, by show bDeep (bOv kg kt w.body) ≤ 3; rw [bDeep_ov]; exact h3, fun x hx => ?_, wsWf_ov hg ht h5⟩
    obtain ⟨z, hz, rfl⟩ := List.mem_map.mp hx
    exact h4 z hz
theorem GP.ov {ws : List Wrd} {b : List Stm} {kg kt : Int} (hg : kg = 1 ∨ kg = -1) (ht : kt = 1 ∨ kt = -1) (g : GP ws b) : GP (ws.map (Wrd.ov kg kt)) (bOv kg kt b) :=
  ⟨by rw [← List.map_reverse]; exact wsWf_ov hg ht g.w, by rw [List.length_map]; exact g.l, bWf_ov hg ht b g.f, by rw [bDeep_ov]; exact g.d⟩
theorem run_mir {ws : List Wrd} {b : List Stm} {most : Int} (hm : most ≤ 50000) : runR (ws.map (Wrd.ov 1 (-1))) (bOv 1 (-1) b) most = mapR mirH (runR ws b most) := by
  unfold runR
  rw [dictW_ov]
  have h0 : mirH (hn0 most) = hn0 most := rfl
  have := iB_sim (f := mirH) (kt := -1) (S := iS 49) (iS_riv 49) (iS_sim mir_sim 49) b ⟨dictW ws, [], 0⟩ (hn0 most) (hn0_iv hm)
  rw [h0] at this
  exact this
/-! ### programs can be held against each other -/
theorem Amt.shp {tk : Nat} {a : Amt} (h : a.wf tk) : Shp 1 a.e := by
  cases a with
  | int i => exact .int _ _
  | cnt t m =>
    refine Shp.tuple fun x hx => ?_
    simp only [List.mem_cons, List.not_mem_nil, or_false] at hx
    rcases hx with rfl | rfl | rfl
    · exact .int _ _
    · exact .str _ (by decide +kernel)
    · exact .int _ _
  | num t j m =>
    refine Shp.tuple fun x hx => ?_
    simp only [List.mem_cons, List.not_mem_nil, or_false] at hx
    rcases hx with rfl | rfl | rfl
    · exact .int _ _
    · refine .str _ ?_
      have : j = 0 ∨ j = 1 ∨ j = 2 ∨ j = 3 := by have := h.2.2.2; omega
      rcases this with z | z | z | z <;> subst z <;> decide +kernel
    · exact .int _ _
theorem shp_cons {k : Nat} {x : D} {xs : List D} (h : Shp k x) (h' : ∀ y ∈ xs, Shp k y) : ∀ y ∈ x :: xs, Shp k y := fun y hy => (List.mem_cons.mp hy).elim (fun e => e ▸ h) (h' y)
theorem shp_nil {k : Nat} : ∀ y ∈ ([] : List D), Shp k y := fun _ h => nomatch h
mutual
theorem Stm.shp' {ws : List Wrd} {tk : Nat} (hw : ∀ x ∈ ws, PyData.canLay0 (.str x.name) = true) : ∀ (s : Stm), s.wf ws tk → Shp (3 + 2 * s.deep) s.e
  | .go a, w => by rw [Stm.wf] at w; rw [Stm.e]; exact (Shp.tuple (shp_cons (.str _ (by decide +kernel)) (shp_cons (Amt.shp w) shp_nil))).mono (by omega)
  | .turn a, w => by rw [Stm.wf] at w; rw [Stm.e]; exact (Shp.tuple (shp_cons (.str _ (by decide +kernel)) (shp_cons (Amt.shp w) shp_nil))).mono (by omega)
  | .ink a, w => by rw [Stm.wf] at w; rw [Stm.e]; exact (Shp.tuple (shp_cons (.str _ (by decide +kernel)) (shp_cons (Amt.shp w) shp_nil))).mono (by omega)
  | .up, _ => by rw [Stm.e]; exact (Shp.tuple (k := 0) (shp_cons (.str _ (by decide +kernel)) shp_nil)).mono (by omega)
  | .down, _ => by rw [Stm.e]; exact (Shp.tuple (k := 0) (shp_cons (.str _ (by decide +kernel)) shp_nil)).mono (by omega)
  | .mark n, _ => by rw [Stm.e]; exact (Shp.tuple (k := 0) (shp_cons (.str _ (by decide +kernel)) (shp_cons (.int _ _) shp_nil))).mono (by omega)
  | .back n, _ => by rw [Stm.e]; exact (Shp.tuple (k := 0) (shp_cons (.str _ (by decide +kernel)) (shp_cons (.int _ _) shp_nil))).mono (by omega)
  | .again a b, w => by
    rw [Stm.wf] at w
    rw [Stm.e]
    have h1 := bShp hw b w.2
    simp only [Stm.deep]
    exact (Shp.tuple (k := 4 + 2 * bDeep b) (shp_cons (.str _ (by decide +kernel)) (shp_cons ((Amt.shp w.1).mono (by omega)) (shp_cons (h1.mono (by omega)) shp_nil)))).mono (by omega)
  | .iff a b c, w => by
    rw [Stm.wf] at w
    rw [Stm.e]
    have h1 := bShp hw b w.2.1
    have h2 := bShp hw c w.2.2
    simp only [Stm.deep]
    exact (Shp.tuple (k := 4 + 2 * max (bDeep b) (bDeep c)) (shp_cons (.str _ (by decide +kernel)) (shp_cons ((Amt.shp w.1).mono (by omega)) (shp_cons (h1.mono (by omega)) (shp_cons (h2.mono (by omega)) shp_nil))))).mono (by omega)
  | .call n as, w => by
    rw [Stm.wf] at w
    rw [Stm.e]
    obtain ⟨⟨x, hx, e1, _⟩, q⟩ := w
    refine (Shp.tuple (k := 2) (shp_cons (.str _ (by decide +kernel)) (shp_cons (.str _ (by rw [← e1]; exact hw x hx)) (shp_cons (Shp.tuple fun y hy => ?_) shp_nil)))).mono (by omega)
    obtain ⟨a, ha, rfl⟩ := List.mem_map.mp hy
    exact Amt.shp (q a ha)
theorem bShp {ws : List Wrd} {tk : Nat} (hw : ∀ x ∈ ws, PyData.canLay0 (.str x.name) = true) : ∀ (b : List Stm), bWf ws tk b → Shp (4 + 2 * bDeep b) (.tuple (bE b))
  | [], _ => by rw [bE]; exact (Shp.tuple (k := 0) shp_nil).mono (by omega)
  | s :: r, w => by
    rw [bWf] at w
    have h1 := Stm.shp' hw s w.1
    have h2 := bShp hw r w.2
    rw [bE, bDeep]
    refine ⟨?_, ?_⟩
    · rw [PyData.canLay0, PyData.canLayAll0, h1.1, Bool.true_and]
      have := h2.1
      rw [PyData.canLay0] at this
      exact this
    · rw [PyData.depth, PyData.depthAll]
      have a1 := h1.2
      have a2 := h2.2
      rw [PyData.depth] at a2
      omega
end
theorem GP.shp {ws : List Wrd} {b : List Stm} (g : GP ws b) (hw : ∀ x ∈ ws, PyData.canLay0 (.str x.name) = true) : Shp 20 (progE ws b) := by
  have hb := bShp hw b g.f
  have hd := g.d
  refine Shp.tuple (shp_cons (Shp.mono (k := 18) (Shp.tuple fun y hy => ?_) (by decide)) (shp_cons (hb.mono (by omega)) shp_nil))
  obtain ⟨x, hx, rfl⟩ := List.mem_map.mp hy
  obtain ⟨r', _, _, k3, k4, _, k6⟩ := wsWf_at g.w (List.mem_reverse.mpr hx)
  have h1 := bShp (ws := r') (fun z hz => hw z (List.mem_reverse.mp (k6 z hz))) x.body k3
  exact Shp.tuple (k := 16) (shp_cons (.str _ (hw x hx)) (shp_cons (.int _ _) (shp_cons (h1.mono (by omega)) shp_nil)))
theorem names_ok {ws : List Wrd} (h : ws.map Wrd.name = wNames.take ws.length) : ∀ x ∈ ws, PyData.canLay0 (.str x.name) = true := fun x hx => by
  have hm : x.name ∈ wNames := by
    have : x.name ∈ wNames.take ws.length := by rw [← h]; exact List.mem_map.mpr ⟨x, hx, rfl⟩
    exact List.mem_of_mem_take this
  have key : ∀ z ∈ wNames, PyData.canLay0 (.str z) = true := by decide +kernel
  exact key _ hm
end Wk

/-! LA: programs with gos so many times over: their runs, and where none is too great. -/
namespace Wk
open PySem L2
/-- as iS, but a go is too great where so many times of it are -/
def iSk (k : Int) : Nat → Stm → Cl → Hn → Rn
  | 0, _, _, _ => .out
  | n + 1, s, c, y => if y.rest ≤ 0 then .exc "Stopped" y else match s with
    | .go a => if great (c.val a * k) then .exc "TooGreat" y.less else prim .go (c.val a) y.less
    | .turn a => if great (c.val a) then .exc "TooGreat" y.less else prim .turn (c.val a) y.less
    | .ink a => if great (c.val a) then .exc "TooGreat" y.less else prim .ink (c.val a) y.less
    | .up => prim .up 0 y.less
    | .down => prim .down 0 y.less
    | .mark i => prim .mark i y.less
    | .back i => prim .back i y.less
    | .again a b => if great (c.val a) then .exc "TooGreat" y.less else iAg (fun c y => iB (iSk k n) b c y) c (c.val a).toNat 0 y.less
    | .iff a b b' => if great (c.val a) then .exc "TooGreat" y.less else iB (iSk k n) (if c.val a ≤ 0 then b' else b) c y.less
    | .call w as => match vals c as with
      | none => .exc "TooGreat" y.less
      | some vs => match wGet c.ws w with
        | some b => iB (iSk k n) b ⟨c.ws, vs, 0⟩ y.less
        | none => .out
/-! ### scaled -/
def sclP (k : Int) (p : P4) : P4 := ⟨p.a * k, p.b * k, p.c * k, p.d * k⟩
def sclC (k : Int) (c : Cr) : Cr := { c with spot := sclP k c.spot }
def sclS (k : Int) (s : Stk) : Stk := ⟨s.ink, sclP k s.a, sclP k s.b⟩
def sclM (k : Int) (z : Int × (P4 × Int)) : Int × (P4 × Int) := (z.1, (sclP k z.2.1, z.2.2))
def sclT (k : Int) (t : Nt) : Nt := ⟨t.v, match t.v with | .go => t.i * k | _ => t.i, sclC k t.c⟩
def sclH (k : Int) (y : Hn) : Hn := ⟨sclC k y.c, y.turns, y.rest, y.marks.map (sclM k), y.strokes.map (sclS k), y.corners.map (sclP k), y.plain.map (sclT k)⟩
theorem mv_scl (k h t : Int) (p : P4) : mv h (t * k) (sclP k p) = sclP k (mv h t p) := by
  unfold mv sclP
  simp only [P4.mk.injEq, Int.add_mul]
  refine ⟨?_, ?_, ?_, ?_⟩ <;> rw [Int.mul_right_comm]
theorem mget_scl (k : Int) (m : Mks) (i : Int) : mget (m.map (sclM k)) i = (mget m i).map fun v => (sclP k v.1, v.2) := by
  unfold mget
  rw [List.find?_map]
  have : ((fun z : Int × (P4 × Int) => decide (z.1 = i)) ∘ sclM k) = fun z => decide (z.1 = i) := rfl
  rw [this]
  cases m.find? fun z => decide (z.1 = i) <;> rfl
theorem mput_scl (k : Int) (m : Mks) (i : Int) (v : P4 × Int) : mput (m.map (sclM k)) i (sclP k v.1, v.2) = (mput m i v).map (sclM k) := by
  unfold mput
  rw [List.any_map]
  have : ((fun z : Int × (P4 × Int) => decide (z.1 = i)) ∘ sclM k) = fun z => decide (z.1 = i) := rfl
  rw [this]
  split
  · rw [List.map_map, List.map_map]
    refine List.map_congr_left fun z _ => ?_
    simp only [Function.comp]
    by_cases e : z.1 = i
    · have e' : (sclM k z).1 = i := e
      rw [if_pos e', if_pos e]
      rfl
    · have e' : ¬ (sclM k z).1 = i := e
      rw [if_neg e', if_neg e]
  · rw [List.map_append]
    rfl
def sclV (k : Int) (v : Vb) (i : Int) : Int := match v with
  | .go => i * k
  | _ => i
theorem prim_scl {k : Int} (hk : 1 ≤ k) (v : Vb) (i : Int) (y : Hn) : prim v (sclV k v i) (sclH k y) = mapR (sclH k) (prim v i y) := by
  have nt : (sclH k y).note v (sclV k v i) = sclH k (y.note v i) := by
    unfold Hn.note sclH
    simp only [Hn.mk.injEq, true_and, List.map_append, List.map_cons, List.map_nil]
    unfold sclT
    cases v <;> simp [sclV]
  unfold prim
  rw [nt]
  have key : v.act (sclV k v i) (sclH k (y.note v i)) = (v.act i (y.note v i)).map (sclH k) := by
    generalize y.note v i = x at *
    cases v with
    | go =>
      simp only [Vb.act, Option.map_some, Option.some.injEq, sclV]
      have em := mv_scl k x.c.heading i x.c.spot
      unfold sclH
      simp only [Hn.mk.injEq, true_and, and_true]
      refine ⟨?_, ?_, ?_⟩
      · unfold sclC
        simp [em]
      · rw [List.map_append]
        congr 1
        show (if x.c.pen = true ∧ i * k ≠ 0 then [(⟨x.c.ink, sclP k x.c.spot, mv x.c.heading (i * k) (sclP k x.c.spot)⟩ : Stk)] else []) = _
        have hz : i * k ≠ 0 ↔ i ≠ 0 := by rw [Ne, Int.mul_eq_zero]; omega
        by_cases q : x.c.pen = true ∧ i ≠ 0
        · rw [if_pos q, if_pos ⟨q.1, hz.mpr q.2⟩]
          simp [sclS, em]
        · rw [if_neg q, if_neg fun z => q ⟨z.1, hz.mp z.2⟩]
          rfl
      · rw [List.map_append]
        simp [em, sclC]
    | turn => rfl
    | ink => rfl
    | up => rfl
    | down => rfl
    | mark =>
      simp only [Vb.act, Option.map_some, Option.some.injEq, sclV]
      unfold sclH
      simp only [Hn.mk.injEq, true_and, and_true]
      exact mput_scl k x.marks i (x.c.spot, x.c.heading)
    | back =>
      have hg : mget (sclH k x).marks i = (mget x.marks i).map fun v => (sclP k v.1, v.2) := mget_scl k x.marks i
      simp only [Vb.act, hg, sclV]
      cases mget x.marks i with
      | none => rfl
      | some v =>
        simp only [Option.map_some, Option.some.injEq]
        unfold sclH sclC
        simp
  rw [key]
  cases v.act i (y.note v i) <;> rfl
theorem iB_scl {f : Hn → Hn} {k : Int} {S S' : Stm → Cl → Hn → Rn} (hS : ∀ s c y, S' (s.ov k 1) (c.ov k 1) (f y) = mapR f (S s c y)) : ∀ (b : List Stm) (c : Cl) (y : Hn), iB S' (bOv k 1 b) (c.ov k 1) (f y) = mapR f (iB S b c y)
  | [], _, _ => by simp [bOv, iB, mapR]
  | s :: r, c, y => by
    rw [bOv, iB, iB, hS s c y]
    cases q : S s c y with
    | out => rfl
    | exc e z => rfl
    | ok z => exact iB_scl hS r c z
theorem iAg_scl {k : Int} {B B' : Cl → Hn → Rn} (hB : ∀ c y, B' (c.ov k 1) (sclH k y) = mapR (sclH k) (B c y)) (c : Cl) : ∀ (m j : Nat) (y : Hn), iAg B' (c.ov k 1) m j (sclH k y) = mapR (sclH k) (iAg B c m j y)
  | 0, _, _ => rfl
  | m + 1, j, y => by
    unfold iAg
    have hr0 : (sclH k y).rest = y.rest := rfl
    rw [hr0]
    by_cases hr : y.rest ≤ 0
    · rw [if_pos hr, if_pos hr]; rfl
    · rw [if_neg hr, if_neg hr]
      have e : ({ c.ov k 1 with ct := (j : Int) } : Cl) = ({ c with ct := (j : Int) } : Cl).ov k 1 := rfl
      have el : (sclH k y).less = sclH k y.less := rfl
      rw [e, el, hB]
      cases q : B { c with ct := (j : Int) } y.less with
      | out => rfl
      | exc e z => rfl
      | ok z => exact iAg_scl hB c m (j + 1) z
theorem iS_scl {k : Int} (hk : 1 ≤ k) : ∀ (n : Nat) (s : Stm) (c : Cl) (y : Hn), iS n (s.ov k 1) (c.ov k 1) (sclH k y) = mapR (sclH k) (iSk k n s c y)
  | 0, _, _, _ => rfl
  | n + 1, s, c, y => by
    have ih := fun b c y => iB_scl (f := sclH k) (S := iSk k n) (S' := iS n) (iS_scl hk n) b c y
    unfold iS iSk
    have hr0 : (sclH k y).rest = y.rest := rfl
    have el : (sclH k y).less = sclH k y.less := rfl
    rw [hr0]
    by_cases hr : y.rest ≤ 0
    · rw [if_pos hr, if_pos hr]; rfl
    · rw [if_neg hr, if_neg hr, el]
      have pr := fun v i => prim_scl hk v i y.less
      cases s with
      | go a =>
        simp only [Stm.ov, val_ov, val_mul]
        split
        · rfl
        · exact pr .go _
      | turn a =>
        simp only [Stm.ov, val_ov, mul_one]
        split
        · rfl
        · exact pr .turn _
      | ink a =>
        simp only [Stm.ov, val_ov]
        split
        · rfl
        · exact pr .ink _
      | up => simp only [Stm.ov]; exact pr .up 0
      | down => simp only [Stm.ov]; exact pr .down 0
      | mark i => simp only [Stm.ov]; exact pr .mark i
      | back i => simp only [Stm.ov]; exact pr .back i
      | again a b =>
        simp only [Stm.ov, val_ov]
        split
        · rfl
        · exact iAg_scl (fun c y => ih b c y) c _ _ _
      | iff a b b' =>
        simp only [Stm.ov, val_ov]
        split
        · rfl
        · split
          · exact ih b' c _
          · exact ih b c _
      | call w as =>
        simp only [Stm.ov, vals_ov]
        cases q : vals c as with
        | none => rfl
        | some vs =>
          dsimp only
          have hg : wGet (c.ov k 1).ws w = (wGet c.ws w).map (bOv k 1) := wGet_ov k 1 c.ws w
          rw [hg]
          cases q2 : wGet c.ws w with
          | none => rfl
          | some b => exact ih b ⟨c.ws, vs, 0⟩ _
/-! ### where the two go alike -/
theorem iB_eq {S S' : Stm → Cl → Hn → Rn} {c : Cl} (J : Hn → Prop) : ∀ {b : List Stm} {y : Hn}, J y → (∀ s ∈ b, ∀ y, J y → S' s c y = S s c y) → (∀ s ∈ b, ∀ y z, J y → S s c y = .ok z → J z) → iB S' b c y = iB S b c y
  | [], _, _, _, _ => rfl
  | s :: r, y, h, he, hn => by
    unfold iB
    rw [he s List.mem_cons_self y h]
    cases q : S s c y with
    | out => rfl
    | exc e z => rfl
    | ok z => exact iB_eq J (hn s List.mem_cons_self y z h q) (fun t ht => he t (List.mem_cons_of_mem _ ht)) fun t ht => hn t (List.mem_cons_of_mem _ ht)
theorem iAg_eq {B B' : Cl → Hn → Rn} {c : Cl} (I : Nat → Hn → Prop) : ∀ (m j : Nat) {y : Hn}, I j y → (∀ i y, j ≤ i → i < j + m → ¬ y.rest ≤ 0 → I i y → B' { c with ct := (i : Int) } y.less = B { c with ct := (i : Int) } y.less) → (∀ i y z, j ≤ i → i < j + m → ¬ y.rest ≤ 0 → I i y → B { c with ct := (i : Int) } y.less = .ok z → I (i + 1) z) → iAg B' c m j y = iAg B c m j y
  | 0, _, _, _, _, _ => rfl
  | m + 1, j, y, h, he, hn => by
    unfold iAg
    by_cases hr : y.rest ≤ 0
    · rw [if_pos hr, if_pos hr]
    · rw [if_neg hr, if_neg hr, he j y (Nat.le_refl _) (by omega) hr h]
      cases q : B { c with ct := (j : Int) } y.less with
      | out => rfl
      | exc e z => rfl
      | ok z => exact iAg_eq I m (j + 1) (hn j y z (Nat.le_refl _) (by omega) hr h q) (fun i y h1 h2 => he i y (by omega) (by omega)) fun i y z h1 h2 => hn i y z (by omega) (by omega)
/-- deeds are used up -/
def rle (r : Int) : Rn → Prop
  | .ok z => z.rest ≤ r
  | _ => True
theorem prim_rest {v : Vb} {i : Int} {y z : Hn} (e : prim v i y = .ok z) : z.rest = y.rest := by
  unfold prim at e
  split at e
  · rename_i w q
    cases e
    exact (act_len q).1
  · cases e
theorem iB_rest {S : Stm → Cl → Hn → Rn} (hS : ∀ s c y, rle y.rest (S s c y)) : ∀ (b : List Stm) (c : Cl) (y : Hn), rle y.rest (iB S b c y)
  | [], _, y => Int.le_refl _
  | s :: r, c, y => by
    unfold iB
    have h1 := hS s c y
    cases q : S s c y with
    | out => trivial
    | exc e z => trivial
    | ok z =>
      rw [q] at h1
      have h2 := iB_rest hS r c z
      show rle y.rest (iB S r c z)
      cases q2 : iB S r c z with
      | out => trivial
      | exc e w => trivial
      | ok w =>
        rw [q2] at h2
        exact Int.le_trans h2 h1
/-- each round of an again is a deed -/
theorem iAg_rest {B : Cl → Hn → Rn} (hB : ∀ c y, rle y.rest (B c y)) (c : Cl) : ∀ (m j : Nat) (y : Hn), rle (y.rest - m) (iAg B c m j y)
  | 0, _, y => by show y.rest ≤ y.rest - 0; omega
  | m + 1, j, y => by
    unfold iAg
    split
    · trivial
    · have h1 := hB { c with ct := (j : Int) } y.less
      cases q : B { c with ct := (j : Int) } y.less with
      | out => trivial
      | exc e z => trivial
      | ok z =>
        rw [q] at h1
        have h2 := iAg_rest hB c m (j + 1) z
        show rle _ (iAg B c m (j + 1) z)
        cases q2 : iAg B c m (j + 1) z with
        | out => trivial
        | exc e w => trivial
        | ok w =>
          rw [q2] at h2
          have h1' : z.rest ≤ y.rest - 1 := h1
          have h2' : w.rest ≤ z.rest - m := h2
          show w.rest ≤ y.rest - (m + 1 : Nat)
          omega
theorem iS_rest : ∀ (n : Nat) (s : Stm) (c : Cl) (y : Hn), rle (y.rest - 1) (iS n s c y)
  | 0, _, _, _ => trivial
  | n + 1, s, c, y => by
    have ih' : ∀ s c y, rle y.rest (iS n s c y) := fun s c y => by
      have := iS_rest n s c y
      cases q : iS n s c y with
      | out => trivial
      | exc e z => trivial
      | ok z => rw [q] at this; show z.rest ≤ y.rest; have : z.rest ≤ y.rest - 1 := this; omega
    have ih := fun b c y => iB_rest (S := iS n) ih' b c y
    have hp : ∀ v i, rle (y.rest - 1) (prim v i y.less) := fun v i => by
      cases q : prim v i y.less with
      | out => trivial
      | exc e z => trivial
      | ok z => show z.rest ≤ _; rw [prim_rest q]; exact Int.le_refl _
    unfold iS
    split
    · trivial
    · cases s with
      | go a => dsimp only; split; trivial; exact hp _ _
      | turn a => dsimp only; split; trivial; exact hp _ _
      | ink a => dsimp only; split; trivial; exact hp _ _
      | up => exact hp _ _
      | down => exact hp _ _
      | mark i => exact hp _ _
      | back i => exact hp _ _
      | again a b =>
        dsimp only
        split
        · trivial
        · have := iAg_rest (fun c y => ih b c y) c (c.val a).toNat 0 y.less
          cases q : iAg (fun c y => iB (iS n) b c y) c (c.val a).toNat 0 y.less with
          | out => trivial
          | exc e z => trivial
          | ok z =>
            rw [q] at this
            have t : z.rest ≤ y.rest - 1 - ((c.val a).toNat : Int) := this
            show z.rest ≤ y.rest - 1
            omega
      | iff a b b' => dsimp only; split; trivial; exact ih _ _ _
      | call w as =>
        dsimp only
        split
        · trivial
        · split
          · exact ih _ _ _
          · trivial
theorem again_rest {n : Nat} {a : Amt} {b : List Stm} {c : Cl} {y z : Hn} (e : iS (n + 1) (.again a b) c y = .ok z) : z.rest ≤ y.rest - 1 - c.val a := by
  have ih' : ∀ s c y, rle y.rest (iS n s c y) := fun s c y => by
    have := iS_rest n s c y
    cases q : iS n s c y with
    | out => trivial
    | exc e z => trivial
    | ok z => rw [q] at this; show z.rest ≤ y.rest; have : z.rest ≤ y.rest - 1 := this; omega
  have := iAg_rest (fun c y => iB_rest (S := iS n) ih' b c y) c (c.val a).toNat 0 y.less
  unfold iS at e
  split at e
  · cases e
  · dsimp only at e
    split at e
    · cases e
    · rw [e] at this
      have t : z.rest ≤ y.rest - 1 - ((c.val a).toNat : Int) := this
      omega
theorem iS_mono {n : Nat} {s : Stm} {c : Cl} {y z : Hn} (e : iS n s c y = .ok z) : z.rest ≤ y.rest - 1 := by
  have := iS_rest n s c y
  rw [e] at this
  exact this
theorem iB_mono {n : Nat} {b : List Stm} {c : Cl} {y z : Hn} (e : iB (iS n) b c y = .ok z) : z.rest ≤ y.rest := by
  have := iB_rest (S := iS n) (fun s c y => by
    have := iS_rest n s c y
    cases q : iS n s c y with
    | out => trivial
    | exc e z => trivial
    | ok z => rw [q] at this; show z.rest ≤ y.rest; have : z.rest ≤ y.rest - 1 := this; omega) b c y
  rw [e] at this
  exact this
/-- one statement -/
theorem iSk_step {k : Int} {n : Nat} {s : Stm} {c : Cl} {y : Hn} (hgo : ∀ a, s = .go a → ¬ y.rest ≤ 0 → great (c.val a * k) = great (c.val a)) (hag : ∀ a b, s = .again a b → ¬ y.rest ≤ 0 → great (c.val a) = false → iAg (fun c y => iB (iSk k n) b c y) c (c.val a).toNat 0 y.less = iAg (fun c y => iB (iS n) b c y) c (c.val a).toNat 0 y.less)
    (hif : ∀ a b b', s = .iff a b b' → ¬ y.rest ≤ 0 → great (c.val a) = false → iB (iSk k n) (if c.val a ≤ 0 then b' else b) c y.less = iB (iS n) (if c.val a ≤ 0 then b' else b) c y.less)
    (hca : ∀ w as vs b, s = .call w as → ¬ y.rest ≤ 0 → vals c as = some vs → wGet c.ws w = some b → iB (iSk k n) b ⟨c.ws, vs, 0⟩ y.less = iB (iS n) b ⟨c.ws, vs, 0⟩ y.less) : iSk k (n + 1) s c y = iS (n + 1) s c y := by
  unfold iSk iS
  by_cases hr : y.rest ≤ 0
  · rw [if_pos hr, if_pos hr]
  · rw [if_neg hr, if_neg hr]
    cases s with
    | go a => dsimp only; rw [hgo a rfl hr]
    | turn a => rfl
    | ink a => rfl
    | up => rfl
    | down => rfl
    | mark i => rfl
    | back i => rfl
    | again a b =>
      dsimp only
      cases q : great (c.val a) with
      | true => rfl
      | false => simp only [Bool.false_eq_true, if_false]; exact hag a b rfl hr q
    | iff a b b' =>
      dsimp only
      cases q : great (c.val a) with
      | true => rfl
      | false => simp only [Bool.false_eq_true, if_false]; exact hif a b b' rfl hr q
    | call w as =>
      dsimp only
      cases q : vals c as with
      | none => rfl
      | some vs =>
        dsimp only
        cases q2 : wGet c.ws w with
        | none => rfl
        | some b => exact hca w as vs b rfl hr q q2
theorem great_mul {v k : Int} (hk : 1 ≤ k) (h : v.natAbs * k.natAbs ≤ 1000000) : great (v * k) = great v := by
  unfold great
  have e : (v * k).natAbs = v.natAbs * k.natAbs := Int.natAbs_mul v k
  have e2 : v.natAbs ≤ v.natAbs * k.natAbs := Nat.le_mul_of_pos_right _ (by omega)
  rw [e, decide_eq_false (by omega), decide_eq_false (by omega)]
end Wk

/-! LA2: bounds of what gos come to. -/
namespace Wk
open PySem L2
/-! ### by the corners -/
def near (F : Int) (p q : P4) : Prop := ((q.a - p.a).natAbs ≤ F ∧ (q.b - p.b).natAbs ≤ F) ∧ (q.c - p.c).natAbs ≤ F ∧ (q.d - p.d).natAbs ≤ F
def adj (F : Int) : List P4 → Prop
  | p :: q :: r => near F p q ∧ adj F (q :: r)
  | _ => True
theorem adj_pre (F : Int) : ∀ (l m : List P4), adj F (l ++ m) → adj F l
  | [], _, _ => trivial
  | [p], _, _ => trivial
  | p :: q :: r, m, h => ⟨h.1, adj_pre F (q :: r) m h.2⟩
theorem adj_last (F : Int) (p q : P4) : ∀ l : List P4, adj F (l ++ [p] ++ [q]) → near F p q
  | [], h => h.1
  | [x], h => h.2.1
  | x :: y :: r, h => adj_last F p q (y :: r) h.2
def lastI (y : Hn) : Prop := ∃ l, y.corners = l ++ [y.c.spot]
def pre (y : Hn) : Rn → Prop
  | .ok z => (∃ m, z.corners = y.corners ++ m) ∧ lastI z
  | .exc _ z => ∃ m, z.corners = y.corners ++ m
  | .out => True
def fin (F : Int) : Rn → Prop
  | .ok z => adj F z.corners
  | .exc _ z => adj F z.corners
  | .out => False
theorem prim_pre {v : Vb} {i : Int} {y : Hn} (h : lastI y) : pre y (prim v i y) := by
  unfold prim
  have hn : lastI (y.note v i) := h
  have hc : (y.note v i).corners = y.corners := rfl
  cases q : v.act i (y.note v i) with
  | none => exact ⟨[], by rw [List.append_nil]; rfl⟩
  | some z =>
    show (∃ m, z.corners = y.corners ++ m) ∧ lastI z
    generalize y.note v i = x at *
    rw [← hc]
    cases v with
    | go => cases q; exact ⟨⟨_, rfl⟩, _, rfl⟩
    | turn => cases q; exact ⟨⟨[], by simp⟩, hn⟩
    | ink => cases q; exact ⟨⟨[], by simp⟩, hn⟩
    | up => cases q; exact ⟨⟨[], by simp⟩, hn⟩
    | down => cases q; exact ⟨⟨[], by simp⟩, hn⟩
    | mark => cases q; exact ⟨⟨[], by simp⟩, hn⟩
    | back =>
      cases hv : mget x.marks i with
      | none => simp only [Vb.act, hv] at q; cases q
      | some v =>
        simp only [Vb.act, hv] at q
        cases q
        exact ⟨⟨_, rfl⟩, _, rfl⟩
theorem pre_self {y : Hn} (e : Str) : pre y (.exc e y) := ⟨[], by simp⟩
theorem pre_less {y : Hn} {r : Rn} (h : pre y.less r) : pre y r := h
theorem pre_tr {y z : Hn} (h : ∃ m, z.corners = y.corners ++ m) {r : Rn} (k : pre z r) : pre y r := by
  obtain ⟨m, e⟩ := h
  cases r with
  | out => trivial
  | ok w =>
    obtain ⟨⟨m2, e2⟩, k2⟩ := k
    exact ⟨⟨m ++ m2, by rw [e2, e, List.append_assoc]⟩, k2⟩
  | exc s w =>
    obtain ⟨m2, e2⟩ := k
    exact ⟨m ++ m2, by rw [e2, e, List.append_assoc]⟩
theorem iB_pre {S : Stm → Cl → Hn → Rn} (hS : ∀ s c y, lastI y → pre y (S s c y)) : ∀ (b : List Stm) (c : Cl) (y : Hn), lastI y → pre y (iB S b c y)
  | [], _, y, h => ⟨⟨[], by simp⟩, h⟩
  | s :: r, c, y, h => by
    unfold iB
    have h1 := hS s c y h
    cases q : S s c y with
    | out => trivial
    | exc e z => rw [q] at h1; exact h1
    | ok z => rw [q] at h1; exact pre_tr h1.1 (iB_pre hS r c z h1.2)
theorem iAg_pre {B : Cl → Hn → Rn} (hB : ∀ c y, lastI y → pre y (B c y)) (c : Cl) : ∀ (m j : Nat) (y : Hn), lastI y → pre y (iAg B c m j y)
  | 0, _, y, h => ⟨⟨[], by simp⟩, h⟩
  | m + 1, j, y, h => by
    unfold iAg
    split
    · exact pre_self _
    · have h1 := hB { c with ct := (j : Int) } y.less h
      cases q : B { c with ct := (j : Int) } y.less with
      | out => trivial
      | exc e z => rw [q] at h1; exact h1
      | ok z => rw [q] at h1; exact pre_tr h1.1 (iAg_pre hB c m (j + 1) z h1.2)
theorem iS_pre : ∀ (n : Nat) (s : Stm) (c : Cl) (y : Hn), lastI y → pre y (iS n s c y)
  | 0, _, _, _, _ => trivial
  | n + 1, s, c, y, h => by
    have ih := fun b c y => iB_pre (S := iS n) (iS_pre n) b c y
    have hl : lastI y.less := h
    have hp : ∀ v i, pre y (prim v i y.less) := fun v i => prim_pre hl
    unfold iS
    split
    · exact pre_self _
    · cases s with
      | go a => dsimp only; split; exact pre_self (y := y.less) "TooGreat"; exact hp _ _
      | turn a => dsimp only; split; exact pre_self (y := y.less) "TooGreat"; exact hp _ _
      | ink a => dsimp only; split; exact pre_self (y := y.less) "TooGreat"; exact hp _ _
      | up => exact hp _ _
      | down => exact hp _ _
      | mark i => exact hp _ _
      | back i => exact hp _ _
      | again a b => dsimp only; split; exact pre_self (y := y.less) "TooGreat"; exact iAg_pre (fun c y hy => ih b c y hy) c _ _ y.less hl
      | iff a b b' => dsimp only; split; exact pre_self (y := y.less) "TooGreat"; exact ih _ _ y.less hl
      | call w as =>
        dsimp only
        split
        · exact pre_self (y := y.less) "TooGreat"
        · split
          · exact ih _ _ y.less hl
          · trivial
theorem fin_first {F : Int} {z : Hn} {r : Rn} (h : pre z r) (f : fin F r) : adj F z.corners := by
  cases r with
  | out => exact f.elim
  | ok w => obtain ⟨⟨m, e⟩, _⟩ := h; have f : adj F w.corners := f; rw [e] at f; exact adj_pre F _ _ f
  | exc s w => obtain ⟨m, e⟩ := h; have f : adj F w.corners := f; rw [e] at f; exact adj_pre F _ _ f
theorem iB_far {F : Int} {S S' : Stm → Cl → Hn → Rn} (hP : ∀ s c y, lastI y → pre y (S s c y)) (hV : ∀ s c y, y.iv → riv (S s c y)) (hS : ∀ s c y, lastI y → y.iv → fin F (S s c y) → S' s c y = S s c y) : ∀ (b : List Stm) (c : Cl) (y : Hn), lastI y → y.iv → fin F (iB S b c y) → iB S' b c y = iB S b c y
  | [], _, _, _, _, _ => rfl
  | s :: r, c, y, h, v, f => by
    unfold iB at f ⊢
    have h1 := hP s c y h
    have h2 := hS s c y h v
    have h3 := hV s c y v
    cases q : S s c y with
    | out => rw [q] at f; exact f.elim
    | exc e z => rw [q] at f h2; rw [h2 f]; rfl
    | ok z =>
      rw [q] at f h1 h2 h3
      have p2 := iB_pre hP r c z h1.2
      rw [h2 (fin_first p2 f)]
      exact iB_far hP hV hS r c z h1.2 h3 f
theorem iAg_far {F : Int} {B B' : Cl → Hn → Rn} (hP : ∀ c y, lastI y → pre y (B c y)) (hV : ∀ c y, y.iv → riv (B c y)) (hB : ∀ c y, lastI y → y.iv → fin F (B c y) → B' c y = B c y) (c : Cl) : ∀ (m j : Nat) (y : Hn), lastI y → y.iv → fin F (iAg B c m j y) → iAg B' c m j y = iAg B c m j y
  | 0, _, _, _, _, _ => rfl
  | m + 1, j, y, h, v, f => by
    unfold iAg at f ⊢
    by_cases hr : y.rest ≤ 0
    · rw [if_pos hr, if_pos hr]
    · rw [if_neg hr] at f ⊢
      rw [if_neg hr]
      have h1 := hP { c with ct := (j : Int) } y.less h
      have h2 := hB { c with ct := (j : Int) } y.less h (v.less hr)
      have h3 := hV { c with ct := (j : Int) } y.less (v.less hr)
      cases q : B { c with ct := (j : Int) } y.less with
      | out => rw [q] at f; exact f.elim
      | exc e z => rw [q] at f h2; rw [h2 f]; rfl
      | ok z =>
        rw [q] at f h1 h2 h3
        have p2 := iAg_pre hP c m (j + 1) z h1.2
        rw [h2 (fin_first p2 f)]
        exact iAg_far hP hV hB c m (j + 1) z h1.2 h3 f
theorem near_mv {F h t : Int} {p : P4} (h0 : 0 ≤ h) (h1 : h < 8) (n : near F p (mv h t p)) : (t.natAbs : Int) ≤ F := by
  unfold near at n
  rcases heads h0 h1 with z | z | z | z | z | z | z | z <;> subst z <;> simp [mv, xa, xb, ya, yb] at n <;> omega
theorem iS_far {F k : Int} (hk : 1 ≤ k) (hF : F * k ≤ 1000000 ∨ k = 1) : ∀ (n : Nat) (s : Stm) (c : Cl) (y : Hn), lastI y → y.iv → fin F (iS n s c y) → iSk k n s c y = iS n s c y
  | 0, _, _, _, _, _, _ => rfl
  | n + 1, s, c, y, h, v, f => by
    have ih := fun b c y => iB_far (F := F) (S := iS n) (S' := iSk k n) (iS_pre n) (iS_riv n) (iS_far hk hF n) b c y
    by_cases hr0 : y.rest ≤ 0
    · unfold iSk iS
      rw [if_pos hr0, if_pos hr0]
    refine iSk_step (fun a e hr => ?_) (fun a b e hr hg => ?_) (fun a b b' e hr hg => ?_) (fun w as vs b e hr ev ew => ?_)
    · subst e
      unfold iS at f
      rw [if_neg hr] at f
      dsimp only at f
      cases q : great (c.val a) with
      | true =>
        unfold great at q ⊢
        have q := of_decide_eq_true q
        refine decide_eq_true ?_
        rw [Int.natAbs_mul]
        have : (c.val a).natAbs ≤ (c.val a).natAbs * k.natAbs := Nat.le_mul_of_pos_right _ (by omega)
        omega
      | false =>
        rw [q] at f
        have f : adj F (y.corners ++ [mv y.c.heading (c.val a) y.c.spot]) := f
        obtain ⟨l, el⟩ := h
        rw [el] at f
        have nr := near_mv v.o.h0 v.o.h1 (adj_last F _ _ l f)
        unfold great at q ⊢
        have q := of_decide_eq_false q
        refine decide_eq_false ?_
        rcases hF with hF | hF
        · have : (c.val a).natAbs * k.natAbs ≤ 1000000 := by
            have e1 : ((c.val a).natAbs : Int) * k ≤ F * k := Int.mul_le_mul_of_nonneg_right nr (by omega)
            have e2 : (k.natAbs : Int) = k := by omega
            have e3 : (((c.val a).natAbs * k.natAbs : Nat) : Int) = ((c.val a).natAbs : Int) * k := by rw [Int.natCast_mul, e2]
            omega
          rw [Int.natAbs_mul]
          omega
        · subst hF
          rw [Int.mul_one]
          exact q
    · subst e
      unfold iS at f
      rw [if_neg hr] at f
      dsimp only at f
      rw [hg] at f
      simp only [Bool.false_eq_true, if_false] at f
      exact iAg_far (fun c y hy => iB_pre (iS_pre n) b c y hy) (fun c y hy => iB_riv (iS_riv n) b c y hy) (fun c y hy hv hf => ih b c y hy hv hf) c _ _ _ h (v.less hr) f
    · subst e
      unfold iS at f
      rw [if_neg hr] at f
      dsimp only at f
      rw [hg] at f
      simp only [Bool.false_eq_true, if_false] at f
      exact ih _ c _ h (v.less hr) f
    · subst e
      unfold iS at f
      rw [if_neg hr] at f
      dsimp only at f
      rw [ev] at f
      dsimp only at f
      rw [ew] at f
      exact ih b _ _ h (v.less hr) f
end Wk

/-! LA3: bounds by the amounts. -/
namespace Wk
open PySem L2
def lim : Nat → Nat → Nat
  | 0, A => 3 * A + 3
  | j + 1, A => lim j (3 * A + 3)
theorem lim_ge : ∀ (j A : Nat), 3 * A + 3 ≤ lim j A
  | 0, A => Nat.le_refl _
  | j + 1, A => by
    have := lim_ge j (3 * A + 3)
    rw [lim]
    omega
theorem lim_mono : ∀ (j : Nat) {A B : Nat}, A ≤ B → lim j A ≤ lim j B
  | 0, A, B, h => by rw [lim, lim]; omega
  | j + 1, A, B, h => by rw [lim, lim]; exact lim_mono j (by omega)
theorem lim_up : ∀ (j A : Nat), lim j A ≤ lim (j + 1) A
  | j, A => by rw [lim]; exact lim_mono j (by omega)
theorem lim_le {i j : Nat} (h : i ≤ j) (A : Nat) : lim i A ≤ lim j A := by
  induction h with
  | refl => exact Nat.le_refl _
  | step _ ih => exact Nat.le_trans ih (lim_up _ _)
theorem tri {t x m : Int} {A : Nat} (ht : -3 ≤ t ∧ t ≤ 3) (hm : -3 ≤ m ∧ m ≤ 3) (hx : x.natAbs ≤ A) : (t * x + m).natAbs ≤ 3 * A + 3 := by
  have : t = -3 ∨ t = -2 ∨ t = -1 ∨ t = 0 ∨ t = 1 ∨ t = 2 ∨ t = 3 := by omega
  rcases this with z | z | z | z | z | z | z <;> subst z <;> omega
theorem val_bd {c : Cl} {a : Amt} {A : Nat} (h : a.sml) (hn : ∀ i, (c.ns.getD i 0).natAbs ≤ A) (hc : c.ct.natAbs ≤ A) (h2 : 2 ≤ A) : (c.val a).natAbs ≤ 3 * A + 3 := by
  cases a with
  | int i =>
    have h : -9 ≤ i ∧ i ≤ 9 := h
    show i.natAbs ≤ _
    omega
  | cnt t m => exact tri h.1 h.2 hc
  | num t j m => exact tri h.1 h.2 (hn j)
theorem vals_bd {c : Cl} {A : Nat} (hv : ∀ a : Amt, a.sml → (c.val a).natAbs ≤ A) : ∀ {as : List Amt} {vs : List Int}, (∀ a ∈ as, a.sml) → vals c as = some vs → ∀ i, (vs.getD i 0).natAbs ≤ A
  | [], vs, _, e, i => by cases e; simp
  | a :: r, vs, h, e, i => by
    unfold vals at e
    split at e
    · cases e
    · cases q : vals c r with
      | none => rw [q] at e; cases e
      | some ws =>
        rw [q] at e
        cases e
        cases i with
        | zero => exact hv a (h a List.mem_cons_self)
        | succ j => exact vals_bd hv (fun b hb => h b (List.mem_cons_of_mem _ hb)) q j
theorem bSml_mem {s : Stm} : ∀ {b : List Stm}, bSml b → s ∈ b → s.sml
  | t :: b, w, h => by
    rw [bSml] at w
    rcases List.mem_cons.mp h with e | e
    · subst e; exact w.1
    · exact bSml_mem w.2 e
theorem go_eq {k v : Int} {B : Nat} (hk : 1 ≤ k) (hv : v.natAbs ≤ B) (hB : B * k.natAbs ≤ 1000000) : great (v * k) = great v := great_mul hk (Nat.le_trans (Nat.mul_le_mul_right _ hv) hB)
theorem iB_le {k : Int} {n : Nat} {b : List Stm} {c : Cl} {y : Hn} {R : Int} (hy : y.rest ≤ R) (h : ∀ s ∈ b, ∀ y, y.rest ≤ R → iSk k n s c y = iS n s c y) : iB (iSk k n) b c y = iB (iS n) b c y :=
  iB_eq (S := iS n) (S' := iSk k n) (fun y => y.rest ≤ R) hy h fun s hs y z hy e => by have := iS_mono e; omega
/-- in a word: numbers and count up to A -/
theorem words_eq {k : Int} (hk : 1 ≤ k) : ∀ (n : Nat) (s : Stm) (c : Cl) (y : Hn) (r : List Wrd) (tk A : Nat), wsWf r → (∀ x ∈ r, wGet c.ws x.name = some x.body ∧ bSml x.body) → s.wf r tk → s.sml → (∀ i, (c.ns.getD i 0).natAbs ≤ A) → c.ct.natAbs ≤ A → 300 ≤ A → y.rest ≤ 300 → lim r.length A * k.natAbs ≤ 1000000 → iSk k n s c y = iS n s c y
  | 0, _, _, _, _, _, _, _, _, _, _, _, _, _, _, _ => rfl
  | n + 1, s, c, y, r, tk, A, wr, hw, wf, sm, hn, hc, hA, hy, hl => by
    have hv : ∀ a : Amt, a.sml → (c.val a).natAbs ≤ 3 * A + 3 := fun a ha => val_bd ha hn hc (by omega)
    have body : ∀ (b : List Stm) (j : Int) (z : Hn), j.natAbs ≤ A → z.rest ≤ 300 → bWf r tk b → bSml b → iB (iSk k n) b { c with ct := j } z = iB (iS n) b { c with ct := j } z := fun b j z hj hz wb sb => iB_le hz fun t ht w hw' => words_eq hk n t { c with ct := j } w r tk A wr hw (bWf_mem wb ht) (bSml_mem sb ht) hn hj hA hw' hl
    refine iSk_step (fun a e hr => ?_) (fun a b e hr hg => ?_) (fun a b b' e hr hg => ?_) (fun w as vs b e hr ev ew => ?_)
    · subst e
      rw [Stm.sml] at sm
      exact go_eq hk (Nat.le_trans (hv a sm) (lim_ge _ _)) hl
    · subst e
      rw [Stm.sml] at sm
      rw [Stm.wf] at wf
      have hy1 : y.less.rest = y.rest - 1 := rfl
      exact iAg_eq (fun i z => (i : Int) + z.rest ≤ 300) _ 0 (show ((0 : Nat) : Int) + y.less.rest ≤ 300 by rw [hy1]; omega) (fun i z _ _ hr' hI => by
        have hI : (i : Int) + z.rest ≤ 300 := hI
        exact body b i z.less (by omega) (by show z.rest - 1 ≤ 300; omega) wf.2 sm.2) fun i z w _ _ hr' hI e => by
        have hI : (i : Int) + z.rest ≤ 300 := hI
        have : w.rest ≤ z.rest - 1 := iB_mono e
        show ((i + 1 : Nat) : Int) + w.rest ≤ 300
        omega
    · subst e
      rw [Stm.sml] at sm
      rw [Stm.wf] at wf
      have hy1 : y.less.rest ≤ 300 := by show y.rest - 1 ≤ 300; omega
      split
      · exact body b' c.ct y.less hc hy1 wf.2.2 sm.2.2
      · exact body b c.ct y.less hc hy1 wf.2.1 sm.2.1
    · subst e
      rw [Stm.sml] at sm
      rw [Stm.wf] at wf
      obtain ⟨⟨x, hx, hxn, hxm⟩, _⟩ := wf
      have hg := (hw x hx).1
      rw [hxn, ew] at hg
      cases hg
      obtain ⟨r', k1, k2, k3, k4, k5, k6⟩ := wsWf_at wr hx
      have hy1 : y.less.rest ≤ 300 := by show y.rest - 1 ≤ 300; omega
      have hl' : lim r'.length (3 * A + 3) * k.natAbs ≤ 1000000 := Nat.le_trans (Nat.mul_le_mul_right _ (lim_le (show r'.length + 1 ≤ r.length from k2) A)) hl
      exact iB_le hy1 fun t ht w hw' => words_eq hk n t ⟨c.ws, vs, 0⟩ w r' x.many (3 * A + 3) k1 (fun z hz => hw z (k6 z hz)) (bWf_mem k3 ht) (bSml_mem (hw x hx).2 ht) (vals_bd hv sm ev) (by show (0 : Int).natAbs ≤ _; simp) (by omega) hw' hl'
/-! ### the own body, where count stays below 151 -/
structure OwnC (k : Int) (r : List Wrd) (W : List (Str × List Stm)) : Prop where
  hk : 1 ≤ k
  wr : wsWf r
  hw : ∀ x ∈ r, wGet W x.name = some x.body ∧ bSml x.body
  hl : lim r.length 150 * k.natAbs ≤ 1000000
abbrev clO (W : List (Str × List Stm)) (j : Int) : Cl := ⟨W, [], j⟩
theorem own_val {r : List Wrd} {W : List (Str × List Stm)} {a : Amt} {j : Int} {C : Nat} (sm : a.sml) (hj : j.natAbs ≤ C) (h2 : 2 ≤ C) : ((clO W j).val a).natAbs ≤ 3 * C + 3 := val_bd sm (fun i => by show (([] : List Int).getD i 0).natAbs ≤ C; simp) hj h2
section
variable {k : Int} {r : List Wrd} {W : List (Str × List Stm)}
theorem own_go (O : OwnC k r W) {a : Amt} {j : Int} (sm : a.sml) (hj : j.natAbs ≤ 150) : great ((clO W j).val a * k) = great ((clO W j).val a) := go_eq O.hk (Nat.le_trans (own_val (r := r) sm hj (by omega)) (lim_ge r.length 150)) O.hl
theorem own_call (O : OwnC k r W) {n : Nat} {w : Str} {as : List Amt} {vs : List Int} {b : List Stm} {j : Int} {y : Hn} (wf : (Stm.call w as).wf r 0) (sm : (Stm.call w as).sml) (hj : j.natAbs ≤ 150) (hy : y.rest ≤ 300) (ev : vals (clO W j) as = some vs) (ew : wGet W w = some b) : iB (iSk k n) b ⟨W, vs, 0⟩ y.less = iB (iS n) b ⟨W, vs, 0⟩ y.less := by
  rw [Stm.sml] at sm
  rw [Stm.wf] at wf
  obtain ⟨⟨x, hx, hxn, hxm⟩, _⟩ := wf
  have hg := (O.hw x hx).1
  rw [hxn, ew] at hg
  cases hg
  obtain ⟨r', k1, k2, k3, k4, k5, k6⟩ := wsWf_at O.wr hx
  have hy1 : y.less.rest ≤ 300 := by show y.rest - 1 ≤ 300; omega
  have hl' : lim r'.length (3 * 150 + 3) * k.natAbs ≤ 1000000 := Nat.le_trans (Nat.mul_le_mul_right _ (lim_le (show r'.length + 1 ≤ r.length from k2) 150)) O.hl
  exact iB_le hy1 fun t ht w hw' => words_eq O.hk n t ⟨W, vs, 0⟩ w r' x.many (3 * 150 + 3) k1 (fun z hz => O.hw z (k6 z hz)) (bWf_mem k3 ht) (bSml_mem (O.hw x hx).2 ht) (vals_bd (fun a ha => own_val (r := r) ha hj (by omega)) sm ev) (by show (0 : Int).natAbs ≤ _; simp) (by omega) hw' hl'
/-- a statement without a body -/
theorem own0 (O : OwnC k r W) : ∀ (n : Nat) (s : Stm) (j : Int) (y : Hn), s.wf r 0 → s.sml → s.deep ≤ 0 → j.natAbs ≤ 150 → y.rest ≤ 300 → iSk k n s (clO W j) y = iS n s (clO W j) y
  | 0, _, _, _, _, _, _, _, _ => rfl
  | n + 1, s, j, y, wf, sm, hd, hj, hy => by
    refine iSk_step (fun a e hr => ?_) (fun a b e hr hg => ?_) (fun a b b' e hr hg => ?_) (fun w as vs b e hr ev ew => ?_)
    · subst e; rw [Stm.sml] at sm; exact own_go O sm hj
    · subst e; rw [Stm.deep] at hd; omega
    · subst e; rw [Stm.deep] at hd; omega
    · subst e; exact own_call O wf sm hj hy ev ew
theorem own1 (O : OwnC k r W) : ∀ (n : Nat) (s : Stm) (j : Int) (y : Hn), s.wf r 0 → s.sml → s.deep ≤ 1 → j.natAbs ≤ 150 → y.rest ≤ 300 → (∀ a b, s = .again a b → (clO W j).val a ≤ 151 ∨ y.rest ≤ 151) → iSk k n s (clO W j) y = iS n s (clO W j) y
  | 0, _, _, _, _, _, _, _, _, _ => rfl
  | n + 1, s, j, y, wf, sm, hd, hj, hy, hq => by
    have body : ∀ (b : List Stm) (i : Int) (z : Hn), i.natAbs ≤ 150 → z.rest ≤ 300 → bWf r 0 b → bSml b → bDeep b ≤ 0 → iB (iSk k n) b (clO W i) z = iB (iS n) b (clO W i) z := fun b i z hi hz wb sb db => iB_le hz fun t ht w hw' => own0 O n t i w (bWf_mem wb ht) (bSml_mem sb ht) (by have := bDeep_le ht; omega) hi hw'
    have hy1 : y.less.rest = y.rest - 1 := rfl
    refine iSk_step (fun a e hr => ?_) (fun a b e hr hg => ?_) (fun a b b' e hr hg => ?_) (fun w as vs b e hr ev ew => ?_)
    · subst e; rw [Stm.sml] at sm; exact own_go O sm hj
    · subst e
      have hq := hq a b rfl
      rw [Stm.sml] at sm
      rw [Stm.wf] at wf
      rw [Stm.deep] at hd
      exact iAg_eq (fun i z => (i : Int) + z.rest ≤ y.rest - 1) _ 0 (show ((0 : Nat) : Int) + y.less.rest ≤ y.rest - 1 by rw [hy1]; omega) (fun i z _ hi hr' hI => by
        have hI : (i : Int) + z.rest ≤ y.rest - 1 := hI
        have hz : z.less.rest = z.rest - 1 := rfl
        exact body b i z.less (by omega) (by omega) wf.2 sm.2 (by omega)) fun i z w _ _ hr' hI e => by
        have hI : (i : Int) + z.rest ≤ y.rest - 1 := hI
        have : w.rest ≤ z.rest - 1 := iB_mono e
        show ((i + 1 : Nat) : Int) + w.rest ≤ y.rest - 1
        omega
    · subst e
      rw [Stm.sml] at sm
      rw [Stm.wf] at wf
      rw [Stm.deep] at hd
      split
      · exact body b' j y.less hj (by omega) wf.2.2 sm.2.2 (by omega)
      · exact body b j y.less hj (by omega) wf.2.1 sm.2.1 (by omega)
    · subst e; exact own_call O wf sm hj hy ev ew
/-- a body that is done has used up its agains' rounds -/
theorem body_again {n : Nat} {c : Cl} {a : Amt} {b' : List Stm} {b : List Stm} : ∀ {y z : Hn}, Stm.again a b' ∈ b → iB (iS n) b c y = .ok z → z.rest ≤ y.rest - 1 - c.val a := by
  induction b with
  | nil => intro y z hm; cases hm
  | cons s b ih =>
    intro y z hm e
    rw [iB] at e
    cases q : iS n s c y with
    | out => rw [q] at e; cases e
    | exc x w => rw [q] at e; cases e
    | ok w =>
      rw [q] at e
      have e : iB (iS n) b c w = .ok z := e
      rcases List.mem_cons.mp hm with h | h
      · subst h
        cases n with
        | zero => rw [iS] at q; cases q
        | succ n =>
          have h1 := again_rest q
          have h2 := iB_mono e
          omega
      · have h1 := ih h e
        have h2 := iS_mono q
        omega
theorem own2 (O : OwnC k r W) : ∀ (n : Nat) (s : Stm) (j : Int) (y : Hn), s.wf r 0 → s.sml → s.deep ≤ 2 → j.natAbs ≤ 26 → y.rest ≤ 300 → iSk k n s (clO W j) y = iS n s (clO W j) y
  | 0, _, _, _, _, _, _, _, _ => rfl
  | n + 1, s, j, y, wf, sm, hd, hj, hy => by
    have hy1 : y.less.rest = y.rest - 1 := rfl
    have flat : ∀ (b : List Stm), bWf r 0 b → bSml b → bDeep b ≤ 1 → iB (iSk k n) b (clO W j) y.less = iB (iS n) b (clO W j) y.less := fun b wb sb db => iB_le (R := 300) (by omega) fun t ht w hw' => own1 O n t j w (bWf_mem wb ht) (bSml_mem sb ht) (by have := bDeep_le ht; omega) (by omega) hw' fun a b' e => by
      have st := bSml_mem sb ht
      subst e
      rw [Stm.sml] at st
      have := own_val (r := r) (W := W) st.1 hj (by omega)
      left; omega
    refine iSk_step (fun a e hr => ?_) (fun a b e hr hg => ?_) (fun a b b' e hr hg => ?_) (fun w as vs b e hr ev ew => ?_)
    · subst e; rw [Stm.sml] at sm; exact own_go O sm (by omega)
    · subst e
      rw [Stm.sml] at sm
      rw [Stm.wf] at wf
      rw [Stm.deep] at hd
      have va := own_val (r := r) (W := W) sm.1 hj (by omega)
      exact iAg_eq (fun i z => z.rest ≤ 300 ∧ ∀ a' b', Stm.again a' b' ∈ b → 0 < i → z.rest + 1 + (clO W ((i : Int) - 1)).val a' ≤ 300) _ 0 ⟨by omega, fun _ _ _ h => absurd h (by omega)⟩ (fun i z _ hi hr' hI => by
        obtain ⟨h1, h2⟩ := hI
        have hz : z.less.rest = z.rest - 1 := rfl
        refine iB_le (R := z.rest - 1) (by omega) fun t ht w hw' => own1 O n t i w (bWf_mem wf.2 ht) (bSml_mem sm.2 ht) (by have := bDeep_le ht; omega) (by omega) (by omega) fun a' b' e => ?_
        have st := bSml_mem sm.2 ht
        subst e
        rw [Stm.sml] at st
        have st1 := st.1
        have h3 := h2 a' b' ht
        cases a' with
        | int x => left; have : -9 ≤ x ∧ x ≤ 9 := st1; show x ≤ 151; omega
        | num t' q m =>
          left
          have tt : (-3 ≤ t' ∧ t' ≤ 3) ∧ -3 ≤ m ∧ m ≤ 3 := st1
          show t' * ([] : List Int).getD q 0 + m ≤ 151
          simp
          omega
        | cnt t' m =>
          have tt : (-3 ≤ t' ∧ t' ≤ 3) ∧ -3 ≤ m ∧ m ≤ 3 := st1
          have h3' : 0 < i → z.rest + 1 + (t' * ((i : Int) - 1) + m) ≤ 300 := h3
          show t' * (i : Int) + m ≤ 151 ∨ w.rest ≤ 151
          have : t' = -3 ∨ t' = -2 ∨ t' = -1 ∨ t' = 0 ∨ t' = 1 ∨ t' = 2 ∨ t' = 3 := by omega
          rcases this with q | q | q | q | q | q | q <;> subst q <;> omega) fun i z w _ _ hr' hI e => by
        obtain ⟨h1, h2⟩ := hI
        have hz : z.less.rest = z.rest - 1 := rfl
        have m1 : w.rest ≤ z.less.rest := iB_mono e
        refine ⟨by omega, fun a' b' hm _ => ?_⟩
        have t : w.rest ≤ z.less.rest - 1 - Cl.val ⟨W, [], (i : Int)⟩ a' := body_again hm e
        have ei : (((i + 1 : Nat) : Int) - 1) = (i : Int) := by omega
        rw [ei]
        show w.rest + 1 + Cl.val ⟨W, [], (i : Int)⟩ a' ≤ 300
        omega
    · subst e
      rw [Stm.sml] at sm
      rw [Stm.wf] at wf
      rw [Stm.deep] at hd
      split
      · exact flat b' wf.2.2 sm.2.2 (by omega)
      · exact flat b wf.2.1 sm.2.1 (by omega)
    · subst e; exact own_call O wf sm (by omega) hy ev ew
/-- one more again or if around: counts up to 3 C + 2 within -/
theorem own_up (O : OwnC k r W) {D C C' : Nat} (h2 : 2 ≤ C) (hC : 3 * C + 3 ≤ C' + 1) (hC2 : C ≤ 150) (hin : ∀ (n : Nat) (s : Stm) (j : Int) (y : Hn), s.wf r 0 → s.sml → s.deep ≤ D → j.natAbs ≤ C' → y.rest ≤ 300 → iSk k n s (clO W j) y = iS n s (clO W j) y) : ∀ (n : Nat) (s : Stm) (j : Int) (y : Hn), s.wf r 0 → s.sml → s.deep ≤ D + 1 → j.natAbs ≤ C → y.rest ≤ 300 → iSk k n s (clO W j) y = iS n s (clO W j) y
  | 0, _, _, _, _, _, _, _, _ => rfl
  | n + 1, s, j, y, wf, sm, hd, hj, hy => by
    have hy1 : y.less.rest = y.rest - 1 := rfl
    have body : ∀ (b : List Stm) (i : Int) (z : Hn), i.natAbs ≤ C' → z.rest ≤ 300 → bWf r 0 b → bSml b → bDeep b ≤ D → iB (iSk k n) b (clO W i) z = iB (iS n) b (clO W i) z := fun b i z hi hz wb sb db => iB_le hz fun t ht w hw' => hin n t i w (bWf_mem wb ht) (bSml_mem sb ht) (by have := bDeep_le ht; omega) hi hw'
    refine iSk_step (fun a e hr => ?_) (fun a b e hr hg => ?_) (fun a b b' e hr hg => ?_) (fun w as vs b e hr ev ew => ?_)
    · subst e; rw [Stm.sml] at sm; exact own_go O sm (by omega)
    · subst e
      rw [Stm.sml] at sm
      rw [Stm.wf] at wf
      rw [Stm.deep] at hd
      have va := own_val (r := r) (W := W) sm.1 hj h2
      exact iAg_eq (fun i z => z.rest ≤ 300) _ 0 (by omega) (fun i z _ hi hr' hI => by
        have hI : z.rest ≤ 300 := hI
        have hz : z.less.rest = z.rest - 1 := rfl
        exact body b i z.less (by omega) (by omega) wf.2 sm.2 (by omega)) fun i z w _ _ hr' hI e => by
        have hI : z.rest ≤ 300 := hI
        have : w.rest ≤ z.rest - 1 := iB_mono e
        show w.rest ≤ 300
        omega
    · subst e
      rw [Stm.sml] at sm
      rw [Stm.wf] at wf
      rw [Stm.deep] at hd
      split
      · exact body b' j y.less (by omega) (by omega) wf.2.2 sm.2.2 (by omega)
      · exact body b j y.less (by omega) (by omega) wf.2.1 sm.2.1 (by omega)
    · subst e; exact own_call O wf sm (by omega) hy ev ew
theorem own4 (O : OwnC k r W) (n : Nat) (s : Stm) (y : Hn) (wf : s.wf r 0) (sm : s.sml) (hd : s.deep ≤ 4) (hy : y.rest ≤ 300) : iSk k n s (clO W 0) y = iS n s (clO W 0) y := by
  have o3 := own_up O (D := 2) (C := 8) (C' := 26) (by decide) (by decide) (by decide) (own2 O)
  have o4 := own_up O (D := 3) (C := 2) (C' := 8) (by decide) (by decide) (by decide) o3
  exact o4 n s 0 y wf sm hd (by decide) hy
end
/-- the larger run goes as the first one's, where the factor is small -/
theorem run_small {k : Int} {ws : List Wrd} {b : List Stm} {most : Int} (hk : 1 ≤ k) (hm : most ≤ 300) (g : GP ws b) (sb : bSml b) (sw : ∀ x ∈ ws, bSml x.body) (h : (ws.length ≤ 4 ∧ k ≤ 9) ∨ k ≤ 3) : iB (iSk k 49) b ⟨dictW ws, [], 0⟩ (hn0 most) = runR ws b most := by
  have hg : ∀ x ∈ ws.reverse, wGet (dictW ws) x.name = some x.body ∧ bSml x.body := fun x hx => ⟨wGet_dict g.gw.u (List.mem_reverse.mp hx), sw x (List.mem_reverse.mp hx)⟩
  have wf : ∀ s ∈ b, s.wf ws.reverse 0 := fun s hs => Stm.wf_mono (fun x hx => List.mem_reverse.mpr hx) s (bWf_mem g.f hs)
  have hl := g.l
  have hd := g.d
  have len : ws.reverse.length = ws.length := List.length_reverse
  have hr : (hn0 most).rest = most := rfl
  unfold runR
  by_cases h4 : ws.length ≤ 4 ∧ k ≤ 9
  · refine iB_le (R := 300) (by omega) fun s hs y hy => words_eq hk 49 s _ y ws.reverse 0 300 g.w hg (wf s hs) (bSml_mem sb hs) (fun i => by show (([] : List Int).getD i 0).natAbs ≤ _; simp) (by show (0 : Int).natAbs ≤ _; simp) (by decide) hy ?_
    have l1 : lim ws.reverse.length 300 ≤ lim 4 300 := lim_le (by omega) 300
    have l2 : lim 4 300 = 73263 := by decide
    have l3 : k.natAbs ≤ 9 := by omega
    have := Nat.mul_le_mul l1 l3
    omega
  · have h3 : k ≤ 3 := by rcases h with q | q; exact absurd q h4; exact q
    have O : OwnC k ws.reverse (dictW ws) := ⟨hk, g.w, hg, by
      have l1 : lim ws.reverse.length 150 ≤ lim 6 150 := lim_le (by omega) 150
      have l2 : lim 6 150 = 331329 := by decide
      have l3 : k.natAbs ≤ 3 := by omega
      have := Nat.mul_le_mul l1 l3
      omega⟩
    exact iB_le (R := 300) (by omega) fun s hs y hy => own4 O 49 s y (wf s hs) (bSml_mem sb hs) (by have := bDeep_le hs; omega) hy
/-- .. or where the corners are near -/
theorem run_near {k F : Int} {ws : List Wrd} {b : List Stm} {most : Int} (hk : 1 ≤ k) (hF : F * k ≤ 1000000 ∨ k = 1) (hm : most ≤ 300) (f : fin F (runR ws b most)) : iB (iSk k 49) b ⟨dictW ws, [], 0⟩ (hn0 most) = runR ws b most :=
  iB_far (S := iS 49) (S' := iSk k 49) (iS_pre 49) (iS_riv 49) (iS_far hk hF 49) b _ _ ⟨[], rfl⟩ (hn0_iv (by omega)) f
theorem run_scl {k : Int} {ws : List Wrd} {b : List Stm} {most : Int} (hk : 1 ≤ k) (e : iB (iSk k 49) b ⟨dictW ws, [], 0⟩ (hn0 most) = runR ws b most) : runR (ws.map (Wrd.ov k 1)) (bOv k 1 b) most = mapR (sclH k) (runR ws b most) := by
  have h0 : sclH k (hn0 most) = hn0 most := by
    unfold sclH hn0 sclC sclP cr0
    simp
  have := iB_scl (f := sclH k) (S := iSk k 49) (S' := iS 49) (iS_scl hk 49) b ⟨dictW ws, [], 0⟩ (hn0 most)
  rw [h0, e] at this
  unfold runR at this ⊢
  rw [dictW_ov]
  exact this
end Wk

/-! LG: the farthest go of a body (k52, k56). -/
namespace Wk
open PySem L2
def Amt.far : Amt → Int
  | .int i => i.natAbs
  | .cnt t m => max (t.natAbs : Int) m.natAbs
  | .num t _ m => max (t.natAbs : Int) m.natAbs
mutual
def Stm.far : Stm → Int
  | .go a => a.far
  | .again _ b => bFar b
  | .iff _ b c => max (bFar b) (bFar c)
  | _ => 0
def bFar : List Stm → Int
  | [] => 0
  | s :: r => max s.far (bFar r)
end
theorem Amt.far_nn (a : Amt) : 0 ≤ a.far := by
  cases a <;> simp only [Amt.far] <;> omega
mutual
theorem Stm.far_nn : ∀ s : Stm, 0 ≤ s.far
  | .go a => by rw [Stm.far]; exact a.far_nn
  | .again _ b => by rw [Stm.far]; exact bFar_nn b
  | .iff _ b c => by rw [Stm.far]; have := bFar_nn b; omega
  | .turn _ => by simp [Stm.far]
  | .ink _ => by simp [Stm.far]
  | .up => by simp [Stm.far]
  | .down => by simp [Stm.far]
  | .mark _ => by simp [Stm.far]
  | .back _ => by simp [Stm.far]
  | .call _ _ => by simp [Stm.far]
theorem bFar_nn : ∀ b : List Stm, 0 ≤ bFar b
  | [] => by rw [bFar]; exact Int.le_refl _
  | s :: r => by rw [bFar]; have := bFar_nn r; omega
end
end Wk

/-! SG: the sign of a number. -/
namespace Wk
open PySem L2
def sgn (a b : Int) : Int := if 0 ≤ a ∧ 0 ≤ b then (if 0 < a + b then 1 else 0) else if a ≤ 0 ∧ b ≤ 0 then -1 else if b * b < 2 * a * a then (if a < 0 then -1 else 1) else (if b < 0 then -1 else 1)
def lsg (a b : Int) : Int := if 0 ≤ a * b then (if 0 < a + b then 1 else 0) - (if a + b < 0 then 1 else 0)
  else if 0 < a then (if 0 < 2 * a * a - b * b then 1 else 0) - (if 2 * a * a - b * b < 0 then 1 else 0)
  else (if 2 * a * a - b * b < 0 then 1 else 0) - (if 0 < 2 * a * a - b * b then 1 else 0)
/-- the root of two is no quotient -/
theorem root2 : ∀ n : Nat, ∀ a b : Nat, b ≤ n → 2 * (a * a) = b * b → b = 0
  | 0, a, b, h, _ => Nat.le_zero.mp h
  | n + 1, a, b, h, e => by
    by_cases hb : b = 0
    · exact hb
    · have hev : b % 2 = 0 := by
        have h2 : (b * b) % 2 = 0 := by rw [← e]; exact Nat.mul_mod_right 2 _
        rcases Nat.mod_two_eq_zero_or_one b with z | z
        · exact z
        · rw [Nat.mul_mod, z] at h2; cases h2
      obtain ⟨c, rfl⟩ : ∃ c, b = 2 * c := ⟨b / 2, by omega⟩
      have e2 : 2 * (c * c) = a * a := by
        have : 2 * (a * a) = 2 * (2 * (c * c)) := by rw [e, Nat.mul_mul_mul_comm, Nat.mul_assoc]
        omega
      have ha : a ≤ n := by
        have h1 : a < 2 * c := by
          refine Nat.lt_of_not_le fun hh => ?_
          have := Nat.mul_le_mul hh hh
          have hc : 0 < 2 * c * (2 * c) := Nat.mul_pos (by omega) (by omega)
          omega
        omega
      have z := root2 n c a ha e2
      subst z
      have hc : 2 * c * (2 * c) = 0 := by rw [← e]
      rcases Nat.mul_eq_zero.mp hc with z | z <;> exact absurd z hb
theorem root2i {a b : Int} (e : 2 * (a * a) = b * b) : b = 0 := by
  have h : 2 * (a.natAbs * a.natAbs) = b.natAbs * b.natAbs := by
    have h1 : ((a.natAbs * a.natAbs : Nat) : Int) = a * a := by rw [Int.natCast_mul]; exact Int.natAbs_mul_self' _
    have h2 : ((b.natAbs * b.natAbs : Nat) : Int) = b * b := by rw [Int.natCast_mul]; exact Int.natAbs_mul_self' _
    omega
  have := root2 _ _ _ (Nat.le_refl _) h
  omega
theorem sgn_lsg (a b : Int) : sgn a b = lsg a b := by
  have ra := @root2i a b
  have e2 : 2 * a * a = 2 * (a * a) := Int.mul_assoc 2 a a
  have f1 : 0 ≤ a → 0 ≤ b → 0 ≤ a * b := Int.mul_nonneg
  have f2 : a ≤ 0 → b ≤ 0 → 0 ≤ a * b := Int.mul_nonneg_of_nonpos_of_nonpos
  have f3 : 0 < a → b < 0 → a * b < 0 := Int.mul_neg_of_pos_of_neg
  have f4 : a < 0 → 0 < b → a * b < 0 := Int.mul_neg_of_neg_of_pos
  unfold sgn lsg
  rw [e2]
  generalize a * a = p at *
  generalize b * b = q at *
  generalize a * b = r at *
  repeat' split
  all_goals omega
theorem sgn_neg (a b : Int) : sgn (0 - a) (0 - b) = 0 - sgn a b := by
  rw [sgn_lsg, sgn_lsg]
  have e1 : (0 - a) * (0 - b) = a * b := by grind
  have e2 : 2 * (0 - a) * (0 - a) = 2 * a * a := by grind
  have e3 : (0 - b) * (0 - b) = b * b := by grind
  have f : 0 ≤ a * b ∨ a ≠ 0 := by
    by_cases h : a = 0
    · subst h; exact .inl (by rw [Int.zero_mul]; exact Int.le_refl _)
    · exact .inr h
  unfold lsg
  rw [e1, e2, e3]
  generalize 2 * a * a = p at *
  generalize b * b = q at *
  generalize a * b = r at *
  repeat' split
  all_goals omega
theorem sgn_two (a b : Int) : sgn (2 * a) (2 * b) = sgn a b := by
  have e1 : 2 * b * (2 * b) = 4 * (b * b) := by grind
  have e2 : 2 * (2 * a) * (2 * a) = 4 * (2 * a * a) := by grind
  unfold sgn
  rw [e1, e2]
  generalize 2 * a * a = p at *
  generalize b * b = q at *
  repeat' split
  all_goals omega
/-! ### what the defs compute -/
end Wk

/-! SG2: signs of sums and products of numbers. -/
namespace Wk
/-- above 0: by the norm -/
def Pos (a b : Int) : Prop := (0 < 2 * (a * a) - b * b ∧ 0 < a) ∨ (2 * (a * a) - b * b < 0 ∧ 0 < b)
theorem sq_nonneg (a : Int) : 0 ≤ a * a := by
  rcases Int.le_total 0 a with h | h
  · exact Int.mul_nonneg h h
  · exact Int.mul_nonneg_of_nonpos_of_nonpos h h
theorem sq_pos {a : Int} (h : a ≠ 0) : 0 < a * a := by
  rcases Int.lt_or_gt_of_ne h with h | h
  · exact Int.mul_pos_of_neg_of_neg h h
  · exact Int.mul_pos h h
theorem abs_of_sq {x y : Int} (h : x * x < y * y) (hy : 0 ≤ y) : -y < x ∧ x < y := by
  constructor
  · refine Classical.byContradiction fun z => ?_
    have h1 : y ≤ -x := by omega
    have h2 : y * y ≤ (-x) * (-x) := Int.mul_le_mul h1 h1 hy (by omega)
    rw [Int.neg_mul_neg] at h2
    omega
  · refine Classical.byContradiction fun z => ?_
    have h1 : y ≤ x := by omega
    have h2 : y * y ≤ x * x := Int.mul_le_mul h1 h1 hy (by omega)
    omega
theorem sq_of_abs {x y : Int} (h1 : -y < x) (h2 : x < y) : x * x < y * y := by
  rcases Int.le_total 0 x with h | h
  · exact Int.lt_of_le_of_lt (Int.mul_le_mul_of_nonneg_left (Int.le_of_lt h2) h) (Int.mul_lt_mul_of_pos_right h2 (by omega))
  · have e : x * x = (-x) * (-x) := by rw [Int.neg_mul_neg]
    rw [e]
    exact Int.lt_of_le_of_lt (Int.mul_le_mul_of_nonneg_left (show -x ≤ y by omega) (by omega)) (Int.mul_lt_mul_of_pos_right (show -x < y by omega) (by omega))
theorem lt_mul {p q r s : Int} (h1 : p < q) (h2 : r < s) (hp : 0 ≤ p) (hr : 0 ≤ r) : p * r < q * s :=
  Int.lt_of_le_of_lt (Int.mul_le_mul_of_nonneg_left (Int.le_of_lt h2) hp) (Int.mul_lt_mul_of_pos_right h1 (by omega))
theorem norm0 {a b : Int} (h : 2 * (a * a) - b * b = 0) : a = 0 ∧ b = 0 := by
  have hb : b = 0 := root2i (a := a) (b := b) (by omega)
  subst hb
  refine ⟨Classical.byContradiction fun z => ?_, rfl⟩
  have := sq_pos z
  omega
theorem pos_def {a b : Int} : Pos a b ↔ (0 ≤ a ∧ 0 ≤ b ∧ 0 < a + b) ∨ (0 < a ∧ b < 0 ∧ b * b < 2 * (a * a)) ∨ (a < 0 ∧ 0 < b ∧ 2 * (a * a) < b * b) := by
  unfold Pos
  have ha := sq_nonneg a
  have hb := sq_nonneg b
  constructor
  · rintro (⟨h1, h2⟩ | ⟨h1, h2⟩)
    · by_cases h3 : 0 ≤ b
      · exact .inl ⟨by omega, h3, by omega⟩
      · exact .inr (.inl ⟨h2, by omega, by omega⟩)
    · by_cases h3 : 0 ≤ a
      · exact .inl ⟨h3, by omega, by omega⟩
      · exact .inr (.inr ⟨by omega, h2, by omega⟩)
  · rintro (⟨h1, h2, h3⟩ | ⟨h1, h2, h3⟩ | ⟨h1, h2, h3⟩)
    · by_cases hn : 0 < 2 * (a * a) - b * b
      · refine .inl ⟨hn, ?_⟩
        refine Classical.byContradiction fun z => ?_
        have : a = 0 := by omega
        subst this
        omega
      · by_cases hm : 2 * (a * a) - b * b < 0
        · refine .inr ⟨hm, ?_⟩
          refine Classical.byContradiction fun z => ?_
          have : b = 0 := by omega
          subst this
          omega
        · have := norm0 (a := a) (b := b) (by omega)
          omega
    · exact .inl ⟨by omega, h1⟩
    · exact .inr ⟨by omega, h2⟩
theorem sgn_one {a b : Int} : sgn a b = 1 ↔ Pos a b := by
  rw [pos_def]
  unfold sgn
  have e : 2 * a * a = 2 * (a * a) := Int.mul_assoc 2 a a
  rw [e]
  constructor
  · intro h
    by_cases h1 : 0 ≤ a ∧ 0 ≤ b
    · rw [if_pos h1] at h
      by_cases h2 : 0 < a + b
      · exact .inl ⟨h1.1, h1.2, h2⟩
      · rw [if_neg h2] at h; omega
    · rw [if_neg h1] at h
      by_cases h2 : a ≤ 0 ∧ b ≤ 0
      · rw [if_pos h2] at h; omega
      · rw [if_neg h2] at h
        by_cases h3 : b * b < 2 * (a * a)
        · rw [if_pos h3] at h
          by_cases h4 : a < 0
          · rw [if_pos h4] at h; omega
          · exact .inr (.inl ⟨by omega, by omega, h3⟩)
        · rw [if_neg h3] at h
          by_cases h4 : b < 0
          · rw [if_pos h4] at h; omega
          · refine .inr (.inr ⟨by omega, by omega, ?_⟩)
            have : 2 * (a * a) - b * b ≠ 0 := fun z => by have := norm0 z; omega
            omega
  · rintro (⟨h1, h2, h3⟩ | ⟨h1, h2, h3⟩ | ⟨h1, h2, h3⟩)
    · rw [if_pos ⟨h1, h2⟩, if_pos h3]
    · rw [if_neg (by omega), if_neg (by omega), if_pos h3, if_neg (by omega)]
    · rw [if_neg (by omega), if_neg (by omega), if_neg (by omega), if_neg (by omega)]
theorem sgn_ng (a b : Int) : sgn (-a) (-b) = - sgn a b := by
  have := sgn_neg a b
  simpa using this
theorem sgn_mone {a b : Int} : sgn a b = -1 ↔ Pos (-a) (-b) := by
  rw [← sgn_one, sgn_ng]
  omega
theorem sgn_zero {a b : Int} : sgn a b = 0 ↔ a = 0 ∧ b = 0 := by
  constructor
  · intro h
    have h1 : ¬ Pos a b := fun z => by rw [← sgn_one] at z; omega
    have h2 : ¬ Pos (-a) (-b) := fun z => by rw [← sgn_mone] at z; omega
    have h3 : 2 * (a * a) - b * b = 0 := by
      refine Classical.byContradiction fun z => ?_
      unfold Pos at h1 h2
      rw [Int.neg_mul_neg, Int.neg_mul_neg] at h2
      have ha := sq_nonneg a
      have hb := sq_nonneg b
      by_cases hn : 0 < 2 * (a * a) - b * b
      · have : a = 0 := by omega
        subst this
        omega
      · have : b = 0 := by omega
        subst this
        omega
    exact norm0 h3
  · rintro ⟨rfl, rfl⟩
    rfl
theorem sgn_three (a b : Int) : sgn a b = -1 ∨ sgn a b = 0 ∨ sgn a b = 1 := by
  unfold sgn
  repeat' split
  all_goals omega
/-- twice the product -/
def m1 (a b c d : Int) : Int := 2 * a * c + b * d
def m2 (a b c d : Int) : Int := 2 * (a * d + b * c)
theorem norm_mul (a b c d : Int) : 2 * (m1 a b c d * m1 a b c d) - m2 a b c d * m2 a b c d = 2 * ((2 * (a * a) - b * b) * (2 * (c * c) - d * d)) := by
  unfold m1 m2
  grind
theorem pos_mul {a b c d : Int} (h : Pos a b) (k : Pos c d) : Pos (m1 a b c d) (m2 a b c d) := by
  have hb := sq_nonneg b
  have hd := sq_nonneg d
  have ha := sq_nonneg a
  have hc := sq_nonneg c
  unfold Pos
  rw [norm_mul]
  unfold Pos at h k
  rcases h with ⟨h1, h2⟩ | ⟨h1, h2⟩ <;> rcases k with ⟨k1, k2⟩ | ⟨k1, k2⟩
  · refine .inl ⟨?_, ?_⟩
    · have := Int.mul_pos h1 k1
      omega
    · have q : (b * d) * (b * d) < (2 * a * c) * (2 * a * c) := by
        have := lt_mul (show b * b < 2 * (a * a) by omega) (show d * d < 2 * (c * c) by omega) hb hd
        have e1 : (b * d) * (b * d) = (b * b) * (d * d) := by grind
        have e2 : (2 * a * c) * (2 * a * c) = (2 * (a * a)) * (2 * (c * c)) := by grind
        rw [e1, e2]
        exact this
      have hac : 0 < 2 * a * c := Int.mul_pos (by omega) k2
      have := abs_of_sq q (by omega)
      unfold m1
      omega
  · refine .inr ⟨?_, ?_⟩
    · have := Int.mul_neg_of_pos_of_neg h1 k1
      omega
    · have q : (b * c) * (b * c) < (a * d) * (a * d) := by
        have := lt_mul (show b * b < 2 * (a * a) by omega) (show 2 * (c * c) < d * d by omega) hb (by omega)
        have e1 : (b * b) * (2 * (c * c)) = 2 * ((b * c) * (b * c)) := by grind
        have e2 : (2 * (a * a)) * (d * d) = 2 * ((a * d) * (a * d)) := by grind
        rw [e1, e2] at this
        omega
      have hac : 0 < a * d := Int.mul_pos h2 k2
      have := abs_of_sq q (by omega)
      unfold m2
      omega
  · refine .inr ⟨?_, ?_⟩
    · have := Int.mul_neg_of_neg_of_pos h1 k1
      omega
    · have q : (a * d) * (a * d) < (b * c) * (b * c) := by
        have := lt_mul (show 2 * (a * a) < b * b by omega) (show d * d < 2 * (c * c) by omega) (by omega) hd
        have e1 : (2 * (a * a)) * (d * d) = 2 * ((a * d) * (a * d)) := by grind
        have e2 : (b * b) * (2 * (c * c)) = 2 * ((b * c) * (b * c)) := by grind
        rw [e1, e2] at this
        omega
      have hac : 0 < b * c := Int.mul_pos h2 k2
      have := abs_of_sq q (by omega)
      unfold m2
      omega
  · refine .inl ⟨?_, ?_⟩
    · have := Int.mul_pos_of_neg_of_neg h1 k1
      omega
    · have q : (2 * a * c) * (2 * a * c) < (b * d) * (b * d) := by
        have := lt_mul (show 2 * (a * a) < b * b by omega) (show 2 * (c * c) < d * d by omega) (by omega) (by omega)
        have e1 : (b * d) * (b * d) = (b * b) * (d * d) := by grind
        have e2 : (2 * a * c) * (2 * a * c) = (2 * (a * a)) * (2 * (c * c)) := by grind
        rw [e1, e2]
        exact this
      have hac : 0 < b * d := Int.mul_pos h2 k2
      have := abs_of_sq q (by omega)
      unfold m1
      omega
theorem sgn_cases {a b : Int} : (sgn a b = 1 ∧ Pos a b) ∨ (sgn a b = 0 ∧ a = 0 ∧ b = 0) ∨ (sgn a b = -1 ∧ Pos (-a) (-b)) := by
  rcases sgn_three a b with h | h | h
  · exact .inr (.inr ⟨h, sgn_mone.mp h⟩)
  · exact .inr (.inl ⟨h, sgn_zero.mp h⟩)
  · exact .inl ⟨h, sgn_one.mp h⟩
theorem sgn_mul (a b c d : Int) : sgn (m1 a b c d) (m2 a b c d) = sgn a b * sgn c d := by
  have n1 : m1 (-a) (-b) c d = - m1 a b c d := by unfold m1; grind
  have n2 : m2 (-a) (-b) c d = - m2 a b c d := by unfold m2; grind
  have n3 : m1 a b (-c) (-d) = - m1 a b c d := by unfold m1; grind
  have n4 : m2 a b (-c) (-d) = - m2 a b c d := by unfold m2; grind
  have n5 : m1 (-a) (-b) (-c) (-d) = m1 a b c d := by unfold m1; grind
  have n6 : m2 (-a) (-b) (-c) (-d) = m2 a b c d := by unfold m2; grind
  rcases sgn_cases (a := a) (b := b) with ⟨h, p⟩ | ⟨h, rfl, rfl⟩ | ⟨h, p⟩ <;> rcases sgn_cases (a := c) (b := d) with ⟨k, q⟩ | ⟨k, rfl, rfl⟩ | ⟨k, q⟩ <;> (first | rw [h, k] | rw [h])
  · exact sgn_one.mpr (pos_mul p q)
  · exact sgn_zero.mpr ⟨by unfold m1; simp, by unfold m2; simp⟩
  · exact sgn_mone.mpr (by have := pos_mul p q; rwa [n3, n4] at this)
  · exact sgn_zero.mpr ⟨by unfold m1; simp, by unfold m2; simp⟩
  · exact sgn_zero.mpr ⟨by unfold m1; simp, by unfold m2; simp⟩
  · exact sgn_zero.mpr ⟨by unfold m1; simp, by unfold m2; simp⟩
  · exact sgn_mone.mpr (by have := pos_mul p q; rwa [n1, n2] at this)
  · exact sgn_zero.mpr ⟨by unfold m1; simp, by unfold m2; simp⟩
  · exact sgn_one.mpr (by have := pos_mul p q; rwa [n5, n6] at this)
theorem pos_more {a b n : Int} (h : Pos a b) (hn : 0 ≤ n) : Pos (n + a) b := by
  rw [pos_def] at h ⊢
  rcases h with ⟨h1, h2, h3⟩ | ⟨h1, h2, h3⟩ | ⟨h1, h2, h3⟩
  · exact .inl ⟨by omega, h2, by omega⟩
  · refine .inr (.inl ⟨by omega, h2, ?_⟩)
    have : a * a ≤ (n + a) * (n + a) := Int.mul_le_mul (by omega) (by omega) (by omega) (by omega)
    omega
  · by_cases h4 : 0 ≤ n + a
    · exact .inl ⟨h4, by omega, by omega⟩
    · refine .inr (.inr ⟨by omega, h2, ?_⟩)
      have : (-(n + a)) * (-(n + a)) ≤ (-a) * (-a) := Int.mul_le_mul (by omega) (by omega) (by omega) (by omega)
      rw [Int.neg_mul_neg, Int.neg_mul_neg] at this
      omega
theorem pos_add {a b c d : Int} (h : Pos a b) (k : Pos c d) : Pos (a + c) (b + d) := by
  have key : ∀ e f : Int, Pos e f → 0 ≤ m1 a b e f → m2 a b e f = 0 → Pos (a + c) (b + d) := fun e f q h1 h2 => by
    have w := pos_more (pos_mul k q) h1
    have e1 : m1 a b e f + m1 c d e f = m1 (a + c) (b + d) e f := by unfold m1; grind
    have e2 : m2 c d e f = m2 (a + c) (b + d) e f := by
      have : m2 (a + c) (b + d) e f = m2 a b e f + m2 c d e f := by unfold m2; grind
      omega
    rw [e1, e2, ← sgn_one, sgn_mul, sgn_one.mpr q, Int.mul_one] at w
    exact sgn_one.mp w
  have hh := h
  unfold Pos at hh
  rcases hh with ⟨h1, h2⟩ | ⟨h1, h2⟩
  · refine key a (-b) (.inl ⟨by rw [Int.neg_mul_neg]; exact h1, h2⟩) ?_ ?_
    · unfold m1
      rw [Int.mul_neg, Int.mul_assoc]
      omega
    · unfold m2
      grind
  · refine key (-a) b (.inr ⟨by rw [Int.neg_mul_neg]; exact h1, h2⟩) ?_ ?_
    · unfold m1
      rw [Int.mul_neg, Int.mul_assoc]
      omega
    · unfold m2
      grind
/-- the sign of a difference, where the signs differ -/
theorem sgn_gt {a b c d : Int} (h : sgn c d < sgn a b) : sgn (a - c) (b - d) = 1 := by
  rw [sgn_one]
  have e : ∀ x y : Int, x - y = x + -y := fun x y => by omega
  rcases sgn_cases (a := a) (b := b) with ⟨h1, p⟩ | ⟨h1, rfl, rfl⟩ | ⟨h1, p⟩ <;> rcases sgn_cases (a := c) (b := d) with ⟨k1, q⟩ | ⟨k1, rfl, rfl⟩ | ⟨k1, q⟩ <;> (first | rw [h1, k1] at h | rw [h1] at h) <;> first | (exfalso; omega) | skip
  · simpa using p
  · rw [e, e]; exact pos_add p q
  · simpa using q
theorem sgn_lt {a b c d : Int} (h : sgn a b < sgn c d) : sgn (a - c) (b - d) = -1 := by
  have := sgn_gt h
  have e := sgn_ng (a - c) (b - d)
  rw [show -(a - c) = c - a by omega, show -(b - d) = d - b by omega] at e
  omega
theorem sgn_eq0 {a b c d : Int} (h : sgn a b = 0) (k : sgn c d = 0) : sgn (a - c) (b - d) = 0 := by
  obtain ⟨rfl, rfl⟩ := sgn_zero.mp h
  obtain ⟨rfl, rfl⟩ := sgn_zero.mp k
  rfl
end Wk

/-! NM: the numbers a + b / sqrt 2 in order; between any two there is a third. -/
namespace Wk
open PySem L2
structure Nm where
  a : Int
  b : Int
def Nm.e (x : Nm) : D := .tuple [.int x.a, .int x.b]
def Nm.sg (x y : Nm) : Int := sgn (x.a - y.a) (x.b - y.b)
instance : LT Nm := ⟨fun x y => Nm.sg x y < 0⟩
instance : LE Nm := ⟨fun x y => Nm.sg x y ≤ 0⟩
instance (x y : Nm) : Decidable (x < y) := inferInstanceAs (Decidable (Nm.sg x y < 0))
instance (x y : Nm) : Decidable (x ≤ y) := inferInstanceAs (Decidable (Nm.sg x y ≤ 0))
instance : DecidableEq Nm := fun x y => if h : x.a = y.a ∧ x.b = y.b then .isTrue (by cases x; cases y; simp at h; simp [h]) else .isFalse (fun z => h (by rw [z]; exact ⟨rfl, rfl⟩))
theorem Nm.lt_iff {x y : Nm} : x < y ↔ Nm.sg x y < 0 := Iff.rfl
theorem Nm.le_iff {x y : Nm} : x ≤ y ↔ Nm.sg x y ≤ 0 := Iff.rfl
theorem Nm.sg_neg (x y : Nm) : Nm.sg y x = - Nm.sg x y := by
  unfold Nm.sg
  rw [← sgn_ng]
  congr 1 <;> omega
theorem Nm.sg_zero {x y : Nm} : Nm.sg x y = 0 ↔ x = y := by
  unfold Nm.sg
  rw [sgn_zero]
  constructor
  · intro ⟨h1, h2⟩; cases x; cases y; simp at *; omega
  · intro h; subst h; omega
theorem Nm.sg_three (x y : Nm) : Nm.sg x y = -1 ∨ Nm.sg x y = 0 ∨ Nm.sg x y = 1 := sgn_three _ _
theorem Nm.sg_mone {x y : Nm} : Nm.sg x y = -1 ↔ Pos (y.a - x.a) (y.b - x.b) := by
  unfold Nm.sg
  rw [sgn_mone, show -(x.a - y.a) = y.a - x.a by omega, show -(x.b - y.b) = y.b - x.b by omega]
theorem Nm.lt_pos {x y : Nm} : x < y ↔ Pos (y.a - x.a) (y.b - x.b) := by
  rw [Nm.lt_iff, ← Nm.sg_mone]
  have := Nm.sg_three x y
  omega
theorem Nm.lt_tr {x y z : Nm} (h : x < y) (k : y < z) : x < z := by
  rw [Nm.lt_pos] at *
  have := pos_add h k
  rw [show y.a - x.a + (z.a - y.a) = z.a - x.a by omega, show y.b - x.b + (z.b - y.b) = z.b - x.b by omega] at this
  exact this
theorem Nm.le_of {x y : Nm} : x ≤ y ↔ x < y ∨ x = y := by
  rw [Nm.le_iff, Nm.lt_iff, ← Nm.sg_zero]
  omega
theorem Nm.not_lt' {x y : Nm} : ¬ x < y ↔ y ≤ x := by
  rw [Nm.le_iff, Nm.lt_iff, Nm.sg_neg x y]
  omega
instance : Std.IsLinearOrder Nm where
  le_refl := fun x => Nm.le_of.mpr (.inr rfl)
  le_trans := fun x y z h k => by
    rcases Nm.le_of.mp h with h | h
    · rcases Nm.le_of.mp k with k | k
      · exact Nm.le_of.mpr (.inl (Nm.lt_tr h k))
      · subst k; exact Nm.le_of.mpr (.inl h)
    · subst h; exact k
  le_antisymm := fun x y h k => by
    rw [Nm.le_iff] at h k
    rw [Nm.sg_neg x y] at k
    exact Nm.sg_zero.mp (by omega)
  le_total := fun x y => by
    rw [Nm.le_iff, Nm.le_iff, Nm.sg_neg x y]
    omega
instance : Std.LawfulOrderLT Nm where
  lt_iff := fun x y => by
    rw [Nm.le_iff, Nm.le_iff, Nm.lt_iff, Nm.sg_neg x y]
    omega
theorem Nm.t1 (x y z : Nm) (h : x < y) (k : y ≤ z) : ¬ z ≤ x := by grind
theorem Nm.t2 (x y z : Nm) (h : ¬ x < y) (k : ¬ y < z) (e : ¬ z < x) : x = y := by grind
/-- between two numbers there is a third -/
theorem Nm.dense {x y : Nm} (h : x < y) : ∃ z : Nm, x < z ∧ z < y := by
  have p := Nm.lt_pos.mp h
  have mul : ∀ (a b c d : Int), Pos a b → sgn c d = 1 → sgn (m1 a b c d) (m2 a b c d) = 1 := fun a b c d h k => by
    rw [sgn_mul, sgn_one.mpr h, k]
    rfl
  generalize ha : y.a - x.a = a at p
  generalize hb : y.b - x.b = b at p
  have q1 := mul a b (-1) 2 p (by decide)
  have q2 := mul a b 2 (-2) p (by decide)
  have e1 : sgn (b - a) (2 * a - b) = 1 := by
    rw [← sgn_two, ← q1]
    unfold m1 m2
    congr 1 <;> omega
  have e2 : sgn (2 * a - b) (2 * b - 2 * a) = 1 := by
    rw [← sgn_two, ← q2]
    unfold m1 m2
    congr 1 <;> omega
  refine ⟨⟨x.a + (b - a), x.b + (2 * a - b)⟩, ?_, ?_⟩
  · rw [Nm.lt_pos, show x.a + (b - a) - x.a = b - a by omega, show x.b + (2 * a - b) - x.b = 2 * a - b by omega]
    exact sgn_one.mp e1
  · rw [Nm.lt_pos]
    have := sgn_one.mp e2
    show Pos (y.a - (x.a + (b - a))) (y.b - (x.b + (2 * a - b)))
    rw [show y.a - (x.a + (b - a)) = 2 * a - b by omega, show y.b - (x.b + (2 * a - b)) = 2 * b - 2 * a by omega]
    exact this
end Wk

/-! FM: stretches of a line, strokes, forms. -/
namespace Wk
open PySem L2
abbrev Itv := Nm × Nm
def cov (S : List Itv) (z : Nm) : Prop := ∃ s ∈ S, s.1 ≤ z ∧ z ≤ s.2
structure Sep (S : List Itv) : Prop where
  p : S.Pairwise fun s t => s.2 < t.1
  l : ∀ s ∈ S, s.1 < s.2
theorem cov_nil (z : Nm) : ¬ cov [] z := fun ⟨s, h, _⟩ => nomatch h
theorem cov_cons {s : Itv} {S : List Itv} {z : Nm} : cov (s :: S) z ↔ (s.1 ≤ z ∧ z ≤ s.2) ∨ cov S z := by
  unfold cov
  constructor
  · rintro ⟨t, h, k⟩
    rcases List.mem_cons.mp h with e | e
    · subst e; exact .inl k
    · exact .inr ⟨t, e, k⟩
  · rintro (k | ⟨t, h, k⟩)
    · exact ⟨s, List.mem_cons_self, k⟩
    · exact ⟨t, List.mem_cons_of_mem _ h, k⟩
theorem cov_app {S T : List Itv} {z : Nm} : cov (S ++ T) z ↔ cov S z ∨ cov T z := by
  unfold cov
  constructor
  · rintro ⟨t, h, k⟩
    rcases List.mem_append.mp h with e | e
    · exact .inl ⟨t, e, k⟩
    · exact .inr ⟨t, e, k⟩
  · rintro (⟨t, h, k⟩ | ⟨t, h, k⟩)
    · exact ⟨t, List.mem_append_left _ h, k⟩
    · exact ⟨t, List.mem_append_right _ h, k⟩
/-- stretches with one more -/
def wst : List Itv → List Itv → List Itv → Nm → Nm → List Itv
  | [], A, B, b, e => A ++ [(b, e)] ++ B
  | s :: S, A, B, b, e => if s.2 < b then wst S (A ++ [s]) B b e else if e < s.1 then wst S A (B ++ [s]) b e else wst S A B (if s.1 < b then s.1 else b) (if e < s.2 then s.2 else e)
theorem Sep.snoc {A : List Itv} {s : Itv} (h : Sep A) (hs : s.1 < s.2) (k : ∀ t ∈ A, t.2 < s.1) : Sep (A ++ [s]) :=
  ⟨List.pairwise_append.mpr ⟨h.p, List.pairwise_singleton _ _, fun a ha b hb => by rw [List.mem_singleton.mp hb]; exact k a ha⟩, fun t ht => by
    rcases List.mem_append.mp ht with z | z
    · exact h.l t z
    · rw [List.mem_singleton.mp z]; exact hs⟩
theorem wst_ok : ∀ (S A B : List Itv) (b e : Nm), Sep S → Sep A → Sep B → b < e → (∀ s ∈ A, s.2 < b) → (∀ s ∈ B, e < s.1) → (∀ s ∈ A, ∀ t ∈ S, s.2 < t.1) → (∀ s ∈ B, ∀ t ∈ S, s.2 < t.1) →
    Sep (wst S A B b e) ∧ ∀ z, cov (wst S A B b e) z ↔ cov A z ∨ cov B z ∨ cov S z ∨ (b ≤ z ∧ z ≤ e)
  | [], A, B, b, e, hS, hA, hB, hbe, ha, hb, _, _ => by
    unfold wst
    refine ⟨⟨?_, fun s hs => ?_⟩, fun z => ?_⟩
    · refine List.pairwise_append.mpr ⟨(hA.snoc (s := (b, e)) hbe ha).p, hB.p, fun x hx y hy => ?_⟩
      have h1 := hb y hy
      rcases List.mem_append.mp hx with q | q
      · have h2 := ha x q
        grind
      · rw [List.mem_singleton.mp q]; exact h1
    · rcases List.mem_append.mp hs with q | q
      · rcases List.mem_append.mp q with q | q
        · exact hA.l s q
        · rw [List.mem_singleton.mp q]; exact hbe
      · exact hB.l s q
    · rw [cov_app, cov_app, cov_cons]
      have := cov_nil z
      constructor
      · rintro ((h | h | h) | h)
        · exact .inl h
        · exact .inr (.inr (.inr h))
        · exact absurd h this
        · exact .inr (.inl h)
      · rintro (h | h | h | h)
        · exact .inl (.inl h)
        · exact .inr h
        · exact absurd h this
        · exact .inl (.inr (.inl h))
  | s :: S, A, B, b, e, hS, hA, hB, hbe, ha, hb, hAS, hBS => by
    have hs := hS.l s List.mem_cons_self
    have hS' : Sep S := ⟨(List.pairwise_cons.mp hS.p).2, fun t ht => hS.l t (List.mem_cons_of_mem _ ht)⟩
    have hsS := (List.pairwise_cons.mp hS.p).1
    have a1 : ∀ t ∈ A, ∀ u ∈ S, t.2 < u.1 := fun t ht u hu => hAS t ht u (List.mem_cons_of_mem _ hu)
    have b1 : ∀ t ∈ B, ∀ u ∈ S, t.2 < u.1 := fun t ht u hu => hBS t ht u (List.mem_cons_of_mem _ hu)
    have a2 : ∀ t ∈ A, t.2 < s.1 := fun t ht => hAS t ht s List.mem_cons_self
    have b2 : ∀ t ∈ B, t.2 < s.1 := fun t ht => hBS t ht s List.mem_cons_self
    unfold wst
    by_cases c1 : s.2 < b
    · rw [if_pos c1]
      obtain ⟨r1, r2⟩ := wst_ok S (A ++ [s]) B b e hS' (hA.snoc hs a2) hB hbe (fun t ht => by
        rcases List.mem_append.mp ht with q | q
        · exact ha t q
        · rw [List.mem_singleton.mp q]; exact c1) hb (fun t ht u hu => by
        rcases List.mem_append.mp ht with q | q
        · exact a1 t q u hu
        · rw [List.mem_singleton.mp q]; exact hsS u hu) b1
      refine ⟨r1, fun z => ?_⟩
      rw [r2, cov_app, cov_cons, cov_cons]
      have := cov_nil z
      grind
    · rw [if_neg c1]
      by_cases c2 : e < s.1
      · rw [if_pos c2]
        obtain ⟨r1, r2⟩ := wst_ok S A (B ++ [s]) b e hS' hA (hB.snoc hs b2) hbe ha (fun t ht => by
          rcases List.mem_append.mp ht with q | q
          · exact hb t q
          · rw [List.mem_singleton.mp q]; exact c2) a1 (fun t ht u hu => by
          rcases List.mem_append.mp ht with q | q
          · exact b1 t q u hu
          · rw [List.mem_singleton.mp q]; exact hsS u hu)
        refine ⟨r1, fun z => ?_⟩
        rw [r2, cov_app, cov_cons, cov_cons]
        have := cov_nil z
        grind
      · rw [if_neg c2]
        have hB0 : ∀ t ∈ B, False := fun t ht => by
          have h1 := hb t ht
          have h2 := hB.l t ht
          have h3 := b2 t ht
          grind
        obtain ⟨r1, r2⟩ := wst_ok S A B (if s.1 < b then s.1 else b) (if e < s.2 then s.2 else e) hS' hA hB (by grind) (fun t ht => by
          have h1 := ha t ht
          have h2 := a2 t ht
          grind) (fun t ht => (hB0 t ht).elim) a1 b1
        refine ⟨r1, fun z => ?_⟩
        rw [r2, cov_cons]
        have key : ((if s.1 < b then s.1 else b) ≤ z ∧ z ≤ (if e < s.2 then s.2 else e)) ↔ (s.1 ≤ z ∧ z ≤ s.2) ∨ (b ≤ z ∧ z ≤ e) := by grind
        rw [key]
        grind
theorem wst_ends : ∀ (S A B : List Itv) (b e : Nm), ∀ i ∈ wst S A B b e, (i.1 = b ∨ (∃ t ∈ S ++ A ++ B, t.1 = i.1)) ∧ (i.2 = e ∨ ∃ t ∈ S ++ A ++ B, t.2 = i.2)
  | [], A, B, b, e, i, hi => by
    unfold wst at hi
    simp only [List.mem_append, List.mem_singleton] at hi
    rcases hi with (h | h) | h
    · exact ⟨.inr ⟨i, by simp [h], rfl⟩, .inr ⟨i, by simp [h], rfl⟩⟩
    · subst h; exact ⟨.inl rfl, .inl rfl⟩
    · exact ⟨.inr ⟨i, by simp [h], rfl⟩, .inr ⟨i, by simp [h], rfl⟩⟩
  | s :: S, A, B, b, e, i, hi => by
    unfold wst at hi
    have sub : ∀ {P : Itv → Prop} {T : List Itv}, (∀ t ∈ T, t ∈ s :: S ++ A ++ B) → (∃ t ∈ T, P t) → ∃ t ∈ s :: S ++ A ++ B, P t := fun h ⟨t, h1, h2⟩ => ⟨t, h t h1, h2⟩
    split at hi
    · have := wst_ends S (A ++ [s]) B b e i hi
      exact ⟨this.1.imp_right (sub (by simp only [List.mem_append, List.mem_cons, List.not_mem_nil, or_false]; grind)), this.2.imp_right (sub (by simp only [List.mem_append, List.mem_cons, List.not_mem_nil, or_false]; grind))⟩
    · split at hi
      · have := wst_ends S A (B ++ [s]) b e i hi
        exact ⟨this.1.imp_right (sub (by simp only [List.mem_append, List.mem_cons, List.not_mem_nil, or_false]; grind)), this.2.imp_right (sub (by simp only [List.mem_append, List.mem_cons, List.not_mem_nil, or_false]; grind))⟩
      · have := wst_ends S A B _ _ i hi
        refine ⟨?_, ?_⟩
        · rcases this.1 with h | h
          · split at h
            · exact .inr ⟨s, by simp, h.symm⟩
            · exact .inl h
          · exact .inr (sub (by simp only [List.mem_append, List.mem_cons]; grind) h)
        · rcases this.2 with h | h
          · split at h
            · exact .inr ⟨s, by simp, h.symm⟩
            · exact .inl h
          · exact .inr (sub (by simp only [List.mem_append, List.mem_cons]; grind) h)
/-- the stretches of a line with one more -/
def addI (S : List Itv) (b e : Nm) : List Itv := wst S [] [] b e
theorem addI_ok {S : List Itv} {b e : Nm} (h : Sep S) (hb : b < e) : Sep (addI S b e) ∧ ∀ z, cov (addI S b e) z ↔ cov S z ∨ (b ≤ z ∧ z ≤ e) := by
  have n : Sep [] := ⟨List.Pairwise.nil, fun _ z => nomatch z⟩
  obtain ⟨r1, r2⟩ := wst_ok S [] [] b e h n n hb (fun _ z => nomatch z) (fun _ z => nomatch z) (fun _ z => nomatch z) (fun _ z => nomatch z)
  refine ⟨r1, fun z => ?_⟩
  have := cov_nil z
  rw [addI, r2]
  grind
theorem addI_ends {S : List Itv} {b e : Nm} : ∀ i ∈ addI S b e, (i.1 = b ∨ ∃ t ∈ S, t.1 = i.1) ∧ (i.2 = e ∨ ∃ t ∈ S, t.2 = i.2) := fun i hi => by
  have := wst_ends S [] [] b e i hi
  simpa using this
/-- a stretch that is covered, and is as long as can be -/
structure Comp (C : Nm → Prop) (s : Itv) : Prop where
  l : s.1 < s.2
  i : ∀ z, s.1 ≤ z → z ≤ s.2 → C z
  w : ∀ w, w < s.1 → ∃ z, w < z ∧ z < s.1 ∧ ¬ C z
  e : ∀ w, s.2 < w → ∃ z, s.2 < z ∧ z < w ∧ ¬ C z
theorem Comp.uniq {C : Nm → Prop} {s t : Itv} (h : Comp C s) (k : Comp C t) {z : Nm} (h1 : s.1 ≤ z) (h2 : z ≤ s.2) (k1 : t.1 ≤ z) (k2 : z ≤ t.2) : s = t := by
  have e1 : s.1 = t.1 := by
    by_cases c : s.1 < t.1
    · obtain ⟨y, y1, y2, y3⟩ := k.w _ c
      exact absurd (h.i y (by grind) (by grind)) y3
    · by_cases c' : t.1 < s.1
      · obtain ⟨y, y1, y2, y3⟩ := h.w _ c'
        exact absurd (k.i y (by grind) (by grind)) y3
      · grind
  have e2 : s.2 = t.2 := by
    by_cases c : s.2 < t.2
    · obtain ⟨y, y1, y2, y3⟩ := h.e _ c
      exact absurd (k.i y (by grind) (by grind)) y3
    · by_cases c' : t.2 < s.2
      · obtain ⟨y, y1, y2, y3⟩ := k.e _ c'
        exact absurd (h.i y (by grind) (by grind)) y3
      · grind
  exact Prod.ext e1 e2
theorem below_all (x : Nm) : ∀ (S : List Itv) (w : Nm), w < x → ∃ w', w ≤ w' ∧ w' < x ∧ ∀ t ∈ S, t.2 < x → t.2 ≤ w'
  | [], w, h => ⟨w, by grind, h, fun _ z => nomatch z⟩
  | t :: S, w, h => by
    obtain ⟨w', h1, h2, h3⟩ := below_all x S w h
    by_cases c : t.2 < x ∧ w' < t.2
    · refine ⟨t.2, by grind, c.1, fun u hu k => ?_⟩
      rcases List.mem_cons.mp hu with z | z
      · subst z; grind
      · have := h3 u z k; grind
    · refine ⟨w', h1, h2, fun u hu k => ?_⟩
      rcases List.mem_cons.mp hu with z | z
      · subst z; grind
      · exact h3 u z k
theorem above_all (x : Nm) : ∀ (S : List Itv) (w : Nm), x < w → ∃ w', w' ≤ w ∧ x < w' ∧ ∀ t ∈ S, x < t.1 → w' ≤ t.1
  | [], w, h => ⟨w, by grind, h, fun _ z => nomatch z⟩
  | t :: S, w, h => by
    obtain ⟨w', h1, h2, h3⟩ := above_all x S w h
    by_cases c : x < t.1 ∧ t.1 < w'
    · refine ⟨t.1, by grind, c.1, fun u hu k => ?_⟩
      rcases List.mem_cons.mp hu with z | z
      · subst z; grind
      · have := h3 u z k; grind
    · refine ⟨w', h1, h2, fun u hu k => ?_⟩
      rcases List.mem_cons.mp hu with z | z
      · subst z; grind
      · exact h3 u z k
theorem Sep.apart : ∀ {S : List Itv}, Sep S → ∀ s ∈ S, ∀ t ∈ S, s = t ∨ s.2 < t.1 ∨ t.2 < s.1
  | [], _, s, hs, _, _ => nomatch hs
  | x :: S, h, s, hs, t, ht => by
    have hS' : Sep S := ⟨(List.pairwise_cons.mp h.p).2, fun t ht => h.l t (List.mem_cons_of_mem _ ht)⟩
    have hx := (List.pairwise_cons.mp h.p).1
    rcases List.mem_cons.mp hs with e | e
    · rcases List.mem_cons.mp ht with f | f
      · exact .inl (e.trans f.symm)
      · subst e; exact .inr (.inl (hx t f))
    · rcases List.mem_cons.mp ht with f | f
      · subst f; exact .inr (.inr (hx s e))
      · exact hS'.apart s e t f
theorem Sep.comp {S : List Itv} (h : Sep S) {s : Itv} (hs : s ∈ S) : Comp (cov S) s := by
  have hl := h.l s hs
  refine ⟨hl, fun z h1 h2 => ⟨s, hs, h1, h2⟩, fun w hw => ?_, fun w hw => ?_⟩
  · obtain ⟨w', h1, h2, h3⟩ := below_all s.1 S w hw
    obtain ⟨z, z1, z2⟩ := Nm.dense h2
    refine ⟨z, by grind, z2, fun ⟨t, ht, t1, t2⟩ => ?_⟩
    have hl' := h.l t ht
    rcases h.apart s hs t ht with e | e | e
    · subst e; grind
    · grind
    · have := h3 t ht e; grind
  · obtain ⟨w', h1, h2, h3⟩ := above_all s.2 S w hw
    obtain ⟨z, z1, z2⟩ := Nm.dense h2
    refine ⟨z, z1, by grind, fun ⟨t, ht, t1, t2⟩ => ?_⟩
    have hl' := h.l t ht
    rcases h.apart s hs t ht with e | e | e
    · subst e; grind
    · have := h3 t ht e; grind
    · grind
theorem Comp.congr {C C' : Nm → Prop} {s : Itv} (h : Comp C s) (e : ∀ z, C z ↔ C' z) : Comp C' s :=
  ⟨h.l, fun z h1 h2 => (e z).mp (h.i z h1 h2), fun w hw => by
    obtain ⟨z, a, b, c⟩ := h.w w hw
    exact ⟨z, a, b, fun k => c ((e z).mpr k)⟩, fun w hw => by
    obtain ⟨z, a, b, c⟩ := h.e w hw
    exact ⟨z, a, b, fun k => c ((e z).mpr k)⟩⟩
end Wk

/-! FM2: strokes on lines. -/
namespace Wk
open PySem L2
def P4.x (p : P4) : Nm := ⟨p.a, p.b⟩
def P4.y (p : P4) : Nm := ⟨p.c, p.d⟩
def Nm.sub (x y : Nm) : Nm := ⟨x.a - y.a, x.b - y.b⟩
def Nm.add (x y : Nm) : Nm := ⟨x.a + y.a, x.b + y.b⟩
def Nm.zero : Nm := ⟨0, 0⟩
/-- the direction of the line through two places -/
def dirS (p q : P4) : Int := if q.y.sub p.y = Nm.zero then 0 else if q.x.sub p.x = Nm.zero then 2 else if q.x.sub p.x = q.y.sub p.y then 1 else 3
def lineS (p : P4) (d : Int) : Nm := if d = 0 then p.y else if d = 2 then p.x else if d = 1 then p.x.sub p.y else p.x.add p.y
def alg (p : P4) (d : Int) : Nm := if d = 2 then p.y else p.x
/-- the place so far along a line -/
def pt (d : Int) (l z : Nm) : P4 := if d = 0 then ⟨z.a, z.b, l.a, l.b⟩ else if d = 2 then ⟨l.a, l.b, z.a, z.b⟩ else if d = 1 then ⟨z.a, z.b, z.a - l.a, z.b - l.b⟩ else ⟨z.a, z.b, l.a - z.a, l.b - z.b⟩
theorem dirS_four (p q : P4) : dirS p q = 0 ∨ dirS p q = 1 ∨ dirS p q = 2 ∨ dirS p q = 3 := by
  unfold dirS
  split
  · simp
  · split
    · simp
    · split <;> simp
theorem nm_eq {x y : Nm} : x = y ↔ x.a = y.a ∧ x.b = y.b := by
  constructor
  · intro h; subst h; exact ⟨rfl, rfl⟩
  · intro h; cases x; cases y; simp at h; simp [h]
theorem p4_eq {x y : P4} : x = y ↔ x.a = y.a ∧ x.b = y.b ∧ x.c = y.c ∧ x.d = y.d := by
  constructor
  · intro h; subst h; exact ⟨rfl, rfl, rfl, rfl⟩
  · intro h; cases x; cases y; simp at h; simp [h]
theorem pt_line (d : Int) (l z : Nm) : lineS (pt d l z) d = l := by
  unfold lineS pt P4.x P4.y Nm.sub Nm.add
  split
  · simp
  · split
    · simp
    · split
      · rw [nm_eq]; dsimp only; omega
      · rw [nm_eq]; dsimp only; omega
theorem pt_alg (d : Int) (l z : Nm) : alg (pt d l z) d = z := by
  unfold alg pt P4.x P4.y
  by_cases h : d = 2
  · subst h; simp
  · rw [if_neg h, if_neg h]
    split
    · rfl
    · split <;> rfl
theorem pt_of (p : P4) (d : Int) : pt d (lineS p d) (alg p d) = p := by
  unfold lineS pt alg P4.x P4.y Nm.sub Nm.add
  by_cases h0 : d = 0
  · subst h0; simp
  · by_cases h2 : d = 2
    · subst h2; simp
    · by_cases h1 : d = 1
      · subst h1; rw [p4_eq]; simp; omega
      · rw [p4_eq]; simp [h0, h1, h2]; omega
theorem dirS_pt {d : Int} {l x y : Nm} (hd : d = 0 ∨ d = 1 ∨ d = 2 ∨ d = 3) (h : x ≠ y) : dirS (pt d l x) (pt d l y) = d := by
  have hn : ¬ (x.a = y.a ∧ x.b = y.b) := fun z => h (nm_eq.mpr z)
  unfold dirS pt P4.x P4.y Nm.sub Nm.zero
  rcases hd with e | e | e | e <;> subst e <;> simp only [nm_eq] <;> simp <;> omega
theorem dirS_sym (p q : P4) : dirS q p = dirS p q := by
  unfold dirS P4.x P4.y Nm.sub Nm.zero
  simp only [nm_eq]
  have e1 : (p.c - q.c = 0 ∧ p.d - q.d = 0) ↔ (q.c - p.c = 0 ∧ q.d - p.d = 0) := by omega
  have e2 : (p.a - q.a = 0 ∧ p.b - q.b = 0) ↔ (q.a - p.a = 0 ∧ q.b - p.b = 0) := by omega
  have e3 : (p.a - q.a = p.c - q.c ∧ p.b - q.b = p.d - q.d) ↔ (q.a - p.a = q.c - p.c ∧ q.b - p.b = q.d - p.d) := by omega
  simp only [e1, e2, e3]
/-- a stroke along one of the four lines -/
structure Stk.ok (s : Stk) : Prop where
  n : s.a ≠ s.b
  l : lineS s.b (dirS s.a s.b) = lineS s.a (dirS s.a s.b)
structure LK where
  ink : Int
  d : Int
  l : Nm
def Stk.dr4 (s : Stk) : Int := dirS s.a s.b
def Stk.key (s : Stk) : LK := ⟨s.ink, s.dr4, lineS s.a s.dr4⟩
def Stk.za (s : Stk) : Nm := alg s.a s.dr4
def Stk.zb (s : Stk) : Nm := alg s.b s.dr4
def Stk.lo (s : Stk) : Nm := if s.zb < s.za then s.zb else s.za
def Stk.hi (s : Stk) : Nm := if s.zb < s.za then s.za else s.zb
theorem lk_eq {x y : LK} : x = y ↔ x.ink = y.ink ∧ x.d = y.d ∧ x.l = y.l := by
  constructor
  · intro h; subst h; exact ⟨rfl, rfl, rfl⟩
  · intro h; cases x; cases y; simp at h; simp [h]
instance : DecidableEq LK := fun x y => if h : x.ink = y.ink ∧ x.d = y.d ∧ x.l = y.l then .isTrue (lk_eq.mpr h) else .isFalse (fun z => h (lk_eq.mp z))
theorem Stk.ok.a_pt {s : Stk} (h : s.ok) : s.a = pt s.key.d s.key.l s.za := (pt_of s.a s.dr4).symm
theorem Stk.ok.b_pt {s : Stk} (h : s.ok) : s.b = pt s.key.d s.key.l s.zb := by
  have := pt_of s.b s.dr4
  unfold Stk.dr4 at this
  rw [h.l] at this
  exact this.symm
theorem Stk.ok.ne {s : Stk} (h : s.ok) : s.za ≠ s.zb := fun e => h.n (by rw [h.a_pt, h.b_pt, e])
theorem Stk.ok.lt {s : Stk} (h : s.ok) : s.lo < s.hi := by
  have := h.ne
  unfold Stk.lo Stk.hi
  grind
/-- a stroke of a line -/
def mkS (k : LK) (i : Itv) : Stk := ⟨k.ink, pt k.d k.l i.1, pt k.d k.l i.2⟩
def LK.fine (k : LK) : Prop := k.d = 0 ∨ k.d = 1 ∨ k.d = 2 ∨ k.d = 3
theorem Stk.key_fine (s : Stk) : s.key.fine := dirS_four _ _
theorem mkS_dr {k : LK} (hk : k.fine) {i : Itv} (hi : i.1 ≠ i.2) : (mkS k i).dr4 = k.d := dirS_pt hk hi
theorem mkS_key {k : LK} (hk : k.fine) {i : Itv} (hi : i.1 ≠ i.2) : (mkS k i).key = k := by
  unfold Stk.key
  rw [mkS_dr hk hi]
  show LK.mk k.ink k.d (lineS (pt k.d k.l i.1) k.d) = k
  rw [pt_line]
theorem mkS_za {k : LK} (hk : k.fine) {i : Itv} (hi : i.1 ≠ i.2) : (mkS k i).za = i.1 := by
  unfold Stk.za
  rw [mkS_dr hk hi]
  exact pt_alg _ _ _
theorem mkS_zb {k : LK} (hk : k.fine) {i : Itv} (hi : i.1 ≠ i.2) : (mkS k i).zb = i.2 := by
  unfold Stk.zb
  rw [mkS_dr hk hi]
  exact pt_alg _ _ _
theorem mkS_ok {k : LK} (hk : k.fine) {i : Itv} (hi : i.1 ≠ i.2) : (mkS k i).ok := by
  refine ⟨fun e => hi ?_, ?_⟩
  · have e' : pt k.d k.l i.1 = pt k.d k.l i.2 := e
    rw [← pt_alg k.d k.l i.1, e', pt_alg]
  · have hd : dirS (mkS k i).a (mkS k i).b = k.d := mkS_dr hk hi
    rw [hd]
    exact (pt_line _ _ _).trans (pt_line _ _ _).symm
theorem Stk.ok.is {s : Stk} (h : s.ok) : s = mkS s.key (s.za, s.zb) := by
  have h1 := h.a_pt
  have h2 := h.b_pt
  cases s
  unfold mkS
  congr 1
/-! ### forms -/
/-- what strokes cover on a line, in an ink -/
def Cv (L : List Stk) (k : LK) (z : Nm) : Prop := ∃ s ∈ L, s.key = k ∧ s.lo ≤ z ∧ z ≤ s.hi
abbrev Tbl := List (LK × List Itv)
def tget (M : Tbl) (k : LK) : Option (List Itv) := (M.find? fun x => decide (x.1 = k)).map (·.2)
def tput (M : Tbl) (k : LK) (S : List Itv) : Tbl := if M.any fun x => decide (x.1 = k) then M.map fun x => if x.1 = k then (x.1, S) else x else M ++ [(k, S)]
def tadd (M : Tbl) (s : Stk) : Tbl := tput M s.key (addI ((tget M s.key).getD []) s.lo s.hi)
def tbl (L : List Stk) : Tbl := L.foldl tadd []
structure TOk (L : List Stk) (M : Tbl) : Prop where
  nd : (M.map (·.1)).Nodup
  sp : ∀ x ∈ M, Sep x.2
  fn : ∀ x ∈ M, x.1.fine
  cv : ∀ k z, (∃ x ∈ M, x.1 = k ∧ cov x.2 z) ↔ Cv L k z
  lo : ∀ x ∈ M, ∀ i ∈ x.2, ∃ s ∈ L, s.key = x.1 ∧ s.lo = i.1
  hi : ∀ x ∈ M, ∀ i ∈ x.2, ∃ s ∈ L, s.key = x.1 ∧ s.hi = i.2
theorem tget_none {M : Tbl} {k : LK} (h : tget M k = none) : ∀ x ∈ M, x.1 ≠ k := by
  unfold tget at h
  rw [Option.map_eq_none_iff, List.find?_eq_none] at h
  intro x hx
  have := h x hx
  simpa using this
theorem tget_some {M : Tbl} {k : LK} {S : List Itv} (h : tget M k = some S) : (k, S) ∈ M := by
  unfold tget at h
  obtain ⟨x, h1, h2⟩ := Option.map_eq_some_iff.mp h
  have h3 := List.mem_of_find?_eq_some h1
  have h4 : x.1 = k := by
    have := List.find?_some h1
    simpa using this
  rw [← h4, ← h2]
  exact h3
theorem nd_uniq : ∀ {M : Tbl}, (M.map (·.1)).Nodup → ∀ x ∈ M, ∀ y ∈ M, x.1 = y.1 → x = y
  | [], _, x, hx, _, _, _ => nomatch hx
  | a :: M, h, x, hx, y, hy, e => by
    rw [List.map_cons, List.nodup_cons] at h
    rcases List.mem_cons.mp hx with h1 | h1
    · rcases List.mem_cons.mp hy with h2 | h2
      · rw [h1, h2]
      · subst h1; exact absurd (List.mem_map.mpr ⟨y, h2, e.symm⟩) h.1
    · rcases List.mem_cons.mp hy with h2 | h2
      · subst h2; exact absurd (List.mem_map.mpr ⟨x, h1, e⟩) h.1
      · exact nd_uniq h.2 x h1 y h2 e
theorem tput_mem {M : Tbl} {k : LK} {S : List Itv} {x : LK × List Itv} : x ∈ tput M k S ↔ (x ∈ M ∧ x.1 ≠ k) ∨ x = (k, S) := by
  unfold tput
  split
  · rename_i h
    obtain ⟨y, hy, ey⟩ := List.any_eq_true.mp h
    have ey := of_decide_eq_true ey
    rw [List.mem_map]
    constructor
    · rintro ⟨z, hz, rfl⟩
      split
      · rename_i e
        rw [e]; exact .inr rfl
      · rename_i e
        exact .inl ⟨hz, e⟩
    · rintro (⟨h1, h2⟩ | h1)
      · exact ⟨x, h1, by rw [if_neg h2]⟩
      · exact ⟨y, hy, by rw [if_pos ey, ey, h1]⟩
  · rename_i h
    have hn : ∀ x ∈ M, x.1 ≠ k := fun x hx e => h (List.any_eq_true.mpr ⟨x, hx, decide_eq_true e⟩)
    rw [List.mem_append, List.mem_singleton]
    constructor
    · rintro (h1 | h1)
      · exact .inl ⟨h1, hn x h1⟩
      · exact .inr h1
    · rintro (⟨h1, _⟩ | h1)
      · exact .inl h1
      · exact .inr h1
theorem tput_keys {M : Tbl} {k : LK} {S : List Itv} (h : (M.map (·.1)).Nodup) : ((tput M k S).map (·.1)).Nodup := by
  unfold tput
  split
  · rw [List.map_map]
    have e : ((fun x : LK × List Itv => x.1) ∘ fun x => if x.1 = k then (x.1, S) else x) = fun x => x.1 := by
      funext x
      simp only [Function.comp]
      split <;> rfl
    rw [e]
    exact h
  · rename_i hk
    rw [List.map_append, List.map_cons, List.map_nil]
    refine List.nodup_append.mpr ⟨h, by simp, fun a ha b hb e => ?_⟩
    rw [List.mem_singleton] at hb
    obtain ⟨x, hx, rfl⟩ := List.mem_map.mp ha
    exact hk (List.any_eq_true.mpr ⟨x, hx, decide_eq_true (e.trans hb)⟩)
theorem TOk.nil : TOk [] [] := ⟨List.nodup_nil, fun _ h => (nomatch h), fun _ h => (nomatch h), fun k z => ⟨fun ⟨_, h, _⟩ => (nomatch h), fun ⟨_, h, _⟩ => (nomatch h)⟩, fun _ h => (nomatch h), fun _ h => (nomatch h)⟩
theorem TOk.add {L : List Stk} {M : Tbl} {s : Stk} (h : TOk L M) (hs : s.ok) : TOk (L ++ [s]) (tadd M s) := by
  have hold : ∃ S, (tget M s.key).getD [] = S ∧ Sep S ∧ (∀ z, cov S z ↔ ∃ x ∈ M, x.1 = s.key ∧ cov x.2 z) ∧ (∀ i ∈ S, ∃ t ∈ L, t.key = s.key ∧ t.lo = i.1) ∧ ∀ i ∈ S, ∃ t ∈ L, t.key = s.key ∧ t.hi = i.2 := by
    cases q : tget M s.key with
    | none =>
      refine ⟨[], rfl, ⟨List.Pairwise.nil, fun _ z => (nomatch z)⟩, fun z => ⟨fun h => absurd h (cov_nil z), fun ⟨x, hx, e, _⟩ => absurd e (tget_none q x hx)⟩, fun _ h => (nomatch h), fun _ h => (nomatch h)⟩
    | some S =>
      have hm := tget_some q
      refine ⟨S, rfl, h.sp _ hm, fun z => ⟨fun c => ⟨_, hm, rfl, c⟩, fun ⟨x, hx, e, c⟩ => ?_⟩, h.lo _ hm, h.hi _ hm⟩
      have := nd_uniq h.nd x hx _ hm e
      rw [this] at c
      exact c
  obtain ⟨S, e, s1, s2, s3, s4⟩ := hold
  obtain ⟨a1, a2⟩ := addI_ok s1 hs.lt
  unfold tadd
  rw [e]
  refine ⟨tput_keys h.nd, fun x hx => ?_, fun x hx => ?_, fun k z => ?_, fun x hx i hi => ?_, fun x hx i hi => ?_⟩
  · rcases tput_mem.mp hx with ⟨q, _⟩ | q
    · exact h.sp x q
    · rw [q]; exact a1
  · rcases tput_mem.mp hx with ⟨q, _⟩ | q
    · exact h.fn x q
    · rw [q]; exact s.key_fine
  · have c0 := h.cv k z
    constructor
    · rintro ⟨x, hx, ek, c⟩
      rcases tput_mem.mp hx with ⟨q, _⟩ | q
      · obtain ⟨t, t1, t2⟩ := c0.mp ⟨x, q, ek, c⟩
        exact ⟨t, List.mem_append_left _ t1, t2⟩
      · rw [q] at c ek
        rcases (a2 z).mp c with c | c
        · obtain ⟨t, t1, t2⟩ := (h.cv _ z).mp ((s2 z).mp c)
          exact ⟨t, List.mem_append_left _ t1, t2.1.trans ek, t2.2⟩
        · exact ⟨s, by simp, ek, c⟩
    · rintro ⟨t, t1, t2, t3⟩
      by_cases ek : k = s.key
      · subst ek
        refine ⟨_, tput_mem.mpr (.inr rfl), rfl, (a2 z).mpr ?_⟩
        rcases List.mem_append.mp t1 with q | q
        · exact .inl ((s2 z).mpr ((h.cv _ z).mpr ⟨t, q, t2, t3⟩))
        · rw [List.mem_singleton.mp q] at t3; exact .inr t3
      · rcases List.mem_append.mp t1 with q | q
        · obtain ⟨x, x1, x2, x3⟩ := c0.mpr ⟨t, q, t2, t3⟩
          exact ⟨x, tput_mem.mpr (.inl ⟨x1, by rw [x2]; exact ek⟩), x2, x3⟩
        · rw [List.mem_singleton.mp q] at t2; exact absurd t2.symm ek
  · rcases tput_mem.mp hx with ⟨q, _⟩ | q
    · obtain ⟨t, t1, t2⟩ := h.lo x q i hi
      exact ⟨t, List.mem_append_left _ t1, t2⟩
    · rw [q] at hi ⊢
      rcases (addI_ends i hi).1 with c | ⟨j, j1, j2⟩
      · exact ⟨s, by simp, rfl, c.symm⟩
      · obtain ⟨t, t1, t2, t3⟩ := s3 j j1
        exact ⟨t, List.mem_append_left _ t1, t2, t3.trans j2⟩
  · rcases tput_mem.mp hx with ⟨q, _⟩ | q
    · obtain ⟨t, t1, t2⟩ := h.hi x q i hi
      exact ⟨t, List.mem_append_left _ t1, t2⟩
    · rw [q] at hi ⊢
      rcases (addI_ends i hi).2 with c | ⟨j, j1, j2⟩
      · exact ⟨s, by simp, rfl, c.symm⟩
      · obtain ⟨t, t1, t2, t3⟩ := s4 j j1
        exact ⟨t, List.mem_append_left _ t1, t2, t3.trans j2⟩
theorem tbl_ok {L : List Stk} (h : ∀ s ∈ L, s.ok) : TOk L (tbl L) := by
  have key : ∀ (R P : List Stk) (M : Tbl), TOk P M → (∀ s ∈ R, s.ok) → TOk (P ++ R) (R.foldl tadd M) := fun R => by
    induction R with
    | nil => intro P M h _; rw [List.append_nil]; exact h
    | cons s R ih =>
      intro P M hM hR
      have := ih (P ++ [s]) (tadd M s) (hM.add (hR s List.mem_cons_self)) fun t ht => hR t (List.mem_cons_of_mem _ ht)
      rw [List.append_assoc] at this
      exact this
  have := key L [] [] TOk.nil h
  rw [List.nil_append] at this
  exact this
/-- all strokes of a table -/
def tstk (M : Tbl) : List Stk := M.flatMap fun x => x.2.map (mkS x.1)
theorem tstk_mem {M : Tbl} {f : Stk} : f ∈ tstk M ↔ ∃ x ∈ M, ∃ i ∈ x.2, f = mkS x.1 i := by
  unfold tstk
  rw [List.mem_flatMap]
  constructor
  · rintro ⟨x, hx, h⟩
    obtain ⟨i, hi, rfl⟩ := List.mem_map.mp h
    exact ⟨x, hx, i, hi, rfl⟩
  · rintro ⟨x, hx, i, hi, rfl⟩
    exact ⟨x, hx, List.mem_map.mpr ⟨i, hi, rfl⟩⟩
/-- from west to east (south to north) -/
def Stk.fwd (s : Stk) : Prop := s.za < s.zb
theorem Stk.fwd.lo {s : Stk} (h : s.fwd) : s.lo = s.za := by unfold Stk.lo Stk.fwd at *; grind
theorem Stk.fwd.hi {s : Stk} (h : s.fwd) : s.hi = s.zb := by unfold Stk.hi Stk.fwd at *; grind
/-- F is the form of L -/
structure IsF (F L : List Stk) : Prop where
  ok : ∀ f ∈ F, f.ok
  fw : ∀ f ∈ F, f.fwd
  cp : ∀ f ∈ F, Comp (Cv L f.key) (f.za, f.zb)
  cv : ∀ k z, Cv L k z → ∃ f ∈ F, f.key = k ∧ f.za ≤ z ∧ z ≤ f.zb
  nd : F.Nodup
  lo : ∀ f ∈ F, ∃ s ∈ L, s.a = f.a ∨ s.b = f.a
  hi : ∀ f ∈ F, ∃ s ∈ L, s.a = f.b ∨ s.b = f.b
theorem mkS_inj {k j : LK} {i i' : Itv} (hk : k.fine) (hj : j.fine) (hi : i.1 ≠ i.2) (hi' : i'.1 ≠ i'.2) (e : mkS k i = mkS j i') : k = j ∧ i = i' := by
  have h1 := mkS_key hk hi
  have h2 := mkS_za hk hi
  have h3 := mkS_zb hk hi
  rw [e] at h1 h2 h3
  rw [mkS_key hj hi'] at h1
  rw [mkS_za hj hi'] at h2
  rw [mkS_zb hj hi'] at h3
  exact ⟨h1.symm, Prod.ext h2.symm h3.symm⟩
theorem Stk.ok.end_lo {s : Stk} (h : s.ok) : s.a = pt s.key.d s.key.l s.lo ∨ s.b = pt s.key.d s.key.l s.lo := by
  unfold Stk.lo
  split
  · exact .inr h.b_pt
  · exact .inl h.a_pt
theorem Stk.ok.end_hi {s : Stk} (h : s.ok) : s.a = pt s.key.d s.key.l s.hi ∨ s.b = pt s.key.d s.key.l s.hi := by
  unfold Stk.hi
  split
  · exact .inl h.a_pt
  · exact .inr h.b_pt
theorem Sep.nd {S : List Itv} (h : Sep S) : S.Nodup := by
  refine List.Pairwise.imp_of_mem (fun {a b} ha hb k e => ?_) h.p
  have := h.l a ha
  subst e
  grind
theorem tstk_isF {L : List Stk} (hL : ∀ s ∈ L, s.ok) : IsF (tstk (tbl L)) L := by
  have T := tbl_ok hL
  have ne : ∀ x ∈ tbl L, ∀ i ∈ x.2, i.1 < i.2 := fun x hx i hi => (T.sp x hx).l i hi
  have ne' : ∀ x ∈ tbl L, ∀ i ∈ x.2, i.1 ≠ i.2 := fun x hx i hi => by have := ne x hx i hi; grind
  refine ⟨fun f hf => ?_, fun f hf => ?_, fun f hf => ?_, fun k z h => ?_, ?_, fun f hf => ?_, fun f hf => ?_⟩
  · obtain ⟨x, hx, i, hi, rfl⟩ := tstk_mem.mp hf
    exact mkS_ok (T.fn x hx) (ne' x hx i hi)
  · obtain ⟨x, hx, i, hi, rfl⟩ := tstk_mem.mp hf
    unfold Stk.fwd
    rw [mkS_za (T.fn x hx) (ne' x hx i hi), mkS_zb (T.fn x hx) (ne' x hx i hi)]
    exact ne x hx i hi
  · obtain ⟨x, hx, i, hi, rfl⟩ := tstk_mem.mp hf
    rw [mkS_za (T.fn x hx) (ne' x hx i hi), mkS_zb (T.fn x hx) (ne' x hx i hi), mkS_key (T.fn x hx) (ne' x hx i hi)]
    refine ((T.sp x hx).comp hi).congr fun z => ?_
    rw [← T.cv]
    constructor
    · exact fun c => ⟨x, hx, rfl, c⟩
    · rintro ⟨y, hy, e, c⟩
      rw [nd_uniq T.nd y hy x hx e] at c
      exact c
  · obtain ⟨x, hx, e, i, hi, c1, c2⟩ := (T.cv k z).mpr h
    refine ⟨mkS x.1 i, tstk_mem.mpr ⟨x, hx, i, hi, rfl⟩, ?_, ?_, ?_⟩
    · rw [mkS_key (T.fn x hx) (ne' x hx i hi)]; exact e
    · rw [mkS_za (T.fn x hx) (ne' x hx i hi)]; exact c1
    · rw [mkS_zb (T.fn x hx) (ne' x hx i hi)]; exact c2
  · have key : ∀ M : Tbl, (M.map (·.1)).Nodup → (∀ x ∈ M, Sep x.2) → (∀ x ∈ M, x.1.fine) → (tstk M).Nodup := fun M => by
      induction M with
      | nil => intro _ _ _; exact List.nodup_nil
      | cons x M ih =>
        intro h1 h2 h3
        have ih := ih (List.nodup_cons.mp h1).2 (fun y hy => h2 y (List.mem_cons_of_mem _ hy)) (fun y hy => h3 y (List.mem_cons_of_mem _ hy))
        have hx := h2 x List.mem_cons_self
        have fx := h3 x List.mem_cons_self
        have lt : ∀ i ∈ x.2, i.1 ≠ i.2 := fun i hi => by have := hx.l i hi; grind
        show (x.2.map (mkS x.1) ++ tstk M).Nodup
        refine List.nodup_append.mpr ⟨?_, ih, fun a ha b hb e => ?_⟩
        · refine List.pairwise_map.mpr (List.Pairwise.imp_of_mem (fun {i j} hi hj k e => k ?_) hx.nd)
          exact (mkS_inj fx fx (lt i hi) (lt j hj) e).2
        · obtain ⟨i, hi, rfl⟩ := List.mem_map.mp ha
          obtain ⟨y, hy, j, hj, rfl⟩ := tstk_mem.mp hb
          have := (mkS_inj fx (h3 y (List.mem_cons_of_mem _ hy)) (lt i hi) (by have := (h2 y (List.mem_cons_of_mem _ hy)).l j hj; grind) e).1
          exact (List.nodup_cons.mp h1).1 (List.mem_map.mpr ⟨y, hy, this.symm⟩)
    exact key _ T.nd T.sp T.fn
  · obtain ⟨x, hx, i, hi, rfl⟩ := tstk_mem.mp hf
    obtain ⟨s, hs, e1, e2⟩ := T.lo x hx i hi
    refine ⟨s, hs, ?_⟩
    have := (hL s hs).end_lo
    rw [e1, e2] at this
    exact this
  · obtain ⟨x, hx, i, hi, rfl⟩ := tstk_mem.mp hf
    obtain ⟨s, hs, e1, e2⟩ := T.hi x hx i hi
    refine ⟨s, hs, ?_⟩
    have := (hL s hs).end_hi
    rw [e1, e2] at this
    exact this
theorem IsF.perm {F G L : List Stk} (h : IsF F L) (p : G.Perm F) : IsF G L :=
  ⟨fun f hf => h.ok f (p.mem_iff.mp hf), fun f hf => h.fw f (p.mem_iff.mp hf), fun f hf => h.cp f (p.mem_iff.mp hf), fun k z c => by
    obtain ⟨f, hf, r⟩ := h.cv k z c
    exact ⟨f, p.mem_iff.mpr hf, r⟩, p.nodup_iff.mpr h.nd, fun f hf => h.lo f (p.mem_iff.mp hf), fun f hf => h.hi f (p.mem_iff.mp hf)⟩
/-- two forms of strokes that cover the same have the same strokes -/
theorem IsF.same {F G L L' : List Stk} (h : IsF F L) (k : IsF G L') (e : ∀ q z, Cv L q z ↔ Cv L' q z) : ∀ f ∈ F, f ∈ G := fun f hf => by
  have cf := (h.cp f hf).congr (e f.key)
  obtain ⟨g, hg, e1, e2, e3⟩ := k.cv f.key f.za (cf.i _ (by grind) (by have := cf.l; grind))
  have cg := k.cp g hg
  rw [e1] at cg
  have := cf.uniq cg (z := f.za) (by grind) (by have := cf.l; grind) e2 e3
  rw [(h.ok f hf).is, this, ← e1, ← (k.ok g hg).is]
  exact hg
/-! ### how many -/
theorem wst_len : ∀ (S A B : List Itv) (b e : Nm), (wst S A B b e).length ≤ S.length + A.length + B.length + 1
  | [], A, B, b, e => by unfold wst; simp; omega
  | s :: S, A, B, b, e => by
    unfold wst
    split
    · have := wst_len S (A ++ [s]) B b e
      rw [List.length_append, List.length_singleton] at this
      rw [List.length_cons]
      omega
    · split
      · have := wst_len S A (B ++ [s]) b e
        rw [List.length_append, List.length_singleton] at this
        rw [List.length_cons]
        omega
      · have := wst_len S A B (if s.1 < b then s.1 else b) (if e < s.2 then s.2 else e)
        rw [List.length_cons]
        omega
structure TLn (n : Nat) (M : Tbl) : Prop where
  l : M.length ≤ n
  s : ∀ x ∈ M, x.2.length ≤ n
theorem TLn.add {n : Nat} {M : Tbl} (h : TLn n M) (s : Stk) : TLn (n + 1) (tadd M s) := by
  refine ⟨?_, fun x hx => ?_⟩
  · have := h.l
    unfold tadd tput
    split
    · rw [List.length_map]; omega
    · rw [List.length_append, List.length_singleton]; omega
  · rcases tput_mem.mp hx with ⟨q, _⟩ | q
    · have := h.s x q; omega
    · rw [q]
      have := wst_len ((tget M s.key).getD []) [] [] s.lo s.hi
      have k : ((tget M s.key).getD []).length ≤ n := by
        cases e : tget M s.key with
        | none => simp
        | some S => exact h.s _ (tget_some e)
      show (addI _ _ _).length ≤ _
      unfold addI
      simp at this
      omega
end Wk

/-! FM3: strokes as data: sorted, and in a dict. -/
namespace Wk
open PySem L2
def skInts (s : Stk) : List Int := [s.ink, s.a.a, s.a.b, s.a.c, s.a.d, s.b.a, s.b.b, s.b.c, s.b.d]
def skKey (s : Stk) : NestedKey := .tup [.num s.ink, .tup [.tup [.num s.a.a, .num s.a.b], .tup [.num s.a.c, .num s.a.d]], .tup [.tup [.num s.b.a, .num s.b.b], .tup [.num s.b.c, .num s.b.d]]]
theorem skKey_data (s : Stk) : (skKey s).data = s.e := by
  unfold skKey Stk.e P4.e
  simp [NestedKey.data, NestedKey.datas]
theorem skKey_pure (s : Stk) : pureK (skKey s) = true := by
  unfold skKey
  simp [pureK, pureKs]
theorem skKey_ints (s : Stk) : kInts (skKey s) = skInts s := by
  unfold skKey skInts
  simp [kInts, kIntsL]
theorem skKey_alike (s t : Stk) : alikeK (skKey s) (skKey t) = true := by
  unfold skKey
  simp [alikeK, alikeKs]
def leK (s t : Stk) : Bool := !HT.lexLt (skInts t) (skInts s)
def sortS (L : List Stk) : List Stk := L.mergeSort leK
theorem leD_sk (s t : Stk) : leD s.e t.e = leK s t := by
  rw [← skKey_data, ← skKey_data, leD_data (skKey_pure s) (skKey_pure t), skKey_ints, skKey_ints]
  rfl
theorem sortD_sk (L : List Stk) : sortD (L.map Stk.e) = (sortS L).map Stk.e := by
  unfold sortD sortS
  exact (List.map_mergeSort fun a _ b _ => (leD_sk a b).symm).symm
theorem sortOk_sk (L : List Stk) : sortOk (L.map Stk.e) = true := by
  refine ask_t ⟨L.map skKey, ?_, ⟨fun k hk => ?_, fun k hk => ?_, fun k hk j hj => ?_⟩⟩
  · rw [List.map_map]
    exact List.map_congr_left fun s _ => (skKey_data s).symm
  · obtain ⟨s, _, rfl⟩ := List.mem_map.mp hk
    exact skKey_pure s
  · obtain ⟨s, _, rfl⟩ := List.mem_map.mp hk
    exact ⟨_, rfl, rfl, by simp [NestedKey.depthAll, NestedKey.depth]⟩
  · obtain ⟨s, _, rfl⟩ := List.mem_map.mp hk
    obtain ⟨t, _, rfl⟩ := List.mem_map.mp hj
    exact skKey_alike s t
theorem sortS_perm (L : List Stk) : (sortS L).Perm L := List.mergeSort_perm _ _
theorem lexLt_irr : ∀ a : List Int, HT.lexLt a a = false
  | [] => rfl
  | x :: a => by rw [HT.lexLt_cons, if_pos rfl]; exact lexLt_irr a
theorem leK_trans (a b c : Stk) (h1 : leK a b = true) (h2 : leK b c = true) : leK a c = true := by
  unfold leK at *
  rw [Bool.not_eq_true'] at *
  exact NtL.lex_tr _ _ _ h1 h2
theorem leK_total (a b : Stk) : (leK a b || leK b a) = true := by
  unfold leK
  cases q : HT.lexLt (skInts b) (skInts a) with
  | false => rfl
  | true => rw [NtL.lex_asym _ _ q]; rfl
theorem leK_antisym {a b : Stk} (h1 : leK a b = true) (h2 : leK b a = true) : a = b := by
  unfold leK at *
  rw [Bool.not_eq_true'] at *
  have e := lex_antisym (skInts a) (skInts b) rfl h2 h1
  cases a with
  | mk i p q =>
    cases b with
    | mk j r t =>
      cases p; cases q; cases r; cases t
      simp only [skInts, List.cons.injEq] at e
      simp [e]
theorem sortS_sorted (L : List Stk) : (sortS L).Pairwise fun s t => leK s t = true := List.pairwise_mergeSort leK_trans leK_total _
theorem sortS_eq {L M : List Stk} (p : L.Perm M) : sortS L = sortS M :=
  List.Perm.eq_of_pairwise (le := fun s t => leK s t = true) (fun a b _ _ h1 h2 => leK_antisym h1 h2) (sortS_sorted L) (sortS_sorted M) ((sortS_perm L).trans (p.trans (sortS_perm M).symm))
theorem sortS_fix {L : List Stk} : sortS (sortS L) = sortS L := sortS_eq (sortS_perm L)
/-- the form of strokes -/
def form (L : List Stk) : List Stk := sortS (tstk (tbl L))
theorem form_isF {L : List Stk} (h : ∀ s ∈ L, s.ok) : IsF (form L) L := (tstk_isF h).perm (sortS_perm _)
theorem form_sorted (L : List Stk) : sortS (form L) = form L := sortS_fix
theorem perm_of_mem {F G : List Stk} (h : F.Nodup) (k : G.Nodup) (e : ∀ s, s ∈ F ↔ s ∈ G) : F.Perm G := by
  refine (List.perm_ext_iff_of_nodup h k).mpr e
/-- the form is told by what is covered -/
theorem form_same {L M : List Stk} (hL : ∀ s ∈ L, s.ok) (hM : ∀ s ∈ M, s.ok) (e : ∀ q z, Cv L q z ↔ Cv M q z) : form L = form M := by
  have p : (form L).Perm (form M) := perm_of_mem (form_isF hL).nd (form_isF hM).nd fun s => ⟨fun h => (form_isF hL).same (form_isF hM) e s h, fun h => (form_isF hM).same (form_isF hL) (fun q z => (e q z).symm) s h⟩
  rw [← form_sorted L, ← form_sorted M]
  exact sortS_eq p
/-! ### the table as a dict -/
def LK.n (k : LK) : NestedKey := .tup [.num k.ink, .num k.d, .tup [.num k.l.a, .num k.l.b]]
def LK.e (k : LK) : D := .tuple [.int k.ink, .int k.d, k.l.e]
theorem LK.keyN (k : LK) : keyN (.d k.e) = some k.n := by
  unfold LK.e Nm.e Wk.keyN LK.n
  simp [nkD, nkDs, NestedKey.depth, NestedKey.depthAll]
theorem LK.n_inj {k j : LK} (e : k.n = j.n) : k = j := by
  unfold LK.n at e
  simp only [NestedKey.tup.injEq, List.cons.injEq, NestedKey.num.injEq] at e
  exact lk_eq.mpr ⟨e.1, e.2.1, nm_eq.mpr ⟨e.2.2.1.1, e.2.2.1.2.1⟩⟩
def itE (k : LK) (i : Itv) : D := .tuple [(pt k.d k.l i.1).e, (pt k.d k.l i.2).e]
def enT (x : LK × List Itv) : NestedKey × U := (x.1.n, .d (.list (x.2.map (itE x.1))))
theorem valN_en (M : Tbl) (k : LK) : valN (M.map enT) k.n = (tget M k).map fun S => .d (.list (S.map (itE k))) := by
  unfold valN tget
  induction M with
  | nil => rfl
  | cons x M ih =>
    rw [List.map_cons, List.find?_cons, List.find?_cons]
    by_cases h : x.1 = k
    · rw [decide_eq_true (show (enT x).1 = k.n by rw [← h]; rfl), decide_eq_true h, ← h]
      rfl
    · rw [decide_eq_false (show ¬ (enT x).1 = k.n from fun e => h (LK.n_inj e)), decide_eq_false h]
      exact ih
theorem putN_en (M : Tbl) (k : LK) (S : List Itv) : putN (M.map enT) k.n (.d (.list (S.map (itE k)))) = (tput M k S).map enT := by
  unfold putN tput
  have ea : ((M.map enT).any fun kv => decide (kv.1 = k.n)) = M.any fun x => decide (x.1 = k) := by
    rw [List.any_map]
    congr 1
    funext x
    refine decide_eq_decide.mpr ⟨fun e => LK.n_inj e, fun e => by rw [← e]; rfl⟩
  rw [ea]
  split
  · rw [List.map_map, List.map_map]
    refine List.map_congr_left fun x _ => ?_
    simp only [Function.comp]
    by_cases h : x.1 = k
    · rw [if_pos (show (enT x).1 = k.n by rw [← h]; rfl), if_pos h, ← h]
      rfl
    · rw [if_neg (show ¬ (enT x).1 = k.n from fun e => h (LK.n_inj e)), if_neg h]
  · rw [List.map_append]
    rfl
/-! ### == of such data -/
mutual
theorem eqv_key : ∀ k j : NestedKey, pureK k = true → pureK j = true → PyData.eqv k.data j.data = NestedKey.beq k j
  | .num a, .num b, _, _ => by rw [NestedKey.data, NestedKey.data, eqv_int, NestedKey.beq]
  | .tup xs, .tup ys, h, h' => by
    rw [pureK] at h h'
    rw [NestedKey.data, NestedKey.data, PyData.eqv, NestedKey.beq]
    exact eqv_keys xs ys h h'
  | .num a, .tup ys, _, _ => by simp [NestedKey.data, PyData.eqv, NestedKey.beq]
  | .tup ys, .num a, _, _ => by simp [NestedKey.data, PyData.eqv, NestedKey.beq]
  | .none, _, h, _ => by rw [pureK] at h; cases h
  | .text _, _, h, _ => by rw [pureK] at h; cases h
  | _, .none, _, h => by rw [pureK] at h; cases h
  | _, .text _, _, h => by rw [pureK] at h; cases h
theorem eqv_keys : ∀ ks js : List NestedKey, pureKs ks = true → pureKs js = true → PyData.eqvAll (NestedKey.datas ks) (NestedKey.datas js) = NestedKey.beqAll ks js
  | [], [], _, _ => by simp [NestedKey.datas, PyData.eqvAll, NestedKey.beqAll]
  | [], _ :: _, _, _ => by simp [NestedKey.datas, PyData.eqvAll, NestedKey.beqAll]
  | _ :: _, [], _, _ => by simp [NestedKey.datas, PyData.eqvAll, NestedKey.beqAll]
  | k :: ks, j :: js, h, h' => by
    rw [pureKs, Bool.and_eq_true] at h h'
    rw [NestedKey.datas, NestedKey.datas, PyData.eqvAll, NestedKey.beqAll, eqv_key k j h.1 h'.1, eqv_keys ks js h.2 h'.2]
end
theorem eqv_dec {k j : NestedKey} (h : pureK k = true) (h' : pureK j = true) : PyData.eqv k.data j.data = decide (k = j) := by
  rw [eqv_key k j h h', NestedKey.decide_eq]
def Nm.n (x : Nm) : NestedKey := .tup [.num x.a, .num x.b]
theorem Nm.n_data (x : Nm) : x.n.data = x.e := by unfold Nm.n Nm.e; simp [NestedKey.data, NestedKey.datas]
theorem Nm.n_pure (x : Nm) : pureK x.n = true := by unfold Nm.n; simp [pureK, pureKs]
theorem Nm.eqv (x y : Nm) : PyData.eqv x.e y.e = decide (x = y) := by
  rw [← Nm.n_data, ← Nm.n_data, eqv_dec x.n_pure y.n_pure]
  refine decide_eq_decide.mpr ⟨fun e => ?_, fun e => by rw [e]⟩
  unfold Nm.n at e
  simp only [NestedKey.tup.injEq, List.cons.injEq, NestedKey.num.injEq] at e
  exact nm_eq.mpr ⟨e.1, e.2.1⟩
theorem Nm.ns (x : Nm) : ∀ s, x.e ≠ .str s := fun s z => nomatch z
theorem Nm.shaped (x : Nm) : SeqAt.shaped x.e = true := (rfl)
theorem ev_eqN (n : Bool) (x y : Nm) (h : Sto) : opEqB n (.d x.e) (.d y.e) h = .ok (.d (.bool (xor n (decide (x = y))))) h := by rw [ev_eqD n h x.ns x.shaped y.shaped, Nm.eqv]
def P4.n (p : P4) : NestedKey := .tup [.tup [.num p.a, .num p.b], .tup [.num p.c, .num p.d]]
theorem P4.n_data (x : P4) : x.n.data = x.e := by unfold P4.n P4.e; simp [NestedKey.data, NestedKey.datas]
theorem P4.n_pure (x : P4) : pureK x.n = true := by unfold P4.n; simp [pureK, pureKs]
instance : DecidableEq P4 := fun x y => if h : x.a = y.a ∧ x.b = y.b ∧ x.c = y.c ∧ x.d = y.d then .isTrue (p4_eq.mpr h) else .isFalse (fun z => h (p4_eq.mp z))
theorem P4.eqv (x y : P4) : PyData.eqv x.e y.e = decide (x = y) := by
  rw [← P4.n_data, ← P4.n_data, eqv_dec x.n_pure y.n_pure]
  refine decide_eq_decide.mpr ⟨fun e => ?_, fun e => by rw [e]⟩
  unfold P4.n at e
  simp only [NestedKey.tup.injEq, List.cons.injEq, NestedKey.num.injEq] at e
  exact p4_eq.mpr ⟨e.1.1, e.1.2.1, e.2.1.1, e.2.1.2.1⟩
theorem ev_eqP4 (n : Bool) (x y : P4) (h : Sto) : opEqB n (.d x.e) (.d y.e) h = .ok (.d (.bool (xor n (decide (x = y))))) h := by rw [ev_eqD n h x.ns x.shaped y.shaped, P4.eqv]
theorem skKey_inj {s t : Stk} (e : skKey s = skKey t) : s = t := by
  unfold skKey at e
  simp only [NestedKey.tup.injEq, List.cons.injEq, NestedKey.num.injEq] at e
  cases s with
  | mk i p q =>
    cases t with
    | mk j r u =>
      cases p; cases q; cases r; cases u
      simp at e
      simp [e]
instance : DecidableEq Stk := fun x y => if h : skKey x = skKey y then .isTrue (skKey_inj h) else .isFalse (fun z => h (by rw [z]))
theorem Stk.eqv (s t : Stk) : PyData.eqv s.e t.e = decide (s = t) := by
  rw [← skKey_data, ← skKey_data, eqv_dec (skKey_pure s) (skKey_pure t)]
  exact decide_eq_decide.mpr ⟨skKey_inj, fun e => by rw [e]⟩
theorem Stk.ns (s : Stk) : ∀ x, s.e ≠ .str x := fun x z => nomatch z
theorem Stk.shaped (s : Stk) : SeqAt.shaped s.e = true := (rfl)
theorem ev_eqSk (n : Bool) (x y : Stk) (h : Sto) : opEqB n (.d x.e) (.d y.e) h = .ok (.d (.bool (xor n (decide (x = y))))) h := by rw [ev_eqD n h x.ns x.shaped y.shaped, Stk.eqv]
theorem eqvAll_sk : ∀ L M : List Stk, PyData.eqvAll (L.map Stk.e) (M.map Stk.e) = decide (L = M)
  | [], [] => by simp [PyData.eqvAll]
  | [], _ :: _ => by simp [PyData.eqvAll]
  | _ :: _, [] => by simp [PyData.eqvAll]
  | s :: L, t :: M => by
    rw [List.map_cons, List.map_cons, PyData.eqvAll, Stk.eqv, eqvAll_sk L M, Bool.eq_iff_iff, Bool.and_eq_true, decide_eq_true_iff, decide_eq_true_iff, decide_eq_true_iff, List.cons.injEq]
theorem shpT_sk (L : List Stk) : SeqAt.shaped (.tuple (L.map Stk.e)) = true := (Shp.tuple (k := 3) fun x hx => by
  obtain ⟨s, _, rfl⟩ := List.mem_map.mp hx
  exact s.shp).shaped (by decide)
theorem shpL_sk (L : List Stk) : SeqAt.shaped (.list (L.map Stk.e)) = true := (Shp.list (k := 3) fun x hx => by
  obtain ⟨s, _, rfl⟩ := List.mem_map.mp hx
  exact s.shp).shaped (by decide)
theorem ev_eqTS (n : Bool) (L M : List Stk) (h : Sto) : opEqB n (.d (.tuple (L.map Stk.e))) (.d (.tuple (M.map Stk.e))) h = .ok (.d (.bool (xor n (decide (L = M))))) h := by
  rw [ev_eqD n h (fun s z => by cases z) (shpT_sk L) (shpT_sk M), PyData.eqv, eqvAll_sk]
theorem ev_eqLS (n : Bool) (L M : List Stk) (h : Sto) : opEqB n (.d (.list (L.map Stk.e))) (.d (.list (M.map Stk.e))) h = .ok (.d (.bool (xor n (decide (L = M))))) h := by
  rw [ev_eqD n h (fun s z => by cases z) (shpL_sk L) (shpL_sk M), PyData.eqv, eqvAll_sk]
/-- ints that can be multiplied -/
def Nm.bd (n : Int) (x : Nm) : Prop := (-n ≤ x.a ∧ x.a ≤ n) ∧ -n ≤ x.b ∧ x.b ≤ n
abbrev big : Int := 1000000000000000000
theorem alg_bd {n : Int} {p : P4} (h : p.bd n) (d : Int) : (alg p d).bd n := by
  unfold alg Nm.bd P4.x P4.y
  unfold P4.bd at h
  split
  · exact ⟨h.2.2.1, h.2.2.2⟩
  · exact ⟨h.1, h.2.1⟩
theorem line_ok {p q : P4} {d : Int} (hd : d = 0 ∨ d = 1 ∨ d = 2 ∨ d = 3) (hl : lineS q d = lineS p d) (ha : alg p d ≠ alg q d) (i : Int) : (Stk.mk i p q).ok := by
  have h := mkS_ok (k := ⟨i, d, lineS p d⟩) (i := (alg p d, alg q d)) hd ha
  have e : mkS ⟨i, d, lineS p d⟩ (alg p d, alg q d) = ⟨i, p, q⟩ := by
    show Stk.mk i (pt d (lineS p d) (alg p d)) (pt d (lineS p d) (alg q d)) = _
    rw [pt_of, ← hl, pt_of]
  rw [← e]
  exact h
theorem mv_line {h t : Int} (h0 : 0 ≤ h) (h1 : h < 8) (ht : t ≠ 0) (p : P4) : lineS (mv h t p) (h % 4) = lineS p (h % 4) ∧ alg p (h % 4) ≠ alg (mv h t p) (h % 4) := by
  have e1 : (4 : Int) % 4 = 0 := rfl
  have e2 : (5 : Int) % 4 = 1 := rfl
  have e3 : (6 : Int) % 4 = 2 := rfl
  have e4 : (7 : Int) % 4 = 3 := rfl
  rcases heads h0 h1 with z | z | z | z | z | z | z | z <;> subst z <;> refine ⟨?_, fun e => ?_⟩ <;> first | (rw [nm_eq]; simp [lineS, mv, P4.x, P4.y, Nm.sub, Nm.add, xa, xb, ya, yb] <;> omega) | (rw [nm_eq] at e; simp [alg, mv, P4.x, P4.y, xa, xb, ya, yb] at e <;> omega)
theorem mv_ok {h t : Int} (h0 : 0 ≤ h) (h1 : h < 8) (ht : t ≠ 0) (i : Int) (p : P4) : (Stk.mk i p (mv h t p)).ok := by
  obtain ⟨a, b⟩ := mv_line h0 h1 ht p
  exact line_ok (by omega) a b i
/-- a stroke as walks draw them -/
structure WkS (s : Stk) : Prop where
  ok : s.ok
  a : s.a.bd 1000000 ∧ s.a.par
  b : s.b.bd 1000000 ∧ s.b.par
  i : 0 ≤ s.ink ∧ s.ink < 8
  m : ∃ h t : Int, (0 ≤ h ∧ h < 8) ∧ (1 ≤ t ∧ t ≤ 1000) ∧ s.b = mv h t s.a
theorem heads5_at (i : Int) : ∃ l : List Int, atI [PyData.list [.int 0, .int 1, .int 2, .int 3, .int 4, .int 5, .int 6, .int 7], .list [.int 0, .int 4, .int 0, .int 4, .int 2], .list [.int 0, .int 2, .int 4, .int 6], .list [.int 0, .int 4, .int 1, .int 5], .list [.int 1, .int 3, .int 5, .int 7]] (i % 5) = some (.list (l.map .int)) ∧ 0 < l.length ∧ ∀ x ∈ l, 0 ≤ x ∧ x < 8 := by
  have h : i % 5 = 0 ∨ i % 5 = 1 ∨ i % 5 = 2 ∨ i % 5 = 3 ∨ i % 5 = 4 := by omega
  rcases h with z | z | z | z | z <;> rw [z]
  · exact ⟨[0, 1, 2, 3, 4, 5, 6, 7], atI_0 _ _, by decide, by decide⟩
  · exact ⟨[0, 4, 0, 4, 2], atI_1 _ _ _, by decide, by decide⟩
  · exact ⟨[0, 2, 4, 6], atI_2 _ _ _ _, by decide, by decide⟩
  · exact ⟨[0, 4, 1, 5], atI_3 _ _ _ _ _, by decide, by decide⟩
  · exact ⟨[1, 3, 5, 7], atI_4 _ _ _ _ _ _, by decide, by decide⟩
theorem far4_at (i : Int) : ∃ f : Int, atI [PyData.int 3, .int 2, .int 5, .int 1000] (i % 4) = some (.int f) ∧ 0 < f ∧ f ≤ 1000 := by
  have h : i % 4 = 0 ∨ i % 4 = 1 ∨ i % 4 = 2 ∨ i % 4 = 3 := by omega
  rcases h with z | z | z | z <;> rw [z]
  · exact ⟨3, atI_0 _ _, by decide, by decide⟩
  · exact ⟨2, atI_1 _ _ _, by decide, by decide⟩
  · exact ⟨5, atI_2 _ _ _ _, by decide, by decide⟩
  · exact ⟨1000, atI_3 _ _ _ _ _, by decide, by decide⟩
theorem ink4_at (i : Int) : ∃ f : Int, atI [PyData.int 1, .int 1, .int 2, .int 8] (i % 4) = some (.int f) ∧ 0 < f ∧ f ≤ 8 := by
  have h : i % 4 = 0 ∨ i % 4 = 1 ∨ i % 4 = 2 ∨ i % 4 = 3 := by omega
  rcases h with z | z | z | z <;> rw [z]
  · exact ⟨1, atI_0 _ _, by decide, by decide⟩
  · exact ⟨1, atI_1 _ _ _, by decide, by decide⟩
  · exact ⟨2, atI_2 _ _ _ _, by decide, by decide⟩
  · exact ⟨8, atI_3 _ _ _ _ _, by decide, by decide⟩
theorem four {α : Type} {l : List α} (h : l.length = 4) : ∃ a b c d, l = [a, b, c, d] := by
  match l, h with
  | [a, b, c, d], _ => exact ⟨a, b, c, d, rfl⟩
/-! ### the laws' own lines -/
def Nm.neg (x : Nm) : Nm := ⟨0 - x.a, 0 - x.b⟩
structure LN where
  d : Int
  l : Nm
def LN.e (x : LN) : D := .tuple [.int x.d, x.l.e]
def LN.n (x : LN) : NestedKey := .tup [.num x.d, .tup [.num x.l.a, .num x.l.b]]
theorem ln_eq {x y : LN} : x = y ↔ x.d = y.d ∧ x.l = y.l := by
  constructor
  · intro h; subst h; exact ⟨rfl, rfl⟩
  · intro h; cases x; cases y; simp at h; simp [h]
instance : DecidableEq LN := fun x y => if h : x.d = y.d ∧ x.l = y.l then .isTrue (ln_eq.mpr h) else .isFalse (fun z => h (ln_eq.mp z))
theorem LN.n_data (x : LN) : x.n.data = x.e := by unfold LN.n LN.e Nm.e; simp [NestedKey.data, NestedKey.datas]
theorem LN.n_pure (x : LN) : pureK x.n = true := by unfold LN.n; simp [pureK, pureKs]
theorem LN.eqv (x y : LN) : PyData.eqv x.e y.e = decide (x = y) := by
  rw [← LN.n_data, ← LN.n_data, eqv_dec x.n_pure y.n_pure]
  refine decide_eq_decide.mpr ⟨fun e => ?_, fun e => by rw [e]⟩
  unfold LN.n at e
  simp only [NestedKey.tup.injEq, List.cons.injEq, NestedKey.num.injEq] at e
  exact ln_eq.mpr ⟨e.1, nm_eq.mpr ⟨e.2.1.1, e.2.1.2.1⟩⟩
theorem LN.ns (x : LN) : ∀ s, x.e ≠ .str s := fun s z => nomatch z
theorem LN.shaped (x : LN) : SeqAt.shaped x.e = true := (rfl)
theorem ev_eqLN (n : Bool) (x y : LN) (h : Sto) : opEqB n (.d x.e) (.d y.e) h = .ok (.d (.bool (xor n (decide (x = y))))) h := by rw [ev_eqD n h x.ns x.shaped y.shaped, LN.eqv]
/-- the law's line through two places -/
def llS (p q : P4) : LN := if q.y.sub p.y = Nm.zero then ⟨0, p.y⟩ else if q.x.sub p.x = Nm.zero then ⟨2, p.x⟩ else if q.x.sub p.x = q.y.sub p.y then ⟨1, p.x.sub p.y⟩ else if q.x.sub p.x = (q.y.sub p.y).neg then ⟨3, p.x.add p.y⟩ else ⟨4, Nm.zero⟩
theorem Stk.ok.ll {s : Stk} (h : s.ok) : llS s.a s.b = ⟨s.dr4, s.key.l⟩ := by
  have hl := h.l
  unfold Stk.key
  dsimp only
  unfold Stk.dr4
  unfold llS
  unfold dirS lineS at *
  by_cases h1 : s.b.y.sub s.a.y = Nm.zero
  · simp [h1]
  · by_cases h2 : s.b.x.sub s.a.x = Nm.zero
    · simp [h1, h2]
    · by_cases h3 : s.b.x.sub s.a.x = s.b.y.sub s.a.y
      · simp [h1, h2, h3]
      · simp only [h1, h2, h3, if_false] at hl ⊢
        have h4 : s.b.x.sub s.a.x = (s.b.y.sub s.a.y).neg := by
          simp at hl
          rw [nm_eq] at hl ⊢
          unfold Nm.add Nm.sub Nm.neg P4.x P4.y at *
          dsimp only at *
          omega
        rw [if_pos h4]
        simp
theorem ll_on {s : Stk} (h : s.ok) (p : P4) : (p = s.a ∨ llS s.a p = ⟨s.dr4, s.key.l⟩) ↔ lineS p s.dr4 = s.key.l := by
  have hd : s.dr4 = 0 ∨ s.dr4 = 1 ∨ s.dr4 = 2 ∨ s.dr4 = 3 := dirS_four _ _
  have hk : s.key.l = lineS s.a s.dr4 := rfl
  rw [hk]
  clear hk
  generalize s.dr4 = d at hd
  generalize s.a = a
  constructor
  · rintro (e | e)
    · rw [e]
    · rw [ln_eq] at e
      have e1 := e.1
      clear e
      unfold llS at e1
      unfold lineS
      unfold P4.x P4.y Nm.sub Nm.add Nm.neg Nm.zero at *
      simp only [nm_eq] at *
      rcases hd with z | z | z | z <;> subst z <;> (split at e1 <;> first | (simp at e1 ⊢ <;> omega) | (simp <;> omega) | (split at e1 <;> first | (simp at e1 ⊢ <;> omega) | (simp <;> omega) | (split at e1 <;> first | (simp at e1 ⊢ <;> omega) | (simp <;> omega) | (split at e1 <;> first | (simp at e1 ⊢ <;> omega) | (simp <;> omega)))))
  · intro e
    by_cases hp : p = a
    · exact .inl hp
    · right
      rw [p4_eq] at hp
      rw [ln_eq]
      unfold llS
      unfold lineS at *
      unfold P4.x P4.y Nm.sub Nm.add Nm.neg Nm.zero at *
      simp only [nm_eq] at *
      rcases hd with z | z | z | z <;> subst z <;> simp at e ⊢ <;> (split <;> first | (simp <;> omega) | (exfalso; omega) | (split <;> first | (simp <;> omega) | (exfalso; omega) | (split <;> first | (simp <;> omega) | (exfalso; omega) | (split <;> first | (simp <;> omega) | (exfalso; omega)))))
end Wk

/-! FI: what a run draws are strokes along lines, not too far. -/
namespace Wk
open PySem L2
structure FIn (M : Int) (y : Hn) : Prop where
  r0 : 0 ≤ y.rest
  r1 : y.rest ≤ M
  h : 0 ≤ y.c.heading ∧ y.c.heading < 8
  sp : y.c.spot.bd ((M - y.rest) * 1000000)
  ma : ∀ z ∈ y.marks, z.2.1.bd ((M - y.rest) * 1000000) ∧ 0 ≤ z.2.2 ∧ z.2.2 < 8
  st : ∀ s ∈ y.strokes, s.ok ∧ s.a.bd ((M - y.rest) * 1000000) ∧ s.b.bd ((M - y.rest) * 1000000)
  ln : (y.strokes.length : Int) ≤ M - y.rest
theorem FIn.up {M : Int} {y : Hn} (f : FIn M y) (hr : 0 < y.rest) : FIn M y.less := by
  have e : y.less.rest = y.rest - 1 := rfl
  have l : (M - y.rest) * 1000000 ≤ (M - y.less.rest) * 1000000 := by rw [e]; omega
  exact ⟨by rw [e]; omega, by rw [e]; have := f.r1; omega, f.h, f.sp.mono l, fun z hz => ⟨(f.ma z hz).1.mono l, (f.ma z hz).2⟩, fun s hs => ⟨(f.st s hs).1, (f.st s hs).2.1.mono l, (f.st s hs).2.2.mono l⟩, by rw [e]; have := f.ln; show (y.strokes.length : Int) ≤ _; omega⟩
theorem FIn.nt {M : Int} {y : Hn} (f : FIn M y) (v : Vb) (i : Int) : FIn M (y.note v i) := ⟨f.r0, f.r1, f.h, f.sp, f.ma, f.st, f.ln⟩
theorem FIn.act {M : Int} {y z : Hn} (f : FIn M y) (hr : 0 < y.rest) {v : Vb} {i : Int} (hi : v = .go → i.natAbs ≤ 1000000) (e : v.act i (y.less.note v i) = some z) : FIn M z := by
  have u := (f.up hr).nt v i
  generalize hw : y.less.note v i = w at *
  have wr : w.rest = y.rest - 1 := by rw [← hw]; rfl
  cases v with
  | go =>
    have hi := hi rfl
    have sp0 : w.c.spot.bd ((M - y.rest) * 1000000) := by rw [← hw]; exact f.sp
    have bm : (mv w.c.heading i w.c.spot).bd ((M - w.rest) * 1000000) := by
      have := mv_bd (m := 1000000) u.h.1 u.h.2 sp0 (by omega) (by omega : i ≤ 1000000)
      exact this.mono (by rw [wr]; omega)
    have ln0 : (w.strokes.length : Int) ≤ M - y.rest := by rw [← hw]; exact f.ln
    have e : some _ = some z := e
    cases e
    refine ⟨u.r0, u.r1, u.h, bm, u.ma, fun s hs => ?_, ?_⟩
    · rcases List.mem_append.mp hs with q | q
      · exact u.st s q
      · by_cases c : w.c.pen = true ∧ i ≠ 0
        · rw [if_pos c] at q
          rw [List.mem_singleton.mp q]
          exact ⟨mv_ok u.h.1 u.h.2 c.2 _ _, u.sp, bm⟩
        · rw [if_neg c] at q; cases q
    · show ((w.strokes ++ (if w.c.pen = true ∧ i ≠ 0 then _ else [])).length : Int) ≤ M - w.rest
      rw [List.length_append, wr]
      have : (if w.c.pen = true ∧ i ≠ 0 then [Stk.mk w.c.ink w.c.spot (mv w.c.heading i w.c.spot)] else []).length ≤ 1 := by split <;> simp
      omega
  | turn =>
    have e : some _ = some z := e
    cases e
    exact ⟨u.r0, u.r1, ⟨by show 0 ≤ (w.c.heading + i) % 8; omega, by show (w.c.heading + i) % 8 < 8; omega⟩, u.sp, u.ma, u.st, u.ln⟩
  | ink =>
    have e : some _ = some z := e
    cases e
    exact ⟨u.r0, u.r1, u.h, u.sp, u.ma, u.st, u.ln⟩
  | up =>
    have e : some _ = some z := e
    cases e
    exact ⟨u.r0, u.r1, u.h, u.sp, u.ma, u.st, u.ln⟩
  | down =>
    have e : some _ = some z := e
    cases e
    exact ⟨u.r0, u.r1, u.h, u.sp, u.ma, u.st, u.ln⟩
  | mark =>
    have e : some _ = some z := e
    cases e
    refine ⟨u.r0, u.r1, u.h, u.sp, fun q hq => ?_, u.st, u.ln⟩
    rcases mput_mem hq with k | k
    · exact u.ma q k
    · rw [k]; exact ⟨u.sp, u.h⟩
  | back =>
    have e : (match mget w.marks i with | some v => some { w with c := { w.c with spot := v.1, heading := v.2 }, corners := w.corners ++ [v.1] } | none => none) = some z := e
    cases q : mget w.marks i with
    | none => rw [q] at e; cases e
    | some v =>
      rw [q] at e
      cases e
      have := u.ma _ (mget_mem q)
      exact ⟨u.r0, u.r1, this.2, this.1, u.ma, u.st, u.ln⟩
def FR (M : Int) : Rn → Prop
  | .ok z => FIn M z
  | .exc _ z => FIn M z
  | .out => True
theorem FR.bind {M : Int} {r : Rn} {k : Hn → Rn} (h : FR M r) (hk : ∀ z, FIn M z → FR M (k z)) : FR M (r.bind k) := by
  cases r with
  | ok z => exact hk z h
  | exc e z => exact h
  | out => trivial
theorem fr_prim {M : Int} {y : Hn} (f : FIn M y) (hr : 0 < y.rest) {v : Vb} {i : Int} (hi : v = .go → i.natAbs ≤ 1000000) : FR M (prim v i y.less) := by
  unfold prim
  cases q : v.act i (y.less.note v i) with
  | none => exact (f.up hr).nt v i
  | some z => exact f.act hr hi q
theorem fr_B {M : Int} {S : Stm → Cl → Hn → Rn} (h : ∀ s c y, FIn M y → FR M (S s c y)) : ∀ (b : List Stm) (c : Cl) (y : Hn), FIn M y → FR M (iB S b c y)
  | [], _, y, f => f
  | s :: r, c, y, f => FR.bind (h s c y f) fun z fz => fr_B h r c z fz
theorem fr_Ag {M : Int} {B : Cl → Hn → Rn} (h : ∀ c y, FIn M y → FR M (B c y)) (c : Cl) : ∀ (m k : Nat) (y : Hn), FIn M y → FR M (iAg B c m k y)
  | 0, _, y, f => f
  | m + 1, k, y, f => by
    unfold iAg
    by_cases hr : y.rest ≤ 0
    · rw [if_pos hr]; exact f
    · rw [if_neg hr]
      exact FR.bind (h _ _ (f.up (by omega))) fun z fz => fr_Ag h c m (k + 1) z fz
theorem fr_S {M : Int} : ∀ (n : Nat) (s : Stm) (c : Cl) (y : Hn), FIn M y → FR M (iS n s c y)
  | 0, _, _, _, _ => trivial
  | n + 1, s, c, y, f => by
    have ih := fr_S (M := M) n
    have gr : ∀ a, ¬ great (c.val a) = true → (c.val a).natAbs ≤ 1000000 := fun a h => by
      unfold great at h
      rw [decide_eq_true_iff] at h
      omega
    unfold iS
    by_cases hr : y.rest ≤ 0
    · rw [if_pos hr]; exact f
    · rw [if_neg hr]
      have hr' : 0 < y.rest := by omega
      have up := f.up hr'
      cases s with
      | go a =>
        dsimp only
        by_cases g : great (c.val a) = true
        · rw [if_pos g]; exact up
        · rw [if_neg g]; exact fr_prim f hr' fun _ => gr a g
      | turn a =>
        dsimp only
        by_cases g : great (c.val a) = true
        · rw [if_pos g]; exact up
        · rw [if_neg g]; exact fr_prim f hr' fun z => nomatch z
      | ink a =>
        dsimp only
        by_cases g : great (c.val a) = true
        · rw [if_pos g]; exact up
        · rw [if_neg g]; exact fr_prim f hr' fun z => nomatch z
      | up => exact fr_prim f hr' fun z => nomatch z
      | down => exact fr_prim f hr' fun z => nomatch z
      | mark i => exact fr_prim f hr' fun z => nomatch z
      | back i => exact fr_prim f hr' fun z => nomatch z
      | again a b =>
        dsimp only
        by_cases g : great (c.val a) = true
        · rw [if_pos g]; exact up
        · rw [if_neg g]; exact fr_Ag (fun c y f => fr_B ih b c y f) c _ 0 _ up
      | iff a b b' =>
        dsimp only
        by_cases g : great (c.val a) = true
        · rw [if_pos g]; exact up
        · rw [if_neg g]; exact fr_B ih _ c _ up
      | call w as =>
        dsimp only
        cases q : vals c as with
        | none => exact up
        | some vs =>
          dsimp only
          cases q2 : wGet c.ws w with
          | none => trivial
          | some b => exact fr_B ih b _ _ up
theorem fr_run {ws : List Wrd} {b : List Stm} {most : Int} (h0 : 0 ≤ most) : FR most (runR ws b most) := by
  refine fr_B (fr_S 49) b _ _ ⟨h0, by show most ≤ most; omega, ⟨by show (0 : Int) ≤ 0; decide, by show (0 : Int) < 8; decide⟩, ?_, fun z hz => (nomatch hz), fun s hs => (nomatch hs), ?_⟩
  · show P4.bd ((most - most) * 1000000) ⟨0, 0, 0, 0⟩
    unfold P4.bd
    dsimp only
    omega
  · show ((([] : List Stk).length : Nat) : Int) ≤ most - most
    simp
end Wk

/-! CI: the corners of a run are not too far either. -/
namespace Wk
open PySem L2
structure CIn (M : Int) (y : Hn) : Prop where
  f : FIn M y
  co : ∀ p ∈ y.corners, p.bd ((M - y.rest) * 1000000)
theorem CIn.up {M : Int} {y : Hn} (f : CIn M y) (hr : 0 < y.rest) : CIn M y.less := by
  have e : y.less.rest = y.rest - 1 := rfl
  exact ⟨f.f.up hr, fun p hp => (f.co p hp).mono (by rw [e]; omega)⟩
theorem CIn.nt {M : Int} {y : Hn} (f : CIn M y) (v : Vb) (i : Int) : CIn M (y.note v i) := ⟨f.f.nt v i, f.co⟩
theorem act_co {v : Vb} {i : Int} {y z : Hn} (e : v.act i y = some z) : z.corners = y.corners ∨ z.corners = y.corners ++ [z.c.spot] := by
  cases v with
  | back =>
    cases hv : mget y.marks i with
    | none => simp only [Vb.act, hv] at e; cases e
    | some v =>
      simp only [Vb.act, hv] at e
      cases e
      exact .inr rfl
  | go => cases e; exact .inr rfl
  | _ => cases e; exact .inl rfl
theorem CIn.act {M : Int} {y z : Hn} (f : CIn M y) (hr : 0 < y.rest) {v : Vb} {i : Int} (hi : v = .go → i.natAbs ≤ 1000000) (e : v.act i (y.less.note v i) = some z) : CIn M z := by
  have fz := f.f.act hr hi e
  have er := (act_len e).1
  have u := (f.up hr).nt v i
  refine ⟨fz, fun p hp => ?_⟩
  rcases act_co e with q | q
  · rw [q] at hp
    rw [er]
    exact u.co p hp
  · rw [q] at hp
    rcases List.mem_append.mp hp with k | k
    · rw [er]; exact u.co p k
    · rw [List.mem_singleton.mp k]; exact fz.sp
def CR (M : Int) : Rn → Prop
  | .ok z => CIn M z
  | .exc _ z => CIn M z
  | .out => True
theorem CR.bind {M : Int} {r : Rn} {k : Hn → Rn} (h : CR M r) (hk : ∀ z, CIn M z → CR M (k z)) : CR M (r.bind k) := by
  cases r with
  | ok z => exact hk z h
  | exc e z => exact h
  | out => trivial
theorem cr_prim {M : Int} {y : Hn} (f : CIn M y) (hr : 0 < y.rest) {v : Vb} {i : Int} (hi : v = .go → i.natAbs ≤ 1000000) : CR M (prim v i y.less) := by
  unfold prim
  cases q : v.act i (y.less.note v i) with
  | none => exact (f.up hr).nt v i
  | some z => exact f.act hr hi q
theorem cr_B {M : Int} {S : Stm → Cl → Hn → Rn} (h : ∀ s c y, CIn M y → CR M (S s c y)) : ∀ (b : List Stm) (c : Cl) (y : Hn), CIn M y → CR M (iB S b c y)
  | [], _, y, f => f
  | s :: r, c, y, f => CR.bind (h s c y f) fun z fz => cr_B h r c z fz
theorem cr_Ag {M : Int} {B : Cl → Hn → Rn} (h : ∀ c y, CIn M y → CR M (B c y)) (c : Cl) : ∀ (m k : Nat) (y : Hn), CIn M y → CR M (iAg B c m k y)
  | 0, _, y, f => f
  | m + 1, k, y, f => by
    unfold iAg
    by_cases hr : y.rest ≤ 0
    · rw [if_pos hr]; exact f
    · rw [if_neg hr]
      exact CR.bind (h _ _ (f.up (by omega))) fun z fz => cr_Ag h c m (k + 1) z fz
theorem cr_S {M : Int} : ∀ (n : Nat) (s : Stm) (c : Cl) (y : Hn), CIn M y → CR M (iS n s c y)
  | 0, _, _, _, _ => trivial
  | n + 1, s, c, y, f => by
    have ih := cr_S (M := M) n
    have gr : ∀ a, ¬ great (c.val a) = true → (c.val a).natAbs ≤ 1000000 := fun a h => by
      unfold great at h
      rw [decide_eq_true_iff] at h
      omega
    unfold iS
    by_cases hr : y.rest ≤ 0
    · rw [if_pos hr]; exact f
    · rw [if_neg hr]
      have hr' : 0 < y.rest := by omega
      have up := f.up hr'
      cases s with
      | go a =>
        dsimp only
        by_cases g : great (c.val a) = true
        · rw [if_pos g]; exact up
        · rw [if_neg g]; exact cr_prim f hr' fun _ => gr a g
      | turn a =>
        dsimp only
        by_cases g : great (c.val a) = true
        · rw [if_pos g]; exact up
        · rw [if_neg g]; exact cr_prim f hr' fun z => nomatch z
      | ink a =>
        dsimp only
        by_cases g : great (c.val a) = true
        · rw [if_pos g]; exact up
        · rw [if_neg g]; exact cr_prim f hr' fun z => nomatch z
      | up => exact cr_prim f hr' fun z => nomatch z
      | down => exact cr_prim f hr' fun z => nomatch z
      | mark i => exact cr_prim f hr' fun z => nomatch z
      | back i => exact cr_prim f hr' fun z => nomatch z
      | again a b =>
        dsimp only
        by_cases g : great (c.val a) = true
        · rw [if_pos g]; exact up
        · rw [if_neg g]; exact cr_Ag (fun c y f => cr_B ih b c y f) c _ 0 _ up
      | iff a b b' =>
        dsimp only
        by_cases g : great (c.val a) = true
        · rw [if_pos g]; exact up
        · rw [if_neg g]; exact cr_B ih _ c _ up
      | call w as =>
        dsimp only
        cases q : vals c as with
        | none => exact up
        | some vs =>
          dsimp only
          cases q2 : wGet c.ws w with
          | none => trivial
          | some b => exact cr_B ih b _ _ up
theorem cr_run {ws : List Wrd} {b : List Stm} {most : Int} (h0 : 0 ≤ most) : CR most (runR ws b most) := by
  refine cr_B (cr_S 49) b _ _ ⟨⟨h0, by show most ≤ most; omega, ⟨by show (0 : Int) ≤ 0; decide, by show (0 : Int) < 8; decide⟩, ?_, fun z hz => (nomatch hz), fun s hs => (nomatch hs), ?_⟩, fun p hp => ?_⟩
  · show P4.bd ((most - most) * 1000000) ⟨0, 0, 0, 0⟩
    unfold P4.bd
    dsimp only
    omega
  · show ((([] : List Stk).length : Nat) : Int) ≤ most - most
    simp
  · have hp : p ∈ [(⟨0, 0, 0, 0⟩ : P4)] := hp
    rw [List.mem_singleton.mp hp]
    show P4.bd ((most - most) * 1000000) ⟨0, 0, 0, 0⟩
    unfold P4.bd
    dsimp only
    omega
end Wk

/-! LA4: the larger program is a good one. -/
namespace Wk
open PySem L2
theorem sm_mul {i k : Int} {B : Nat} (hi : -9 ≤ i ∧ i ≤ 9) (hk : 1 ≤ k ∧ k ≤ 1000) : (i * k).natAbs ≤ 9000 := by
  rw [Int.natAbs_mul]
  have h1 : i.natAbs ≤ 9 := by omega
  have h2 : k.natAbs ≤ 1000 := by omega
  exact Nat.mul_le_mul h1 h2
theorem Amt.wf_mulk {tk : Nat} {a : Amt} {k : Int} (hk : 1 ≤ k ∧ k ≤ 1000) (h : a.wf tk) (s : a.sml) : (a.mul k).wf tk ∧ (a.mul k).far ≤ 9000 := by
  have key : ∀ i : Int, -9 ≤ i ∧ i ≤ 9 → (i * k).natAbs ≤ 9000 := fun i hi => sm_mul (B := 0) hi hk
  cases a with
  | int i =>
    have q := key i s
    exact ⟨by show (i * k).natAbs ≤ 1000000; omega, by show ((i * k).natAbs : Int) ≤ 9000; omega⟩
  | cnt t m =>
    have s : (-3 ≤ t ∧ t ≤ 3) ∧ -3 ≤ m ∧ m ≤ 3 := s
    have q1 := key t (by omega)
    have q2 := key m (by omega)
    exact ⟨⟨by show (t * k).natAbs ≤ 1000000; omega, by show (m * k).natAbs ≤ 1000000; omega⟩, by show max ((t * k).natAbs : Int) (m * k).natAbs ≤ 9000; omega⟩
  | num t j m =>
    have s : (-3 ≤ t ∧ t ≤ 3) ∧ -3 ≤ m ∧ m ≤ 3 := s
    have q1 := key t (by omega)
    have q2 := key m (by omega)
    exact ⟨⟨by show (t * k).natAbs ≤ 1000000; omega, by show (m * k).natAbs ≤ 1000000; omega, h.2.2⟩, by show max ((t * k).natAbs : Int) (m * k).natAbs ≤ 9000; omega⟩
mutual
theorem Stm.wf_ovk {ws : List Wrd} {tk : Nat} {k : Int} (hk : 1 ≤ k ∧ k ≤ 1000) : ∀ (s : Stm), s.wf ws tk → s.sml → (s.ov k 1).wf (ws.map (Wrd.ov k 1)) tk ∧ (s.ov k 1).far ≤ 9000
  | .go a, w, m => by rw [Stm.wf] at w; rw [Stm.sml] at m; rw [Stm.ov, Stm.wf, Stm.far]; exact Amt.wf_mulk hk w m
  | .turn a, w, m => by rw [Stm.wf] at w; rw [Stm.ov, Stm.wf]; exact ⟨by rw [mul_one]; exact w, by simp [Stm.far]⟩
  | .ink a, w, m => by rw [Stm.wf] at w; rw [Stm.ov, Stm.wf]; exact ⟨w, by simp [Stm.far]⟩
  | .up, _, _ => by rw [Stm.ov, Stm.wf]; exact ⟨trivial, by simp [Stm.far]⟩
  | .down, _, _ => by rw [Stm.ov, Stm.wf]; exact ⟨trivial, by simp [Stm.far]⟩
  | .mark _, w, _ => by rw [Stm.wf] at w; rw [Stm.ov, Stm.wf]; exact ⟨w, by simp [Stm.far]⟩
  | .back _, w, _ => by rw [Stm.wf] at w; rw [Stm.ov, Stm.wf]; exact ⟨w, by simp [Stm.far]⟩
  | .again _ b, w, m => by
    rw [Stm.wf] at w; rw [Stm.sml] at m; rw [Stm.ov, Stm.wf, Stm.far]
    have := bWf_ovk hk b w.2 m.2
    exact ⟨⟨w.1, this.1⟩, this.2⟩
  | .iff _ b c, w, m => by
    rw [Stm.wf] at w; rw [Stm.sml] at m; rw [Stm.ov, Stm.wf, Stm.far]
    have h1 := bWf_ovk hk b w.2.1 m.2.1
    have h2 := bWf_ovk hk c w.2.2 m.2.2
    exact ⟨⟨w.1, h1.1, h2.1⟩, by omega⟩
  | .call _ _, w, _ => by
    rw [Stm.wf] at w
    rw [Stm.ov, Stm.wf]
    obtain ⟨⟨x, hx, e1, e2⟩, q⟩ := w
    exact ⟨⟨⟨x.ov k 1, List.mem_map.mpr ⟨x, hx, rfl⟩, e1, e2⟩, q⟩, by simp [Stm.far]⟩
theorem bWf_ovk {ws : List Wrd} {tk : Nat} {k : Int} (hk : 1 ≤ k ∧ k ≤ 1000) : ∀ (b : List Stm), bWf ws tk b → bSml b → bWf (ws.map (Wrd.ov k 1)) tk (bOv k 1 b) ∧ bFar (bOv k 1 b) ≤ 9000
  | [], _, _ => by rw [bOv, bWf, bFar]; exact ⟨trivial, by decide⟩
  | s :: r, w, m => by
    rw [bWf] at w; rw [bSml] at m; rw [bOv, bWf, bFar]
    have h1 := Stm.wf_ovk hk s w.1 m.1
    have h2 := bWf_ovk hk r w.2 m.2
    exact ⟨⟨h1.1, h2.1⟩, by omega⟩
end
theorem wsWf_ovk {k : Int} (hk : 1 ≤ k ∧ k ≤ 1000) : ∀ {r : List Wrd}, wsWf r → (∀ x ∈ r, bSml x.body) → wsWf (r.map (Wrd.ov k 1)) ∧ ∀ x ∈ r, bFar (bOv k 1 x.body) ≤ 9000
  | [], _, _ => ⟨trivial, fun _ h => nomatch h⟩
  | w :: r, h, hs => by
    obtain ⟨h1, h2, h3, h4, h5⟩ := h
    have ih := wsWf_ovk hk h5 fun x hx => hs x (List.mem_cons_of_mem _ hx)
    have hb := bWf_ovk hk _ h1 (hs w List.mem_cons_self)
    refine ⟨⟨hb.1, h2, by show bDeep (bOv k 1 w.body) ≤ 3; rw [bDeep_ov]; exact h3, fun x hx => ?_, ih.1⟩, fun x hx => ?_⟩
    · obtain ⟨z, hz, rfl⟩ := List.mem_map.mp hx
      exact h4 z hz
    · rcases List.mem_cons.mp hx with e | e
      · subst e; exact hb.2
      · exact ih.2 x e
theorem GP.ovk {ws : List Wrd} {b : List Stm} {k : Int} (hk : 1 ≤ k ∧ k ≤ 1000) (g : GP ws b) (sb : bSml b) (sw : ∀ x ∈ ws, bSml x.body) : GP (ws.map (Wrd.ov k 1)) (bOv k 1 b) ∧ bFar (bOv k 1 b) ≤ 9000 ∧ ∀ x ∈ ws, bFar (bOv k 1 x.body) ≤ 9000 := by
  have h1 := wsWf_ovk hk g.w fun x hx => sw x (List.mem_reverse.mp hx)
  have h2 := bWf_ovk hk b g.f sb
  exact ⟨⟨by rw [← List.map_reverse]; exact h1.1, by rw [List.length_map]; exact g.l, h2.1, by rw [bDeep_ov]; exact g.d⟩, h2.2, fun x hx => h1.2 x (List.mem_reverse.mpr hx)⟩
theorem ov_id {ws : List Wrd} {b : List Stm} : progE (ws.map (Wrd.ov 1 1)) (bOv 1 1 b) = progE ws b := by
  have : (Wrd.ov 1 1) = id := funext fun w => by
    show (⟨w.name, w.many, bOv 1 1 w.body⟩ : Wrd) = w
    rw [bOv_one]
  rw [this, List.map_id, bOv_one]
theorem adj_pairs {F : Int} : ∀ {l : List P4}, (∀ z ∈ pairs l, near F z.1 z.2) → adj F l
  | [], _ => trivial
  | [p], _ => trivial
  | p :: q :: r, h => ⟨h (p, q) (by simp [pairs]), adj_pairs fun z hz => h z (by simp [pairs] at hz ⊢; exact .inr hz)⟩
theorem pairs_mem {α : Type} : ∀ {l : List α} {z : α × α}, z ∈ pairs l → z.1 ∈ l ∧ z.2 ∈ l
  | [], _, h => by simp [pairs] at h
  | [p], _, h => by simp [pairs] at h
  | p :: q :: r, z, h => by
    simp [pairs] at h
    rcases h with e | e
    · subst e; simp
    · have := pairs_mem (l := q :: r) (z := z) (by simpa using e)
      exact ⟨List.mem_cons_of_mem _ this.1, List.mem_cons_of_mem _ this.2⟩
end Wk

namespace Lw
open PySem PySem.Spec PyProof.Rows L2 Wk
def topS (i : Nat) : Stmt := PySem.Challenge.pw_turtlehouse_k52_whole_larger.main.body.getD i (.Pass ⟨0, 0, 0, 0⟩)
def methS (i j : Nat) : Stmt := (clsBody (topS i)).getD j (.Pass ⟨0, 0, 0, 0⟩)
def c_BEGINNING : D := (.tuple [(.tuple [(.int 0), (.int 0)]), (.tuple [(.int 0), (.int 0)])])
def c_EAST : D := (.tuple [(.int 1), (.int 1), (.int 0), (.int (-1)), (.int (-1)), (.int (-1)), (.int 0), (.int 1)])
def c_FARTHEST : D := (.int 1000000)
def c_MOST_AMOUNT : D := (.int 1000000)
def exmL : List (Str × Str × Bool) := [("NoMark", "NoMark", true), ("NoMark", "Stopped", false), ("NoMark", "TooGreat", false), ("Stopped", "NoMark", false), ("Stopped", "Stopped", true), ("Stopped", "TooGreat", false), ("TooGreat", "NoMark", false), ("TooGreat", "Stopped", false), ("TooGreat", "TooGreat", true)]
def exm : Str → Str → Option Bool := mtOf exmL
def N_times_over : List Str := ["amount", "times"]
abbrev s_times_over : Stmt := topS 6
theorem sc_times_over : FnScope N_times_over ["amount", "times"] (defScope s_times_over) := ⟨rfl, rfl, rfl, by decide +kernel, rfl, by decide +kernel, by decide +kernel⟩
noncomputable def B_times_over : Es := (sSeq (sIf (tTru (eUn (opIsi .tuple) (eV 0)))
    (sRet (eTup (aCons (eBin opMul (eBin opIx (eV 0) (eC (.int 0))) (eV 1)) (aCons (eBin opIx (eV 0) (eC (.int 1))) (aCons (eBin opMul (eBin opIx (eV 0) (eC (.int 2))) (eV 1)) aNil)))))
    sNil)
    (sRet (eBin opMul (eV 0) (eV 1))))
noncomputable def F_times_over : PF := pfOf 2 B_times_over
def N_with_amounts : List Str := ["body", "verb", "times", "found", "statement", "one"]
abbrev s_with_amounts : Stmt := topS 7
theorem sc_with_amounts : FnScope N_with_amounts ["body", "verb", "times"] (defScope s_with_amounts) := ⟨rfl, rfl, rfl, by decide +kernel, rfl, by decide +kernel, by decide +kernel⟩
noncomputable def L_with_amounts_0 (R : Nat → SF) : Es := (sIf (tBin opEq (eBin opIx (eV 4) (eC (.int 0))) (eV 1))
    (sExpr (eMl fApp (eV 3) (aCons (eTup (aCons (eV 1) (aCons (eCall F_times_over (aCons (eBin opIx (eV 4) (eC (.int 1))) (aCons (eV 2) aNil))) aNil))) aNil)))
    (sIf (tBin opEq (eBin opIx (eV 4) (eC (.int 0))) (eC (.str "again")))
    (sExpr (eMl fApp (eV 3) (aCons (eTup (aCons (eC (.str "again")) (aCons (eBin opIx (eV 4) (eC (.int 1))) (aCons (eCall (pfS (R 0)) (aCons (eBin opIx (eV 4) (eC (.int 2))) (aCons (eV 1) (aCons (eV 2) aNil)))) aNil)))) aNil)))
    (sIf (tBin opEq (eBin opIx (eV 4) (eC (.int 0))) (eC (.str "if")))
    (sSeq (sSet 5 (eCall (pfS (R 0)) (aCons (eBin opIx (eV 4) (eC (.int 2))) (aCons (eV 1) (aCons (eV 2) aNil)))))
    (sExpr (eMl fApp (eV 3) (aCons (eTup (aCons (eC (.str "if")) (aCons (eBin opIx (eV 4) (eC (.int 1))) (aCons (eV 5) (aCons (eCall (pfS (R 0)) (aCons (eBin opIx (eV 4) (eC (.int 3))) (aCons (eV 1) (aCons (eV 2) aNil)))) aNil))))) aNil))))
    (sExpr (eMl fApp (eV 3) (aCons (eV 4) aNil))))))
noncomputable def B_with_amounts (R : Nat → SF) : Es := (sSeq (sSet 3 (eLst true aNil))
    (sSeq (sFor (iSeq (eV 0)) (gN 4) (L_with_amounts_0 R))
    (sRet (eB fTuple (aCons (eV 3) aNil)))))
noncomputable def Rec_with_amounts : Nat → Nat → SF
  | 0, _ => fun _ _ => .stuck
  | n + 1, 0 => sfOf 6 (B_with_amounts (Rec_with_amounts n))
  | _ + 1, _ => fun _ _ => .stuck
noncomputable def F_with_amounts : SF := Rec_with_amounts 150 0
def N_all_amounts : List Str := ["program", "verb", "times", "some", "words", "body", "name", "many", "own"]
abbrev s_all_amounts : Stmt := topS 8
theorem sc_all_amounts : FnScope N_all_amounts ["program", "verb", "times"] (defScope s_all_amounts) := ⟨rfl, rfl, rfl, by decide +kernel, rfl, by decide +kernel, by decide +kernel⟩
noncomputable def K_all_amounts_0 : Ev := (eTup (aCons (eV 6) (aCons (eV 7) (aCons (eCall (pfS F_with_amounts) (aCons (eV 8) (aCons (eV 1) (aCons (eV 2) aNil)))) aNil))))
noncomputable def B_all_amounts : Es := (sSeq (sAsg (gTup' 2 (gCons' (gN 4) (gCons' (gN 5) gNil'))) (eV 0))
    (sSeq (sSet 3 (eLc false [6, 7, 8] (iSeq (eV 4)) (gTup' 3 (gCons' (gN 6) (gCons' (gN 7) (gCons' (gN 8) gNil')))) cYes K_all_amounts_0))
    (sRet (eTup (aCons (eB fTuple (aCons (eV 3) aNil)) (aCons (eCall (pfS F_with_amounts) (aCons (eV 5) (aCons (eV 1) (aCons (eV 2) aNil)))) aNil))))))
noncomputable def F_all_amounts : PF := pfOf 9 B_all_amounts
def N_farthest_go : List Str := ["body", "far", "statement"]
abbrev s_farthest_go : Stmt := topS 9
theorem sc_farthest_go : FnScope N_farthest_go ["body"] (defScope s_farthest_go) := ⟨rfl, rfl, rfl, by decide +kernel, rfl, by decide +kernel, by decide +kernel⟩
noncomputable def L_farthest_go_0 (R : Nat → SF) : Es := (sIf (bAnd (tBin opEq (eBin opIx (eV 2) (eC (.int 0))) (eC (.str "go"))) (tTru (eUn (opIsi .tuple) (eBin opIx (eV 2) (eC (.int 1))))))
    (sSet 1 (eB fMax3 (aCons (eV 1) (aCons (eB fAbs (aCons (eBin opIx (eBin opIx (eV 2) (eC (.int 1))) (eC (.int 0))) aNil)) (aCons (eB fAbs (aCons (eBin opIx (eBin opIx (eV 2) (eC (.int 1))) (eC (.int 2))) aNil)) aNil)))))
    (sIf (tBin opEq (eBin opIx (eV 2) (eC (.int 0))) (eC (.str "go")))
    (sSet 1 (eB fMax (aCons (eV 1) (aCons (eB fAbs (aCons (eBin opIx (eV 2) (eC (.int 1))) aNil)) aNil))))
    (sIf (tBin opEq (eBin opIx (eV 2) (eC (.int 0))) (eC (.str "again")))
    (sSet 1 (eB fMax (aCons (eV 1) (aCons (eCall (pfS (R 0)) (aCons (eBin opIx (eV 2) (eC (.int 2))) aNil)) aNil))))
    (sIf (tBin opEq (eBin opIx (eV 2) (eC (.int 0))) (eC (.str "if")))
    (sSet 1 (eB fMax3 (aCons (eV 1) (aCons (eCall (pfS (R 0)) (aCons (eBin opIx (eV 2) (eC (.int 2))) aNil)) (aCons (eCall (pfS (R 0)) (aCons (eBin opIx (eV 2) (eC (.int 3))) aNil)) aNil)))))
    sNil))))
noncomputable def B_farthest_go (R : Nat → SF) : Es := (sSeq (sSet 1 (eC (.int 0)))
    (sSeq (sFor (iSeq (eV 0)) (gN 2) (L_farthest_go_0 R))
    (sRet (eV 1))))
noncomputable def Rec_farthest_go : Nat → Nat → SF
  | 0, _ => fun _ _ => .stuck
  | n + 1, 0 => sfOf 3 (B_farthest_go (Rec_farthest_go n))
  | _ + 1, _ => fun _ _ => .stuck
noncomputable def F_farthest_go : SF := Rec_farthest_go 150 0
def N_larger : List Str := ["program", "factor", "found", "some", "words", "body", "name", "many", "own"]
abbrev s_larger : Stmt := topS 10
theorem sc_larger : FnScope N_larger ["program", "factor"] (defScope s_larger) := ⟨rfl, rfl, rfl, by decide +kernel, rfl, by decide +kernel, by decide +kernel⟩
noncomputable def K_larger_0 : Ev := (eV 8)
noncomputable def L_larger_1 : Es := (sIf (tBin opGt (eCall (pfS F_farthest_go) (aCons (eV 3) aNil)) (eC c_FARTHEST))
    (sRaise "TooGreat")
    sNil)
noncomputable def B_larger : Es := (sSeq (sAsg (gTup' 2 (gCons' (gN 4) (gCons' (gN 5) gNil'))) (eV 0))
    (sSeq (sSet 2 (eCall F_all_amounts (aCons (eV 0) (aCons (eC (.str "go")) (aCons (eV 1) aNil)))))
    (sSeq (sFor (iSeq (eBin (opAdd false) (eLc false [6, 7, 8] (iSeq (eBin opIx (eV 2) (eC (.int 0)))) (gTup' 3 (gCons' (gN 6) (gCons' (gN 7) (gCons' (gN 8) gNil')))) cYes K_larger_0) (eLst false (aCons (eBin opIx (eV 2) (eC (.int 1))) aNil)))) (gN 3) L_larger_1)
    (sRet (eV 2)))))
noncomputable def F_larger : PF := pfOf 9 B_larger
def N_plus : List Str := ["one", "other"]
abbrev s_plus : Stmt := topS 14
theorem sc_plus : FnScope N_plus ["one", "other"] (defScope s_plus) := ⟨rfl, rfl, rfl, by decide +kernel, rfl, by decide +kernel, by decide +kernel⟩
noncomputable def B_plus : Es := (sRet (eTup (aCons (eBin (opAdd false) (eBin opIx (eV 0) (eC (.int 0))) (eBin opIx (eV 1) (eC (.int 0)))) (aCons (eBin (opAdd false) (eBin opIx (eV 0) (eC (.int 1))) (eBin opIx (eV 1) (eC (.int 1)))) aNil))))
noncomputable def F_plus : PF := pfOf 2 B_plus
def N_way_of : List Str := ["heading", "steps", "east", "north"]
abbrev s_way_of : Stmt := topS 15
theorem sc_way_of : FnScope N_way_of ["heading", "steps"] (defScope s_way_of) := ⟨rfl, rfl, rfl, by decide +kernel, rfl, by decide +kernel, by decide +kernel⟩
noncomputable def B_way_of : Es := (sSeq (sSet 2 (eBin opMul (eV 1) (eBin opIx (eC c_EAST) (eV 0))))
    (sSeq (sSet 3 (eBin opMul (eV 1) (eBin opIx (eC c_EAST) (eBin opMod (eBin (opAdd false) (eV 0) (eC (.int 6))) (eC (.int 8))))))
    (sSeq (sIf (tBin opEq (eBin opMod (eV 0) (eC (.int 2))) (eC (.int 0)))
    (sRet (eTup (aCons (eTup (aCons (eV 2) (aCons (eC (.int 0)) aNil))) (aCons (eTup (aCons (eV 3) (aCons (eC (.int 0)) aNil))) aNil))))
    sNil)
    (sRet (eTup (aCons (eTup (aCons (eC (.int 0)) (aCons (eV 2) aNil))) (aCons (eTup (aCons (eC (.int 0)) (aCons (eV 3) aNil))) aNil)))))))
noncomputable def F_way_of : PF := pfOf 4 B_way_of
def N_moved : List Str := ["place", "heading", "steps", "east", "north"]
abbrev s_moved : Stmt := topS 16
theorem sc_moved : FnScope N_moved ["place", "heading", "steps"] (defScope s_moved) := ⟨rfl, rfl, rfl, by decide +kernel, rfl, by decide +kernel, by decide +kernel⟩
noncomputable def B_moved : Es := (sSeq (sAsg (gTup' 2 (gCons' (gN 3) (gCons' (gN 4) gNil'))) (eCall F_way_of (aCons (eV 1) (aCons (eV 2) aNil))))
    (sRet (eTup (aCons (eCall F_plus (aCons (eBin opIx (eV 0) (eC (.int 0))) (aCons (eV 3) aNil))) (aCons (eCall F_plus (aCons (eBin opIx (eV 0) (eC (.int 1))) (aCons (eV 4) aNil))) aNil)))))
noncomputable def F_moved : PF := pfOf 5 B_moved
def N_Hand__init : List Str := ["self", "most"]
abbrev s_Hand__init : Stmt := methS 20 0
theorem sc_Hand__init : FnScope N_Hand__init ["self", "most"] (defScope s_Hand__init) := ⟨rfl, rfl, rfl, by decide +kernel, rfl, by decide +kernel, by decide +kernel⟩
noncomputable def B_Hand__init : Es := (sSeq (sFldS "Hand" "spot" (eC c_BEGINNING) (eV 0))
    (sSeq (sFldS "Hand" "heading" (eC (.int 0)) (eV 0))
    (sSeq (sFldS "Hand" "is_down" (eC (.bool true)) (eV 0))
    (sSeq (sFldS "Hand" "ink" (eC (.int 0)) (eV 0))
    (sSeq (sFldS "Hand" "marks" eDNew (eV 0))
    (sSeq (sFldS "Hand" "strokes" (eLst true aNil) (eV 0))
    (sSeq (sFldS "Hand" "corners" (eLst true (aCons (eC c_BEGINNING) aNil)) (eV 0))
    (sSeq (sFldS "Hand" "turns" (eC (.int 0)) (eV 0))
    (sSeq (sFldS "Hand" "rest" (eV 1) (eV 0))
    (sFldS "Hand" "plain" (eLst true aNil) (eV 0)))))))))))
noncomputable def F_Hand__init : SF := sfOf 2 B_Hand__init
def N_Hand_deed : List Str := ["self"]
abbrev s_Hand_deed : Stmt := methS 20 1
theorem sc_Hand_deed : FnScope N_Hand_deed ["self"] (defScope s_Hand_deed) := ⟨rfl, rfl, rfl, by decide +kernel, rfl, by decide +kernel, by decide +kernel⟩
noncomputable def B_Hand_deed : Es := (sSeq (sIf (tBin opLe (eFld "Hand" "rest" (eV 0)) (eC (.int 0)))
    (sRaise "Stopped")
    sNil)
    (sFldS "Hand" "rest" (eBin opSub (eFld "Hand" "rest" (eV 0)) (eC (.int 1))) (eV 0)))
noncomputable def F_Hand_deed : SF := sfOf 1 B_Hand_deed
def N_Hand_go : List Str := ["self", "steps", "ahead"]
abbrev s_Hand_go : Stmt := methS 20 2
theorem sc_Hand_go : FnScope N_Hand_go ["self", "steps"] (defScope s_Hand_go) := ⟨rfl, rfl, rfl, by decide +kernel, rfl, by decide +kernel, by decide +kernel⟩
noncomputable def B_Hand_go : Es := (sSeq (sSet 2 (eCall F_moved (aCons (eFz (eFld "Hand" "spot" (eV 0))) (aCons (eFz (eFld "Hand" "heading" (eV 0))) (aCons (eV 1) aNil)))))
    (sSeq (sIf (bAnd (tTru (eFld "Hand" "is_down" (eV 0))) (tBin opNe (eV 1) (eC (.int 0))))
    (sExpr (eMl fApp (eFld "Hand" "strokes" (eV 0)) (aCons (eTup (aCons (eFld "Hand" "ink" (eV 0)) (aCons (eFld "Hand" "spot" (eV 0)) (aCons (eV 2) aNil)))) aNil)))
    sNil)
    (sSeq (sFldS "Hand" "spot" (eV 2) (eV 0))
    (sExpr (eMl fApp (eFld "Hand" "corners" (eV 0)) (aCons (eV 2) aNil))))))
noncomputable def F_Hand_go : SF := sfOf 3 B_Hand_go
def N_Hand_turn : List Str := ["self", "eighths"]
abbrev s_Hand_turn : Stmt := methS 20 3
theorem sc_Hand_turn : FnScope N_Hand_turn ["self", "eighths"] (defScope s_Hand_turn) := ⟨rfl, rfl, rfl, by decide +kernel, rfl, by decide +kernel, by decide +kernel⟩
noncomputable def B_Hand_turn : Es := (sSeq (sFldS "Hand" "turns" (eBin (opAdd true) (eFld "Hand" "turns" (eV 0)) (eV 1)) (eV 0))
    (sFldS "Hand" "heading" (eBin opMod (eBin (opAdd false) (eFld "Hand" "heading" (eV 0)) (eV 1)) (eC (.int 8))) (eV 0)))
noncomputable def F_Hand_turn : SF := sfOf 2 B_Hand_turn
def N_Hand_back : List Str := ["self", "number"]
abbrev s_Hand_back : Stmt := methS 20 4
theorem sc_Hand_back : FnScope N_Hand_back ["self", "number"] (defScope s_Hand_back) := ⟨rfl, rfl, rfl, by decide +kernel, rfl, by decide +kernel, by decide +kernel⟩
noncomputable def B_Hand_back : Es := (sSeq (sIf (tBin (opIn true) (eV 1) (eFld "Hand" "marks" (eV 0)))
    (sRaise "NoMark")
    sNil)
    (sSeq (sAsg2 "Hand" "spot" "heading" 0 (eBin opDGet (eFld "Hand" "marks" (eV 0)) (eV 1)))
    (sExpr (eMl fApp (eFld "Hand" "corners" (eV 0)) (aCons (eFld "Hand" "spot" (eV 0)) aNil)))))
noncomputable def F_Hand_back : SF := sfOf 2 B_Hand_back
def N_Hand_state : List Str := ["self"]
abbrev s_Hand_state : Stmt := methS 20 5
theorem sc_Hand_state : FnScope N_Hand_state ["self"] (defScope s_Hand_state) := ⟨rfl, rfl, rfl, by decide +kernel, rfl, by decide +kernel, by decide +kernel⟩
noncomputable def B_Hand_state : Es := (sRet (eTup (aCons (eFld "Hand" "spot" (eV 0)) (aCons (eFld "Hand" "heading" (eV 0)) (aCons (eFld "Hand" "is_down" (eV 0)) (aCons (eFld "Hand" "ink" (eV 0)) aNil))))))
noncomputable def F_Hand_state : SF := sfOf 1 B_Hand_state
def N_Call__init : List Str := ["self", "words", "numbers", "count"]
abbrev s_Call__init : Stmt := methS 21 0
theorem sc_Call__init : FnScope N_Call__init ["self", "words", "numbers", "count"] (defScope s_Call__init) := ⟨rfl, rfl, rfl, by decide +kernel, rfl, by decide +kernel, by decide +kernel⟩
noncomputable def B_Call__init : Es := (sSeq (sFldS "Call" "words" (eV 1) (eV 0))
    (sSeq (sFldS "Call" "numbers" (eV 2) (eV 0))
    (sFldS "Call" "count" (eV 3) (eV 0))))
noncomputable def F_Call__init : SF := sfOf 4 B_Call__init
def N_Call_source_value : List Str := ["self", "source"]
abbrev s_Call_source_value : Stmt := methS 21 2
theorem sc_Call_source_value : FnScope N_Call_source_value ["self", "source"] (defScope s_Call_source_value) := ⟨rfl, rfl, rfl, by decide +kernel, rfl, by decide +kernel, by decide +kernel⟩
noncomputable def B_Call_source_value : Es := (sSeq (sIf (tBin opEq (eV 1) (eC (.str "count")))
    (sRet (eFld "Call" "count" (eV 0)))
    sNil)
    (sRet (eBin opIx (eFld "Call" "numbers" (eV 0)) (eB fIntX (aCons (eSl false (eV 1) (oSo (eC (.int 1))) oNo) aNil)))))
noncomputable def F_Call_source_value : SF := sfOf 2 B_Call_source_value
def N_Call_value : List Str := ["self", "amount", "found", "times", "source", "more"]
abbrev s_Call_value : Stmt := methS 21 1
theorem sc_Call_value : FnScope N_Call_value ["self", "amount"] (defScope s_Call_value) := ⟨rfl, rfl, rfl, by decide +kernel, rfl, by decide +kernel, by decide +kernel⟩
noncomputable def B_Call_value : Es := (sSeq (sSet 2 (eV 1))
    (sSeq (sIf (tTru (eUn (opIsi .tuple) (eV 1)))
    (sSeq (sAsg (gTup' 3 (gCons' (gN 3) (gCons' (gN 4) (gCons' (gN 5) gNil')))) (eV 1))
    (sSet 2 (eBin (opAdd false) (eBin opMul (eV 3) (eMth "Call" "source_value" F_Call_source_value (eV 0) (aCons (eV 4) aNil))) (eV 5))))
    sNil)
    (sSeq (sIf (tBin opGt (eB fAbs (aCons (eV 2) aNil)) (eC c_MOST_AMOUNT))
    (sRaise "TooGreat")
    sNil)
    (sRet (eV 2)))))
noncomputable def F_Call_value : SF := sfOf 6 B_Call_value
def N_do_simple : List Str := ["hand", "verb", "value"]
abbrev s_do_simple : Stmt := topS 22
theorem sc_do_simple : FnScope N_do_simple ["hand", "verb", "value"] (defScope s_do_simple) := ⟨rfl, rfl, rfl, by decide +kernel, rfl, by decide +kernel, by decide +kernel⟩
noncomputable def B_do_simple : Es := (sIf (tBin opEq (eV 1) (eC (.str "go")))
    (sExpr (eMth "Hand" "go" F_Hand_go (eV 0) (aCons (eV 2) aNil)))
    (sIf (tBin opEq (eV 1) (eC (.str "turn")))
    (sExpr (eMth "Hand" "turn" F_Hand_turn (eV 0) (aCons (eV 2) aNil)))
    (sIf (tBin opEq (eV 1) (eC (.str "ink")))
    (sFldS "Hand" "ink" (eBin opMod (eV 2) (eC (.int 8))) (eV 0))
    (sIf (tBin opEq (eV 1) (eC (.str "up")))
    (sFldS "Hand" "is_down" (eC (.bool false)) (eV 0))
    (sIf (tBin opEq (eV 1) (eC (.str "down")))
    (sFldS "Hand" "is_down" (eC (.bool true)) (eV 0))
    (sIf (tBin opEq (eV 1) (eC (.str "mark")))
    (sDPutS (eTup (aCons (eFld "Hand" "spot" (eV 0)) (aCons (eFld "Hand" "heading" (eV 0)) aNil))) (eFld "Hand" "marks" (eV 0)) (eV 2))
    (sExpr (eMth "Hand" "back" F_Hand_back (eV 0) (aCons (eV 2) aNil)))))))))
noncomputable def F_do_simple : SF := sfOf 3 B_do_simple
def N_do_again : List Str := ["hand", "statement", "call", "count"]
abbrev s_do_again : Stmt := topS 23
theorem sc_do_again : FnScope N_do_again ["hand", "statement", "call"] (defScope s_do_again) := ⟨rfl, rfl, rfl, by decide +kernel, rfl, by decide +kernel, by decide +kernel⟩
noncomputable def L_do_again_0 (R : Nat → SF) : Es := (sSeq (sExpr (eMth "Hand" "deed" F_Hand_deed (eV 0) aNil))
    (sExpr (eB (R 3) (aCons (eV 0) (aCons (eBin opIx (eV 1) (eC (.int 2))) (aCons (eMk "Call" F_Call__init (aCons (eFld "Call" "words" (eV 2)) (aCons (eFld "Call" "numbers" (eV 2)) (aCons (eV 3) aNil)))) aNil))))))
noncomputable def B_do_again (R : Nat → SF) : Es := (sFor (iR1 (aCons (eB fMax (aCons (eC (.int 0)) (aCons (eMth "Call" "value" F_Call_value (eV 2) (aCons (eBin opIx (eV 1) (eC (.int 1))) aNil)) aNil))) aNil)) (gN 3) (L_do_again_0 R))
def N_do_word : List Str := ["hand", "statement", "call", "numbers", "amount"]
abbrev s_do_word : Stmt := topS 24
theorem sc_do_word : FnScope N_do_word ["hand", "statement", "call"] (defScope s_do_word) := ⟨rfl, rfl, rfl, by decide +kernel, rfl, by decide +kernel, by decide +kernel⟩
noncomputable def K_do_word_0 (R : Nat → SF) : Ev := (eFz (eMth "Call" "value" F_Call_value (eV 2) (aCons (eV 4) aNil)))
noncomputable def B_do_word (R : Nat → SF) : Es := (sSeq (sSet 3 (eLcX false [4] (iSeq (eBin opIx (eV 1) (eC (.int 2)))) (gN 4) cYes (K_do_word_0 R)))
    (sExpr (eB (R 3) (aCons (eV 0) (aCons (eBin opDGet (eFld "Call" "words" (eV 2)) (eBin opIx (eV 1) (eC (.int 1)))) (aCons (eMk "Call" F_Call__init (aCons (eFld "Call" "words" (eV 2)) (aCons (eV 3) (aCons (eC (.int 0)) aNil)))) aNil))))))
def N_do_statement : List Str := ["hand", "statement", "call", "verb", "value"]
abbrev s_do_statement : Stmt := topS 25
theorem sc_do_statement : FnScope N_do_statement ["hand", "statement", "call"] (defScope s_do_statement) := ⟨rfl, rfl, rfl, by decide +kernel, rfl, by decide +kernel, by decide +kernel⟩
noncomputable def B_do_statement (R : Nat → SF) : Es := (sSeq (sExpr (eMth "Hand" "deed" F_Hand_deed (eV 0) aNil))
    (sSeq (sSet 3 (eBin opIx (eV 1) (eC (.int 0))))
    (sIf (tBin opEq (eV 3) (eC (.str "again")))
    (sExpr (eB (R 0) (aCons (eV 0) (aCons (eV 1) (aCons (eV 2) aNil)))))
    (sIf (tBin opEq (eV 3) (eC (.str "if")))
    (sExpr (eB (R 3) (aCons (eV 0) (aCons (eBin opIx (eV 1) (eBin (opAdd false) (eC (.int 2)) (eB fInt (aCons (eBin opLe (eMth "Call" "value" F_Call_value (eV 2) (aCons (eBin opIx (eV 1) (eC (.int 1))) aNil)) (eC (.int 0))) aNil)))) (aCons (eV 2) aNil)))))
    (sIf (tBin opEq (eV 3) (eC (.str "do")))
    (sExpr (eB (R 1) (aCons (eV 0) (aCons (eV 1) (aCons (eV 2) aNil)))))
    (sIf (bOr (tBin opEq (eV 3) (eC (.str "up"))) (tBin opEq (eV 3) (eC (.str "down"))))
    (sSeq (sExpr (eMl fApp (eFld "Hand" "plain" (eV 0)) (aCons (eTup (aCons (eV 3) (aCons (eC (.int 0)) (aCons (eMth "Hand" "state" F_Hand_state (eV 0) aNil) aNil)))) aNil)))
    (sExpr (eB F_do_simple (aCons (eV 0) (aCons (eV 3) (aCons (eC (.int 0)) aNil))))))
    (sSeq (sSet 4 (eMth "Call" "value" F_Call_value (eV 2) (aCons (eBin opIx (eV 1) (eC (.int 1))) aNil)))
    (sSeq (sExpr (eMl fApp (eFld "Hand" "plain" (eV 0)) (aCons (eTup (aCons (eV 3) (aCons (eV 4) (aCons (eMth "Hand" "state" F_Hand_state (eV 0) aNil) aNil)))) aNil)))
    (sExpr (eB F_do_simple (aCons (eV 0) (aCons (eV 3) (aCons (eV 4) aNil)))))))))))))
def N_do_body : List Str := ["hand", "body", "call", "statement"]
abbrev s_do_body : Stmt := topS 26
theorem sc_do_body : FnScope N_do_body ["hand", "body", "call"] (defScope s_do_body) := ⟨rfl, rfl, rfl, by decide +kernel, rfl, by decide +kernel, by decide +kernel⟩
noncomputable def L_do_body_0 (R : Nat → SF) : Es := (sExpr (eB (R 2) (aCons (eV 0) (aCons (eV 3) (aCons (eV 2) aNil)))))
noncomputable def B_do_body (R : Nat → SF) : Es := (sFor (iSeq (eV 1)) (gN 3) (L_do_body_0 R))
noncomputable def Rec_do_again : Nat → Nat → SF
  | 0, _ => fun _ _ => .stuck
  | n + 1, 0 => sfOf 4 (B_do_again (Rec_do_again n))
  | n + 1, 1 => sfOf 5 (B_do_word (Rec_do_again n))
  | n + 1, 2 => sfOf 5 (B_do_statement (Rec_do_again n))
  | n + 1, 3 => sfOf 4 (B_do_body (Rec_do_again n))
  | _ + 1, _ => fun _ _ => .stuck
noncomputable def F_do_again : SF := Rec_do_again 150 0
noncomputable def F_do_word : SF := Rec_do_again 150 1
noncomputable def F_do_statement : SF := Rec_do_again 150 2
noncomputable def F_do_body : SF := Rec_do_again 150 3
def N_hand_behind : List Str := ["program", "most", "words", "hand", "done", "name", "many", "body"]
abbrev s_hand_behind : Stmt := topS 27
theorem sc_hand_behind : FnScope N_hand_behind ["program", "most"] (defScope s_hand_behind) := ⟨rfl, rfl, rfl, by decide +kernel, rfl, by decide +kernel, by decide +kernel⟩
noncomputable def L_hand_behind_0 : Es := (sDPutS (eV 7) (eV 2) (eV 5))
noncomputable def Y_hand_behind_1 : Es := (sExpr (eB F_do_body (aCons (eV 3) (aCons (eBin opIx (eV 0) (eC (.int 1))) (aCons (eMk "Call" F_Call__init (aCons (eV 2) (aCons (eLst false aNil) (aCons (eC (.int 0)) aNil)))) aNil)))))
noncomputable def B_hand_behind : Es := (sSeq (sSet 2 eDNew)
    (sSeq (sFor (iSeq (eBin opIx (eV 0) (eC (.int 0)))) (gTup' 3 (gCons' (gN 5) (gCons' (gN 6) (gCons' (gN 7) gNil')))) L_hand_behind_0)
    (sSeq (sSet 3 (eMk "Hand" F_Hand__init (aCons (eV 1) aNil)))
    (sSeq (sSet 4 (eC (.bool true)))
    (sSeq (sTry exm Y_hand_behind_1 (("Stopped", (sSet 4 (eC (.bool false)))) :: []))
    (sRet (eTup (aCons (eV 3) (aCons (eV 4) aNil)))))))))
noncomputable def F_hand_behind : SF := sfOf 8 B_hand_behind
def N_run : List Str := ["program", "most", "hand", "done"]
abbrev s_run : Stmt := topS 28
theorem sc_run : FnScope N_run ["program", "most"] (defScope s_run) := ⟨rfl, rfl, rfl, by decide +kernel, rfl, by decide +kernel, by decide +kernel⟩
noncomputable def B_run : Es := (sSeq (sAsg (gTup' 2 (gCons' (gN 2) (gCons' (gN 3) gNil'))) (eB F_hand_behind (aCons (eV 0) (aCons (eV 1) aNil))))
    (sRet (eTup (aCons (eFld "Hand" "strokes" (eV 2)) (aCons (eFld "Hand" "corners" (eV 2)) (aCons (eMth "Hand" "state" F_Hand_state (eV 2) aNil) (aCons (eFld "Hand" "turns" (eV 2)) (aCons (eV 3) aNil))))))))
noncomputable def F_run : SF := sfOf 4 B_run
def N_law_mixed : List Str := ["_law_cell_here", "_law_k", "_law_number"]
abbrev s_law_mixed : Stmt := topS 30
theorem sc_law_mixed : FnScope N_law_mixed ["_law_cell_here", "_law_k"] (defScope s_law_mixed) := ⟨rfl, rfl, rfl, by decide +kernel, rfl, by decide +kernel, by decide +kernel⟩
noncomputable def B_law_mixed : Es := (sSeq (sSet 2 (eBin opMod (eBin (opAdd false) (eBin (opAdd false) (eV 0) (eBin opMul (eBin opMul (eV 1) (eV 1)) (eC (.int 40503)))) (eC (.int 12345))) (eC (.int 2305843009213693951))))
    (sSeq (sSet 2 (eBin opMod (eBin opMul (eV 2) (eV 2)) (eC (.int 2305843009213693951))))
    (sSeq (sSet 2 (eBin opMod (eBin opMul (eBin (opAdd false) (eBin (opAdd false) (eV 2) (eBin opMul (eV 1) (eC (.int 7919)))) (eC (.int 1))) (eC (.int 48271))) (eC (.int 2305843009213693951))))
    (sRet (eBin opFdiv (eBin opMod (eBin opMul (eV 2) (eV 2)) (eC (.int 2305843009213693951))) (eC (.int 1024)))))))
noncomputable def F_law_mixed : PF := pfOf 3 B_law_mixed
def N_law_row : List Str := ["_law_cell_here", "_law_most_here", "_law_many", "_law_found", "_law_rest", "_law_k"]
abbrev s_law_row : Stmt := topS 31
theorem sc_law_row : FnScope N_law_row ["_law_cell_here", "_law_most_here", "_law_many"] (defScope s_law_row) := ⟨rfl, rfl, rfl, by decide +kernel, rfl, by decide +kernel, by decide +kernel⟩
noncomputable def L_law_row_0 : Es := (sSeq (sExpr (eMl fApp (eV 3) (aCons (eBin opMod (eV 4) (eV 1)) aNil)))
    (sSet 4 (eBin opFdiv (eV 4) (eV 1))))
noncomputable def K_law_row_1 : Ev := (eBin opMod (eCall F_law_mixed (aCons (eV 0) (aCons (eV 5) aNil))) (eV 1))
noncomputable def B_law_row : Es := (sSeq (sSet 3 (eLst true aNil))
    (sSeq (sSet 4 (eV 0))
    (sSeq (sFor (iR1 (aCons (eV 2) aNil)) (gN 5) L_law_row_0)
    (sSeq (sIf (tBin opGt (eV 4) (eC (.int 0)))
    (sRet (eFz (eV 3)))
    sNil)
    (sRet (eLc false [5] (iR1 (aCons (eV 2) aNil)) (gN 5) cYes K_law_row_1))))))
noncomputable def F_law_row : PF := pfOf 6 B_law_row
def N_law_cell : List Str := ["_law_script", "_law_k", "_law_number"]
abbrev s_law_cell : Stmt := topS 32
theorem sc_law_cell : FnScope N_law_cell ["_law_script", "_law_k"] (defScope s_law_cell) := ⟨rfl, rfl, rfl, by decide +kernel, rfl, by decide +kernel, by decide +kernel⟩
noncomputable def B_law_cell : Es := (sSeq (sIf (tBin opLt (eV 1) (eB fLen (aCons (eV 0) aNil)))
    (sRet (eBin opIx (eV 0) (eV 1)))
    sNil)
    (sSeq (sSet 2 (eBin (opAdd false) (eBin opMul (eBin opMul (eV 1) (eV 1)) (eC (.int 7919))) (eC (.int 104729))))
    (sSeq (sIf (tBin opGt (eB fLen (aCons (eV 0) aNil)) (eC (.int 0)))
    (sSet 2 (eBin (opAdd false) (eV 2) (eBin opMul (eBin opMod (eBin opIx (eV 0) (eBin opMod (eBin opMul (eV 1) (eC (.int 7))) (eB fLen (aCons (eV 0) aNil)))) (eBin opPow (eC (.int 10)) (eC (.int 40)))) (eBin (opAdd false) (eC (.int 48271)) (eV 1)))))
    sNil)
    (sRet (eBin opMod (eBin opMul (eV 2) (eV 2)) (eC (.int 2305843009213693951)))))))
noncomputable def F_law_cell : PF := pfOf 3 B_law_cell
def N_law_deck : List Str := ["_law_script", "_law_start", "_law_deck_here", "_law_k"]
abbrev s_law_deck : Stmt := topS 33
theorem sc_law_deck : FnScope N_law_deck ["_law_script", "_law_start"] (defScope s_law_deck) := ⟨rfl, rfl, rfl, by decide +kernel, rfl, by decide +kernel, by decide +kernel⟩
noncomputable def L_law_deck_0 : Es := (sSet 2 (eBin (opAdd false) (eV 2) (eCall F_law_row (aCons (eCall F_law_cell (aCons (eV 0) (aCons (eV 3) aNil))) (aCons (eC (.int 1000)) (aCons (eC (.int 8)) aNil))))))
noncomputable def B_law_deck : Es := (sSeq (sSet 2 (eLst false aNil))
    (sSeq (sFor (iR2 (aCons (eV 1) (aCons (eB fMax (aCons (eBin (opAdd false) (eV 1) (eC (.int 4))) (aCons (eB fMin (aCons (eC (.int 63)) (aCons (eB fLen (aCons (eV 0) aNil)) aNil))) aNil))) aNil))) (gN 3) L_law_deck_0)
    (sRet (eUn (opRevL true) (eV 2)))))
noncomputable def F_law_deck : SF := sfOf 4 B_law_deck
def N_law_next : List Str := ["_law_deck_here"]
abbrev s_law_next : Stmt := topS 34
theorem sc_law_next : FnScope N_law_next ["_law_deck_here"] (defScope s_law_next) := ⟨rfl, rfl, rfl, by decide +kernel, rfl, by decide +kernel, by decide +kernel⟩
noncomputable def B_law_next : Es := (sSeq (sIf (tBin opEq (eB fLen (aCons (eV 0) aNil)) (eC (.int 0)))
    (sRet (eC (.int 0)))
    sNil)
    (sRet (eMl fPop (eV 0) aNil)))
noncomputable def F_law_next : SF := sfOf 1 B_law_next
def N_law_amount : List Str := ["_law_deck_here", "_law_inside", "_law_takes", "_law_kind"]
abbrev s_law_amount : Stmt := topS 35
theorem sc_law_amount : FnScope N_law_amount ["_law_deck_here", "_law_inside", "_law_takes"] (defScope s_law_amount) := ⟨rfl, rfl, rfl, by decide +kernel, rfl, by decide +kernel, by decide +kernel⟩
noncomputable def B_law_amount : Es := (sSeq (sSet 3 (eB F_law_next (aCons (eV 0) aNil)))
    (sSeq (sIf (bAnd (tBin opEq (eBin opMod (eV 3) (eC (.int 4))) (eC (.int 0))) (tTru (eV 1)))
    (sRet (eTup (aCons (eBin opSub (eBin opMod (eBin opFdiv (eV 3) (eC (.int 4))) (eC (.int 7))) (eC (.int 3))) (aCons (eC (.str "count")) (aCons (eBin opSub (eBin opMod (eB F_law_next (aCons (eV 0) aNil)) (eC (.int 7))) (eC (.int 3))) aNil)))))
    sNil)
    (sSeq (sIf (bAnd (tBin opEq (eBin opMod (eV 3) (eC (.int 4))) (eC (.int 1))) (tBin opGt (eV 2) (eC (.int 0))))
    (sRet (eTup (aCons (eBin opSub (eBin opMod (eBin opFdiv (eV 3) (eC (.int 4))) (eC (.int 7))) (eC (.int 3))) (aCons (eBin (opAdd false) (eC (.str "n")) (eB fStr (aCons (eBin opMod (eB F_law_next (aCons (eV 0) aNil)) (eV 2)) aNil))) (aCons (eBin opSub (eBin opMod (eB F_law_next (aCons (eV 0) aNil)) (eC (.int 7))) (eC (.int 3))) aNil)))))
    sNil)
    (sRet (eBin opSub (eBin opMod (eBin opFdiv (eV 3) (eC (.int 4))) (eC (.int 19))) (eC (.int 9)))))))
noncomputable def F_law_amount : SF := sfOf 4 B_law_amount
def N_law_call : List Str := ["_law_deck_here", "_law_inside", "_law_takes", "_law_words", "_law_name", "_law_many", "_law_body_here", "_law_k"]
abbrev s_law_call : Stmt := topS 38
theorem sc_law_call : FnScope N_law_call ["_law_deck_here", "_law_inside", "_law_takes", "_law_words"] (defScope s_law_call) := ⟨rfl, rfl, rfl, by decide +kernel, rfl, by decide +kernel, by decide +kernel⟩
noncomputable def K_law_call_0 : Ev := (eB F_law_amount (aCons (eV 0) (aCons (eV 1) (aCons (eV 2) aNil))))
noncomputable def B_law_call : Es := (sSeq (sAsg (gTup' 3 (gCons' (gN 4) (gCons' (gN 5) (gCons' (gN 6) gNil')))) (eBin opIx (eV 3) (eBin opMod (eB F_law_next (aCons (eV 0) aNil)) (eB fLen (aCons (eV 3) aNil)))))
    (sRet (eTup (aCons (eC (.str "do")) (aCons (eV 4) (aCons (eB fTuple (aCons (eLc false [7] (iR1 (aCons (eV 5) aNil)) (gN 7) cYes K_law_call_0) aNil)) aNil))))))
noncomputable def F_law_call : SF := sfOf 8 B_law_call
def N_law_mark : List Str := ["_law_deck_here", "_law_pair"]
abbrev s_law_mark : Stmt := topS 39
theorem sc_law_mark : FnScope N_law_mark ["_law_deck_here"] (defScope s_law_mark) := ⟨rfl, rfl, rfl, by decide +kernel, rfl, by decide +kernel, by decide +kernel⟩
noncomputable def B_law_mark : Es := (sSeq (sSet 1 (eBin opMod (eBin opIx (eBin (opAdd false) (eV 0) (eLst false (aCons (eC (.int 0)) aNil))) (eC (.int 0))) (eC (.int 90))))
    (sRet (eBin opIx (eLst false (aCons (eBin opFdiv (eV 1) (eC (.int 9))) (aCons (eBin opMod (eBin (opAdd false) (eBin (opAdd false) (eBin opFdiv (eV 1) (eC (.int 9))) (eC (.int 1))) (eBin opMod (eV 1) (eC (.int 9)))) (eC (.int 10))) aNil))) (eBin opMod (eB F_law_next (aCons (eV 0) aNil)) (eC (.int 2))))))
noncomputable def F_law_mark : SF := sfOf 2 B_law_mark
def N_law_rounds : List Str := ["_law_deck_here", "_law_deep", "_law_inside", "_law_takes", "_law_words", "_law_kind", "_law_amount_here"]
abbrev s_law_rounds : Stmt := topS 36
theorem sc_law_rounds : FnScope N_law_rounds ["_law_deck_here", "_law_deep", "_law_inside", "_law_takes", "_law_words"] (defScope s_law_rounds) := ⟨rfl, rfl, rfl, by decide +kernel, rfl, by decide +kernel, by decide +kernel⟩
noncomputable def B_law_rounds (R : Nat → SF) : Es := (sSeq (sSet 5 (eB F_law_next (aCons (eV 0) aNil)))
    (sSeq (sSet 6 (eBin opMod (eBin opFdiv (eV 5) (eC (.int 3))) (eC (.int 5))))
    (sSeq (sIf (tBin opEq (eBin opMod (eV 5) (eC (.int 3))) (eC (.int 1)))
    (sSet 6 (eB F_law_amount (aCons (eV 0) (aCons (eV 2) (aCons (eV 3) aNil)))))
    sNil)
    (sRet (eTup (aCons (eC (.str "again")) (aCons (eV 6) (aCons (eB (R 3) (aCons (eV 0) (aCons (eBin (opAdd false) (eV 1) (eC (.int 1))) (aCons (eC (.bool true)) (aCons (eV 3) (aCons (eV 4) aNil)))))) aNil))))))))
def N_law_choice : List Str := ["_law_deck_here", "_law_deep", "_law_inside", "_law_takes", "_law_words", "_law_amount_here", "_law_one"]
abbrev s_law_choice : Stmt := topS 37
theorem sc_law_choice : FnScope N_law_choice ["_law_deck_here", "_law_deep", "_law_inside", "_law_takes", "_law_words"] (defScope s_law_choice) := ⟨rfl, rfl, rfl, by decide +kernel, rfl, by decide +kernel, by decide +kernel⟩
noncomputable def B_law_choice (R : Nat → SF) : Es := (sSeq (sSet 5 (eB F_law_amount (aCons (eV 0) (aCons (eV 2) (aCons (eV 3) aNil)))))
    (sSeq (sSet 6 (eB (R 3) (aCons (eV 0) (aCons (eBin (opAdd false) (eV 1) (eC (.int 1))) (aCons (eV 2) (aCons (eV 3) (aCons (eV 4) aNil)))))))
    (sRet (eTup (aCons (eC (.str "if")) (aCons (eV 5) (aCons (eV 6) (aCons (eB (R 3) (aCons (eV 0) (aCons (eBin (opAdd false) (eV 1) (eC (.int 1))) (aCons (eV 2) (aCons (eV 3) (aCons (eV 4) aNil)))))) aNil))))))))
def N_law_statement : List Str := ["_law_deck_here", "_law_deep", "_law_inside", "_law_takes", "_law_words", "_law_way"]
abbrev s_law_statement : Stmt := topS 40
theorem sc_law_statement : FnScope N_law_statement ["_law_deck_here", "_law_deep", "_law_inside", "_law_takes", "_law_words"] (defScope s_law_statement) := ⟨rfl, rfl, rfl, by decide +kernel, rfl, by decide +kernel, by decide +kernel⟩
noncomputable def B_law_statement (R : Nat → SF) : Es := (sSeq (sSet 5 (eBin opMod (eB F_law_next (aCons (eV 0) aNil)) (eC (.int 13))))
    (sSeq (sIf (tBin opLt (eV 5) (eC (.int 4)))
    (sRet (eTup (aCons (eC (.str "go")) (aCons (eB F_law_amount (aCons (eV 0) (aCons (eV 2) (aCons (eV 3) aNil)))) aNil))))
    sNil)
    (sSeq (sIf (tBin opLt (eV 5) (eC (.int 7)))
    (sRet (eTup (aCons (eC (.str "turn")) (aCons (eB F_law_amount (aCons (eV 0) (aCons (eV 2) (aCons (eV 3) aNil)))) aNil))))
    sNil)
    (sSeq (sIf (tBin opEq (eV 5) (eC (.int 7)))
    (sRet (eTup (aCons (eBin opIx (eLst false (aCons (eC (.str "up")) (aCons (eC (.str "down")) (aCons (eC (.str "down")) aNil)))) (eBin opMod (eB F_law_next (aCons (eV 0) aNil)) (eC (.int 3)))) aNil)))
    sNil)
    (sSeq (sIf (tBin opEq (eV 5) (eC (.int 8)))
    (sRet (eTup (aCons (eC (.str "ink")) (aCons (eB F_law_amount (aCons (eV 0) (aCons (eV 2) (aCons (eV 3) aNil)))) aNil))))
    sNil)
    (sSeq (sIf (tBin opEq (eV 5) (eC (.int 9)))
    (sRet (eTup (aCons (eBin opIx (eLst false (aCons (eC (.str "mark")) (aCons (eC (.str "mark")) (aCons (eC (.str "back")) aNil)))) (eBin opMod (eB F_law_next (aCons (eV 0) aNil)) (eC (.int 3)))) (aCons (eB F_law_mark (aCons (eV 0) aNil)) aNil))))
    sNil)
    (sSeq (sIf (bAnd (tBin opEq (eV 5) (eC (.int 10))) (tBin opLt (eV 1) (eC (.int 4))))
    (sRet (eB (R 1) (aCons (eV 0) (aCons (eV 1) (aCons (eV 2) (aCons (eV 3) (aCons (eV 4) aNil)))))))
    sNil)
    (sSeq (sIf (bAnd (tBin opEq (eV 5) (eC (.int 11))) (tBin opGt (eB fLen (aCons (eV 4) aNil)) (eC (.int 0))))
    (sRet (eB F_law_call (aCons (eV 0) (aCons (eV 2) (aCons (eV 3) (aCons (eV 4) aNil))))))
    sNil)
    (sSeq (sIf (tBin opLt (eV 1) (eC (.int 4)))
    (sRet (eB (R 0) (aCons (eV 0) (aCons (eV 1) (aCons (eV 2) (aCons (eV 3) (aCons (eV 4) aNil)))))))
    sNil)
    (sRet (eTup (aCons (eC (.str "turn")) (aCons (eBin (opAdd false) (eC (.int 1)) (eBin opMod (eB F_law_next (aCons (eV 0) aNil)) (eC (.int 7)))) aNil)))))))))))))
def N_law_body : List Str := ["_law_deck_here", "_law_deep", "_law_inside", "_law_takes", "_law_words", "_law_body_here", "_law_k"]
abbrev s_law_body : Stmt := topS 41
theorem sc_law_body : FnScope N_law_body ["_law_deck_here", "_law_deep", "_law_inside", "_law_takes", "_law_words"] (defScope s_law_body) := ⟨rfl, rfl, rfl, by decide +kernel, rfl, by decide +kernel, by decide +kernel⟩
noncomputable def L_law_body_0 (R : Nat → SF) : Es := (sIf (tBin opGt (eB fLen (aCons (eV 0) aNil)) (eC (.int 0)))
    (sExpr (eMl fApp (eV 5) (aCons (eB (R 2) (aCons (eV 0) (aCons (eV 1) (aCons (eV 2) (aCons (eV 3) (aCons (eV 4) aNil)))))) aNil)))
    sNil)
noncomputable def B_law_body (R : Nat → SF) : Es := (sSeq (sSet 5 (eLst true aNil))
    (sSeq (sFor (iR1 (aCons (eBin (opAdd false) (eBin opMod (eB F_law_next (aCons (eV 0) aNil)) (eC (.int 5))) (eB fInt (aCons (eBin opEq (eV 1) (eC (.int 0))) aNil))) aNil)) (gN 6) (L_law_body_0 R))
    (sRet (eB fTuple (aCons (eV 5) aNil)))))
noncomputable def Rec_law_rounds : Nat → Nat → SF
  | 0, _ => fun _ _ => .stuck
  | n + 1, 0 => sfOf 7 (B_law_rounds (Rec_law_rounds n))
  | n + 1, 1 => sfOf 7 (B_law_choice (Rec_law_rounds n))
  | n + 1, 2 => sfOf 6 (B_law_statement (Rec_law_rounds n))
  | n + 1, 3 => sfOf 7 (B_law_body (Rec_law_rounds n))
  | _ + 1, _ => fun _ _ => .stuck
noncomputable def F_law_rounds : SF := Rec_law_rounds 150 0
noncomputable def F_law_choice : SF := Rec_law_rounds 150 1
noncomputable def F_law_statement : SF := Rec_law_rounds 150 2
noncomputable def F_law_body : SF := Rec_law_rounds 150 3
def N_law_program : List Str := ["_law_deck_here", "_law_words", "_law_kind", "_law_most_here", "_law_k", "_law_body_here", "_law_many", "_law_name"]
abbrev s_law_program : Stmt := topS 42
theorem sc_law_program : FnScope N_law_program ["_law_deck_here"] (defScope s_law_program) := ⟨rfl, rfl, rfl, by decide +kernel, rfl, by decide +kernel, by decide +kernel⟩
noncomputable def L_law_program_0 : Es := (sSeq (sSet 6 (eBin opMod (eB F_law_next (aCons (eV 0) aNil)) (eB fMin (aCons (eC (.int 5)) (aCons (eV 3) aNil)))))
    (sSeq (sSet 7 (eBin opIx (eLst false (aCons (eC (.str "leaf")) (aCons (eC (.str "go")) (aCons (eC (.str "x")) (aCons (eC (.str "star")) (aCons (eC (.str "turn")) (aCons (eC (.str "backward")) aNil))))))) (eV 4)))
    (sExpr (eMl fApp (eV 1) (aCons (eTup (aCons (eV 7) (aCons (eV 6) (aCons (eB F_law_body (aCons (eV 0) (aCons (eC (.int 1)) (aCons (eC (.bool false)) (aCons (eV 6) (aCons (eV 1) aNil)))))) aNil)))) aNil)))))
noncomputable def C_law_program_1 : Eb := (bAnd (tBin opGt (eB fLen (aCons (eV 0) aNil)) (eC (.int 0))) (tBin opLt (eB fLen (aCons (eV 5) aNil)) (eC (.int 12))))
noncomputable def L_law_program_2 : Es := (sSet 5 (eBin (opAdd false) (eV 5) (eB F_law_body (aCons (eV 0) (aCons (eC (.int 0)) (aCons (eC (.bool false)) (aCons (eC (.int 0)) (aCons (eV 1) aNil))))))))
noncomputable def B_law_program : Es := (sSeq (sSet 1 (eLst true aNil))
    (sSeq (sSet 2 (eB F_law_next (aCons (eV 0) aNil)))
    (sSeq (sSet 3 (eBin (opAdd false) (eBin (opAdd false) (eC (.int 3)) (eBin opMul (eC (.int 2)) (eB fInt (aCons (eBin opEq (eBin opMod (eBin opFdiv (eV 2) (eC (.int 15))) (eC (.int 8))) (eC (.int 1))) aNil)))) (eBin opMul (eC (.int 4)) (eB fInt (aCons (eBin opEq (eBin opMod (eBin opFdiv (eV 2) (eC (.int 15))) (eC (.int 8))) (eC (.int 2))) aNil)))))
    (sSeq (sFor (iR1 (aCons (eBin opMod (eV 2) (eV 3)) aNil)) (gN 4) L_law_program_0)
    (sSeq (sSet 5 (eTup aNil))
    (sSeq (sWhile fuel C_law_program_1 L_law_program_2)
    (sRet (eTup (aCons (eB fTuple (aCons (eV 1) aNil)) (aCons (eV 5) aNil))))))))))
noncomputable def F_law_program : SF := sfOf 8 B_law_program
def N_law_ran : List Str := ["_law_program_here", "_law_most_here", "_law_refused", "_law_found"]
abbrev s_law_ran : Stmt := topS 43
theorem sc_law_ran : FnScope N_law_ran ["_law_program_here", "_law_most_here"] (defScope s_law_ran) := ⟨rfl, rfl, rfl, by decide +kernel, rfl, by decide +kernel, by decide +kernel⟩
noncomputable def Y_law_ran_0 : Es := (sSet 3 (eB F_run (aCons (eV 0) (aCons (eV 1) aNil))))
noncomputable def B_law_ran : Es := (sSeq (sSet 2 (eC (.str "")))
    (sSeq (sSet 3 (eC .none))
    (sSeq (sTry exm Y_law_ran_0 (("NoMark", (sSet 2 (eC (.str "mark")))) :: (("TooGreat", (sSet 2 (eC (.str "great")))) :: [])))
    (sRet (eFz (eLst false (aCons (eV 2) (aCons (eFz (eV 3)) aNil))))))))
noncomputable def F_law_ran : PF := pfOf 4 B_law_ran
def N_law_scaled : List Str := ["_law_place", "_law_factor", "_law_number"]
abbrev s_law_scaled : Stmt := topS 44
theorem sc_law_scaled : FnScope N_law_scaled ["_law_place", "_law_factor"] (defScope s_law_scaled) := ⟨rfl, rfl, rfl, by decide +kernel, rfl, by decide +kernel, by decide +kernel⟩
noncomputable def K_law_scaled_0 : Ev := (eTup (aCons (eBin opMul (eBin opIx (eV 2) (eC (.int 0))) (eV 1)) (aCons (eBin opMul (eBin opIx (eV 2) (eC (.int 1))) (eV 1)) aNil)))
noncomputable def B_law_scaled : Es := (sRet (eB fTuple (aCons (eLc false [2] (iSeq (eV 0)) (gN 2) cYes K_law_scaled_0) aNil)))
noncomputable def F_law_scaled : PF := pfOf 3 B_law_scaled
def N_law_most : List Str := ["_law_ran_here", "_law_free", "_law_many", "_law_corners", "_law_far", "_law_one", "_law_other", "_law_here", "_law_there"]
abbrev s_law_most : Stmt := topS 45
theorem sc_law_most : FnScope N_law_most ["_law_ran_here", "_law_free", "_law_many"] (defScope s_law_most) := ⟨rfl, rfl, rfl, by decide +kernel, rfl, by decide +kernel, by decide +kernel⟩
noncomputable def L_law_most_0 : Es := (sSet 4 (eB fMax3 (aCons (eV 4) (aCons (eB fAbs (aCons (eBin opSub (eBin opIx (eV 8) (eC (.int 0))) (eBin opIx (eV 7) (eC (.int 0)))) aNil)) (aCons (eB fAbs (aCons (eBin opSub (eBin opIx (eV 8) (eC (.int 1))) (eBin opIx (eV 7) (eC (.int 1)))) aNil)) aNil)))))
noncomputable def L_law_most_1 : Es := (sFor (iZip (aCons (eV 5) (aCons (eV 6) aNil))) (gTup' 2 (gCons' (gN 7) (gCons' (gN 8) gNil'))) L_law_most_0)
noncomputable def B_law_most : Es := (sSeq (sIf (bOr (tBin opNe (eBin opIx (eV 0) (eC (.int 0))) (eC (.str ""))) (tBin opEq (eV 1) (eC (.int 0))))
    (sRet (eBin opIx (eLst false (aCons (eC (.int 9)) (aCons (eC (.int 3)) aNil))) (eB fInt (aCons (eBin opGt (eV 2) (eC (.int 4))) aNil))))
    sNil)
    (sSeq (sSet 3 (eB (fList false) (aCons (eBin opIx (eBin opIx (eV 0) (eC (.int 1))) (eC (.int 1))) aNil)))
    (sSeq (sSet 4 (eC (.int 1)))
    (sSeq (sFor (iZip (aCons (eSl false (eV 3) oNo (oSo (eUn opNeg (eC (.int 1))))) (aCons (eSl false (eV 3) (oSo (eC (.int 1))) oNo) aNil))) (gTup' 2 (gCons' (gN 5) (gCons' (gN 6) gNil'))) L_law_most_1)
    (sRet (eB fMax (aCons (eC (.int 1)) (aCons (eB fMin (aCons (eC (.int 1000)) (aCons (eBin opFdiv (eBin opPow (eC (.int 10)) (eC (.int 6))) (eV 4)) aNil))) aNil))))))))
noncomputable def F_law_most : PF := pfOf 9 B_law_most
def N_law : List Str := ["_law_script", "_law_program_here", "_law_most_here", "_law_one", "_law_factor", "_law_two", "_law_due", "_law_last", "_law_strokes", "_law_corners", "_law_end", "_law_turns", "_law_done", "_law_ink", "_law_begin", "_law_place"]
abbrev s_law : Stmt := topS 46
theorem sc_law : FnScope N_law ["_law_script"] (defScope s_law) := ⟨rfl, rfl, rfl, by decide +kernel, rfl, by decide +kernel, by decide +kernel⟩
noncomputable def K_law_0 : Ev := (eTup (aCons (eV 13) (aCons (eCall F_law_scaled (aCons (eV 14) (aCons (eV 4) aNil))) (aCons (eCall F_law_scaled (aCons (eV 7) (aCons (eV 4) aNil))) aNil))))
noncomputable def K_law_1 : Ev := (eCall F_law_scaled (aCons (eV 15) (aCons (eV 4) aNil)))
noncomputable def B_law : Es := (sSeq (sSet 1 (eB F_law_program (aCons (eB F_law_deck (aCons (eV 0) (aCons (eC (.int 1)) aNil))) aNil)))
    (sSeq (sSet 2 (eBin opMod (eCall F_law_cell (aCons (eV 0) (aCons (eC (.int 0)) aNil))) (eC (.int 301))))
    (sSeq (sSet 3 (eCall F_law_ran (aCons (eV 1) (aCons (eV 2) aNil))))
    (sSeq (sSet 4 (eBin (opAdd false) (eC (.int 1)) (eBin opMod (eBin opFdiv (eCall F_law_cell (aCons (eV 0) (aCons (eC (.int 0)) aNil))) (eC (.int 602))) (eCall F_law_most (aCons (eV 3) (aCons (eBin opMod (eBin opFdiv (eCall F_law_cell (aCons (eV 0) (aCons (eC (.int 0)) aNil))) (eC (.int 301))) (eC (.int 2))) (aCons (eB fLen (aCons (eBin opIx (eV 1) (eC (.int 0))) aNil)) aNil)))))))
    (sSeq (sIf (tBin opNe (eCall F_larger (aCons (eV 1) (aCons (eC (.int 1)) aNil))) (eV 1))
    (sRet (eC (.bool false)))
    sNil)
    (sSeq (sSet 5 (eCall F_law_ran (aCons (eCall F_larger (aCons (eV 1) (aCons (eV 4) aNil))) (aCons (eV 2) aNil))))
    (sSeq (sIf (bOr (tBin opNe (eBin opIx (eV 3) (eC (.int 0))) (eBin opIx (eV 5) (eC (.int 0)))) (tBin opNe (eBin opIx (eV 3) (eC (.int 0))) (eC (.str ""))))
    (sRet (eBin opEq (eBin opIx (eV 3) (eC (.int 0))) (eBin opIx (eV 5) (eC (.int 0)))))
    sNil)
    (sSeq (sAsg (gTup' 5 (gCons' (gN 8) (gCons' (gN 9) (gCons' (gN 10) (gCons' (gN 11) (gCons' (gN 12) gNil')))))) (eBin opIx (eV 3) (eC (.int 1))))
    (sSeq (sSet 6 (eLc false [13, 14, 7] (iSeq (eV 8)) (gTup' 3 (gCons' (gN 13) (gCons' (gN 14) (gCons' (gN 7) gNil')))) cYes K_law_0))
    (sSeq (sIf (bOr (tBin opNe (eB (fList false) (aCons (eBin opIx (eBin opIx (eV 5) (eC (.int 1))) (eC (.int 0))) aNil)) (eV 6)) (tBin opNe (eB (fList false) (aCons (eBin opIx (eBin opIx (eV 5) (eC (.int 1))) (eC (.int 1))) aNil)) (eLc false [15] (iSeq (eV 9)) (gN 15) cYes K_law_1)))
    (sRet (eC (.bool false)))
    sNil)
    (sSeq (sSet 7 (eBin (opAdd false) (eTup (aCons (eCall F_law_scaled (aCons (eBin opIx (eV 10) (eC (.int 0))) (aCons (eV 4) aNil))) aNil)) (eSl false (eV 10) (oSo (eC (.int 1))) oNo)))
    (sRet (eBin opEq (eSl false (eBin opIx (eV 5) (eC (.int 1))) (oSo (eC (.int 2))) oNo) (eTup (aCons (eV 7) (aCons (eV 11) (aCons (eV 12) aNil)))))))))))))))))
noncomputable def F_law : PF := pfOf 16 B_law
theorem mt_mk {K : PySem.W.Frag} {mg : Str → Option Value} (z0 : MtOne K mg "NoMark" "NoMark" true) (z1 : MtOne K mg "NoMark" "Stopped" false) (z2 : MtOne K mg "NoMark" "TooGreat" false) (z3 : MtOne K mg "Stopped" "NoMark" false) (z4 : MtOne K mg "Stopped" "Stopped" true) (z5 : MtOne K mg "Stopped" "TooGreat" false) (z6 : MtOne K mg "TooGreat" "NoMark" false) (z7 : MtOne K mg "TooGreat" "Stopped" false) (z8 : MtOne K mg "TooGreat" "TooGreat" true) : MtOk K mg exm := mtOk_mk (l := exmL) (by unfold exmL; simp only [List.mem_cons, List.not_mem_nil, or_false]; rintro x (rfl | rfl | rfl | rfl | rfl | rfl | rfl | rfl | rfl) <;> assumption)
structure Txt (K : PySem.W.Frag) (mg : Str → Option Value) : Prop where
  h_times_over : Has K mg "times_over" s_times_over ["amount", "times"]
  h_with_amounts : Has K mg "with_amounts" s_with_amounts ["body", "verb", "times"]
  h_all_amounts : Has K mg "all_amounts" s_all_amounts ["program", "verb", "times"]
  h_farthest_go : Has K mg "farthest_go" s_farthest_go ["body"]
  h_larger : Has K mg "larger" s_larger ["program", "factor"]
  h_plus : Has K mg "plus" s_plus ["one", "other"]
  h_way_of : Has K mg "way_of" s_way_of ["heading", "steps"]
  h_moved : Has K mg "moved" s_moved ["place", "heading", "steps"]
  i_Hand : HasI K mg "Hand" "Hand.__init__" s_Hand__init ["self", "most"]
  h_Hand_deed : HasM K mg "Hand" "deed" "Hand.deed" s_Hand_deed ["self"]
  h_Hand_go : HasM K mg "Hand" "go" "Hand.go" s_Hand_go ["self", "steps"]
  h_Hand_turn : HasM K mg "Hand" "turn" "Hand.turn" s_Hand_turn ["self", "eighths"]
  h_Hand_back : HasM K mg "Hand" "back" "Hand.back" s_Hand_back ["self", "number"]
  h_Hand_state : HasM K mg "Hand" "state" "Hand.state" s_Hand_state ["self"]
  i_Call : HasI K mg "Call" "Call.__init__" s_Call__init ["self", "words", "numbers", "count"]
  h_Call_source_value : HasM K mg "Call" "source_value" "Call.source_value" s_Call_source_value ["self", "source"]
  h_Call_value : HasM K mg "Call" "value" "Call.value" s_Call_value ["self", "amount"]
  h_do_simple : Has K mg "do_simple" s_do_simple ["hand", "verb", "value"]
  h_do_again : Has K mg "do_again" s_do_again ["hand", "statement", "call"]
  h_do_word : Has K mg "do_word" s_do_word ["hand", "statement", "call"]
  h_do_statement : Has K mg "do_statement" s_do_statement ["hand", "statement", "call"]
  h_do_body : Has K mg "do_body" s_do_body ["hand", "body", "call"]
  h_hand_behind : Has K mg "hand_behind" s_hand_behind ["program", "most"]
  h_run : Has K mg "run" s_run ["program", "most"]
  h_law_mixed : Has K mg "_law_mixed" s_law_mixed ["_law_cell_here", "_law_k"]
  h_law_row : Has K mg "_law_row" s_law_row ["_law_cell_here", "_law_most_here", "_law_many"]
  h_law_cell : Has K mg "_law_cell" s_law_cell ["_law_script", "_law_k"]
  h_law_deck : Has K mg "_law_deck" s_law_deck ["_law_script", "_law_start"]
  h_law_next : Has K mg "_law_next" s_law_next ["_law_deck_here"]
  h_law_amount : Has K mg "_law_amount" s_law_amount ["_law_deck_here", "_law_inside", "_law_takes"]
  h_law_call : Has K mg "_law_call" s_law_call ["_law_deck_here", "_law_inside", "_law_takes", "_law_words"]
  h_law_mark : Has K mg "_law_mark" s_law_mark ["_law_deck_here"]
  h_law_rounds : Has K mg "_law_rounds" s_law_rounds ["_law_deck_here", "_law_deep", "_law_inside", "_law_takes", "_law_words"]
  h_law_choice : Has K mg "_law_choice" s_law_choice ["_law_deck_here", "_law_deep", "_law_inside", "_law_takes", "_law_words"]
  h_law_statement : Has K mg "_law_statement" s_law_statement ["_law_deck_here", "_law_deep", "_law_inside", "_law_takes", "_law_words"]
  h_law_body : Has K mg "_law_body" s_law_body ["_law_deck_here", "_law_deep", "_law_inside", "_law_takes", "_law_words"]
  h_law_program : Has K mg "_law_program" s_law_program ["_law_deck_here"]
  h_law_ran : Has K mg "_law_ran" s_law_ran ["_law_program_here", "_law_most_here"]
  h_law_scaled : Has K mg "_law_scaled" s_law_scaled ["_law_place", "_law_factor"]
  h_law_most : Has K mg "_law_most" s_law_most ["_law_ran_here", "_law_free", "_law_many"]
  h_law : Has K mg "law" s_law ["_law_script"]
  k_Call : ClsF K mg "Call"
  k_Hand : ClsF K mg "Hand"
  x_Call : ∃ C, mg "Call" = some (.ref C)
  x_Hand : ∃ C, mg "Hand" = some (.ref C)
  x_NoMark : ∃ C, mg "NoMark" = some (.ref C)
  x_Stopped : ∃ C, mg "Stopped" = some (.ref C)
  x_TooGreat : ∃ C, mg "TooGreat" = some (.ref C)
  d_Call_count : FldF K mg "Call" "count"
  d_Call_numbers : FldF K mg "Call" "numbers"
  d_Call_words : FldF K mg "Call" "words"
  d_Hand_corners : FldF K mg "Hand" "corners"
  d_Hand_heading : FldF K mg "Hand" "heading"
  d_Hand_ink : FldF K mg "Hand" "ink"
  d_Hand_is_down : FldF K mg "Hand" "is_down"
  d_Hand_marks : FldF K mg "Hand" "marks"
  d_Hand_plain : FldF K mg "Hand" "plain"
  d_Hand_rest : FldF K mg "Hand" "rest"
  d_Hand_spot : FldF K mg "Hand" "spot"
  d_Hand_strokes : FldF K mg "Hand" "strokes"
  d_Hand_turns : FldF K mg "Hand" "turns"
  e_NoMark : ExcC K mg "NoMark"
  e_Stopped : ExcC K mg "Stopped"
  e_TooGreat : ExcC K mg "TooGreat"
  mt : MtOk K mg exm
  b_abs : mg "abs" = none
  b_int : mg "int" = none
  b_isinstance : mg "isinstance" = none
  b_len : mg "len" = none
  b_list : mg "list" = none
  b_max : mg "max" = none
  b_min : mg "min" = none
  b_range : mg "range" = none
  b_reversed : mg "reversed" = none
  b_str : mg "str" = none
  b_tuple : mg "tuple" = none
  b_zip : mg "zip" = none
  c_BEGINNING : ∀ {X : Cx} {W : WX} {pos : Pos}, X.K = K → X.mg = mg → Gl X "BEGINNING" → SE X W (.Name "BEGINNING" pos) (eC c_BEGINNING)
  c_EAST : ∀ {X : Cx} {W : WX} {pos : Pos}, X.K = K → X.mg = mg → Gl X "EAST" → SE X W (.Name "EAST" pos) (eC c_EAST)
  c_FARTHEST : ∀ {X : Cx} {W : WX} {pos : Pos}, X.K = K → X.mg = mg → Gl X "FARTHEST" → SE X W (.Name "FARTHEST" pos) (eC c_FARTHEST)
  c_MOST_AMOUNT : ∀ {X : Cx} {W : WX} {pos : Pos}, X.K = K → X.mg = mg → Gl X "MOST_AMOUNT" → SE X W (.Name "MOST_AMOUNT" pos) (eC c_MOST_AMOUNT)
section
variable {P : Program} {w : World} {K : PySem.W.Frag} {mg : Str → Option Value} {base : Heap}
theorem ok_times_over (T : Txt K mg) : FnA P w K mg base 1 "times_over" s_times_over ["amount", "times"] F_times_over :=
  fn_priv (N := N_times_over) (k := 0) (B := B_times_over) sc_times_over fun f cdv A outer s H E hr tk po => by
    have nd := sc_times_over.nd
    exact (ss_cons (ss_if (st_truth (se_isi .tuple rfl T.b_isinstance rfl T.b_tuple bt_tuple (se_v 0)))
    (ss_one (ss_ret (se_tup (sa_cons (se_bin op_mulA ab_mul (se_ix (fun _ _ => rfl) (se_v 0) se_int) (se_v 1)) (sa_cons (se_ix (fun _ _ => rfl) (se_v 0) se_int) (sa_cons (se_bin op_mulA ab_mul (se_ix (fun _ _ => rfl) (se_v 0) se_int) (se_v 1)) sa_nil))))))
    ss_nil)
    (ss_one (ss_ret (se_bin op_mulA ab_mul (se_v 0) (se_v 1)))))
theorem st_with_amounts (T : Txt K mg) (R : Nat → SF) (n : Nat) (ih_with_amounts : FnB P w K mg base (1 + n) "with_amounts" "with_amounts" s_with_amounts ["body", "verb", "times"] (R 0)) : FnB P w K mg base (1 + n + 1) "with_amounts" "with_amounts" s_with_amounts ["body", "verb", "times"] (sfOf 6 (B_with_amounts R)) :=
  fn_shared (N := N_with_amounts) (k := 1 + n) (B := B_with_amounts R) sc_with_amounts fun f cdv A outer s H E hr tk po => by
    have nd := sc_with_amounts.nd
    exact (ss_cons (ss_set 3 nd (se_lst true sa_nil))
    (ss_cons (ss_for po rfl (si_seq (se_v 0)) (sg_name 4 nd)
    (ss_one (ss_if (st_cmp (op_eqA hr.units) ab_eq (nomark _) (se_ix (fun _ _ => rfl) (se_v 4) se_int) (se_v 1))
    (ss_one (ss_expr (se_ml PySem.F.slot_list_append PySem.F.type_list_append mt_append ab_app (se_v 3) (sa_cons (se_tup (sa_cons (se_v 1) (sa_cons (se_call tk.c ((ok_times_over T).p T.h_times_over) (hr.mono (Nat.le_trans (by decide : 1 ≤ 1) (Nat.le_add_right _ _))) rfl (sa_cons (se_ix (fun _ _ => rfl) (se_v 4) se_int) (sa_cons (se_v 2) sa_nil)) (aLen_cons (aLen_cons aLen_nil))) sa_nil))) sa_nil))))
    (ss_one (ss_if (st_cmp (op_eqA hr.units) ab_eq (nomark _) (se_ix (fun _ _ => rfl) (se_v 4) se_int) se_str)
    (ss_one (ss_expr (se_ml PySem.F.slot_list_append PySem.F.type_list_append mt_append ab_app (se_v 3) (sa_cons (se_tup (sa_cons se_str (sa_cons (se_ix (fun _ _ => rfl) (se_v 4) se_int) (sa_cons (se_call tk.c (ih_with_amounts.a.p T.h_with_amounts) hr rfl (sa_cons (se_ix (fun _ _ => rfl) (se_v 4) se_int) (sa_cons (se_v 1) (sa_cons (se_v 2) sa_nil))) (aLen_cons (aLen_cons (aLen_cons aLen_nil)))) sa_nil)))) sa_nil))))
    (ss_one (ss_if (st_cmp (op_eqA hr.units) ab_eq (nomark _) (se_ix (fun _ _ => rfl) (se_v 4) se_int) se_str)
    (ss_cons (ss_set 5 nd (se_call tk.c (ih_with_amounts.a.p T.h_with_amounts) hr rfl (sa_cons (se_ix (fun _ _ => rfl) (se_v 4) se_int) (sa_cons (se_v 1) (sa_cons (se_v 2) sa_nil))) (aLen_cons (aLen_cons (aLen_cons aLen_nil)))))
    (ss_one (ss_expr (se_ml PySem.F.slot_list_append PySem.F.type_list_append mt_append ab_app (se_v 3) (sa_cons (se_tup (sa_cons se_str (sa_cons (se_ix (fun _ _ => rfl) (se_v 4) se_int) (sa_cons (se_v 5) (sa_cons (se_call tk.c (ih_with_amounts.a.p T.h_with_amounts) hr rfl (sa_cons (se_ix (fun _ _ => rfl) (se_v 4) se_int) (sa_cons (se_v 1) (sa_cons (se_v 2) sa_nil))) (aLen_cons (aLen_cons (aLen_cons aLen_nil)))) sa_nil))))) sa_nil)))))
    (ss_one (ss_expr (se_ml PySem.F.slot_list_append PySem.F.type_list_append mt_append ab_app (se_v 3) (sa_cons (se_v 4) sa_nil)))))))))))
    (ss_one (ss_ret (se_callTy call_tuple_of ab_tuple rfl T.b_tuple bt_tuple (sa_cons (se_v 3) sa_nil))))))
theorem okR_with_amounts (T : Txt K mg) : ∀ n : Nat, FnB P w K mg base (1 + n) "with_amounts" "with_amounts" s_with_amounts ["body", "verb", "times"] (Rec_with_amounts n 0)
  | 0 => FnB.stuck
  | n + 1 => by
    have h0 := okR_with_amounts T n
    exact st_with_amounts T (Rec_with_amounts n) n h0
theorem ok_with_amounts (T : Txt K mg) : FnB P w K mg base 151 "with_amounts" "with_amounts" s_with_amounts ["body", "verb", "times"] F_with_amounts := (okR_with_amounts T 150)
theorem ok_all_amounts (T : Txt K mg) : FnA P w K mg base 152 "all_amounts" s_all_amounts ["program", "verb", "times"] F_all_amounts :=
  fn_priv (N := N_all_amounts) (k := 151) (B := B_all_amounts) sc_all_amounts fun f cdv A outer s H E hr tk po => by
    have nd := sc_all_amounts.nd
    exact (ss_cons (ss_asg (se_v 0) (sg_tup rfl (sgs_cons (sg_name 4 nd) (sgs_cons (sg_name 5 nd) sgs_nil))))
    (ss_cons (ss_setLc false 3 (sw_true rfl rfl rfl (by decide +kernel)) [("name", 6), ("many", 7), ("own", 8)] rfl nd rfl (by decide) (si_seq (se_v 4)) (blkOk_by (N := N_all_amounts) (sc := defScope s_all_amounts) (own := [("name", 6), ("many", 7), ("own", 8)]) (by decide +kernel)) (fun _ _ _ _ _ => (sg_tup rfl (sgs_cons (sg_name 6 nd) (sgs_cons (sg_name 7 nd) (sgs_cons (sg_name 8 nd) sgs_nil))))) (fun _ _ _ _ _ => sts_nil) (fun _ _ _ _ _ => (se_tup (sa_cons (se_v 6) (sa_cons (se_v 7) (sa_cons (se_call takes0.c ((ok_with_amounts T).a.p T.h_with_amounts) (hr.mono (by decide)) rfl (sa_cons (se_v 8) (sa_cons (se_v 1) (sa_cons (se_v 2) sa_nil))) (aLen_cons (aLen_cons (aLen_cons aLen_nil)))) sa_nil))))))
    (ss_one (ss_ret (se_tup (sa_cons (se_callTy call_tuple_of ab_tuple rfl T.b_tuple bt_tuple (sa_cons (se_v 3) sa_nil)) (sa_cons (se_call tk.c ((ok_with_amounts T).a.p T.h_with_amounts) (hr.mono (by decide)) rfl (sa_cons (se_v 5) (sa_cons (se_v 1) (sa_cons (se_v 2) sa_nil))) (aLen_cons (aLen_cons (aLen_cons aLen_nil)))) sa_nil)))))))
theorem st_farthest_go (T : Txt K mg) (R : Nat → SF) (n : Nat) (ih_farthest_go : FnB P w K mg base (0 + n) "farthest_go" "farthest_go" s_farthest_go ["body"] (R 0)) : FnB P w K mg base (0 + n + 1) "farthest_go" "farthest_go" s_farthest_go ["body"] (sfOf 3 (B_farthest_go R)) :=
  fn_shared (N := N_farthest_go) (k := 0 + n) (B := B_farthest_go R) sc_farthest_go fun f cdv A outer s H E hr tk po => by
    have nd := sc_farthest_go.nd
    exact (ss_cons (ss_set 1 nd se_int)
    (ss_cons (ss_for po rfl (si_seq (se_v 0)) (sg_name 2 nd)
    (ss_one (ss_if (sw_st (sw_and (st_cmp (op_eqA hr.units) ab_eq (nomark _) (se_ix (fun _ _ => rfl) (se_v 2) se_int) se_str) (sw_and1 (st_truth (se_isi .tuple rfl T.b_isinstance rfl T.b_tuple bt_tuple (se_ix (fun _ _ => rfl) (se_v 2) se_int))))))
    (ss_one (ss_set 1 nd (se_callB (call_max3Nu rfl) ab_max3 rfl T.b_max bt_max (sa_cons (se_v 1) (sa_cons (se_callB call_abs (ab_i1 _) rfl T.b_abs bt_abs (sa_cons (se_ix (fun _ _ => rfl) (se_ix (fun _ _ => rfl) (se_v 2) se_int) se_int) sa_nil)) (sa_cons (se_callB call_abs (ab_i1 _) rfl T.b_abs bt_abs (sa_cons (se_ix (fun _ _ => rfl) (se_ix (fun _ _ => rfl) (se_v 2) se_int) se_int) sa_nil)) sa_nil))))))
    (ss_one (ss_if (st_cmp (op_eqA hr.units) ab_eq (nomark _) (se_ix (fun _ _ => rfl) (se_v 2) se_int) se_str)
    (ss_one (ss_set 1 nd (se_callB (call_max2 rfl) (ab_i2 _) rfl T.b_max bt_max (sa_cons (se_v 1) (sa_cons (se_callB call_abs (ab_i1 _) rfl T.b_abs bt_abs (sa_cons (se_ix (fun _ _ => rfl) (se_v 2) se_int) sa_nil)) sa_nil)))))
    (ss_one (ss_if (st_cmp (op_eqA hr.units) ab_eq (nomark _) (se_ix (fun _ _ => rfl) (se_v 2) se_int) se_str)
    (ss_one (ss_set 1 nd (se_callB (call_max2 rfl) (ab_i2 _) rfl T.b_max bt_max (sa_cons (se_v 1) (sa_cons (se_call tk.c (ih_farthest_go.a.p T.h_farthest_go) hr rfl (sa_cons (se_ix (fun _ _ => rfl) (se_v 2) se_int) sa_nil) (aLen_cons aLen_nil)) sa_nil)))))
    (ss_one (ss_if (st_cmp (op_eqA hr.units) ab_eq (nomark _) (se_ix (fun _ _ => rfl) (se_v 2) se_int) se_str)
    (ss_one (ss_set 1 nd (se_callB (call_max3Nu rfl) ab_max3 rfl T.b_max bt_max (sa_cons (se_v 1) (sa_cons (se_call tk.c (ih_farthest_go.a.p T.h_farthest_go) hr rfl (sa_cons (se_ix (fun _ _ => rfl) (se_v 2) se_int) sa_nil) (aLen_cons aLen_nil)) (sa_cons (se_call tk.c (ih_farthest_go.a.p T.h_farthest_go) hr rfl (sa_cons (se_ix (fun _ _ => rfl) (se_v 2) se_int) sa_nil) (aLen_cons aLen_nil)) sa_nil))))))
    ss_nil)))))))))
    (ss_one (ss_ret (se_v 1)))))
theorem okR_farthest_go (T : Txt K mg) : ∀ n : Nat, FnB P w K mg base (0 + n) "farthest_go" "farthest_go" s_farthest_go ["body"] (Rec_farthest_go n 0)
  | 0 => FnB.stuck
  | n + 1 => by
    have h0 := okR_farthest_go T n
    exact st_farthest_go T (Rec_farthest_go n) n h0
theorem ok_farthest_go (T : Txt K mg) : FnB P w K mg base 150 "farthest_go" "farthest_go" s_farthest_go ["body"] F_farthest_go := (okR_farthest_go T 150)
theorem ok_larger (T : Txt K mg) : FnA P w K mg base 153 "larger" s_larger ["program", "factor"] F_larger :=
  fn_priv (N := N_larger) (k := 152) (B := B_larger) sc_larger fun f cdv A outer s H E hr tk po => by
    have nd := sc_larger.nd
    exact (ss_cons (ss_asg (se_v 0) (sg_tup rfl (sgs_cons (sg_name 4 nd) (sgs_cons (sg_name 5 nd) sgs_nil))))
    (ss_cons (ss_set 2 nd (se_call tk.c ((ok_all_amounts T).p T.h_all_amounts) (hr.mono (by decide)) rfl (sa_cons (se_v 0) (sa_cons se_str (sa_cons (se_v 1) sa_nil))) (aLen_cons (aLen_cons (aLen_cons aLen_nil)))))
    (ss_cons (ss_for po rfl (si_seq (se_bin op_addA (ab_add false) (se_lc false [("name", 6), ("many", 7), ("own", 8)] rfl nd rfl (by decide) (si_seq (se_ix (fun _ _ => rfl) (se_v 2) se_int)) (blkOk_by (N := N_larger) (sc := defScope s_larger) (own := [("name", 6), ("many", 7), ("own", 8)]) (by decide +kernel)) (fun _ _ _ _ _ => (sg_tup rfl (sgs_cons (sg_name 6 nd) (sgs_cons (sg_name 7 nd) (sgs_cons (sg_name 8 nd) sgs_nil))))) (fun _ _ _ _ _ => sts_nil) (fun _ _ _ _ _ => (se_v 8))) (se_lst false (sa_cons (se_ix (fun _ _ => rfl) (se_v 2) se_int) sa_nil)))) (sg_name 3 nd)
    (ss_one (ss_if (st_cmp op_gt (ab_cmp _) (nomark _) (se_call tk.c ((ok_farthest_go T).a.p T.h_farthest_go) (hr.mono (by decide)) rfl (sa_cons (se_v 3) sa_nil) (aLen_cons aLen_nil)) (T.c_FARTHEST rfl rfl rfl))
    (ss_one (ss_raise rfl tk T.e_TooGreat rfl))
    ss_nil)))
    (ss_one (ss_ret (se_v 2))))))
theorem ok_plus (T : Txt K mg) : FnA P w K mg base 1 "plus" s_plus ["one", "other"] F_plus :=
  fn_priv (N := N_plus) (k := 0) (B := B_plus) sc_plus fun f cdv A outer s H E hr tk po => by
    have nd := sc_plus.nd
    exact (ss_one (ss_ret (se_tup (sa_cons (se_bin op_addA (ab_add false) (se_ix (fun _ _ => rfl) (se_v 0) se_int) (se_ix (fun _ _ => rfl) (se_v 1) se_int)) (sa_cons (se_bin op_addA (ab_add false) (se_ix (fun _ _ => rfl) (se_v 0) se_int) (se_ix (fun _ _ => rfl) (se_v 1) se_int)) sa_nil)))))
theorem ok_way_of (T : Txt K mg) : FnA P w K mg base 1 "way_of" s_way_of ["heading", "steps"] F_way_of :=
  fn_priv (N := N_way_of) (k := 0) (B := B_way_of) sc_way_of fun f cdv A outer s H E hr tk po => by
    have nd := sc_way_of.nd
    exact (ss_cons (ss_set 2 nd (se_bin op_mulA ab_mul (se_v 1) (se_ix (fun _ _ => rfl) (T.c_EAST rfl rfl rfl) (se_v 0))))
    (ss_cons (ss_set 3 nd (se_bin op_mulA ab_mul (se_v 1) (se_ix (fun _ _ => rfl) (T.c_EAST rfl rfl rfl) (se_bin op_mod ab_mod (se_bin op_addA (ab_add false) (se_v 0) se_int) se_int))))
    (ss_cons (ss_if (st_cmp (op_eqA hr.units) ab_eq (nomark _) (se_bin op_mod ab_mod (se_v 0) se_int) se_int)
    (ss_one (ss_ret (se_tup (sa_cons (se_tup (sa_cons (se_v 2) (sa_cons se_int sa_nil))) (sa_cons (se_tup (sa_cons (se_v 3) (sa_cons se_int sa_nil))) sa_nil)))))
    ss_nil)
    (ss_one (ss_ret (se_tup (sa_cons (se_tup (sa_cons se_int (sa_cons (se_v 2) sa_nil))) (sa_cons (se_tup (sa_cons se_int (sa_cons (se_v 3) sa_nil))) sa_nil))))))))
theorem ok_moved (T : Txt K mg) : FnA P w K mg base 2 "moved" s_moved ["place", "heading", "steps"] F_moved :=
  fn_priv (N := N_moved) (k := 1) (B := B_moved) sc_moved fun f cdv A outer s H E hr tk po => by
    have nd := sc_moved.nd
    exact (ss_cons (ss_asg (se_call tk.c ((ok_way_of T).p T.h_way_of) (hr.mono (by decide)) rfl (sa_cons (se_v 1) (sa_cons (se_v 2) sa_nil)) (aLen_cons (aLen_cons aLen_nil))) (sg_tup rfl (sgs_cons (sg_name 3 nd) (sgs_cons (sg_name 4 nd) sgs_nil))))
    (ss_one (ss_ret (se_tup (sa_cons (se_call tk.c ((ok_plus T).p T.h_plus) (hr.mono (by decide)) rfl (sa_cons (se_ix (fun _ _ => rfl) (se_v 0) se_int) (sa_cons (se_v 3) sa_nil)) (aLen_cons (aLen_cons aLen_nil))) (sa_cons (se_call tk.c ((ok_plus T).p T.h_plus) (hr.mono (by decide)) rfl (sa_cons (se_ix (fun _ _ => rfl) (se_v 0) se_int) (sa_cons (se_v 4) sa_nil)) (aLen_cons (aLen_cons aLen_nil))) sa_nil))))))
theorem ok_Hand__init (T : Txt K mg) : FnB P w K mg base 1 "__init__" "Hand.__init__" s_Hand__init ["self", "most"] F_Hand__init :=
  fn_shared (N := N_Hand__init) (k := 0) (B := B_Hand__init) sc_Hand__init fun f cdv A outer s H E hr tk po => by
    have nd := sc_Hand__init.nd
    exact (ss_cons (ss_fld T.k_Hand T.d_Hand_spot (T.c_BEGINNING rfl rfl rfl) (se_v 0))
    (ss_cons (ss_fld T.k_Hand T.d_Hand_heading se_int (se_v 0))
    (ss_cons (ss_fld T.k_Hand T.d_Hand_is_down se_bl (se_v 0))
    (ss_cons (ss_fld T.k_Hand T.d_Hand_ink se_int (se_v 0))
    (ss_cons (ss_fld T.k_Hand T.d_Hand_marks se_dnew (se_v 0))
    (ss_cons (ss_fld T.k_Hand T.d_Hand_strokes (se_lst true sa_nil) (se_v 0))
    (ss_cons (ss_fld T.k_Hand T.d_Hand_corners (se_lst true (sa_cons (T.c_BEGINNING rfl rfl rfl) sa_nil)) (se_v 0))
    (ss_cons (ss_fld T.k_Hand T.d_Hand_turns se_int (se_v 0))
    (ss_cons (ss_fld T.k_Hand T.d_Hand_rest (se_v 1) (se_v 0))
    (ss_one (ss_fld T.k_Hand T.d_Hand_plain (se_lst true sa_nil) (se_v 0))))))))))))
theorem ok_Hand_deed (T : Txt K mg) : FnB P w K mg base 1 "deed" "Hand.deed" s_Hand_deed ["self"] F_Hand_deed :=
  fn_shared (N := N_Hand_deed) (k := 0) (B := B_Hand_deed) sc_Hand_deed fun f cdv A outer s H E hr tk po => by
    have nd := sc_Hand_deed.nd
    exact (ss_cons (ss_if (st_cmp op_le (ab_cmp _) (nomark _) (se_fld T.k_Hand T.d_Hand_rest (se_v 0)) se_int)
    (ss_one (ss_raise rfl tk T.e_Stopped rfl))
    ss_nil)
    (ss_one (ss_fld T.k_Hand T.d_Hand_rest (se_bin op_sub ab_sub (se_fld T.k_Hand T.d_Hand_rest (se_v 0)) se_int) (se_v 0))))
theorem ok_Hand_go (T : Txt K mg) : FnB P w K mg base 3 "go" "Hand.go" s_Hand_go ["self", "steps"] F_Hand_go :=
  fn_shared (N := N_Hand_go) (k := 2) (B := B_Hand_go) sc_Hand_go fun f cdv A outer s H E hr tk po => by
    have nd := sc_Hand_go.nd
    exact (ss_cons (ss_set 2 nd (se_call tk.c ((ok_moved T).p T.h_moved) (hr.mono (by decide)) rfl (sa_cons (se_fz (se_fld T.k_Hand T.d_Hand_spot (se_v 0))) (sa_cons (se_fz (se_fld T.k_Hand T.d_Hand_heading (se_v 0))) (sa_cons (se_v 1) sa_nil))) (aLen_cons (aLen_cons (aLen_cons aLen_nil)))))
    (ss_cons (ss_if (sw_st (sw_and (st_truth (se_fld T.k_Hand T.d_Hand_is_down (se_v 0))) (sw_and1 (st_cmp (op_neA hr.units) ab_ne (nomark _) (se_v 1) se_int))))
    (ss_one (ss_expr (se_ml PySem.F.slot_list_append PySem.F.type_list_append mt_append ab_app (se_fld T.k_Hand T.d_Hand_strokes (se_v 0)) (sa_cons (se_tup (sa_cons (se_fld T.k_Hand T.d_Hand_ink (se_v 0)) (sa_cons (se_fld T.k_Hand T.d_Hand_spot (se_v 0)) (sa_cons (se_v 2) sa_nil)))) sa_nil))))
    ss_nil)
    (ss_cons (ss_fld T.k_Hand T.d_Hand_spot (se_v 2) (se_v 0))
    (ss_one (ss_expr (se_ml PySem.F.slot_list_append PySem.F.type_list_append mt_append ab_app (se_fld T.k_Hand T.d_Hand_corners (se_v 0)) (sa_cons (se_v 2) sa_nil)))))))
theorem ok_Hand_turn (T : Txt K mg) : FnB P w K mg base 1 "turn" "Hand.turn" s_Hand_turn ["self", "eighths"] F_Hand_turn :=
  fn_shared (N := N_Hand_turn) (k := 0) (B := B_Hand_turn) sc_Hand_turn fun f cdv A outer s H E hr tk po => by
    have nd := sc_Hand_turn.nd
    exact (ss_cons (ss_fld T.k_Hand T.d_Hand_turns (se_bin op_addA (ab_add true) (se_fld T.k_Hand T.d_Hand_turns (se_v 0)) (se_v 1)) (se_v 0))
    (ss_one (ss_fld T.k_Hand T.d_Hand_heading (se_bin op_mod ab_mod (se_bin op_addA (ab_add false) (se_fld T.k_Hand T.d_Hand_heading (se_v 0)) (se_v 1)) se_int) (se_v 0))))
theorem ok_Hand_back (T : Txt K mg) : FnB P w K mg base 1 "back" "Hand.back" s_Hand_back ["self", "number"] F_Hand_back :=
  fn_shared (N := N_Hand_back) (k := 0) (B := B_Hand_back) sc_Hand_back fun f cdv A outer s H E hr tk po => by
    have nd := sc_Hand_back.nd
    exact (ss_cons (ss_if (st_cmp (op_notInX (units65 hr)) (ab_in true) rfl (se_v 1) (se_fld T.k_Hand T.d_Hand_marks (se_v 0)))
    (ss_one (ss_raise rfl tk T.e_NoMark rfl))
    ss_nil)
    (ss_cons (ss_asg2 0 rfl T.k_Hand T.d_Hand_spot T.d_Hand_heading (se_dget (hu_of hr) (se_fld T.k_Hand T.d_Hand_marks (se_v 0)) (se_v 1)))
    (ss_one (ss_expr (se_ml PySem.F.slot_list_append PySem.F.type_list_append mt_append ab_app (se_fld T.k_Hand T.d_Hand_corners (se_v 0)) (sa_cons (se_fld T.k_Hand T.d_Hand_spot (se_v 0)) sa_nil))))))
theorem ok_Hand_state (T : Txt K mg) : FnB P w K mg base 1 "state" "Hand.state" s_Hand_state ["self"] F_Hand_state :=
  fn_shared (N := N_Hand_state) (k := 0) (B := B_Hand_state) sc_Hand_state fun f cdv A outer s H E hr tk po => by
    have nd := sc_Hand_state.nd
    exact (ss_one (ss_ret (se_tup (sa_cons (se_fld T.k_Hand T.d_Hand_spot (se_v 0)) (sa_cons (se_fld T.k_Hand T.d_Hand_heading (se_v 0)) (sa_cons (se_fld T.k_Hand T.d_Hand_is_down (se_v 0)) (sa_cons (se_fld T.k_Hand T.d_Hand_ink (se_v 0)) sa_nil)))))))
theorem ok_Call__init (T : Txt K mg) : FnB P w K mg base 1 "__init__" "Call.__init__" s_Call__init ["self", "words", "numbers", "count"] F_Call__init :=
  fn_shared (N := N_Call__init) (k := 0) (B := B_Call__init) sc_Call__init fun f cdv A outer s H E hr tk po => by
    have nd := sc_Call__init.nd
    exact (ss_cons (ss_fld T.k_Call T.d_Call_words (se_v 1) (se_v 0))
    (ss_cons (ss_fld T.k_Call T.d_Call_numbers (se_v 2) (se_v 0))
    (ss_one (ss_fld T.k_Call T.d_Call_count (se_v 3) (se_v 0)))))
theorem ok_Call_source_value (T : Txt K mg) : FnB P w K mg base 1 "source_value" "Call.source_value" s_Call_source_value ["self", "source"] F_Call_source_value :=
  fn_shared (N := N_Call_source_value) (k := 0) (B := B_Call_source_value) sc_Call_source_value fun f cdv A outer s H E hr tk po => by
    have nd := sc_Call_source_value.nd
    exact (ss_cons (ss_if (st_cmp (op_eqA hr.units) ab_eq (nomark _) (se_v 1) se_str)
    (ss_one (ss_ret (se_fld T.k_Call T.d_Call_count (se_v 0))))
    ss_nil)
    (ss_one (ss_ret (se_ix (fun _ _ => rfl) (se_fld T.k_Call T.d_Call_numbers (se_v 0)) (se_callTy call_intX ab_intX rfl T.b_int bt_int (sa_cons (se_sl false (se_v 1) (so_so se_int) so_no) sa_nil))))))
theorem ok_Call_value (T : Txt K mg) : FnB P w K mg base 2 "value" "Call.value" s_Call_value ["self", "amount"] F_Call_value :=
  fn_shared (N := N_Call_value) (k := 1) (B := B_Call_value) sc_Call_value fun f cdv A outer s H E hr tk po => by
    have nd := sc_Call_value.nd
    exact (ss_cons (ss_set 2 nd (se_v 1))
    (ss_cons (ss_if (st_truth (se_isi .tuple rfl T.b_isinstance rfl T.b_tuple bt_tuple (se_v 1)))
    (ss_cons (ss_asg (se_v 1) (sg_tup rfl (sgs_cons (sg_name 3 nd) (sgs_cons (sg_name 4 nd) (sgs_cons (sg_name 5 nd) sgs_nil)))))
    (ss_one (ss_set 2 nd (se_bin op_addA (ab_add false) (se_bin op_mulA ab_mul (se_v 3) (se_mth tk.c T.k_Call T.x_Call ((ok_Call_source_value T).m T.h_Call_source_value) (hr.mono (by decide)) (se_v 0) (sa_cons (se_v 4) sa_nil) (aLen_cons aLen_nil))) (se_v 5)))))
    ss_nil)
    (ss_cons (ss_if (st_cmp op_gt (ab_cmp _) (nomark _) (se_callB call_abs (ab_i1 _) rfl T.b_abs bt_abs (sa_cons (se_v 2) sa_nil)) (T.c_MOST_AMOUNT rfl rfl rfl))
    (ss_one (ss_raise rfl tk T.e_TooGreat rfl))
    ss_nil)
    (ss_one (ss_ret (se_v 2))))))
theorem ok_do_simple (T : Txt K mg) : FnB P w K mg base 4 "do_simple" "do_simple" s_do_simple ["hand", "verb", "value"] F_do_simple :=
  fn_shared (N := N_do_simple) (k := 3) (B := B_do_simple) sc_do_simple fun f cdv A outer s H E hr tk po => by
    have nd := sc_do_simple.nd
    exact (ss_one (ss_if (st_cmp (op_eqA hr.units) ab_eq (nomark _) (se_v 1) se_str)
    (ss_one (ss_expr (se_mth tk.c T.k_Hand T.x_Hand ((ok_Hand_go T).m T.h_Hand_go) (hr.mono (by decide)) (se_v 0) (sa_cons (se_v 2) sa_nil) (aLen_cons aLen_nil))))
    (ss_one (ss_if (st_cmp (op_eqA hr.units) ab_eq (nomark _) (se_v 1) se_str)
    (ss_one (ss_expr (se_mth tk.c T.k_Hand T.x_Hand ((ok_Hand_turn T).m T.h_Hand_turn) (hr.mono (by decide)) (se_v 0) (sa_cons (se_v 2) sa_nil) (aLen_cons aLen_nil))))
    (ss_one (ss_if (st_cmp (op_eqA hr.units) ab_eq (nomark _) (se_v 1) se_str)
    (ss_one (ss_fld T.k_Hand T.d_Hand_ink (se_bin op_mod ab_mod (se_v 2) se_int) (se_v 0)))
    (ss_one (ss_if (st_cmp (op_eqA hr.units) ab_eq (nomark _) (se_v 1) se_str)
    (ss_one (ss_fld T.k_Hand T.d_Hand_is_down se_bl (se_v 0)))
    (ss_one (ss_if (st_cmp (op_eqA hr.units) ab_eq (nomark _) (se_v 1) se_str)
    (ss_one (ss_fld T.k_Hand T.d_Hand_is_down se_bl (se_v 0)))
    (ss_one (ss_if (st_cmp (op_eqA hr.units) ab_eq (nomark _) (se_v 1) se_str)
    (ss_one (ss_dput (hu_of hr) (se_tup (sa_cons (se_fld T.k_Hand T.d_Hand_spot (se_v 0)) (sa_cons (se_fld T.k_Hand T.d_Hand_heading (se_v 0)) sa_nil))) (se_fld T.k_Hand T.d_Hand_marks (se_v 0)) (se_v 2)))
    (ss_one (ss_expr (se_mth tk.c T.k_Hand T.x_Hand ((ok_Hand_back T).m T.h_Hand_back) (hr.mono (by decide)) (se_v 0) (sa_cons (se_v 2) sa_nil) (aLen_cons aLen_nil))))))))))))))))
theorem st_do_again (T : Txt K mg) (R : Nat → SF) (n : Nat) (ih_do_again : FnB P w K mg base (4 + n) "do_again" "do_again" s_do_again ["hand", "statement", "call"] (R 0)) (ih_do_word : FnB P w K mg base (4 + n) "do_word" "do_word" s_do_word ["hand", "statement", "call"] (R 1)) (ih_do_statement : FnB P w K mg base (4 + n) "do_statement" "do_statement" s_do_statement ["hand", "statement", "call"] (R 2)) (ih_do_body : FnB P w K mg base (4 + n) "do_body" "do_body" s_do_body ["hand", "body", "call"] (R 3)) : FnB P w K mg base (4 + n + 1) "do_again" "do_again" s_do_again ["hand", "statement", "call"] (sfOf 4 (B_do_again R)) :=
  fn_shared (N := N_do_again) (k := 4 + n) (B := B_do_again R) sc_do_again fun f cdv A outer s H E hr tk po => by
    have nd := sc_do_again.nd
    exact (ss_one (ss_for po rfl (si_range1 rfl T.b_range (sa_cons (se_callB (call_max2 rfl) (ab_i2 _) rfl T.b_max bt_max (sa_cons se_int (sa_cons (se_mth tk.c T.k_Call T.x_Call ((ok_Call_value T).m T.h_Call_value) (hr.mono (Nat.le_trans (by decide : 2 ≤ 4) (Nat.le_add_right _ _))) (se_v 2) (sa_cons (se_ix (fun _ _ => rfl) (se_v 1) se_int) sa_nil) (aLen_cons aLen_nil)) sa_nil))) sa_nil)) (sg_name 3 nd)
    (ss_cons (ss_expr (se_mth0 tk.c T.k_Hand T.x_Hand ((ok_Hand_deed T).m T.h_Hand_deed) (hr.mono (Nat.le_trans (by decide : 1 ≤ 4) (Nat.le_add_right _ _))) (se_v 0)))
    (ss_one (ss_expr (se_callS tk.c (ih_do_body.s T.h_do_body) hr rfl (sa_cons (se_v 0) (sa_cons (se_ix (fun _ _ => rfl) (se_v 1) se_int) (sa_cons (se_make tk.c ((ok_Call__init T).i T.i_Call) (hr.mono (Nat.le_trans (by decide : 2 ≤ 4) (Nat.le_add_right _ _))) rfl (sa_cons (se_fld T.k_Call T.d_Call_words (se_v 2)) (sa_cons (se_fld T.k_Call T.d_Call_numbers (se_v 2)) (sa_cons (se_v 3) sa_nil))) (aLen_cons (aLen_cons (aLen_cons aLen_nil)))) sa_nil))) (aLen_cons (aLen_cons (aLen_cons aLen_nil)))))))))
theorem st_do_word (T : Txt K mg) (R : Nat → SF) (n : Nat) (ih_do_again : FnB P w K mg base (4 + n) "do_again" "do_again" s_do_again ["hand", "statement", "call"] (R 0)) (ih_do_word : FnB P w K mg base (4 + n) "do_word" "do_word" s_do_word ["hand", "statement", "call"] (R 1)) (ih_do_statement : FnB P w K mg base (4 + n) "do_statement" "do_statement" s_do_statement ["hand", "statement", "call"] (R 2)) (ih_do_body : FnB P w K mg base (4 + n) "do_body" "do_body" s_do_body ["hand", "body", "call"] (R 3)) : FnB P w K mg base (4 + n + 1) "do_word" "do_word" s_do_word ["hand", "statement", "call"] (sfOf 5 (B_do_word R)) :=
  fn_shared (N := N_do_word) (k := 4 + n) (B := B_do_word R) sc_do_word fun f cdv A outer s H E hr tk po => by
    have nd := sc_do_word.nd
    exact (ss_cons (ss_setLcX false 3 (sw_true rfl rfl rfl (by decide +kernel)) [("amount", 4)] rfl rfl tk rfl nd rfl (by decide) (si_seq (se_ix (fun _ _ => rfl) (se_v 1) se_int)) (blkOk_by (N := N_do_word) (sc := defScope s_do_word) (own := [("amount", 4)]) (by decide +kernel)) (fun _ _ _ _ _ => (sg_name 4 nd)) (fun _ _ _ _ _ => sts_nil) (fun _ _ _ _ _ _ _ _ tkc => (se_fz (se_mth tkc.c T.k_Call T.x_Call ((ok_Call_value T).m T.h_Call_value) (hr.mono (Nat.le_trans (by decide : 2 ≤ 4) (Nat.le_add_right _ _))) (se_v 2) (sa_cons (se_v 4) sa_nil) (aLen_cons aLen_nil)))))
    (ss_one (ss_expr (se_callS tk.c (ih_do_body.s T.h_do_body) hr rfl (sa_cons (se_v 0) (sa_cons (se_dget (hu_of hr) (se_fld T.k_Call T.d_Call_words (se_v 2)) (se_ix (fun _ _ => rfl) (se_v 1) se_int)) (sa_cons (se_make tk.c ((ok_Call__init T).i T.i_Call) (hr.mono (Nat.le_trans (by decide : 2 ≤ 4) (Nat.le_add_right _ _))) rfl (sa_cons (se_fld T.k_Call T.d_Call_words (se_v 2)) (sa_cons (se_v 3) (sa_cons se_int sa_nil))) (aLen_cons (aLen_cons (aLen_cons aLen_nil)))) sa_nil))) (aLen_cons (aLen_cons (aLen_cons aLen_nil)))))))
theorem st_do_statement (T : Txt K mg) (R : Nat → SF) (n : Nat) (ih_do_again : FnB P w K mg base (4 + n) "do_again" "do_again" s_do_again ["hand", "statement", "call"] (R 0)) (ih_do_word : FnB P w K mg base (4 + n) "do_word" "do_word" s_do_word ["hand", "statement", "call"] (R 1)) (ih_do_statement : FnB P w K mg base (4 + n) "do_statement" "do_statement" s_do_statement ["hand", "statement", "call"] (R 2)) (ih_do_body : FnB P w K mg base (4 + n) "do_body" "do_body" s_do_body ["hand", "body", "call"] (R 3)) : FnB P w K mg base (4 + n + 1) "do_statement" "do_statement" s_do_statement ["hand", "statement", "call"] (sfOf 5 (B_do_statement R)) :=
  fn_shared (N := N_do_statement) (k := 4 + n) (B := B_do_statement R) sc_do_statement fun f cdv A outer s H E hr tk po => by
    have nd := sc_do_statement.nd
    exact (ss_cons (ss_expr (se_mth0 tk.c T.k_Hand T.x_Hand ((ok_Hand_deed T).m T.h_Hand_deed) (hr.mono (Nat.le_trans (by decide : 1 ≤ 4) (Nat.le_add_right _ _))) (se_v 0)))
    (ss_cons (ss_set 3 nd (se_ix (fun _ _ => rfl) (se_v 1) se_int))
    (ss_one (ss_if (st_cmp (op_eqA hr.units) ab_eq (nomark _) (se_v 3) se_str)
    (ss_one (ss_expr (se_callS tk.c (ih_do_again.s T.h_do_again) hr rfl (sa_cons (se_v 0) (sa_cons (se_v 1) (sa_cons (se_v 2) sa_nil))) (aLen_cons (aLen_cons (aLen_cons aLen_nil))))))
    (ss_one (ss_if (st_cmp (op_eqA hr.units) ab_eq (nomark _) (se_v 3) se_str)
    (ss_one (ss_expr (se_callS tk.c (ih_do_body.s T.h_do_body) hr rfl (sa_cons (se_v 0) (sa_cons (se_ix (fun _ _ => rfl) (se_v 1) (se_bin op_addA (ab_add false) se_int (se_callTy call_int1 ab_intOf rfl T.b_int bt_int (sa_cons (se_cmp op_le (ab_cmp _) (nomark _) (se_mth tk.c T.k_Call T.x_Call ((ok_Call_value T).m T.h_Call_value) (hr.mono (Nat.le_trans (by decide : 2 ≤ 4) (Nat.le_add_right _ _))) (se_v 2) (sa_cons (se_ix (fun _ _ => rfl) (se_v 1) se_int) sa_nil) (aLen_cons aLen_nil)) se_int) sa_nil)))) (sa_cons (se_v 2) sa_nil))) (aLen_cons (aLen_cons (aLen_cons aLen_nil))))))
    (ss_one (ss_if (st_cmp (op_eqA hr.units) ab_eq (nomark _) (se_v 3) se_str)
    (ss_one (ss_expr (se_callS tk.c (ih_do_word.s T.h_do_word) hr rfl (sa_cons (se_v 0) (sa_cons (se_v 1) (sa_cons (se_v 2) sa_nil))) (aLen_cons (aLen_cons (aLen_cons aLen_nil))))))
    (ss_one (ss_if (sw_st (sw_or (st_cmp (op_eqA hr.units) ab_eq (nomark _) (se_v 3) se_str) (sw_or1 (st_cmp (op_eqA hr.units) ab_eq (nomark _) (se_v 3) se_str))))
    (ss_cons (ss_expr (se_ml PySem.F.slot_list_append PySem.F.type_list_append mt_append ab_app (se_fld T.k_Hand T.d_Hand_plain (se_v 0)) (sa_cons (se_tup (sa_cons (se_v 3) (sa_cons se_int (sa_cons (se_mth0 tk.c T.k_Hand T.x_Hand ((ok_Hand_state T).m T.h_Hand_state) (hr.mono (Nat.le_trans (by decide : 1 ≤ 4) (Nat.le_add_right _ _))) (se_v 0)) sa_nil)))) sa_nil)))
    (ss_one (ss_expr (se_callS tk.c ((ok_do_simple T).s T.h_do_simple) (hr.mono (Nat.le_trans (by decide : 4 ≤ 4) (Nat.le_add_right _ _))) rfl (sa_cons (se_v 0) (sa_cons (se_v 3) (sa_cons se_int sa_nil))) (aLen_cons (aLen_cons (aLen_cons aLen_nil)))))))
    (ss_cons (ss_set 4 nd (se_mth tk.c T.k_Call T.x_Call ((ok_Call_value T).m T.h_Call_value) (hr.mono (Nat.le_trans (by decide : 2 ≤ 4) (Nat.le_add_right _ _))) (se_v 2) (sa_cons (se_ix (fun _ _ => rfl) (se_v 1) se_int) sa_nil) (aLen_cons aLen_nil)))
    (ss_cons (ss_expr (se_ml PySem.F.slot_list_append PySem.F.type_list_append mt_append ab_app (se_fld T.k_Hand T.d_Hand_plain (se_v 0)) (sa_cons (se_tup (sa_cons (se_v 3) (sa_cons (se_v 4) (sa_cons (se_mth0 tk.c T.k_Hand T.x_Hand ((ok_Hand_state T).m T.h_Hand_state) (hr.mono (Nat.le_trans (by decide : 1 ≤ 4) (Nat.le_add_right _ _))) (se_v 0)) sa_nil)))) sa_nil)))
    (ss_one (ss_expr (se_callS tk.c ((ok_do_simple T).s T.h_do_simple) (hr.mono (Nat.le_trans (by decide : 4 ≤ 4) (Nat.le_add_right _ _))) rfl (sa_cons (se_v 0) (sa_cons (se_v 3) (sa_cons (se_v 4) sa_nil))) (aLen_cons (aLen_cons (aLen_cons aLen_nil))))))))))))))))))
theorem st_do_body (T : Txt K mg) (R : Nat → SF) (n : Nat) (ih_do_again : FnB P w K mg base (4 + n) "do_again" "do_again" s_do_again ["hand", "statement", "call"] (R 0)) (ih_do_word : FnB P w K mg base (4 + n) "do_word" "do_word" s_do_word ["hand", "statement", "call"] (R 1)) (ih_do_statement : FnB P w K mg base (4 + n) "do_statement" "do_statement" s_do_statement ["hand", "statement", "call"] (R 2)) (ih_do_body : FnB P w K mg base (4 + n) "do_body" "do_body" s_do_body ["hand", "body", "call"] (R 3)) : FnB P w K mg base (4 + n + 1) "do_body" "do_body" s_do_body ["hand", "body", "call"] (sfOf 4 (B_do_body R)) :=
  fn_shared (N := N_do_body) (k := 4 + n) (B := B_do_body R) sc_do_body fun f cdv A outer s H E hr tk po => by
    have nd := sc_do_body.nd
    exact (ss_one (ss_for po rfl (si_seq (se_v 1)) (sg_name 3 nd)
    (ss_one (ss_expr (se_callS tk.c (ih_do_statement.s T.h_do_statement) hr rfl (sa_cons (se_v 0) (sa_cons (se_v 3) (sa_cons (se_v 2) sa_nil))) (aLen_cons (aLen_cons (aLen_cons aLen_nil))))))))
theorem okR_do_again (T : Txt K mg) : ∀ n : Nat, FnB P w K mg base (4 + n) "do_again" "do_again" s_do_again ["hand", "statement", "call"] (Rec_do_again n 0) ∧ FnB P w K mg base (4 + n) "do_word" "do_word" s_do_word ["hand", "statement", "call"] (Rec_do_again n 1) ∧ FnB P w K mg base (4 + n) "do_statement" "do_statement" s_do_statement ["hand", "statement", "call"] (Rec_do_again n 2) ∧ FnB P w K mg base (4 + n) "do_body" "do_body" s_do_body ["hand", "body", "call"] (Rec_do_again n 3)
  | 0 => ⟨FnB.stuck, FnB.stuck, FnB.stuck, FnB.stuck⟩
  | n + 1 => by
    obtain ⟨h0, h1, h2, h3⟩ := okR_do_again T n
    exact ⟨st_do_again T (Rec_do_again n) n h0 h1 h2 h3, st_do_word T (Rec_do_again n) n h0 h1 h2 h3, st_do_statement T (Rec_do_again n) n h0 h1 h2 h3, st_do_body T (Rec_do_again n) n h0 h1 h2 h3⟩
theorem ok_do_again (T : Txt K mg) : FnB P w K mg base 154 "do_again" "do_again" s_do_again ["hand", "statement", "call"] F_do_again := (okR_do_again T 150).1
theorem ok_do_word (T : Txt K mg) : FnB P w K mg base 154 "do_word" "do_word" s_do_word ["hand", "statement", "call"] F_do_word := (okR_do_again T 150).2.1
theorem ok_do_statement (T : Txt K mg) : FnB P w K mg base 154 "do_statement" "do_statement" s_do_statement ["hand", "statement", "call"] F_do_statement := (okR_do_again T 150).2.2.1
theorem ok_do_body (T : Txt K mg) : FnB P w K mg base 154 "do_body" "do_body" s_do_body ["hand", "body", "call"] F_do_body := (okR_do_again T 150).2.2.2
theorem ok_hand_behind (T : Txt K mg) : FnB P w K mg base 155 "hand_behind" "hand_behind" s_hand_behind ["program", "most"] F_hand_behind :=
  fn_shared (N := N_hand_behind) (k := 154) (B := B_hand_behind) sc_hand_behind fun f cdv A outer s H E hr tk po => by
    have nd := sc_hand_behind.nd
    exact (ss_cons (ss_set 2 nd se_dnew)
    (ss_cons (ss_for po rfl (si_seq (se_ix (fun _ _ => rfl) (se_v 0) se_int)) (sg_tup rfl (sgs_cons (sg_name 5 nd) (sgs_cons (sg_name 6 nd) (sgs_cons (sg_name 7 nd) sgs_nil))))
    (ss_one (ss_dput (hu_of hr) (se_v 7) (se_v 2) (se_v 5))))
    (ss_cons (ss_set 3 nd (se_make tk.c ((ok_Hand__init T).i T.i_Hand) (hr.mono (by decide)) rfl (sa_cons (se_v 1) sa_nil) (aLen_cons aLen_nil)))
    (ss_cons (ss_set 4 nd se_bl)
    (ss_cons (ss_try rfl rfl tk T.mt (fun _ _ _ tk2 po2 => (ss_one (ss_expr (se_callS tk2.c ((ok_do_body T).s T.h_do_body) (hr.mono (by decide)) rfl (sa_cons (se_v 3) (sa_cons (se_ix (fun _ _ => rfl) (se_v 0) se_int) (sa_cons (se_make tk2.c ((ok_Call__init T).i T.i_Call) (hr.mono (by decide)) rfl (sa_cons (se_v 2) (sa_cons (se_lst false sa_nil) (sa_cons se_int sa_nil))) (aLen_cons (aLen_cons (aLen_cons aLen_nil)))) sa_nil))) (aLen_cons (aLen_cons (aLen_cons aLen_nil))))))) (.cons rfl (by decide) T.x_Stopped (fun _ _ => (ss_one (ss_set 4 nd se_bl))) .nil))
    (ss_one (ss_ret (se_tup (sa_cons (se_v 3) (sa_cons (se_v 4) sa_nil))))))))))
theorem ok_run (T : Txt K mg) : FnB P w K mg base 156 "run" "run" s_run ["program", "most"] F_run :=
  fn_shared (N := N_run) (k := 155) (B := B_run) sc_run fun f cdv A outer s H E hr tk po => by
    have nd := sc_run.nd
    exact (ss_cons (ss_asg (se_callS tk.c ((ok_hand_behind T).s T.h_hand_behind) (hr.mono (by decide)) rfl (sa_cons (se_v 0) (sa_cons (se_v 1) sa_nil)) (aLen_cons (aLen_cons aLen_nil))) (sg_tup rfl (sgs_cons (sg_name 2 nd) (sgs_cons (sg_name 3 nd) sgs_nil))))
    (ss_one (ss_ret (se_tup (sa_cons (se_fld T.k_Hand T.d_Hand_strokes (se_v 2)) (sa_cons (se_fld T.k_Hand T.d_Hand_corners (se_v 2)) (sa_cons (se_mth0 tk.c T.k_Hand T.x_Hand ((ok_Hand_state T).m T.h_Hand_state) (hr.mono (by decide)) (se_v 2)) (sa_cons (se_fld T.k_Hand T.d_Hand_turns (se_v 2)) (sa_cons (se_v 3) sa_nil)))))))))
theorem ok_law_mixed (T : Txt K mg) : FnA P w K mg base 1 "_law_mixed" s_law_mixed ["_law_cell_here", "_law_k"] F_law_mixed :=
  fn_priv (N := N_law_mixed) (k := 0) (B := B_law_mixed) sc_law_mixed fun f cdv A outer s H E hr tk po => by
    have nd := sc_law_mixed.nd
    exact (ss_cons (ss_set 2 nd (se_bin op_mod ab_mod (se_bin op_addA (ab_add false) (se_bin op_addA (ab_add false) (se_v 0) (se_bin op_mulA ab_mul (se_bin op_mulA ab_mul (se_v 1) (se_v 1)) se_int)) se_int) se_int))
    (ss_cons (ss_set 2 nd (se_bin op_mod ab_mod (se_bin op_mulA ab_mul (se_v 2) (se_v 2)) se_int))
    (ss_cons (ss_set 2 nd (se_bin op_mod ab_mod (se_bin op_mulA ab_mul (se_bin op_addA (ab_add false) (se_bin op_addA (ab_add false) (se_v 2) (se_bin op_mulA ab_mul (se_v 1) se_int)) se_int) se_int) se_int))
    (ss_one (ss_ret (se_bin op_fdivA ab_fdiv (se_bin op_mod ab_mod (se_bin op_mulA ab_mul (se_v 2) (se_v 2)) se_int) se_int))))))
theorem ok_law_row (T : Txt K mg) : FnA P w K mg base 2 "_law_row" s_law_row ["_law_cell_here", "_law_most_here", "_law_many"] F_law_row :=
  fn_priv (N := N_law_row) (k := 1) (B := B_law_row) sc_law_row fun f cdv A outer s H E hr tk po => by
    have nd := sc_law_row.nd
    exact (ss_cons (ss_set 3 nd (se_lst true sa_nil))
    (ss_cons (ss_set 4 nd (se_v 0))
    (ss_cons (ss_for po rfl (si_range1 rfl T.b_range (sa_cons (se_v 2) sa_nil)) (sg_name 5 nd)
    (ss_cons (ss_expr (se_ml PySem.F.slot_list_append PySem.F.type_list_append mt_append ab_app (se_v 3) (sa_cons (se_bin op_mod ab_mod (se_v 4) (se_v 1)) sa_nil)))
    (ss_one (ss_set 4 nd (se_bin op_fdivA ab_fdiv (se_v 4) (se_v 1))))))
    (ss_cons (ss_if (st_cmp op_gt (ab_cmp _) (nomark _) (se_v 4) se_int)
    (ss_one (ss_ret (se_fz (se_v 3))))
    ss_nil)
    (ss_one (ss_ret (se_lc false [("_law_k", 5)] rfl nd rfl (by decide) (si_range1 rfl T.b_range (sa_cons (se_v 2) sa_nil)) (blkOk_by (N := N_law_row) (sc := defScope s_law_row) (own := [("_law_k", 5)]) (by decide +kernel)) (fun _ _ _ _ _ => (sg_name 5 nd)) (fun _ _ _ _ _ => sts_nil) (fun _ _ _ _ _ => (se_bin op_mod ab_mod (se_call takes0.c ((ok_law_mixed T).p T.h_law_mixed) (hr.mono (by decide)) rfl (sa_cons (se_v 0) (sa_cons (se_v 5) sa_nil)) (aLen_cons (aLen_cons aLen_nil))) (se_v 1))))))))))
theorem ok_law_cell (T : Txt K mg) : FnA P w K mg base 1 "_law_cell" s_law_cell ["_law_script", "_law_k"] F_law_cell :=
  fn_priv (N := N_law_cell) (k := 0) (B := B_law_cell) sc_law_cell fun f cdv A outer s H E hr tk po => by
    have nd := sc_law_cell.nd
    exact (ss_cons (ss_if (st_cmp op_lt (ab_cmp _) (nomark _) (se_v 1) (se_callB call_len ab_len rfl T.b_len bt_len (sa_cons (se_v 0) sa_nil)))
    (ss_one (ss_ret (se_ix (fun _ _ => rfl) (se_v 0) (se_v 1))))
    ss_nil)
    (ss_cons (ss_set 2 nd (se_bin op_addA (ab_add false) (se_bin op_mulA ab_mul (se_bin op_mulA ab_mul (se_v 1) (se_v 1)) se_int) se_int))
    (ss_cons (ss_if (st_cmp op_gt (ab_cmp _) (nomark _) (se_callB call_len ab_len rfl T.b_len bt_len (sa_cons (se_v 0) sa_nil)) se_int)
    (ss_one (ss_set 2 nd (se_bin op_addA (ab_add false) (se_v 2) (se_bin op_mulA ab_mul (se_bin op_mod ab_mod (se_ix (fun _ _ => rfl) (se_v 0) (se_bin op_mod ab_mod (se_bin op_mulA ab_mul (se_v 1) se_int) (se_callB call_len ab_len rfl T.b_len bt_len (sa_cons (se_v 0) sa_nil)))) (se_bin op_pow ab_pow se_int se_int)) (se_bin op_addA (ab_add false) se_int (se_v 1))))))
    ss_nil)
    (ss_one (ss_ret (se_bin op_mod ab_mod (se_bin op_mulA ab_mul (se_v 2) (se_v 2)) se_int))))))
theorem ok_law_deck (T : Txt K mg) : FnB P w K mg base 3 "_law_deck" "_law_deck" s_law_deck ["_law_script", "_law_start"] F_law_deck :=
  fn_shared (N := N_law_deck) (k := 2) (B := B_law_deck) sc_law_deck fun f cdv A outer s H E hr tk po => by
    have nd := sc_law_deck.nd
    exact (ss_cons (ss_set 2 nd (se_lst false sa_nil))
    (ss_cons (ss_for po rfl (si_range2 rfl T.b_range (sa_cons (se_v 1) (sa_cons (se_callB (call_max2 rfl) (ab_i2 _) rfl T.b_max bt_max (sa_cons (se_bin op_addA (ab_add false) (se_v 1) se_int) (sa_cons (se_callB (call_min2 rfl) (ab_i2 _) rfl T.b_min bt_min (sa_cons se_int (sa_cons (se_callB call_len ab_len rfl T.b_len bt_len (sa_cons (se_v 0) sa_nil)) sa_nil))) sa_nil))) sa_nil))) (sg_name 3 nd)
    (ss_one (ss_set 2 nd (se_bin op_addA (ab_add false) (se_v 2) (se_call tk.c ((ok_law_row T).p T.h_law_row) (hr.mono (by decide)) rfl (sa_cons (se_call tk.c ((ok_law_cell T).p T.h_law_cell) (hr.mono (by decide)) rfl (sa_cons (se_v 0) (sa_cons (se_v 3) sa_nil)) (aLen_cons (aLen_cons aLen_nil))) (sa_cons se_int (sa_cons se_int sa_nil))) (aLen_cons (aLen_cons (aLen_cons aLen_nil))))))))
    (ss_one (ss_ret (se_revL true rfl rfl T.b_list rfl T.b_reversed (se_v 2))))))
theorem ok_law_next (T : Txt K mg) : FnB P w K mg base 1 "_law_next" "_law_next" s_law_next ["_law_deck_here"] F_law_next :=
  fn_shared (N := N_law_next) (k := 0) (B := B_law_next) sc_law_next fun f cdv A outer s H E hr tk po => by
    have nd := sc_law_next.nd
    exact (ss_cons (ss_if (st_cmp (op_eqA hr.units) ab_eq (nomark _) (se_callB call_len ab_len rfl T.b_len bt_len (sa_cons (se_v 0) sa_nil)) se_int)
    (ss_one (ss_ret se_int))
    ss_nil)
    (ss_one (ss_ret (se_ml0 PySem.F.slot_list_pop PySem.F.type_list_pop mt_pop ab_pop (se_v 0)))))
theorem ok_law_amount (T : Txt K mg) : FnB P w K mg base 2 "_law_amount" "_law_amount" s_law_amount ["_law_deck_here", "_law_inside", "_law_takes"] F_law_amount :=
  fn_shared (N := N_law_amount) (k := 1) (B := B_law_amount) sc_law_amount fun f cdv A outer s H E hr tk po => by
    have nd := sc_law_amount.nd
    exact (ss_cons (ss_set 3 nd (se_callS tk.c ((ok_law_next T).s T.h_law_next) (hr.mono (by decide)) rfl (sa_cons (se_v 0) sa_nil) (aLen_cons aLen_nil)))
    (ss_cons (ss_if (sw_st (sw_and (st_cmp (op_eqA hr.units) ab_eq (nomark _) (se_bin op_mod ab_mod (se_v 3) se_int) se_int) (sw_and1 (st_truth (se_v 1)))))
    (ss_one (ss_ret (se_tup (sa_cons (se_bin op_sub ab_sub (se_bin op_mod ab_mod (se_bin op_fdivA ab_fdiv (se_v 3) se_int) se_int) se_int) (sa_cons se_str (sa_cons (se_bin op_sub ab_sub (se_bin op_mod ab_mod (se_callS tk.c ((ok_law_next T).s T.h_law_next) (hr.mono (by decide)) rfl (sa_cons (se_v 0) sa_nil) (aLen_cons aLen_nil)) se_int) se_int) sa_nil))))))
    ss_nil)
    (ss_cons (ss_if (sw_st (sw_and (st_cmp (op_eqA hr.units) ab_eq (nomark _) (se_bin op_mod ab_mod (se_v 3) se_int) se_int) (sw_and1 (st_cmp op_gt (ab_cmp _) (nomark _) (se_v 2) se_int))))
    (ss_one (ss_ret (se_tup (sa_cons (se_bin op_sub ab_sub (se_bin op_mod ab_mod (se_bin op_fdivA ab_fdiv (se_v 3) se_int) se_int) se_int) (sa_cons (se_bin op_addA (ab_add false) se_str (se_callTy call_str_int ab_str rfl T.b_str bt_str (sa_cons (se_bin op_mod ab_mod (se_callS tk.c ((ok_law_next T).s T.h_law_next) (hr.mono (by decide)) rfl (sa_cons (se_v 0) sa_nil) (aLen_cons aLen_nil)) (se_v 2)) sa_nil))) (sa_cons (se_bin op_sub ab_sub (se_bin op_mod ab_mod (se_callS tk.c ((ok_law_next T).s T.h_law_next) (hr.mono (by decide)) rfl (sa_cons (se_v 0) sa_nil) (aLen_cons aLen_nil)) se_int) se_int) sa_nil))))))
    ss_nil)
    (ss_one (ss_ret (se_bin op_sub ab_sub (se_bin op_mod ab_mod (se_bin op_fdivA ab_fdiv (se_v 3) se_int) se_int) se_int))))))
theorem ok_law_call (T : Txt K mg) : FnB P w K mg base 3 "_law_call" "_law_call" s_law_call ["_law_deck_here", "_law_inside", "_law_takes", "_law_words"] F_law_call :=
  fn_shared (N := N_law_call) (k := 2) (B := B_law_call) sc_law_call fun f cdv A outer s H E hr tk po => by
    have nd := sc_law_call.nd
    exact (ss_cons (ss_asg (se_ix (fun _ _ => rfl) (se_v 3) (se_bin op_mod ab_mod (se_callS tk.c ((ok_law_next T).s T.h_law_next) (hr.mono (by decide)) rfl (sa_cons (se_v 0) sa_nil) (aLen_cons aLen_nil)) (se_callB call_len ab_len rfl T.b_len bt_len (sa_cons (se_v 3) sa_nil)))) (sg_tup rfl (sgs_cons (sg_name 4 nd) (sgs_cons (sg_name 5 nd) (sgs_cons (sg_name 6 nd) sgs_nil)))))
    (ss_one (ss_ret (se_tup (sa_cons se_str (sa_cons (se_v 4) (sa_cons (se_callTy call_tuple_of ab_tuple rfl T.b_tuple bt_tuple (sa_cons (se_lc false [("_law_k", 7)] rfl nd rfl (by decide) (si_range1 rfl T.b_range (sa_cons (se_v 5) sa_nil)) (blkOk_by (N := N_law_call) (sc := defScope s_law_call) (own := [("_law_k", 7)]) (by decide +kernel)) (fun _ _ _ _ _ => (sg_name 7 nd)) (fun _ _ _ _ _ => sts_nil) (fun _ _ _ _ _ => (se_callS takes0.c ((ok_law_amount T).s T.h_law_amount) (hr.mono (by decide)) rfl (sa_cons (se_v 0) (sa_cons (se_v 1) (sa_cons (se_v 2) sa_nil))) (aLen_cons (aLen_cons (aLen_cons aLen_nil)))))) sa_nil)) sa_nil)))))))
theorem ok_law_mark (T : Txt K mg) : FnB P w K mg base 2 "_law_mark" "_law_mark" s_law_mark ["_law_deck_here"] F_law_mark :=
  fn_shared (N := N_law_mark) (k := 1) (B := B_law_mark) sc_law_mark fun f cdv A outer s H E hr tk po => by
    have nd := sc_law_mark.nd
    exact (ss_cons (ss_set 1 nd (se_bin op_mod ab_mod (se_ix (fun _ _ => rfl) (se_bin op_addA (ab_add false) (se_v 0) (se_lst false (sa_cons se_int sa_nil))) se_int) se_int))
    (ss_one (ss_ret (se_ix (fun _ _ => rfl) (se_lst false (sa_cons (se_bin op_fdivA ab_fdiv (se_v 1) se_int) (sa_cons (se_bin op_mod ab_mod (se_bin op_addA (ab_add false) (se_bin op_addA (ab_add false) (se_bin op_fdivA ab_fdiv (se_v 1) se_int) se_int) (se_bin op_mod ab_mod (se_v 1) se_int)) se_int) sa_nil))) (se_bin op_mod ab_mod (se_callS tk.c ((ok_law_next T).s T.h_law_next) (hr.mono (by decide)) rfl (sa_cons (se_v 0) sa_nil) (aLen_cons aLen_nil)) se_int)))))
theorem st_law_rounds (T : Txt K mg) (R : Nat → SF) (n : Nat) (ih_law_rounds : FnB P w K mg base (3 + n) "_law_rounds" "_law_rounds" s_law_rounds ["_law_deck_here", "_law_deep", "_law_inside", "_law_takes", "_law_words"] (R 0)) (ih_law_choice : FnB P w K mg base (3 + n) "_law_choice" "_law_choice" s_law_choice ["_law_deck_here", "_law_deep", "_law_inside", "_law_takes", "_law_words"] (R 1)) (ih_law_statement : FnB P w K mg base (3 + n) "_law_statement" "_law_statement" s_law_statement ["_law_deck_here", "_law_deep", "_law_inside", "_law_takes", "_law_words"] (R 2)) (ih_law_body : FnB P w K mg base (3 + n) "_law_body" "_law_body" s_law_body ["_law_deck_here", "_law_deep", "_law_inside", "_law_takes", "_law_words"] (R 3)) : FnB P w K mg base (3 + n + 1) "_law_rounds" "_law_rounds" s_law_rounds ["_law_deck_here", "_law_deep", "_law_inside", "_law_takes", "_law_words"] (sfOf 7 (B_law_rounds R)) :=
  fn_shared (N := N_law_rounds) (k := 3 + n) (B := B_law_rounds R) sc_law_rounds fun f cdv A outer s H E hr tk po => by
    have nd := sc_law_rounds.nd
    exact (ss_cons (ss_set 5 nd (se_callS tk.c ((ok_law_next T).s T.h_law_next) (hr.mono (Nat.le_trans (by decide : 1 ≤ 3) (Nat.le_add_right _ _))) rfl (sa_cons (se_v 0) sa_nil) (aLen_cons aLen_nil)))
    (ss_cons (ss_set 6 nd (se_bin op_mod ab_mod (se_bin op_fdivA ab_fdiv (se_v 5) se_int) se_int))
    (ss_cons (ss_if (st_cmp (op_eqA hr.units) ab_eq (nomark _) (se_bin op_mod ab_mod (se_v 5) se_int) se_int)
    (ss_one (ss_set 6 nd (se_callS tk.c ((ok_law_amount T).s T.h_law_amount) (hr.mono (Nat.le_trans (by decide : 2 ≤ 3) (Nat.le_add_right _ _))) rfl (sa_cons (se_v 0) (sa_cons (se_v 2) (sa_cons (se_v 3) sa_nil))) (aLen_cons (aLen_cons (aLen_cons aLen_nil))))))
    ss_nil)
    (ss_one (ss_ret (se_tup (sa_cons se_str (sa_cons (se_v 6) (sa_cons (se_callS tk.c (ih_law_body.s T.h_law_body) hr rfl (sa_cons (se_v 0) (sa_cons (se_bin op_addA (ab_add false) (se_v 1) se_int) (sa_cons se_bl (sa_cons (se_v 3) (sa_cons (se_v 4) sa_nil))))) (aLen_cons (aLen_cons (aLen_cons (aLen_cons (aLen_cons aLen_nil)))))) sa_nil)))))))))
theorem st_law_choice (T : Txt K mg) (R : Nat → SF) (n : Nat) (ih_law_rounds : FnB P w K mg base (3 + n) "_law_rounds" "_law_rounds" s_law_rounds ["_law_deck_here", "_law_deep", "_law_inside", "_law_takes", "_law_words"] (R 0)) (ih_law_choice : FnB P w K mg base (3 + n) "_law_choice" "_law_choice" s_law_choice ["_law_deck_here", "_law_deep", "_law_inside", "_law_takes", "_law_words"] (R 1)) (ih_law_statement : FnB P w K mg base (3 + n) "_law_statement" "_law_statement" s_law_statement ["_law_deck_here", "_law_deep", "_law_inside", "_law_takes", "_law_words"] (R 2)) (ih_law_body : FnB P w K mg base (3 + n) "_law_body" "_law_body" s_law_body ["_law_deck_here", "_law_deep", "_law_inside", "_law_takes", "_law_words"] (R 3)) : FnB P w K mg base (3 + n + 1) "_law_choice" "_law_choice" s_law_choice ["_law_deck_here", "_law_deep", "_law_inside", "_law_takes", "_law_words"] (sfOf 7 (B_law_choice R)) :=
  fn_shared (N := N_law_choice) (k := 3 + n) (B := B_law_choice R) sc_law_choice fun f cdv A outer s H E hr tk po => by
    have nd := sc_law_choice.nd
    exact (ss_cons (ss_set 5 nd (se_callS tk.c ((ok_law_amount T).s T.h_law_amount) (hr.mono (Nat.le_trans (by decide : 2 ≤ 3) (Nat.le_add_right _ _))) rfl (sa_cons (se_v 0) (sa_cons (se_v 2) (sa_cons (se_v 3) sa_nil))) (aLen_cons (aLen_cons (aLen_cons aLen_nil)))))
    (ss_cons (ss_set 6 nd (se_callS tk.c (ih_law_body.s T.h_law_body) hr rfl (sa_cons (se_v 0) (sa_cons (se_bin op_addA (ab_add false) (se_v 1) se_int) (sa_cons (se_v 2) (sa_cons (se_v 3) (sa_cons (se_v 4) sa_nil))))) (aLen_cons (aLen_cons (aLen_cons (aLen_cons (aLen_cons aLen_nil)))))))
    (ss_one (ss_ret (se_tup (sa_cons se_str (sa_cons (se_v 5) (sa_cons (se_v 6) (sa_cons (se_callS tk.c (ih_law_body.s T.h_law_body) hr rfl (sa_cons (se_v 0) (sa_cons (se_bin op_addA (ab_add false) (se_v 1) se_int) (sa_cons (se_v 2) (sa_cons (se_v 3) (sa_cons (se_v 4) sa_nil))))) (aLen_cons (aLen_cons (aLen_cons (aLen_cons (aLen_cons aLen_nil)))))) sa_nil)))))))))
theorem st_law_statement (T : Txt K mg) (R : Nat → SF) (n : Nat) (ih_law_rounds : FnB P w K mg base (3 + n) "_law_rounds" "_law_rounds" s_law_rounds ["_law_deck_here", "_law_deep", "_law_inside", "_law_takes", "_law_words"] (R 0)) (ih_law_choice : FnB P w K mg base (3 + n) "_law_choice" "_law_choice" s_law_choice ["_law_deck_here", "_law_deep", "_law_inside", "_law_takes", "_law_words"] (R 1)) (ih_law_statement : FnB P w K mg base (3 + n) "_law_statement" "_law_statement" s_law_statement ["_law_deck_here", "_law_deep", "_law_inside", "_law_takes", "_law_words"] (R 2)) (ih_law_body : FnB P w K mg base (3 + n) "_law_body" "_law_body" s_law_body ["_law_deck_here", "_law_deep", "_law_inside", "_law_takes", "_law_words"] (R 3)) : FnB P w K mg base (3 + n + 1) "_law_statement" "_law_statement" s_law_statement ["_law_deck_here", "_law_deep", "_law_inside", "_law_takes", "_law_words"] (sfOf 6 (B_law_statement R)) :=
  fn_shared (N := N_law_statement) (k := 3 + n) (B := B_law_statement R) sc_law_statement fun f cdv A outer s H E hr tk po => by
    have nd := sc_law_statement.nd
    exact (ss_cons (ss_set 5 nd (se_bin op_mod ab_mod (se_callS tk.c ((ok_law_next T).s T.h_law_next) (hr.mono (Nat.le_trans (by decide : 1 ≤ 3) (Nat.le_add_right _ _))) rfl (sa_cons (se_v 0) sa_nil) (aLen_cons aLen_nil)) se_int))
    (ss_cons (ss_if (st_cmp op_lt (ab_cmp _) (nomark _) (se_v 5) se_int)
    (ss_one (ss_ret (se_tup (sa_cons se_str (sa_cons (se_callS tk.c ((ok_law_amount T).s T.h_law_amount) (hr.mono (Nat.le_trans (by decide : 2 ≤ 3) (Nat.le_add_right _ _))) rfl (sa_cons (se_v 0) (sa_cons (se_v 2) (sa_cons (se_v 3) sa_nil))) (aLen_cons (aLen_cons (aLen_cons aLen_nil)))) sa_nil)))))
    ss_nil)
    (ss_cons (ss_if (st_cmp op_lt (ab_cmp _) (nomark _) (se_v 5) se_int)
    (ss_one (ss_ret (se_tup (sa_cons se_str (sa_cons (se_callS tk.c ((ok_law_amount T).s T.h_law_amount) (hr.mono (Nat.le_trans (by decide : 2 ≤ 3) (Nat.le_add_right _ _))) rfl (sa_cons (se_v 0) (sa_cons (se_v 2) (sa_cons (se_v 3) sa_nil))) (aLen_cons (aLen_cons (aLen_cons aLen_nil)))) sa_nil)))))
    ss_nil)
    (ss_cons (ss_if (st_cmp (op_eqA hr.units) ab_eq (nomark _) (se_v 5) se_int)
    (ss_one (ss_ret (se_tup (sa_cons (se_ix (fun _ _ => rfl) (se_lst false (sa_cons se_str (sa_cons se_str (sa_cons se_str sa_nil)))) (se_bin op_mod ab_mod (se_callS tk.c ((ok_law_next T).s T.h_law_next) (hr.mono (Nat.le_trans (by decide : 1 ≤ 3) (Nat.le_add_right _ _))) rfl (sa_cons (se_v 0) sa_nil) (aLen_cons aLen_nil)) se_int)) sa_nil))))
    ss_nil)
    (ss_cons (ss_if (st_cmp (op_eqA hr.units) ab_eq (nomark _) (se_v 5) se_int)
    (ss_one (ss_ret (se_tup (sa_cons se_str (sa_cons (se_callS tk.c ((ok_law_amount T).s T.h_law_amount) (hr.mono (Nat.le_trans (by decide : 2 ≤ 3) (Nat.le_add_right _ _))) rfl (sa_cons (se_v 0) (sa_cons (se_v 2) (sa_cons (se_v 3) sa_nil))) (aLen_cons (aLen_cons (aLen_cons aLen_nil)))) sa_nil)))))
    ss_nil)
    (ss_cons (ss_if (st_cmp (op_eqA hr.units) ab_eq (nomark _) (se_v 5) se_int)
    (ss_one (ss_ret (se_tup (sa_cons (se_ix (fun _ _ => rfl) (se_lst false (sa_cons se_str (sa_cons se_str (sa_cons se_str sa_nil)))) (se_bin op_mod ab_mod (se_callS tk.c ((ok_law_next T).s T.h_law_next) (hr.mono (Nat.le_trans (by decide : 1 ≤ 3) (Nat.le_add_right _ _))) rfl (sa_cons (se_v 0) sa_nil) (aLen_cons aLen_nil)) se_int)) (sa_cons (se_callS tk.c ((ok_law_mark T).s T.h_law_mark) (hr.mono (Nat.le_trans (by decide : 2 ≤ 3) (Nat.le_add_right _ _))) rfl (sa_cons (se_v 0) sa_nil) (aLen_cons aLen_nil)) sa_nil)))))
    ss_nil)
    (ss_cons (ss_if (sw_st (sw_and (st_cmp (op_eqA hr.units) ab_eq (nomark _) (se_v 5) se_int) (sw_and1 (st_cmp op_lt (ab_cmp _) (nomark _) (se_v 1) se_int))))
    (ss_one (ss_ret (se_callS tk.c (ih_law_choice.s T.h_law_choice) hr rfl (sa_cons (se_v 0) (sa_cons (se_v 1) (sa_cons (se_v 2) (sa_cons (se_v 3) (sa_cons (se_v 4) sa_nil))))) (aLen_cons (aLen_cons (aLen_cons (aLen_cons (aLen_cons aLen_nil))))))))
    ss_nil)
    (ss_cons (ss_if (sw_st (sw_and (st_cmp (op_eqA hr.units) ab_eq (nomark _) (se_v 5) se_int) (sw_and1 (st_cmp op_gt (ab_cmp _) (nomark _) (se_callB call_len ab_len rfl T.b_len bt_len (sa_cons (se_v 4) sa_nil)) se_int))))
    (ss_one (ss_ret (se_callS tk.c ((ok_law_call T).s T.h_law_call) (hr.mono (Nat.le_trans (by decide : 3 ≤ 3) (Nat.le_add_right _ _))) rfl (sa_cons (se_v 0) (sa_cons (se_v 2) (sa_cons (se_v 3) (sa_cons (se_v 4) sa_nil)))) (aLen_cons (aLen_cons (aLen_cons (aLen_cons aLen_nil)))))))
    ss_nil)
    (ss_cons (ss_if (st_cmp op_lt (ab_cmp _) (nomark _) (se_v 1) se_int)
    (ss_one (ss_ret (se_callS tk.c (ih_law_rounds.s T.h_law_rounds) hr rfl (sa_cons (se_v 0) (sa_cons (se_v 1) (sa_cons (se_v 2) (sa_cons (se_v 3) (sa_cons (se_v 4) sa_nil))))) (aLen_cons (aLen_cons (aLen_cons (aLen_cons (aLen_cons aLen_nil))))))))
    ss_nil)
    (ss_one (ss_ret (se_tup (sa_cons se_str (sa_cons (se_bin op_addA (ab_add false) se_int (se_bin op_mod ab_mod (se_callS tk.c ((ok_law_next T).s T.h_law_next) (hr.mono (Nat.le_trans (by decide : 1 ≤ 3) (Nat.le_add_right _ _))) rfl (sa_cons (se_v 0) sa_nil) (aLen_cons aLen_nil)) se_int)) sa_nil))))))))))))))
theorem st_law_body (T : Txt K mg) (R : Nat → SF) (n : Nat) (ih_law_rounds : FnB P w K mg base (3 + n) "_law_rounds" "_law_rounds" s_law_rounds ["_law_deck_here", "_law_deep", "_law_inside", "_law_takes", "_law_words"] (R 0)) (ih_law_choice : FnB P w K mg base (3 + n) "_law_choice" "_law_choice" s_law_choice ["_law_deck_here", "_law_deep", "_law_inside", "_law_takes", "_law_words"] (R 1)) (ih_law_statement : FnB P w K mg base (3 + n) "_law_statement" "_law_statement" s_law_statement ["_law_deck_here", "_law_deep", "_law_inside", "_law_takes", "_law_words"] (R 2)) (ih_law_body : FnB P w K mg base (3 + n) "_law_body" "_law_body" s_law_body ["_law_deck_here", "_law_deep", "_law_inside", "_law_takes", "_law_words"] (R 3)) : FnB P w K mg base (3 + n + 1) "_law_body" "_law_body" s_law_body ["_law_deck_here", "_law_deep", "_law_inside", "_law_takes", "_law_words"] (sfOf 7 (B_law_body R)) :=
  fn_shared (N := N_law_body) (k := 3 + n) (B := B_law_body R) sc_law_body fun f cdv A outer s H E hr tk po => by
    have nd := sc_law_body.nd
    exact (ss_cons (ss_set 5 nd (se_lst true sa_nil))
    (ss_cons (ss_for po rfl (si_range1 rfl T.b_range (sa_cons (se_bin op_addA (ab_add false) (se_bin op_mod ab_mod (se_callS tk.c ((ok_law_next T).s T.h_law_next) (hr.mono (Nat.le_trans (by decide : 1 ≤ 3) (Nat.le_add_right _ _))) rfl (sa_cons (se_v 0) sa_nil) (aLen_cons aLen_nil)) se_int) (se_callTy call_int1 ab_intOf rfl T.b_int bt_int (sa_cons (se_cmp (op_eqA hr.units) ab_eq (nomark _) (se_v 1) se_int) sa_nil))) sa_nil)) (sg_name 6 nd)
    (ss_one (ss_if (st_cmp op_gt (ab_cmp _) (nomark _) (se_callB call_len ab_len rfl T.b_len bt_len (sa_cons (se_v 0) sa_nil)) se_int)
    (ss_one (ss_expr (se_ml PySem.F.slot_list_append PySem.F.type_list_append mt_append ab_app (se_v 5) (sa_cons (se_callS tk.c (ih_law_statement.s T.h_law_statement) hr rfl (sa_cons (se_v 0) (sa_cons (se_v 1) (sa_cons (se_v 2) (sa_cons (se_v 3) (sa_cons (se_v 4) sa_nil))))) (aLen_cons (aLen_cons (aLen_cons (aLen_cons (aLen_cons aLen_nil)))))) sa_nil))))
    ss_nil)))
    (ss_one (ss_ret (se_callTy call_tuple_of ab_tuple rfl T.b_tuple bt_tuple (sa_cons (se_v 5) sa_nil))))))
theorem okR_law_rounds (T : Txt K mg) : ∀ n : Nat, FnB P w K mg base (3 + n) "_law_rounds" "_law_rounds" s_law_rounds ["_law_deck_here", "_law_deep", "_law_inside", "_law_takes", "_law_words"] (Rec_law_rounds n 0) ∧ FnB P w K mg base (3 + n) "_law_choice" "_law_choice" s_law_choice ["_law_deck_here", "_law_deep", "_law_inside", "_law_takes", "_law_words"] (Rec_law_rounds n 1) ∧ FnB P w K mg base (3 + n) "_law_statement" "_law_statement" s_law_statement ["_law_deck_here", "_law_deep", "_law_inside", "_law_takes", "_law_words"] (Rec_law_rounds n 2) ∧ FnB P w K mg base (3 + n) "_law_body" "_law_body" s_law_body ["_law_deck_here", "_law_deep", "_law_inside", "_law_takes", "_law_words"] (Rec_law_rounds n 3)
  | 0 => ⟨FnB.stuck, FnB.stuck, FnB.stuck, FnB.stuck⟩
  | n + 1 => by
    obtain ⟨h0, h1, h2, h3⟩ := okR_law_rounds T n
    exact ⟨st_law_rounds T (Rec_law_rounds n) n h0 h1 h2 h3, st_law_choice T (Rec_law_rounds n) n h0 h1 h2 h3, st_law_statement T (Rec_law_rounds n) n h0 h1 h2 h3, st_law_body T (Rec_law_rounds n) n h0 h1 h2 h3⟩
theorem ok_law_rounds (T : Txt K mg) : FnB P w K mg base 153 "_law_rounds" "_law_rounds" s_law_rounds ["_law_deck_here", "_law_deep", "_law_inside", "_law_takes", "_law_words"] F_law_rounds := (okR_law_rounds T 150).1
theorem ok_law_choice (T : Txt K mg) : FnB P w K mg base 153 "_law_choice" "_law_choice" s_law_choice ["_law_deck_here", "_law_deep", "_law_inside", "_law_takes", "_law_words"] F_law_choice := (okR_law_rounds T 150).2.1
theorem ok_law_statement (T : Txt K mg) : FnB P w K mg base 153 "_law_statement" "_law_statement" s_law_statement ["_law_deck_here", "_law_deep", "_law_inside", "_law_takes", "_law_words"] F_law_statement := (okR_law_rounds T 150).2.2.1
theorem ok_law_body (T : Txt K mg) : FnB P w K mg base 153 "_law_body" "_law_body" s_law_body ["_law_deck_here", "_law_deep", "_law_inside", "_law_takes", "_law_words"] F_law_body := (okR_law_rounds T 150).2.2.2
theorem ok_law_program (T : Txt K mg) : FnB P w K mg base 154 "_law_program" "_law_program" s_law_program ["_law_deck_here"] F_law_program :=
  fn_shared (N := N_law_program) (k := 153) (B := B_law_program) sc_law_program fun f cdv A outer s H E hr tk po => by
    have nd := sc_law_program.nd
    exact (ss_cons (ss_set 1 nd (se_lst true sa_nil))
    (ss_cons (ss_set 2 nd (se_callS tk.c ((ok_law_next T).s T.h_law_next) (hr.mono (by decide)) rfl (sa_cons (se_v 0) sa_nil) (aLen_cons aLen_nil)))
    (ss_cons (ss_set 3 nd (se_bin op_addA (ab_add false) (se_bin op_addA (ab_add false) se_int (se_bin op_mulA ab_mul se_int (se_callTy call_int1 ab_intOf rfl T.b_int bt_int (sa_cons (se_cmp (op_eqA hr.units) ab_eq (nomark _) (se_bin op_mod ab_mod (se_bin op_fdivA ab_fdiv (se_v 2) se_int) se_int) se_int) sa_nil)))) (se_bin op_mulA ab_mul se_int (se_callTy call_int1 ab_intOf rfl T.b_int bt_int (sa_cons (se_cmp (op_eqA hr.units) ab_eq (nomark _) (se_bin op_mod ab_mod (se_bin op_fdivA ab_fdiv (se_v 2) se_int) se_int) se_int) sa_nil)))))
    (ss_cons (ss_for po rfl (si_range1 rfl T.b_range (sa_cons (se_bin op_mod ab_mod (se_v 2) (se_v 3)) sa_nil)) (sg_name 4 nd)
    (ss_cons (ss_set 6 nd (se_bin op_mod ab_mod (se_callS tk.c ((ok_law_next T).s T.h_law_next) (hr.mono (by decide)) rfl (sa_cons (se_v 0) sa_nil) (aLen_cons aLen_nil)) (se_callB (call_min2 rfl) (ab_i2 _) rfl T.b_min bt_min (sa_cons se_int (sa_cons (se_v 3) sa_nil)))))
    (ss_cons (ss_set 7 nd (se_ix (fun _ _ => rfl) (se_lst false (sa_cons se_str (sa_cons se_str (sa_cons se_str (sa_cons se_str (sa_cons se_str (sa_cons se_str sa_nil))))))) (se_v 4)))
    (ss_one (ss_expr (se_ml PySem.F.slot_list_append PySem.F.type_list_append mt_append ab_app (se_v 1) (sa_cons (se_tup (sa_cons (se_v 7) (sa_cons (se_v 6) (sa_cons (se_callS tk.c ((ok_law_body T).s T.h_law_body) (hr.mono (by decide)) rfl (sa_cons (se_v 0) (sa_cons se_int (sa_cons se_bl (sa_cons (se_v 6) (sa_cons (se_v 1) sa_nil))))) (aLen_cons (aLen_cons (aLen_cons (aLen_cons (aLen_cons aLen_nil)))))) sa_nil)))) sa_nil)))))))
    (ss_cons (ss_set 5 nd (se_tup sa_nil))
    (ss_cons (ss_while fuel po (sw_st (sw_and (st_cmp op_gt (ab_cmp _) (nomark _) (se_callB call_len ab_len rfl T.b_len bt_len (sa_cons (se_v 0) sa_nil)) se_int) (sw_and1 (st_cmp op_lt (ab_cmp _) (nomark _) (se_callB call_len ab_len rfl T.b_len bt_len (sa_cons (se_v 5) sa_nil)) se_int))))
    (ss_one (ss_set 5 nd (se_bin op_addA (ab_add false) (se_v 5) (se_callS tk.c ((ok_law_body T).s T.h_law_body) (hr.mono (by decide)) rfl (sa_cons (se_v 0) (sa_cons se_int (sa_cons se_bl (sa_cons se_int (sa_cons (se_v 1) sa_nil))))) (aLen_cons (aLen_cons (aLen_cons (aLen_cons (aLen_cons aLen_nil))))))))))
    (ss_one (ss_ret (se_tup (sa_cons (se_callTy call_tuple_of ab_tuple rfl T.b_tuple bt_tuple (sa_cons (se_v 1) sa_nil)) (sa_cons (se_v 5) sa_nil)))))))))))
theorem ok_law_ran (T : Txt K mg) : FnA P w K mg base 157 "_law_ran" s_law_ran ["_law_program_here", "_law_most_here"] F_law_ran :=
  fn_priv (N := N_law_ran) (k := 156) (B := B_law_ran) sc_law_ran fun f cdv A outer s H E hr tk po => by
    have nd := sc_law_ran.nd
    exact (ss_cons (ss_set 2 nd se_str)
    (ss_cons (ss_set 3 nd se_non)
    (ss_cons (ss_try rfl rfl tk T.mt (fun _ _ _ tk2 po2 => (ss_one (ss_set 3 nd (se_callS tk2.c ((ok_run T).s T.h_run) (hr.mono (by decide)) rfl (sa_cons (se_v 0) (sa_cons (se_v 1) sa_nil)) (aLen_cons (aLen_cons aLen_nil)))))) (.cons rfl (by decide) T.x_NoMark (fun _ _ => (ss_one (ss_set 2 nd se_str))) (.cons rfl (by decide) T.x_TooGreat (fun _ _ => (ss_one (ss_set 2 nd se_str))) .nil)))
    (ss_one (ss_ret (se_fz (se_lst false (sa_cons (se_v 2) (sa_cons (se_fz (se_v 3)) sa_nil)))))))))
theorem ok_law_scaled (T : Txt K mg) : FnA P w K mg base 1 "_law_scaled" s_law_scaled ["_law_place", "_law_factor"] F_law_scaled :=
  fn_priv (N := N_law_scaled) (k := 0) (B := B_law_scaled) sc_law_scaled fun f cdv A outer s H E hr tk po => by
    have nd := sc_law_scaled.nd
    exact (ss_one (ss_ret (se_callTy call_tuple_of ab_tuple rfl T.b_tuple bt_tuple (sa_cons (se_lc false [("_law_number", 2)] rfl nd rfl (by decide) (si_seq (se_v 0)) (blkOk_by (N := N_law_scaled) (sc := defScope s_law_scaled) (own := [("_law_number", 2)]) (by decide +kernel)) (fun _ _ _ _ _ => (sg_name 2 nd)) (fun _ _ _ _ _ => sts_nil) (fun _ _ _ _ _ => (se_tup (sa_cons (se_bin op_mulA ab_mul (se_ix (fun _ _ => rfl) (se_v 2) se_int) (se_v 1)) (sa_cons (se_bin op_mulA ab_mul (se_ix (fun _ _ => rfl) (se_v 2) se_int) (se_v 1)) sa_nil))))) sa_nil))))
theorem ok_law_most (T : Txt K mg) : FnA P w K mg base 1 "_law_most" s_law_most ["_law_ran_here", "_law_free", "_law_many"] F_law_most :=
  fn_priv (N := N_law_most) (k := 0) (B := B_law_most) sc_law_most fun f cdv A outer s H E hr tk po => by
    have nd := sc_law_most.nd
    exact (ss_cons (ss_if (sw_st (sw_or (st_cmp (op_neA hr.units) ab_ne (nomark _) (se_ix (fun _ _ => rfl) (se_v 0) se_int) se_str) (sw_or1 (st_cmp (op_eqA hr.units) ab_eq (nomark _) (se_v 1) se_int))))
    (ss_one (ss_ret (se_ix (fun _ _ => rfl) (se_lst false (sa_cons se_int (sa_cons se_int sa_nil))) (se_callTy call_int1 ab_intOf rfl T.b_int bt_int (sa_cons (se_cmp op_gt (ab_cmp _) (nomark _) (se_v 2) se_int) sa_nil)))))
    ss_nil)
    (ss_cons (ss_set 3 nd (se_callTy (gh_call call_list_of) (ab_list false) rfl T.b_list bt_list (sa_cons (se_ix (fun _ _ => rfl) (se_ix (fun _ _ => rfl) (se_v 0) se_int) se_int) sa_nil)))
    (ss_cons (ss_set 4 nd se_int)
    (ss_cons (ss_for po rfl (si_zip rfl T.b_zip (sa_cons (se_sl false (se_v 3) so_no (so_so (se_neg se_int))) (sa_cons (se_sl false (se_v 3) (so_so se_int) so_no) sa_nil))) (sg_tup rfl (sgs_cons (sg_name 5 nd) (sgs_cons (sg_name 6 nd) sgs_nil)))
    (ss_one (ss_for po rfl (si_zip rfl T.b_zip (sa_cons (se_v 5) (sa_cons (se_v 6) sa_nil))) (sg_tup rfl (sgs_cons (sg_name 7 nd) (sgs_cons (sg_name 8 nd) sgs_nil)))
    (ss_one (ss_set 4 nd (se_callB (call_max3Nu rfl) ab_max3 rfl T.b_max bt_max (sa_cons (se_v 4) (sa_cons (se_callB call_abs (ab_i1 _) rfl T.b_abs bt_abs (sa_cons (se_bin op_sub ab_sub (se_ix (fun _ _ => rfl) (se_v 8) se_int) (se_ix (fun _ _ => rfl) (se_v 7) se_int)) sa_nil)) (sa_cons (se_callB call_abs (ab_i1 _) rfl T.b_abs bt_abs (sa_cons (se_bin op_sub ab_sub (se_ix (fun _ _ => rfl) (se_v 8) se_int) (se_ix (fun _ _ => rfl) (se_v 7) se_int)) sa_nil)) sa_nil)))))))))
    (ss_one (ss_ret (se_callB (call_max2 rfl) (ab_i2 _) rfl T.b_max bt_max (sa_cons se_int (sa_cons (se_callB (call_min2 rfl) (ab_i2 _) rfl T.b_min bt_min (sa_cons se_int (sa_cons (se_bin op_fdivA ab_fdiv (se_bin op_pow ab_pow se_int se_int) (se_v 4)) sa_nil))) sa_nil)))))))))
theorem ok_law (T : Txt K mg) : FnA P w K mg base 158 "law" s_law ["_law_script"] F_law :=
  fn_priv (N := N_law) (k := 157) (B := B_law) sc_law fun f cdv A outer s H E hr tk po => by
    have nd := sc_law.nd
    exact (ss_cons (ss_set 1 nd (se_callS tk.c ((ok_law_program T).s T.h_law_program) (hr.mono (by decide)) rfl (sa_cons (se_callS tk.c ((ok_law_deck T).s T.h_law_deck) (hr.mono (by decide)) rfl (sa_cons (se_v 0) (sa_cons se_int sa_nil)) (aLen_cons (aLen_cons aLen_nil))) sa_nil) (aLen_cons aLen_nil)))
    (ss_cons (ss_set 2 nd (se_bin op_mod ab_mod (se_call tk.c ((ok_law_cell T).p T.h_law_cell) (hr.mono (by decide)) rfl (sa_cons (se_v 0) (sa_cons se_int sa_nil)) (aLen_cons (aLen_cons aLen_nil))) se_int))
    (ss_cons (ss_set 3 nd (se_call tk.c ((ok_law_ran T).p T.h_law_ran) (hr.mono (by decide)) rfl (sa_cons (se_v 1) (sa_cons (se_v 2) sa_nil)) (aLen_cons (aLen_cons aLen_nil))))
    (ss_cons (ss_set 4 nd (se_bin op_addA (ab_add false) se_int (se_bin op_mod ab_mod (se_bin op_fdivA ab_fdiv (se_call tk.c ((ok_law_cell T).p T.h_law_cell) (hr.mono (by decide)) rfl (sa_cons (se_v 0) (sa_cons se_int sa_nil)) (aLen_cons (aLen_cons aLen_nil))) se_int) (se_call tk.c ((ok_law_most T).p T.h_law_most) (hr.mono (by decide)) rfl (sa_cons (se_v 3) (sa_cons (se_bin op_mod ab_mod (se_bin op_fdivA ab_fdiv (se_call tk.c ((ok_law_cell T).p T.h_law_cell) (hr.mono (by decide)) rfl (sa_cons (se_v 0) (sa_cons se_int sa_nil)) (aLen_cons (aLen_cons aLen_nil))) se_int) se_int) (sa_cons (se_callB call_len ab_len rfl T.b_len bt_len (sa_cons (se_ix (fun _ _ => rfl) (se_v 1) se_int) sa_nil)) sa_nil))) (aLen_cons (aLen_cons (aLen_cons aLen_nil)))))))
    (ss_cons (ss_if (st_cmp (op_neA hr.units) ab_ne (nomark _) (se_call tk.c ((ok_larger T).p T.h_larger) (hr.mono (by decide)) rfl (sa_cons (se_v 1) (sa_cons se_int sa_nil)) (aLen_cons (aLen_cons aLen_nil))) (se_v 1))
    (ss_one (ss_ret se_bl))
    ss_nil)
    (ss_cons (ss_set 5 nd (se_call tk.c ((ok_law_ran T).p T.h_law_ran) (hr.mono (by decide)) rfl (sa_cons (se_call tk.c ((ok_larger T).p T.h_larger) (hr.mono (by decide)) rfl (sa_cons (se_v 1) (sa_cons (se_v 4) sa_nil)) (aLen_cons (aLen_cons aLen_nil))) (sa_cons (se_v 2) sa_nil)) (aLen_cons (aLen_cons aLen_nil))))
    (ss_cons (ss_if (sw_st (sw_or (st_cmp (op_neA hr.units) ab_ne (nomark _) (se_ix (fun _ _ => rfl) (se_v 3) se_int) (se_ix (fun _ _ => rfl) (se_v 5) se_int)) (sw_or1 (st_cmp (op_neA hr.units) ab_ne (nomark _) (se_ix (fun _ _ => rfl) (se_v 3) se_int) se_str))))
    (ss_one (ss_ret (se_cmp (op_eqA hr.units) ab_eq (nomark _) (se_ix (fun _ _ => rfl) (se_v 3) se_int) (se_ix (fun _ _ => rfl) (se_v 5) se_int))))
    ss_nil)
    (ss_cons (ss_asg (se_ix (fun _ _ => rfl) (se_v 3) se_int) (sg_tup rfl (sgs_cons (sg_name 8 nd) (sgs_cons (sg_name 9 nd) (sgs_cons (sg_name 10 nd) (sgs_cons (sg_name 11 nd) (sgs_cons (sg_name 12 nd) sgs_nil)))))))
    (ss_cons (ss_setLc false 6 (sw_true rfl rfl rfl (by decide +kernel)) [("_law_ink", 13), ("_law_begin", 14), ("_law_last", 7)] rfl nd rfl (by decide) (si_seq (se_v 8)) (blkOk_by (N := N_law) (sc := defScope s_law) (own := [("_law_ink", 13), ("_law_begin", 14), ("_law_last", 7)]) (by decide +kernel)) (fun _ _ _ _ _ => (sg_tup rfl (sgs_cons (sg_name 13 nd) (sgs_cons (sg_name 14 nd) (sgs_cons (sg_name 7 nd) sgs_nil))))) (fun _ _ _ _ _ => sts_nil) (fun _ _ _ _ _ => (se_tup (sa_cons (se_v 13) (sa_cons (se_call takes0.c ((ok_law_scaled T).p T.h_law_scaled) (hr.mono (by decide)) rfl (sa_cons (se_v 14) (sa_cons (se_v 4) sa_nil)) (aLen_cons (aLen_cons aLen_nil))) (sa_cons (se_call takes0.c ((ok_law_scaled T).p T.h_law_scaled) (hr.mono (by decide)) rfl (sa_cons (se_v 7) (sa_cons (se_v 4) sa_nil)) (aLen_cons (aLen_cons aLen_nil))) sa_nil))))))
    (ss_cons (ss_if (sw_st (sw_or (st_cmp (op_neA hr.units) ab_ne (nomark _) (se_callTy (gh_call call_list_of) (ab_list false) rfl T.b_list bt_list (sa_cons (se_ix (fun _ _ => rfl) (se_ix (fun _ _ => rfl) (se_v 5) se_int) se_int) sa_nil)) (se_v 6)) (sw_or1 (st_cmp (op_neA hr.units) ab_ne (nomark _) (se_callTy (gh_call call_list_of) (ab_list false) rfl T.b_list bt_list (sa_cons (se_ix (fun _ _ => rfl) (se_ix (fun _ _ => rfl) (se_v 5) se_int) se_int) sa_nil)) (se_lc false [("_law_place", 15)] rfl nd rfl (by decide) (si_seq (se_v 9)) (blkOk_by (N := N_law) (sc := defScope s_law) (own := [("_law_place", 15)]) (by decide +kernel)) (fun _ _ _ _ _ => (sg_name 15 nd)) (fun _ _ _ _ _ => sts_nil) (fun _ _ _ _ _ => (se_call takes0.c ((ok_law_scaled T).p T.h_law_scaled) (hr.mono (by decide)) rfl (sa_cons (se_v 15) (sa_cons (se_v 4) sa_nil)) (aLen_cons (aLen_cons aLen_nil)))))))))
    (ss_one (ss_ret se_bl))
    ss_nil)
    (ss_cons (ss_set 7 nd (se_bin op_addA (ab_add false) (se_tup (sa_cons (se_call tk.c ((ok_law_scaled T).p T.h_law_scaled) (hr.mono (by decide)) rfl (sa_cons (se_ix (fun _ _ => rfl) (se_v 10) se_int) (sa_cons (se_v 4) sa_nil)) (aLen_cons (aLen_cons aLen_nil))) sa_nil)) (se_sl false (se_v 10) (so_so se_int) so_no)))
    (ss_one (ss_ret (se_cmp (op_eqA hr.units) ab_eq (nomark _) (se_sl false (se_ix (fun _ _ => rfl) (se_v 5) se_int) (so_so se_int) so_no) (se_tup (sa_cons (se_v 7) (sa_cons (se_v 11) (sa_cons (se_v 12) sa_nil))))))))))))))))))
end
end Lw

namespace Lw
open PySem L2 Wk
theorem deed_ev {n : Nat} {x : Hd} {h : Sto} (s : HS n x h) : F_Hand_deed [.ref n] h = if x.rest ≤ 0 then .exc "Stopped" h else .ok (.d .none) (hset n x.less h) := by
  unfold F_Hand_deed B_Hand_deed
  rw [sfOf_ap]
  by_cases hr : x.rest ≤ 0
  · simp [s.o, hr]
  · simp [s.o, hr]
    exact hset_o s rfl rfl rfl rfl
theorem turn_ev {n : Nat} {x : Hd} {h : Sto} (s : HS n x h) (e : Int) : F_Hand_turn [.ref n, .d (.int e)] h = .ok (.d .none) (hset n { x with turns := x.turns + e, heading := (x.heading + e) % 8 } h) := by
  obtain ⟨i0, i1, i2, i3, i4⟩ := s.i
  unfold F_Hand_turn B_Hand_turn
  rw [sfOf_ap]
  simp [s.o, i0]
  exact hset_o s rfl rfl rfl rfl
theorem state_ev {n : Nat} {x : Hd} {h : Sto} (s : HS n x h) : F_Hand_state [.ref n] h = .ok (.d (.tuple [x.spot.e, .int x.heading, .bool x.down, .int x.ink])) h := by
  unfold F_Hand_state B_Hand_state
  rw [sfOf_ap]
  simp [s.o]
theorem moved_ev' (p : P4) (h s : Int) (h0 : 0 ≤ h) (h1 : h < 8) : F_moved [p.e, .int h, .int s] = .ok (mv h s p).e := moved_ev p h s h0 h1
theorem go_ev {n : Nat} {x : Hd} {h : Sto} (s : HS n x h) (t : Int) (h0 : 0 ≤ x.heading) (h1 : x.heading < 8) (l1 : x.strokes.length < 100000) (l2 : x.corners.length < 100000) :
    F_Hand_go [.ref n, .d (.int t)] h = .ok (.d .none) (hset n { x with spot := mv x.heading t x.spot, strokes := if x.down = true ∧ t ≠ 0 then x.strokes ++ [.tuple [.int x.ink, x.spot.e, (mv x.heading t x.spot).e]] else x.strokes, corners := x.corners ++ [(mv x.heading t x.spot).e] } h) := by
  obtain ⟨i0, i1, i2, i3, i4⟩ := s.i
  have hl := s.lt
  have em := moved_ev' x.spot x.heading t h0 h1
  have f1 : fits (x.strokes.length + 1) = true := fits_of (by omega)
  have f2 : fits (x.corners.length + 1) = true := fits_of (by omega)
  unfold F_Hand_go B_Hand_go
  rw [sfOf_ap]
  by_cases hd : x.down = true
  · by_cases ht : t = 0
    · subst ht
      simp [s.o, em, hd, s.c, f2, i0]
      refine hset_is hl ⟨?_, ?_, ?_, ?_, ?_⟩ fun i h0 h1 h2 h3 h4 => ?_ <;> first | (simp [i0, i1, i2, i3, i4, s.m, s.s, s.p, s.o, s.c, Ne.symm h0, Ne.symm h1, Ne.symm h2, Ne.symm h3, Ne.symm h4]; done) | (simp [i0, i1, i2, i3, i4, s.m, s.s, s.p, s.o, s.c]; done) | (simp [i0, i1, i2, i3, i4, s.m, s.s, s.p, s.o, s.c]; rfl)
    · simp [s.o, em, hd, ht, s.c, s.s, f1, f2, i0, i2]
      refine hset_is hl ⟨?_, ?_, ?_, ?_, ?_⟩ fun i h0 h1 h2 h3 h4 => ?_ <;> first | (simp [i0, i1, i2, i3, i4, s.m, s.s, s.p, s.o, s.c, Ne.symm h0, Ne.symm h1, Ne.symm h2, Ne.symm h3, Ne.symm h4]; done) | (simp [i0, i1, i2, i3, i4, s.m, s.s, s.p, s.o, s.c]; done) | (simp [i0, i1, i2, i3, i4, s.m, s.s, s.p, s.o, s.c]; rfl)
  · simp [s.o, em, hd, s.c, f2, i0]
    refine hset_is hl ⟨?_, ?_, ?_, ?_, ?_⟩ fun i h0 h1 h2 h3 h4 => ?_ <;> first | (simp [i0, i1, i2, i3, i4, s.m, s.s, s.p, s.o, s.c, Ne.symm h0, Ne.symm h1, Ne.symm h2, Ne.symm h3, Ne.symm h4]; done) | (simp [i0, i1, i2, i3, i4, s.m, s.s, s.p, s.o, s.c]; done) | (simp [i0, i1, i2, i3, i4, s.m, s.s, s.p, s.o, s.c]; rfl)
theorem fits' {n : Nat} (h : n < 100000) : fits (n + 1) = true := fits_of (by omega)
theorem value_int (c : Nat) (v : Int) (h : Sto) : F_Call_value [.ref c, .d (.int v)] h = if v.natAbs ≤ 1000000 then .ok (.d (.int v)) h else .exc "TooGreat" h := by
  unfold F_Call_value B_Call_value c_MOST_AMOUNT
  rw [sfOf_ap]
  by_cases hv : v.natAbs ≤ 1000000
  · have : ¬ 1000000 < (if v < 0 then -v else v) := by split <;> omega
    simp [isTy, hv, this]
  · have : 1000000 < (if v < 0 then -v else v) := by split <;> omega
    simp [isTy, hv, this]
theorem simple_ev {n : Nat} {x : Hd} {h : Sto} (s : HS n x h) (k : Smp) (ok : x.ok 100000) : F_do_simple [.ref n, .d (.str k.verb), .d (.int k.val)] h = .ok (.d .none) (hset n (k.act x) h) := by
  obtain ⟨i0, i1, i2, i3, i4⟩ := s.i
  obtain ⟨h0, h1, l1, l2, l3⟩ := ok
  have d1 : decide (("turn" : Str) = "go") = false := by decide
  have d2 : decide (("ink" : Str) = "go") = false := by decide
  have d3 : decide (("ink" : Str) = "turn") = false := by decide
  have d4 : decide (("up" : Str) = "go") = false := by decide
  have d5 : decide (("up" : Str) = "turn") = false := by decide
  have d6 : decide (("up" : Str) = "ink") = false := by decide
  have d7 : decide (("down" : Str) = "go") = false := by decide
  have d8 : decide (("down" : Str) = "turn") = false := by decide
  have d9 : decide (("down" : Str) = "ink") = false := by decide
  have d0 : decide (("down" : Str) = "up") = false := by decide
  simp only [decide_eq_false_iff_not] at d1 d2 d3 d4 d5 d6 d7 d8 d9 d0
  unfold F_do_simple B_do_simple
  rw [sfOf_ap]
  cases k with
  | go v => simp [Smp.verb, Smp.val, Smp.act, s.o, go_ev s v h0 h1 l1 l2]
  | turn v => simp [Smp.verb, Smp.val, Smp.act, s.o, turn_ev s v, d1]
  | ink v =>
    simp [Smp.verb, Smp.val, Smp.act, s.o, d2, d3]
    exact hset_o s rfl rfl rfl rfl
  | up =>
    simp [Smp.verb, Smp.val, Smp.act, s.o, d4, d5, d6]
    exact hset_o s rfl rfl rfl rfl
  | down =>
    simp [Smp.verb, Smp.val, Smp.act, s.o, d7, d8, d9, d0]
    exact hset_o s rfl rfl rfl rfl
/-- note, then do -/
theorem note_ev {n : Nat} {x : Hd} {h : Sto} (s : HS n x h) (k : Smp) (l : x.plain.length < 100000) : fApp (.ref (n + 4)) [.d (.tuple [.str k.verb, .int k.val, x.st])] h = .ok (.d .none) (hset n (x.noted k) h) := by
  obtain ⟨i0, i1, i2, i3, i4⟩ := s.i
  rw [ev_app, s.p]
  simp only [fits' l, if_true]
  congr 1
  refine hset_is s.lt ⟨?_, ?_, ?_, ?_, ?_⟩ fun i h0 h1 h2 h3 h4 => ?_
  · simp [s.o]; rfl
  · simp [s.m, Hd.noted]
  · simp [s.s, Hd.noted]
  · simp [s.c, Hd.noted]
  · simp [i4, Hd.noted]
  · simp [Ne.symm h4]
theorem statement_ev (R : Nat → SF) {n c : Nat} {x : Hd} {h : Sto} {w : U} {ns : List D} {kk : D} (s : HS n x h) (hc : h[c]? = some (.ins "Call" (cfs w ns kk))) (c1 : c < n ∨ n + 4 < c) (k : Smp) (sm : k.small) (ok : x.ok 99999) :
    sfOf 5 (B_do_statement R) [.ref n, .d k.e, .ref c] h = if x.rest ≤ 0 then .exc "Stopped" h else .ok (.d .none) (hset n (k.done x) h) := by
  rw [sfOf_ap]
  unfold B_do_statement
  have hd := deed_ev s
  by_cases hr : x.rest ≤ 0
  · rw [if_pos hr] at hd ⊢
    simp [s.o, hd]
  · rw [if_neg hr] at hd ⊢
    have s1 : HS n x.less (hset n x.less h) := s.set
    have hc1 : (hset n x.less h)[c]? = some (.ins "Call" (cfs w ns kk)) := by
      rw [hset_get s.lt, if_neg (by omega), if_neg (by omega), if_neg (by omega), if_neg (by omega), if_neg (by omega)]
      exact hc
    have hst := state_ev s1
    have hn := note_ev s1 k (by have := ok.2.2.2.2; show x.plain.length < _; omega)
    have s2 : HS n (x.less.noted k) (hset n (x.less.noted k) (hset n x.less h)) := s1.set
    have hsi := simple_ev s2 k ⟨ok.1, ok.2.1, by have := ok.2.2.1; show x.strokes.length < _; omega, by have := ok.2.2.2.1; show x.corners.length < _; omega, by have := ok.2.2.2.2; show (x.plain ++ _).length < _; simp; omega⟩
    rw [hset3 s.lt] at hsi
    have d1 : ¬ ("go" : Str) = "again" := by decide
    have d2 : ¬ ("go" : Str) = "if" := by decide
    have d3 : ¬ ("go" : Str) = "do" := by decide
    have d4 : ¬ ("go" : Str) = "up" := by decide
    have d5 : ¬ ("go" : Str) = "down" := by decide
    have e1 : ¬ ("turn" : Str) = "again" := by decide
    have e2 : ¬ ("turn" : Str) = "if" := by decide
    have e3 : ¬ ("turn" : Str) = "do" := by decide
    have e4 : ¬ ("turn" : Str) = "up" := by decide
    have e5 : ¬ ("turn" : Str) = "down" := by decide
    have f1 : ¬ ("ink" : Str) = "again" := by decide
    have f2 : ¬ ("ink" : Str) = "if" := by decide
    have f3 : ¬ ("ink" : Str) = "do" := by decide
    have f4 : ¬ ("ink" : Str) = "up" := by decide
    have f5 : ¬ ("ink" : Str) = "down" := by decide
    have g1 : ¬ ("up" : Str) = "again" := by decide
    have g2 : ¬ ("up" : Str) = "if" := by decide
    have g3 : ¬ ("up" : Str) = "do" := by decide
    have j1 : ¬ ("down" : Str) = "again" := by decide
    have j2 : ¬ ("down" : Str) = "if" := by decide
    have j3 : ¬ ("down" : Str) = "do" := by decide
    have j4 : ¬ ("down" : Str) = "up" := by decide
    have lp := s1.o
    unfold Hd.st at hn
    cases k with
    | go v =>
      have hv := value_int c v (hset n x.less h)
      rw [if_pos (show v.natAbs ≤ 1000000 from sm)] at hv
      simp only [Smp.verb, Smp.val] at hn hsi
      simp [-ev_app, Smp.e, s.o, hd, d1, d2, d3, d4, d5, hc1, lc_value, hv, lp, s1.p, hst, hn, hsi, Smp.done]
    | turn v =>
      have hv := value_int c v (hset n x.less h)
      rw [if_pos (show v.natAbs ≤ 1000000 from sm)] at hv
      simp only [Smp.verb, Smp.val] at hn hsi
      simp [-ev_app, Smp.e, s.o, hd, e1, e2, e3, e4, e5, hc1, lc_value, hv, lp, s1.p, hst, hn, hsi, Smp.done]
    | ink v =>
      have hv := value_int c v (hset n x.less h)
      rw [if_pos (show v.natAbs ≤ 1000000 from sm)] at hv
      simp only [Smp.verb, Smp.val] at hn hsi
      simp [-ev_app, Smp.e, s.o, hd, f1, f2, f3, f4, f5, hc1, lc_value, hv, lp, s1.p, hst, hn, hsi, Smp.done]
    | up =>
      simp only [Smp.verb, Smp.val] at hn hsi
      simp [-ev_app, Smp.e, s.o, hd, g1, g2, g3, lp, s1.p, hst, hn, hsi, Smp.done]
    | down =>
      simp only [Smp.verb, Smp.val] at hn hsi
      simp [-ev_app, Smp.e, s.o, hd, j1, j2, j3, j4, lp, s1.p, hst, hn, hsi, Smp.done]
theorem body_loop (R : Nat → SF) (R' : Nat → SF) (hR : R 2 = sfOf 5 (B_do_statement R')) {n c : Nat} {w : U} {ns : List D} {kk : D} (c1 : c < n ∨ n + 4 < c) (b1 : Option U) : ∀ (l : List Smp) (x : Hd) (h : Sto) (y3 : Option U) (b : Nat), HS n x h → h[c]? = some (.ins "Call" (cfs w ns kk)) → (∀ k ∈ l, k.small) → x.ok b → b + l.length ≤ 99999 →
    ∃ y3', forGo (gN 3) (L_do_body_0 R) (l.map fun k => U.d k.e) [some (.ref n), b1, some (.ref c), y3] h = if (wk l x).2 then .next [some (.ref n), b1, some (.ref c), y3'] (hset n (wk l x).1 h) else .exc "Stopped" [some (.ref n), b1, some (.ref c), y3'] (hset n (wk l x).1 h)
  | [], x, h, y3, b, s, _, _, _, _ => ⟨y3, by simp [wk, s.self]⟩
  | k :: r, x, h, y3, b, s, hc, sm, ok, hb => by
    have st := statement_ev R' s hc c1 k (sm k List.mem_cons_self) (show x.ok 99999 from ⟨ok.1, ok.2.1, by have := ok.2.2.1; simp at hb; omega, by have := ok.2.2.2.1; simp at hb; omega, by have := ok.2.2.2.2; simp at hb; omega⟩)
    rw [List.map_cons, ev_forC]
    simp only [ev_gN, List.set_cons_succ, List.set_cons_zero]
    by_cases hr : x.rest ≤ 0
    · rw [if_pos hr] at st
      refine ⟨some (.d k.e), ?_⟩
      have el : L_do_body_0 R [some (.ref n), b1, some (.ref c), some (.d k.e)] h = .exc "Stopped" [some (.ref n), b1, some (.ref c), some (.d k.e)] h := by
        unfold L_do_body_0
        simp [hR, st]
      rw [el]
      simp [wk, hr, s.self]
    · rw [if_neg hr] at st
      have el : L_do_body_0 R [some (.ref n), b1, some (.ref c), some (.d k.e)] h = .next [some (.ref n), b1, some (.ref c), some (.d k.e)] (hset n (k.done x) h) := by
        unfold L_do_body_0
        simp [hR, st]
      obtain ⟨y3', ih⟩ := body_loop R R' hR c1 b1 r (k.done x) (hset n (k.done x) h) (some (.d k.e)) (b + 1) s.set (by
        rw [hset_get s.lt, if_neg (by omega), if_neg (by omega), if_neg (by omega), if_neg (by omega), if_neg (by omega)]
        exact hc) (fun z hz => sm z (List.mem_cons_of_mem _ hz)) (done_ok ok) (by simp at hb; omega)
      refine ⟨y3', ?_⟩
      rw [el]
      simp only [SRes.seq_next]
      rw [ih, hset_hset s.lt]
      simp [wk, hr]
theorem do_body_ev {n c : Nat} {w : U} {ns : List D} {kk : D} (c1 : c < n ∨ n + 4 < c) (l : List Smp) {x : Hd} {h : Sto} (s : HS n x h) (hc : h[c]? = some (.ins "Call" (cfs w ns kk))) (sm : ∀ k ∈ l, k.small) (ok : x.ok 10000) (hl : l.length ≤ 80000) :
    F_do_body [.ref n, .d (.tuple (l.map Smp.e)), .ref c] h = if (wk l x).2 then .ok (.d .none) (hset n (wk l x).1 h) else .exc "Stopped" (hset n (wk l x).1 h) := by
  have e : F_do_body = sfOf 4 (B_do_body (Rec_do_again 149)) := rfl
  obtain ⟨y3', ih⟩ := body_loop (Rec_do_again 149) (Rec_do_again 148) rfl c1 (some (.d (.tuple (l.map Smp.e)))) l x h none 10000 s hc sm ok (by omega)
  rw [e, sfOf_ap]
  unfold B_do_body
  have hm : (l.map Smp.e).map U.d = l.map fun k => U.d k.e := by rw [List.map_map]; rfl
  simp only [List.map_cons, List.map_nil, List.length_cons, List.length_nil, List.cons_append, List.nil_append]
  simp only [ev_For, ev_iSeq, ev_V, List.getElem?_cons_succ, List.getElem?_cons_zero, Res.bind_ok, hm, Res.then_ok]
  rw [show (List.replicate (4 - (0 + 1 + 1 + 1)) none : List (Option U)) = [none] from rfl, ih]
  cases (wk l x).2 <;> rfl
theorem ag0 (h t : Sto) : (h ++ t)[h.length]? = t[0]? := by rw [List.getElem?_append_right (Nat.le_refl _), Nat.sub_self]
theorem as0 (h t : Sto) (a : Ob) : (h ++ t).set h.length a = h ++ t.set 0 a := by rw [List.set_append_right _ _ (Nat.le_refl _), Nat.sub_self]
theorem init_ev (most : Int) (h : Sto) : F_Hand__init [.ref h.length, .d (.int most)] (h ++ [.ins "Hand" []]) = .ok (.d .none) (h ++ hb h.length (hd0 most)) := by
  unfold F_Hand__init B_Hand__init c_BEGINNING
  rw [sfOf_ap]
  have q : ∀ (f g : Str), decide (f = g) = false → ¬ f = g := fun f g e => of_decide_eq_false e
  simp [ag0, as0, putG, List.append_assoc, q "spot" "heading" (by decide), q "spot" "is_down" (by decide), q "spot" "ink" (by decide), q "spot" "marks" (by decide), q "spot" "strokes" (by decide), q "spot" "corners" (by decide), q "spot" "turns" (by decide), q "spot" "rest" (by decide), q "spot" "plain" (by decide),
    q "heading" "is_down" (by decide), q "heading" "ink" (by decide), q "heading" "marks" (by decide), q "heading" "strokes" (by decide), q "heading" "corners" (by decide), q "heading" "turns" (by decide), q "heading" "rest" (by decide), q "heading" "plain" (by decide),
    q "is_down" "ink" (by decide), q "is_down" "marks" (by decide), q "is_down" "strokes" (by decide), q "is_down" "corners" (by decide), q "is_down" "turns" (by decide), q "is_down" "rest" (by decide), q "is_down" "plain" (by decide),
    q "ink" "marks" (by decide), q "ink" "strokes" (by decide), q "ink" "corners" (by decide), q "ink" "turns" (by decide), q "ink" "rest" (by decide), q "ink" "plain" (by decide),
    q "marks" "strokes" (by decide), q "marks" "corners" (by decide), q "marks" "turns" (by decide), q "marks" "rest" (by decide), q "marks" "plain" (by decide),
    q "strokes" "corners" (by decide), q "strokes" "turns" (by decide), q "strokes" "rest" (by decide), q "strokes" "plain" (by decide),
    q "corners" "turns" (by decide), q "corners" "rest" (by decide), q "corners" "plain" (by decide), q "turns" "rest" (by decide), q "turns" "plain" (by decide), q "rest" "plain" (by decide)]
  rfl
theorem cinit_ev (w : U) (ns : List D) (k : D) (h : Sto) : F_Call__init [.ref h.length, w, .d (.list ns), .d k] (h ++ [.ins "Call" []]) = .ok (.d .none) (h ++ [.ins "Call" (cfs w ns k)]) := by
  unfold F_Call__init B_Call__init
  rw [sfOf_ap]
  have q : ∀ (f g : Str), decide (f = g) = false → ¬ f = g := fun f g e => of_decide_eq_false e
  simp [ag0, as0, putG, List.append_assoc, q "words" "numbers" (by decide), q "words" "count" (by decide), q "numbers" "count" (by decide)]
  rfl
/-- the hand behind a plain body -/
theorem behind_ev (l : List Smp) (most : Int) (h : Sto) (sm : ∀ k ∈ l, k.small) (hl : l.length ≤ 80000) : ∃ t, F_hand_behind [.d (.tuple [.tuple [], .tuple (l.map Smp.e)]), .d (.int most)] h = .ok (.tup [.ref (h.length + 1), .d (.bool (wk l (hd0 most)).2)]) ((h ++ [.dct []]) ++ (hb (h.length + 1) (wk l (hd0 most)).1 ++ t)) := by
  have e1 := init_ev most (h ++ [.dct []])
  have e2 := cinit_ev (.ref h.length) [] (.int 0) ((h ++ [.dct []]) ++ hb (h.length + 1) (hd0 most))
  have hlen : (h ++ [Ob.dct []]).length = h.length + 1 := by simp
  rw [hlen] at e1
  have hlen2 : ((h ++ [Ob.dct []]) ++ hb (h.length + 1) (hd0 most)).length = h.length + 6 := by simp [hb]
  rw [hlen2] at e2
  have s := hb_HS (h ++ [Ob.dct []]) [.ins "Call" (cfs (.ref h.length) [] (.int 0))] (hd0 most)
  rw [hlen] at s
  have hc : ((h ++ [Ob.dct []]) ++ (hb (h.length + 1) (hd0 most) ++ [.ins "Call" (cfs (.ref h.length) [] (.int 0))]))[h.length + 6]? = some (.ins "Call" (cfs (.ref h.length) [] (.int 0))) := by
    rw [← List.append_assoc]
    have := ag0 ((h ++ [Ob.dct []]) ++ hb (h.length + 1) (hd0 most)) [.ins "Call" (cfs (.ref h.length) [] (.int 0))]
    rw [hlen2] at this
    exact this
  have eb := do_body_ev (.inr (by omega)) l s hc sm (by unfold Hd.ok hd0; simp) hl
  have hs := hset_hb (h ++ [Ob.dct []]) [.ins "Call" (cfs (.ref h.length) [] (.int 0))] (hd0 most) (wk l (hd0 most)).1
  rw [hlen] at hs
  rw [hs] at eb
  refine ⟨[.ins "Call" (cfs (.ref h.length) [] (.int 0))], ?_⟩
  rw [← List.append_assoc (h ++ [Ob.dct []]) (hb (h.length + 1) (hd0 most))] at eb
  have hbl : ∀ n x, (hb n x).length = 5 := fun _ _ => rfl
  have hex : exm "Stopped" "Stopped" = some true := by with_unfolding_all rfl
  unfold F_hand_behind B_hand_behind
  rw [sfOf_ap]
  cases hw : (wk l (hd0 most)).2 with
  | true =>
    rw [hw] at eb
    simp only [if_true] at eb
    have ey : ∀ e1 e4 e5 e6 e7 : Option U, Y_hand_behind_1 [some (.d (.tuple [.tuple [], .tuple (l.map Smp.e)])), e1, some (.ref h.length), some (.ref (h.length + 1)), e4, e5, e6, e7] (h ++ [.dct []] ++ hb (h.length + 1) (hd0 most)) = .next [some (.d (.tuple [.tuple [], .tuple (l.map Smp.e)])), e1, some (.ref h.length), some (.ref (h.length + 1)), e4, e5, e6, e7] (h ++ [.dct []] ++ (hb (h.length + 1) (wk l (hd0 most)).1 ++ [.ins "Call" (cfs (.ref h.length) [] (.int 0))])) := fun e1 e4 e5 e6 e7 => by
      unfold Y_hand_behind_1
      simp [-List.append_assoc, hbl, e2, eb]
    simp [-List.append_assoc, e1, sTry, ey]
  | false =>
    rw [hw] at eb
    simp only [Bool.false_eq_true, if_false] at eb
    have ey : ∀ e1 e4 e5 e6 e7 : Option U, Y_hand_behind_1 [some (.d (.tuple [.tuple [], .tuple (l.map Smp.e)])), e1, some (.ref h.length), some (.ref (h.length + 1)), e4, e5, e6, e7] (h ++ [.dct []] ++ hb (h.length + 1) (hd0 most)) = .exc "Stopped" [some (.d (.tuple [.tuple [], .tuple (l.map Smp.e)])), e1, some (.ref h.length), some (.ref (h.length + 1)), e4, e5, e6, e7] (h ++ [.dct []] ++ (hb (h.length + 1) (wk l (hd0 most)).1 ++ [.ins "Call" (cfs (.ref h.length) [] (.int 0))])) := fun e1 e4 e5 e6 e7 => by
      unfold Y_hand_behind_1
      simp [-List.append_assoc, hbl, e2, eb]
    simp [-List.append_assoc, e1, sTry, ey, tryGo, hex, SRes.noEx]
theorem run_ev (l : List Smp) (most : Int) (h : Sto) (sm : ∀ k ∈ l, k.small) (hl : l.length ≤ 80000) : ∃ t, F_run [.d (.tuple [.tuple [], .tuple (l.map Smp.e)]), .d (.int most)] h =
    .ok (.tup [.ref (h.length + 1 + 2), .ref (h.length + 1 + 3), .d (wk l (hd0 most)).1.st, .d (.int (wk l (hd0 most)).1.turns), .d (.bool (wk l (hd0 most)).2)]) ((h ++ [.dct []]) ++ (hb (h.length + 1) (wk l (hd0 most)).1 ++ t)) := by
  obtain ⟨t, e⟩ := behind_ev l most h sm hl
  have s := hb_HS (h ++ [Ob.dct []]) t (wk l (hd0 most)).1
  have hlen : (h ++ [Ob.dct []]).length = h.length + 1 := by simp
  rw [hlen] at s
  refine ⟨t, ?_⟩
  have hst := state_ev s
  have ho := s.o
  generalize (wk l (hd0 most)).1 = x at *
  generalize h ++ [Ob.dct []] ++ (hb (h.length + 1) x ++ t) = h2 at *
  unfold F_run B_run
  rw [sfOf_ap]
  have it : ∀ (u w : U) (h : Sto), itemsOf h (.tup [u, w]) = some [u, w] := fun _ _ _ => rfl
  simp [e, it, ho, hst, Hd.st]
theorem sl_s (z w : Str) (h : Sto) (l : z.length = 2) (e : cutS z (some 1) none = w) : opSl false (.d (.str z)) (some 1) none h = .ok (.d (.str w)) h := by
  show (if fits z.length then _ else _ : Res U) = _
  rw [fits_of (by rw [l]; decide), e]
  rfl
theorem fx_s (z : Str) (i : Int) (h : Sto) (l : z.length ≤ 640) (e : PySem.intText? z = some i) : fIntX [.d (.str z)] h = .ok (.d (.int i)) h := by
  show (match PySem.intText? z with | some n => if z.length ≤ 640 then .ok (.d (.int n)) h else .stuck | none => .stuck : Res U) = _
  rw [e]
  simp [l]
theorem src_cnt {c : Nat} {w : U} {ns : List D} {k : D} {h : Sto} (hc : h[c]? = some (.ins "Call" (cfs w ns k))) : F_Call_source_value [.ref c, .d (.str "count")] h = .ok (.d k) h := by
  unfold F_Call_source_value B_Call_source_value
  rw [sfOf_ap]
  simp [hc, lc_count]
theorem src_num {c : Nat} {w : U} {ns : List D} {kk : D} {h : Sto} (hc : h[c]? = some (.ins "Call" (cfs w ns kk))) {k : Nat} {d : D} (hk : ns[k]? = some d) (k4 : k < 4) : F_Call_source_value [.ref c, .d (.str (nName k))] h = .ok (.d d) h := by
  have at_ : atI ns (k : Int) = some d := atI_nat hk
  unfold F_Call_source_value B_Call_source_value
  rw [sfOf_ap]
  have hz : k = 0 ∨ k = 1 ∨ k = 2 ∨ k = 3 := by omega
  have q : ∀ (f g : Str), decide (f = g) = false → ¬ f = g := fun f g e => of_decide_eq_false e
  rcases hz with z | z | z | z <;> subst z
  · have s1 := fun h => sl_s "n0" "0" h (by decide) (by decide +kernel)
    have s2 := fun h => fx_s "0" 0 h (by decide) (by decide +kernel)
    have at' : atI ns 0 = some d := at_
    simp [hc, lc_numbers, nName, q "n0" "count" (by decide), s1, s2, at']
  · have s1 := fun h => sl_s "n1" "1" h (by decide) (by decide +kernel)
    have s2 := fun h => fx_s "1" 1 h (by decide) (by decide +kernel)
    have at' : atI ns 1 = some d := at_
    simp [hc, lc_numbers, nName, q "n1" "count" (by decide), s1, s2, at']
  · have s1 := fun h => sl_s "n2" "2" h (by decide) (by decide +kernel)
    have s2 := fun h => fx_s "2" 2 h (by decide) (by decide +kernel)
    have at' : atI ns 2 = some d := at_
    simp [hc, lc_numbers, nName, q "n2" "count" (by decide), s1, s2, at']
  · have s1 := fun h => sl_s "n3" "3" h (by decide) (by decide +kernel)
    have s2 := fun h => fx_s "3" 3 h (by decide) (by decide +kernel)
    have at' : atI ns 3 = some d := at_
    simp [hc, lc_numbers, nName, q "n3" "count" (by decide), s1, s2, at']
theorem value_ev {n wd c : Nat} {cl : Cl} {h : Sto} (s : CS n wd c cl h) (a : Amt) (wf : a.wf cl.ns.length) : F_Call_value [.ref c, .d a.e] h = if great (cl.val a) = true then .exc "TooGreat" h else .ok (.d (.int (cl.val a))) h := by
  have gi : ∀ v : Int, great v = decide (1000000 < (if v < 0 then -v else v)) := fun v => by
    unfold great
    congr 1
    apply propext
    split <;> omega
  unfold F_Call_value B_Call_value c_MOST_AMOUNT
  rw [sfOf_ap]
  have hc := s.k
  cases a with
  | int i =>
    show _ = if great i = true then _ else _
    rw [gi i]
    by_cases hv : 1000000 < (if i < 0 then -i else i)
    · simp [Amt.e, isTy, hv, Cl.val]
    · simp [Amt.e, isTy, hv, Cl.val]
  | cnt t m =>
    obtain ⟨w1, w2⟩ := wf
    have e1 := src_cnt hc
    have mk : mulOk t cl.ct = true := mulOk_of (.inl (by unfold sm6 at w1; omega))
    show _ = if great (t * cl.ct + m) = true then _ else _
    rw [gi]
    by_cases hv : 1000000 < (if t * cl.ct + m < 0 then -(t * cl.ct + m) else t * cl.ct + m)
    · simp only [Amt.e]
      simp [isTy, hc, lc_source, e1, mk, hv]
    · simp only [Amt.e]
      simp [isTy, hc, lc_source, e1, mk, hv, Cl.val]
  | num t k m =>
    obtain ⟨w1, w2, w3, w4⟩ := wf
    have e1 := src_num hc (k := k) (d := .int (cl.ns.getD k 0)) (by rw [List.getElem?_map, List.getElem?_eq_getElem w3]; simp [List.getD, List.getElem?_eq_getElem w3]) w4
    have mk : mulOk t (cl.ns.getD k 0) = true := mulOk_of (.inl (by unfold sm6 at w1; omega))
    rw [show cl.val (.num t k m) = t * cl.ns.getD k 0 + m from rfl, gi]
    generalize cl.ns.getD k 0 = g at *
    generalize hn : nName k = nk at *
    by_cases hv : 1000000 < (if t * g + m < 0 then -(t * g + m) else t * g + m)
    · simp only [Amt.e, hn]
      simp [isTy, hc, lc_source, e1, mk, hv]
    · simp only [Amt.e, hn]
      simp [isTy, hc, lc_source, e1, mk, hv]
theorem noteN_ev {n : Nat} {y : Hn} {h : Sto} (s : HS n y.h h) (v : Vb) (i : Int) (l : y.plain.length < 100000) : fApp (.ref (n + 4)) [.d (.tuple [.str v.s, .int i, y.h.st])] h = .ok (.d .none) (hset n (y.note v i).h h) := by
  obtain ⟨i0, i1, i2, i3, i4⟩ := s.i
  rw [ev_app, s.p]
  have l' : y.h.plain.length < 100000 := by show (y.plain.map Nt.e).length < _; rw [List.length_map]; exact l
  simp only [fits' l', if_true]
  congr 1
  refine hset_is s.lt ⟨?_, ?_, ?_, ?_, ?_⟩ fun j h0 h1 h2 h3 h4 => ?_
  · simp [s.o]; rfl
  · simp [s.m]; rfl
  · simp [s.s]; rfl
  · simp [s.c]; rfl
  · simp [i4]
    show _ = (y.plain ++ [(⟨v, i, y.c⟩ : Nt)]).map Nt.e
    rw [List.map_append]
    rfl
  · simp [Ne.symm h4]
theorem back_ev {n : Nat} {y : Hn} {h : Sto} (s : HS n y.h h) (i : Int) (l : y.corners.length < 100000) : F_Hand_back [.ref n, .d (.int i)] h = match Vb.back.act i y with | some z => .ok (.d .none) (hset n z.h h) | none => .exc "NoMark" h := by
  obtain ⟨i0, i1, i2, i3, i4⟩ := s.i
  have hl := s.lt
  have hm := s.m
  have hin : inOf (.d (.int i)) (.ref (n + 1)) h = some (mget y.marks i).isSome := by
    unfold inOf
    have hd : dictOf h (.ref (n + 1)) = some (y.marks.map mkE) := by unfold dictOf; simp [hm]; rfl
    simp only [strOf, hd, keyOf]
    rw [valU_mk]
    cases mget y.marks i <;> rfl
  unfold F_Hand_back B_Hand_back
  rw [sfOf_ap]
  cases q : mget y.marks i with
  | none =>
    rw [q] at hin
    simp [Vb.act, q, s.o, hin]
  | some v =>
    rw [q] at hin
    have hg : opDGet (.ref (n + 1)) (.d (.int i)) h = .ok (.d (.tuple [v.1.e, .int v.2])) h := by
      unfold opDGet
      have hd : dictOf h (.ref (n + 1)) = some (y.marks.map mkE) := by unfold dictOf; simp [hm]; rfl
      simp only [hd, keyOf, valU_mk, q]
      rfl
    have f2 : fits (y.h.corners.length + 1) = true := fits_of (by show (y.corners.map P4.e).length + 1 ≤ _; rw [List.length_map]; omega)
    have lk : ∀ x : Hd, (hfs n x).lookup ("corners" : Str) = some (U.ref (n + 3)) := fun x => lk_corners n x
    have sf1 : ∀ (x : Hd) (p : P4) (h : Sto), h[n]? = some (.ins "Hand" (hfs n x)) → setFld "Hand" "spot" (.d p.e) (.ref n) h = some (h.set n (.ins "Hand" (hfs n { x with spot := p }))) := fun x p h e => by
      unfold setFld
      simp [e]
    have sf2 : ∀ (x : Hd) (p : Int) (h : Sto), h[n]? = some (.ins "Hand" (hfs n x)) → setFld "Hand" "heading" (.d (.int p)) (.ref n) h = some (h.set n (.ins "Hand" (hfs n { x with heading := p }))) := fun x p h e => by
      unfold setFld
      simp [e]
    have g1 : (h.set n (.ins "Hand" (hfs n { y.h with spot := v.1 })))[n]? = some (.ins "Hand" (hfs n { y.h with spot := v.1 })) := gs_same i0
    have a1 := sf1 y.h v.1 h s.o
    have a2 := sf2 { y.h with spot := v.1 } v.2 _ g1
    rw [set2] at a2
    have sc := s.c
    have asg : sAsg2 "Hand" "spot" "heading" 0 (eBin opDGet (eFld "Hand" "marks" (eV 0)) (eV 1)) [some (.ref n), some (.d (.int i))] h = .next [some (.ref n), some (.d (.int i))] (h.set n (.ins "Hand" (hfs n { { y.h with spot := v.1 } with heading := v.2 }))) := by
      unfold sAsg2
      simp [s.o, hg, a1, a2]
    simp [Vb.act, q, s.o, hin, asg, i0, sc, f2]
    refine hset_is hl ⟨?_, ?_, ?_, ?_, ?_⟩ fun j h0 h1 h2 h3 h4 => ?_
    · simp [i0]; rfl
    · simp [s.m]; rfl
    · simp [s.s]; rfl
    · simp [i3]
      show _ = (y.corners ++ [v.1]).map P4.e
      rw [List.map_append]
      rfl
    · simp [s.p]; rfl
    · simp [Ne.symm h0, Ne.symm h3]
theorem hd_ok {y : Hn} {b : Nat} (h : y.ok b) : y.h.ok b := ⟨h.h0, h.h1, by show (y.strokes.map Stk.e).length < _; rw [List.length_map]; exact h.ls, by show (y.corners.map P4.e).length < _; rw [List.length_map]; exact h.lc, by show (y.plain.map Nt.e).length < _; rw [List.length_map]; exact h.lp⟩
theorem ev_DPutS (fv fo fk : Ev) (env : Env') (h : Sto) : sDPutS fv fo fk env h = (fv env h).then_ env fun x h1 => (fo env h1).then_ env fun u h2 => (fk env h2).then_ env fun w h3 => match dPut u w x h3 with | some h4 => .next env h4 | none => .stuck := (rfl)
theorem mark_ev {n : Nat} {y : Hn} {h : Sto} (s : HS n y.h h) (i : Int) (l : y.marks.length < 100000) : F_do_simple [.ref n, .d (.str "mark"), .d (.int i)] h = .ok (.d .none) (hset n ({ y with marks := mput y.marks i (y.c.spot, y.c.heading) } : Hn).h h) := by
  obtain ⟨i0, i1, i2, i3, i4⟩ := s.i
  have hl := s.lt
  have q : ∀ (f g : Str), decide (f = g) = false → ¬ f = g := fun f g e => of_decide_eq_false e
  have dp : dPut (.ref (n + 1)) (.d (.int i)) (.d (.tuple [y.c.spot.e, .int y.c.heading])) h = some (h.set (n + 1) (.dct ((mput y.marks i (y.c.spot, y.c.heading)).map mkE))) := by
    unfold dPut
    have hm : h[n + 1]? = some (.dct (y.marks.map mkE)) := s.m
    have ha : ask ((y.marks.map mkE).length < sizeLine) = true := ask_t (by rw [sizeLine_eq, List.length_map]; omega)
    have hp := putU_mk y.marks i (y.c.spot, y.c.heading)
    dsimp only at hp
    simp only [hm, keyOf, ha, if_true, hp]
  unfold F_do_simple B_do_simple
  rw [sfOf_ap]
  have sp : y.h.spot = y.c.spot := rfl
  have hd : y.h.heading = y.c.heading := rfl
  simp [q "mark" "go" (by decide), q "mark" "turn" (by decide), q "mark" "ink" (by decide), q "mark" "up" (by decide), q "mark" "down" (by decide), s.o, ev_DPutS, sp, hd, dp]
  refine hset_is hl ⟨?_, ?_, ?_, ?_, ?_⟩ fun j h0 h1 h2 h3 h4 => ?_
  · simp [s.o]; rfl
  · simp [i1]; rfl
  · simp [s.s]; rfl
  · simp [s.c]; rfl
  · simp [s.p]; rfl
  · simp [Ne.symm h1]
theorem prim_ev {n : Nat} {y : Hn} {h : Sto} (s : HS n y.h h) (v : Vb) (i : Int) (ok : y.ok 100000) (hz : v = .up ∨ v = .down → i = 0) : F_do_simple [.ref n, .d (.str v.s), .d (.int i)] h = match v.act i y with | some z => .ok (.d .none) (hset n z.h h) | none => .exc "NoMark" h := by
  have hk := hd_ok ok
  cases v with
  | go =>
    have e := simple_ev s (.go i) hk
    rw [show (Smp.go i).verb = Vb.go.s from rfl, show (Smp.go i).val = i from rfl] at e
    rw [e]
    congr 2
    show (Smp.act (.go i) y.h) = Hn.h _
    unfold Smp.act Hn.h
    simp only [Hd.mk.injEq, true_and, and_true]
    refine ⟨?_, ?_⟩
    · rw [List.map_append]
      by_cases hp : y.c.pen = true ∧ i ≠ 0
      · rw [if_pos hp, if_pos hp]; rfl
      · rw [if_neg hp, if_neg hp]; simp
    · rw [List.map_append]; rfl
  | turn => exact simple_ev s (.turn i) hk
  | ink => exact simple_ev s (.ink i) hk
  | up =>
    have := hz (.inl rfl)
    subst this
    exact simple_ev s .up hk
  | down =>
    have := hz (.inr rfl)
    subst this
    exact simple_ev s .down hk
  | mark => exact mark_ev s i ok.lm
  | back =>
    have e := back_ev s i ok.lc
    have q : ∀ (f g : Str), decide (f = g) = false → ¬ f = g := fun f g e => of_decide_eq_false e
    unfold F_do_simple B_do_simple
    rw [sfOf_ap]
    cases hv : mget y.marks i with
    | none =>
      have ea : Vb.back.act i y = none := by simp only [Vb.act, hv]
      rw [ea] at e ⊢
      simp [Vb.s, q "back" "go" (by decide), q "back" "turn" (by decide), q "back" "ink" (by decide), q "back" "up" (by decide), q "back" "down" (by decide), q "back" "mark" (by decide), s.o, e]
    | some w =>
      have ea : Vb.back.act i y = some { y with c := { y.c with spot := w.1, heading := w.2 }, corners := y.corners ++ [w.1] } := by simp only [Vb.act, hv]
      rw [ea] at e ⊢
      simp [Vb.s, q "back" "go" (by decide), q "back" "turn" (by decide), q "back" "ink" (by decide), q "back" "up" (by decide), q "back" "down" (by decide), q "back" "mark" (by decide), s.o, e]
/-- a statement without a body: the tail behind its value -/
theorem tail_ev {n : Nat} {y : Hn} {h : Sto} (s : HS n y.h h) (v : Vb) (i : Int) (ok : y.ok 99000) (hz : v = .up ∨ v = .down → i = 0) : RHd n h ((fApp (.ref (n + 4)) [.d (.tuple [.str v.s, .int i, y.h.st])] h).bind fun _ h1 => F_do_simple [.ref n, .d (.str v.s), .d (.int i)] h1) (prim v i y) := by
  rw [noteN_ev s v i (by have := ok.lp; omega), Res.bind_ok]
  have s2 : HS n (y.note v i).h (hset n (y.note v i).h h) := s.set
  have ok2 := note_ok (v := v) (i := i) ok
  rw [prim_ev s2 v i (ok2.mono (by decide)) hz]
  unfold prim
  cases v.act i (y.note v i) with
  | none => exact ⟨[], by rw [List.append_nil]⟩
  | some z => exact ⟨[], by rw [List.append_nil]; dsimp only; rw [hset_hset s.lt]⟩
theorem iRange_succ (m : Nat) (k : Int) : iRange (m + 1) k = .d (.int k) :: iRange m (k + 1) := by
  unfold iRange
  rw [List.range_succ_eq_map, List.map_cons, List.map_map]
  congr 1
  · simp
  · refine List.map_congr_left fun i _ => ?_
    simp only [Function.comp]
    congr 2
    omega
def StOk (n wd m k : Nat) (ws : List Wrd) : Prop := ∀ (s : Stm) (cl : Cl) (y : Hn) (h : Sto) (c : Nat), HS n y.h h → CS n wd c cl h → cl.ws = dictW ws → s.wf ws cl.ns.length → y.iv → RHd n h (Rec_do_again m 2 [.ref n, .d s.e, .ref c] h) (iS k s cl y)
def RHs (n : Nat) (h : Sto) (e0 e1 e2 : Option U) (r : SRes) : Rn → Prop
  | .ok y => ∃ t e3, r = .next [e0, e1, e2, e3] (hset n y.h (h ++ t))
  | .exc e y => ∃ t e3, r = .exc e [e0, e1, e2, e3] (hset n y.h (h ++ t))
  | .out => True
theorem body_loop6 {n wd m k : Nat} {ws : List Wrd} (st : StOk n wd m k ws) {c : Nat} {cl : Cl} (hw : cl.ws = dictW ws) (b1 : Option U) : ∀ (b : List Stm) (y : Hn) (h : Sto) (e3 : Option U), HS n y.h h → CS n wd c cl h → bWf ws cl.ns.length b → y.iv →
    RHs n h (some (.ref n)) b1 (some (.ref c)) (forGo (gN 3) (L_do_body_0 (Rec_do_again m)) ((bE b).map U.d) [some (.ref n), b1, some (.ref c), e3] h) (iB (iS k) b cl y)
  | [], y, h, e3, s, _, _, _ => ⟨[], e3, by rw [List.append_nil, s.self]; simp [bE]⟩
  | x :: r, y, h, e3, s, cs, wf, iv => by
    have r1 := st x cl y h c s cs hw wf.1 iv
    have iv1 := iS_riv k x cl y iv
    unfold iB
    rw [bE, List.map_cons, ev_forC]
    simp only [ev_gN, List.set_cons_succ, List.set_cons_zero]
    cases q : iS k x cl y with
    | out => trivial
    | exc e z =>
      rw [q] at r1
      obtain ⟨t, r1⟩ := r1
      refine ⟨t, some (.d x.e), ?_⟩
      have el : L_do_body_0 (Rec_do_again m) [some (.ref n), b1, some (.ref c), some (.d x.e)] h = .exc e [some (.ref n), b1, some (.ref c), some (.d x.e)] (hset n z.h (h ++ t)) := by
        unfold L_do_body_0
        simp [r1]
      rw [el]
      rfl
    | ok z =>
      rw [q] at r1 iv1
      obtain ⟨t, r1⟩ := r1
      have el : L_do_body_0 (Rec_do_again m) [some (.ref n), b1, some (.ref c), some (.d x.e)] h = .next [some (.ref n), b1, some (.ref c), some (.d x.e)] (hset n z.h (h ++ t)) := by
        unfold L_do_body_0
        simp [r1]
      have ih := body_loop6 st hw b1 r z (hset n z.h (h ++ t)) (some (.d x.e)) ((s.app t).set) (cs.keep s.lt) wf.2 iv1
      rw [el]
      simp only [SRes.seq_next, Rn.bind]
      cases q2 : iB (iS k) r cl z with
      | out => trivial
      | exc e z2 =>
        rw [q2] at ih
        obtain ⟨t2, f3, ih⟩ := ih
        exact ⟨t ++ t2, f3, by rw [ih, hset_two s.lt]⟩
      | ok z2 =>
        rw [q2] at ih
        obtain ⟨t2, f3, ih⟩ := ih
        exact ⟨t ++ t2, f3, by rw [ih, hset_two s.lt]⟩
theorem body_ev6 {n wd m k : Nat} {ws : List Wrd} (st : StOk n wd m k ws) {c : Nat} {cl : Cl} (hw : cl.ws = dictW ws) {b : List Stm} {y : Hn} {h : Sto} (s : HS n y.h h) (cs : CS n wd c cl h) (wf : bWf ws cl.ns.length b) (iv : y.iv) :
    RHd n h (Rec_do_again (m + 1) 3 [.ref n, .d (.tuple (bE b)), .ref c] h) (iB (iS k) b cl y) := by
  have e : Rec_do_again (m + 1) 3 = sfOf 4 (B_do_body (Rec_do_again m)) := rfl
  have lp := body_loop6 st hw (some (.d (.tuple (bE b)))) b y h none s cs wf iv
  rw [e, sfOf_ap]
  unfold B_do_body
  simp only [List.map_cons, List.map_nil, List.length_cons, List.length_nil, List.cons_append, List.nil_append]
  simp only [ev_For, ev_iSeq, ev_V, List.getElem?_cons_succ, List.getElem?_cons_zero, Res.bind_ok, Res.then_ok]
  rw [show (List.replicate (4 - (0 + 1 + 1 + 1)) none : List (Option U)) = [none] from rfl]
  cases q : iB (iS k) b cl y with
  | out => trivial
  | exc e z =>
    rw [q] at lp
    obtain ⟨t, e3, lp⟩ := lp
    exact ⟨t, by rw [lp]⟩
  | ok z =>
    rw [q] at lp
    obtain ⟨t, e3, lp⟩ := lp
    exact ⟨t, by rw [lp]⟩
theorem mkCall (w : U) (ns : List D) (k : D) (h : Sto) : (F_Call__init [.ref h.length, w, .d (.list ns), .d k] (h ++ [.ins "Call" []])).bind (retN h.length) = .ok (.ref h.length) (h ++ [.ins "Call" (cfs w ns k)]) := by
  rw [cinit_ev]
  rfl
theorem CS.newC {n wd c : Nat} {cl cl' : Cl} {h : Sto} (s : CS n wd c cl h) (hl : n + 4 < h.length) (hw : cl'.ws = cl.ws) : CS n wd h.length cl' (h ++ [.ins "Call" (cfs (.ref wd) (cl'.ns.map PyData.int) (.int cl'.ct))]) := by
  refine ⟨?_, ag0 _ _, s.dw, .inr hl⟩
  rw [List.getElem?_append_left (List.getElem?_eq_some_iff.mp s.w).1, hw]
  exact s.w
theorem again_loop6 {n wd m k : Nat} {ws : List Wrd} (st : StOk n wd m k ws) {c : Nat} {cl : Cl} (hw : cl.ws = dictW ws) {a : Amt} {b : List Stm} (wf : bWf ws cl.ns.length b) : ∀ (r j : Nat) (y : Hn) (h : Sto) (e3 : Option U), HS n y.h h → CS n wd c cl h → y.iv →
    RHs n h (some (.ref n)) (some (.d (Stm.again a b).e)) (some (.ref c)) (forGo (gN 3) (L_do_again_0 (Rec_do_again (m + 1))) (iRange r (j : Int)) [some (.ref n), some (.d (Stm.again a b).e), some (.ref c), e3] h) (iAg (fun c y => iB (iS k) b c y) cl r j y)
  | 0, j, y, h, e3, s, _, _ => ⟨[], e3, by rw [List.append_nil, s.self]; simp [iRange]⟩
  | r + 1, j, y, h, e3, s, cs, iv => by
    unfold iAg
    rw [iRange_succ, ev_forC]
    simp only [ev_gN, List.set_cons_succ, List.set_cons_zero]
    have hd := deed_ev s
    have hrest : y.h.rest = y.rest := rfl
    rw [hrest] at hd
    by_cases hr : y.rest ≤ 0
    · rw [if_pos hr] at hd ⊢
      refine ⟨[], some (.d (.int j)), ?_⟩
      have el : L_do_again_0 (Rec_do_again (m + 1)) [some (.ref n), some (.d (Stm.again a b).e), some (.ref c), some (.d (.int j))] h = .exc "Stopped" [some (.ref n), some (.d (Stm.again a b).e), some (.ref c), some (.d (.int j))] h := by
        unfold L_do_again_0
        simp [s.o, hd]
      rw [el, List.append_nil, s.self]
      rfl
    · rw [if_neg hr] at hd ⊢
      have hless : y.h.less = y.less.h := rfl
      rw [hless] at hd
      have hl := s.lt
      have s1 : HS n y.less.h (hset n y.less.h h) := s.set
      have cs1 : CS n wd c cl (hset n y.less.h h) := by have := cs.keep (t := []) (x := y.less.h) hl; rw [List.append_nil] at this; exact this
      have hl1 : n + 4 < (hset n y.less.h h).length := by rw [hset_len]; exact hl
      have cs2 : CS n wd (hset n y.less.h h).length { cl with ct := (j : Int) } (hset n y.less.h h ++ [.ins "Call" (cfs (.ref wd) (cl.ns.map PyData.int) (.int (j : Int)))]) := CS.newC (cl' := { cl with ct := (j : Int) }) cs1 hl1 rfl
      have mk := mkCall (.ref wd) (cl.ns.map PyData.int) (.int (j : Int)) (hset n y.less.h h)
      have be := body_ev6 st (cl := { cl with ct := (j : Int) }) hw (s1.app [.ins "Call" (cfs (.ref wd) (cl.ns.map PyData.int) (.int (j : Int)))]) cs2 wf (iv.less hr)
      have biv := iB_riv (iS_riv k) b { cl with ct := (j : Int) } y.less (iv.less hr)
      have hc1 := cs1.k
      have he : (Stm.again a b).e = .tuple [.str "again", a.e, .tuple (bE b)] := by rw [Stm.e]
      generalize hH : hset n y.less.h h = H1 at *
      cases q : iB (iS k) b { cl with ct := (j : Int) } y.less with
      | out => trivial
      | exc e z =>
        rw [q] at be
        obtain ⟨t, be⟩ := be
        have el : L_do_again_0 (Rec_do_again (m + 1)) [some (.ref n), some (.d (Stm.again a b).e), some (.ref c), some (.d (.int j))] h = .exc e [some (.ref n), some (.d (Stm.again a b).e), some (.ref c), some (.d (.int j))] (hset n z.h (H1 ++ [.ins "Call" (cfs (.ref wd) (cl.ns.map PyData.int) (.int (j : Int)))] ++ t)) := by
          unfold L_do_again_0
          rw [he]
          simp only [ev_Seq, ev_Expr, ev_Mth, ev_V, List.getElem?_cons_zero, Res.bind_ok, ev_insR, s.o, if_true, and_self, lm_deed, ev_aNil, hd, Res.then_ok, SRes.seq_next]
          simp [hc1, lc_words, lc_numbers, mk, be, -List.append_assoc]
        refine ⟨[.ins "Call" (cfs (.ref wd) (cl.ns.map PyData.int) (.int (j : Int)))] ++ t, some (.d (.int j)), ?_⟩
        rw [el, ← hH, List.append_assoc, ← List.append_nil h, hset_two (t := []) hl, List.append_nil]
        rfl
      | ok z =>
        rw [q] at be biv
        obtain ⟨t, be⟩ := be
        have el : L_do_again_0 (Rec_do_again (m + 1)) [some (.ref n), some (.d (Stm.again a b).e), some (.ref c), some (.d (.int j))] h = .next [some (.ref n), some (.d (Stm.again a b).e), some (.ref c), some (.d (.int j))] (hset n z.h (H1 ++ [.ins "Call" (cfs (.ref wd) (cl.ns.map PyData.int) (.int (j : Int)))] ++ t)) := by
          unfold L_do_again_0
          rw [he]
          simp only [ev_Seq, ev_Expr, ev_Mth, ev_V, List.getElem?_cons_zero, Res.bind_ok, ev_insR, s.o, if_true, and_self, lm_deed, ev_aNil, hd, Res.then_ok, SRes.seq_next]
          simp [hc1, lc_words, lc_numbers, mk, be, -List.append_assoc]
        have ez : hset n z.h (H1 ++ [.ins "Call" (cfs (.ref wd) (cl.ns.map PyData.int) (.int (j : Int)))] ++ t) = hset n z.h (h ++ ([.ins "Call" (cfs (.ref wd) (cl.ns.map PyData.int) (.int (j : Int)))] ++ t)) := by
          rw [← hH, List.append_assoc, ← List.append_nil h, hset_two (t := []) hl, List.append_nil]
          rfl
        rw [el, ez]
        simp only [SRes.seq_next, Rn.bind]
        have ih := again_loop6 (a := a) st hw wf r (j + 1) z (hset n z.h (h ++ ([.ins "Call" (cfs (.ref wd) (cl.ns.map PyData.int) (.int (j : Int)))] ++ t))) (some (.d (.int j))) ((s.app _).set) (cs.keep hl) biv
        rw [show ((j + 1 : Nat) : Int) = (j : Int) + 1 by omega] at ih
        cases q2 : iAg (fun c y => iB (iS k) b c y) cl r (j + 1) z with
        | out => trivial
        | exc e z2 =>
          rw [q2] at ih
          obtain ⟨t2, f3, ih⟩ := ih
          exact ⟨_, f3, by rw [ih, hset_two hl]⟩
        | ok z2 =>
          rw [q2] at ih
          obtain ⟨t2, f3, ih⟩ := ih
          exact ⟨_, f3, by rw [ih, hset_two hl]⟩
theorem again_ev6 {n wd m k : Nat} {ws : List Wrd} (st : StOk n wd m k ws) {c : Nat} {cl : Cl} (hw : cl.ws = dictW ws) {a : Amt} {b : List Stm} (wa : a.wf cl.ns.length) (wf : bWf ws cl.ns.length b) {y : Hn} {h : Sto} (s : HS n y.h h) (cs : CS n wd c cl h) (iv : y.iv) :
    RHd n h (Rec_do_again (m + 2) 0 [.ref n, .d (Stm.again a b).e, .ref c] h) (if great (cl.val a) then .exc "TooGreat" y else iAg (fun c y => iB (iS k) b c y) cl (cl.val a).toNat 0 y) := by
  have e : Rec_do_again (m + 2) 0 = sfOf 4 (B_do_again (Rec_do_again (m + 1))) := rfl
  have hv := value_ev cs a wa
  have hc := cs.k
  have he : (Stm.again a b).e = .tuple [.str "again", a.e, .tuple (bE b)] := by rw [Stm.e]
  rw [e, sfOf_ap]
  unfold B_do_again
  by_cases hg : great (cl.val a) = true
  · rw [if_pos hg] at hv ⊢
    refine ⟨[], ?_⟩
    rw [List.append_nil, s.self, he]
    simp [hc, lc_value, hv]
  · rw [if_neg hg] at hv ⊢
    have lp := again_loop6 (a := a) st hw wf (cl.val a).toNat 0 y h none s cs iv
    have hg' : (cl.val a).natAbs ≤ 1000000 := by
      unfold great at hg
      simp at hg
      omega
    have hm : (if cl.val a > 0 then cl.val a else 0) = ((cl.val a).toNat : Int) := by split <;> omega
    have hr : rngOk ((cl.val a).toNat : Int) = true := rng_of (by omega) (by omega)
    have hmax : (if 0 < cl.val a then cl.val a else 0) = ((cl.val a).toNat : Int) := by split <;> omega
    generalize (cl.val a).toNat = N at *
    rw [he] at lp ⊢
    rw [show ((0 : Nat) : Int) = 0 from rfl] at lp
    have ev : ∀ (k : List U → Sto → SRes), True := fun _ => trivial
    simp only [List.map_cons, List.map_nil, List.length_cons, List.length_nil, List.cons_append, List.nil_append]
    rw [show (List.replicate (4 - (0 + 1 + 1 + 1)) none : List (Option U)) = [none] from rfl]
    have hit : iR1 (aCons (eB fMax (aCons (eC (.int 0)) (aCons (eMth "Call" "value" F_Call_value (eV 2) (aCons (eBin opIx (eV 1) (eC (.int 1))) aNil)) aNil))) aNil) [some (.ref n), some (.d (.tuple [.str "again", a.e, .tuple (bE b)])), some (.ref c), none] h = .ok (iRange N 0) h := by
      simp [hc, lc_value, hv, hmax, hr]
    rw [ev_For, hit, Res.then_ok]
    generalize iAg (fun c y => iB (iS k) b c y) cl N 0 y = q at *
    cases q with
    | out => trivial
    | exc e z =>
      obtain ⟨t, e3, lp⟩ := lp
      exact ⟨t, by rw [lp]⟩
    | ok z =>
      obtain ⟨t, e3, lp⟩ := lp
      exact ⟨t, by rw [lp]⟩
theorem vals_ev {n wd c : Nat} {cl : Cl} {h : Sto} (cs : CS n wd c cl h) (R : Nat → SF) (e0 e1 e3 : Option U) : ∀ (as : List Amt) (acc : List D), (∀ a ∈ as, a.wf cl.ns.length) → acc.length + as.length ≤ 1000 → lcGoX (gN 4) cYes (K_do_word_0 R) [e0, e1, some (.ref c), e3, none] ((as.map Amt.e).map U.d) acc h = match vals cl as with | some vs => .ok (acc ++ vs.map PyData.int) h | none => .exc "TooGreat" h
  | [], acc, _, _ => by simp [vals, lcGoX]
  | a :: r, acc, wf, hl => by
    rw [List.length_cons] at hl
    have hv := value_ev cs a (wf a List.mem_cons_self)
    have hc := cs.k
    have hf : fits (acc.length + 1) = true := fits_of (by omega)
    rw [List.map_cons, List.map_cons, lcGoX]
    simp only [ev_gN, List.set_cons_succ, List.set_cons_zero, ev_yes, ev_noExc, Res.bind_ok]
    unfold vals
    by_cases hg : great (cl.val a) = true
    · rw [if_pos hg] at hv ⊢
      have ek : K_do_word_0 R [e0, e1, some (.ref c), e3, some (.d a.e)] h = .exc "TooGreat" h := by
        unfold K_do_word_0
        simp [hc, lc_value, hv]
      rw [ek]
      rfl
    · rw [if_neg hg] at hv ⊢
      have ek : K_do_word_0 R [e0, e1, some (.ref c), e3, some (.d a.e)] h = .ok (.d (.int (cl.val a))) h := by
        unfold K_do_word_0
        simp [hc, lc_value, hv]
      rw [ek]
      simp only [Res.bind_ok, hf, if_true]
      rw [vals_ev cs R e0 e1 e3 r (acc ++ [PyData.int (cl.val a)]) (fun x hx => wf x (List.mem_cons_of_mem _ hx)) (by simp; omega)]
      cases vals cl r with
      | none => rfl
      | some vs => simp
theorem vals_len {cl : Cl} : ∀ {as : List Amt} {vs : List Int}, vals cl as = some vs → vs.length = as.length
  | [], _, e => by cases e; rfl
  | a :: r, vs, e => by
    unfold vals at e
    split at e
    · cases e
    · cases q : vals cl r with
      | none => rw [q] at e; cases e
      | some ws =>
        rw [q] at e
        cases e
        rw [List.length_cons, List.length_cons, vals_len q]
theorem word_ev6 {n wd m k : Nat} {ws : List Wrd} (gw : GW ws) (st : StOk n wd m k ws) {c : Nat} {cl : Cl} (hw : cl.ws = dictW ws) {w : Str} {as : List Amt} (wf : (Stm.call w as).wf ws cl.ns.length) (hla : as.length ≤ 900) {y : Hn} {h : Sto} (s : HS n y.h h) (cs : CS n wd c cl h) (iv : y.iv) :
    RHd n h (Rec_do_again (m + 2) 1 [.ref n, .d (Stm.call w as).e, .ref c] h) (match vals cl as with
      | none => .exc "TooGreat" y
      | some vs => match wGet cl.ws w with
        | some b => iB (iS k) b ⟨cl.ws, vs, 0⟩ y
        | none => .out) := by
  have e : Rec_do_again (m + 2) 1 = sfOf 5 (B_do_word (Rec_do_again (m + 1))) := rfl
  have hc := cs.k
  have hl := s.lt
  rw [Stm.wf] at wf
  obtain ⟨⟨x, hx, hxn, hxm⟩, wa⟩ := wf
  have he : (Stm.call w as).e = .tuple [.str "do", .str w, .tuple (as.map Amt.e)] := by rw [Stm.e]
  have hv := vals_ev cs (Rec_do_again (m + 1)) (some (.ref n)) (some (.d (.tuple [.str "do", .str w, .tuple (as.map Amt.e)]))) none as [] wa (by simp; omega)
  have hg : wGet cl.ws w = some x.body := by rw [hw, ← hxn]; exact wGet_dict gw.u hx
  have hdg : ∀ t, opDGet (.ref wd) (.d (.str w)) (h ++ t) = .ok (.d (.tuple (bE x.body))) (h ++ t) := fun t => by
    unfold opDGet
    have hd : dictOf (h ++ t) (.ref wd) = some (cl.ws.map Wk.wE) := by
      show (match (h ++ t)[wd]? with | some (.dct kvs) => some kvs | _ => none) = _
      rw [List.getElem?_append_left (List.getElem?_eq_some_iff.mp cs.w).1, cs.w]
    simp only [hd, keyOf, valU_wE, hg]
    rfl
  have hdg0 := hdg []
  rw [List.append_nil] at hdg0
  rw [e, sfOf_ap, he]
  unfold B_do_word
  generalize as.map Amt.e = Ae at *
  cases q : vals cl as with
  | none =>
    rw [q] at hv
    refine ⟨[], ?_⟩
    rw [List.append_nil, s.self]
    simp [eLcX, wipeE, hv]
  | some vs =>
    rw [q] at hv
    dsimp only at hv ⊢
    rw [List.nil_append] at hv
    rw [hg]
    have hlen := vals_len q
    have cs2 : CS n wd h.length ⟨cl.ws, vs, 0⟩ (h ++ [.ins "Call" (cfs (.ref wd) (vs.map PyData.int) (.int 0))]) := CS.newC (cl' := ⟨cl.ws, vs, 0⟩) cs hl rfl
    have mk := mkCall (.ref wd) (vs.map PyData.int) (.int 0) h
    have be := body_ev6 st (cl := ⟨cl.ws, vs, 0⟩) hw (s.app [.ins "Call" (cfs (.ref wd) (vs.map PyData.int) (.int 0))]) cs2 (by show bWf ws vs.length x.body; rw [hlen, ← hxm]; exact gw.b x hx) iv
    have hset3 : eLcX false [4] (iSeq (eBin opIx (eV 1) (eC (.int 2)))) (gN 4) cYes (K_do_word_0 (Rec_do_again (m + 1))) [some (.ref n), some (.d (.tuple [.str "do", .str w, .tuple Ae])), some (.ref c), none, none] h = .ok (.d (.list (vs.map PyData.int))) h := by
      simp [eLcX, wipeE, hv]
    simp only [List.map_cons, List.map_nil, List.length_cons, List.length_nil, List.cons_append, List.nil_append]
    rw [show (List.replicate (5 - (0 + 1 + 1 + 1)) none : List (Option U)) = [none, none] from rfl]
    rw [ev_Seq, ev_Set, hset3]
    simp only [Res.then_ok, SRes.seq_next, List.set_cons_succ, List.set_cons_zero]
    generalize iB (iS k) x.body ⟨cl.ws, vs, 0⟩ y = qq at *
    cases qq with
    | out => trivial
    | exc e z =>
      obtain ⟨t, be⟩ := be
      refine ⟨[.ins "Call" (cfs (.ref wd) (vs.map PyData.int) (.int 0))] ++ t, ?_⟩
      rw [← List.append_assoc]
      simp [hc, lc_words, hdg0, mk, be, -List.append_assoc]
    | ok z =>
      obtain ⟨t, be⟩ := be
      refine ⟨[.ins "Call" (cfs (.ref wd) (vs.map PyData.int) (.int 0))] ++ t, ?_⟩
      rw [← List.append_assoc]
      simp [hc, lc_words, hdg0, mk, be, -List.append_assoc]
theorem st_of_tail {n : Nat} {h : Sto} {y : Hn} {v : Vb} {i : Int} {X : Res U} (z : RHd n h ((fApp (.ref (n + 4)) [.d (.tuple [.str v.s, .int i, y.h.st])] h).bind fun _ h1 => F_do_simple [.ref n, .d (.str v.s), .d (.int i)] h1) (prim v i y))
    (e : X = ((fApp (.ref (n + 4)) [.d (.tuple [.str v.s, .int i, y.h.st])] h).bind fun _ h1 => F_do_simple [.ref n, .d (.str v.s), .d (.int i)] h1).bind fun _ h2 => .ok (.d .none) h2) : RHd n h X (prim v i y) := by
  rw [e]
  cases q : prim v i y with
  | out => trivial
  | ok w =>
    rw [q] at z
    obtain ⟨t, z⟩ := z
    exact ⟨t, by rw [z]; rfl⟩
  | exc e w =>
    rw [q] at z
    obtain ⟨t, z⟩ := z
    exact ⟨t, by rw [z]; rfl⟩
theorem RHd.fin {n : Nat} {h : Sto} {r : Res U} {q : Rn} (z : RHd n h r q) : RHd n h (r.bind fun _ h2 => .ok (.d .none) h2) q := by
  cases q with
  | out => trivial
  | ok w => obtain ⟨t, z⟩ := z; exact ⟨t, by rw [z]; rfl⟩
  | exc e w => obtain ⟨t, z⟩ := z; exact ⟨t, by rw [z]; rfl⟩
theorem RHd.eq {n : Nat} {h : Sto} {r r' : Res U} {q : Rn} (e : r = r') (z : RHd n h r' q) : RHd n h r q := e ▸ z
/-- behind the deed -/
theorem RHd.back {n : Nat} {h : Sto} {r : Res U} {q : Rn} {x : Hd} (hl : n + 4 < h.length) (z : RHd n (hset n x h) r q) : RHd n h r q := by
  cases q with
  | out => trivial
  | ok w => obtain ⟨t, z⟩ := z; exact ⟨t, by rw [z, ← List.append_nil h, hset_two (t := []) hl]; simp⟩
  | exc e w => obtain ⟨t, z⟩ := z; exact ⟨t, by rw [z, ← List.append_nil h, hset_two (t := []) hl]; simp⟩
set_option maxHeartbeats 4000000 in
theorem st_step {n wd m k : Nat} {ws : List Wrd} (gw : GW ws) (hla : ∀ x ∈ ws, x.many ≤ 900) (st : StOk n wd m k ws) (st1 : StOk n wd (m + 1) k ws) : StOk n wd (m + 3) (k + 1) ws := by
  intro x cl y h c s cs hw wf iv
  have e : Rec_do_again (m + 3) 2 = sfOf 5 (B_do_statement (Rec_do_again (m + 2))) := rfl
  rw [e, sfOf_ap]
  unfold B_do_statement iS
  have hd := deed_ev s
  have hrest : y.h.rest = y.rest := rfl
  rw [hrest] at hd
  by_cases hr : y.rest ≤ 0
  · rw [if_pos hr] at hd ⊢
    refine ⟨[], ?_⟩
    rw [List.append_nil, s.self]
    simp [s.o, hd]
  · rw [if_neg hr] at hd ⊢
    have hless : y.h.less = y.less.h := rfl
    rw [hless] at hd
    have hl := s.lt
    have s1 : HS n y.less.h (hset n y.less.h h) := s.set
    have cs1 : CS n wd c cl (hset n y.less.h h) := by have := cs.keep (t := []) (x := y.less.h) hl; rw [List.append_nil] at this; exact this
    have iv1 := iv.less hr
    refine RHd.back (x := y.less.h) hl ?_
    generalize hset n y.less.h h = H1 at *
    have hst := state_ev s1
    have lp := s1.o
    have hpl := s1.p
    have hc1 := cs1.k
    have q : ∀ (f g : Str), decide (f = g) = false → ¬ f = g := fun f g e => of_decide_eq_false e
    have ok1 : y.less.ok 99000 := iv1.o.mono (by omega)
    have pre : ∀ rest : Es, (sSeq (sExpr (eMth "Hand" "deed" F_Hand_deed (eV 0) aNil)) rest) ([U.ref n, .d x.e, .ref c].map some ++ List.replicate (5 - [U.ref n, .d x.e, .ref c].length) none) h = rest [some (.ref n), some (.d x.e), some (.ref c), none, none] H1 := fun rest => by
      simp [s.o, hd]
    rw [pre]
    clear pre
    cases x with
    | up =>
      have tl := tail_ev s1 .up 0 ok1 (fun _ => rfl)
      refine st_of_tail tl ?_
      clear tl
      have ee : Stm.up.e = .tuple [.str "up"] := by rw [Stm.e]
      rw [ee]
      have hs : y.less.h.st = .tuple [y.less.h.spot.e, .int y.less.h.heading, .bool y.less.h.down, .int y.less.h.ink] := rfl
      rw [hs, show Vb.up.s = "up" from rfl]
      generalize hfa : fApp (.ref (n + 4)) [.d (.tuple [.str "up", .int 0, .tuple [y.less.h.spot.e, .int y.less.h.heading, .bool y.less.h.down, .int y.less.h.ink]])] H1 = r1
      cases r1 with
      | stuck => simp [-ev_app, q "up" "again" (by decide), q "up" "if" (by decide), q "up" "do" (by decide), lp, hpl, hst, hfa]
      | exc e h1 => simp [-ev_app, q "up" "again" (by decide), q "up" "if" (by decide), q "up" "do" (by decide), lp, hpl, hst, hfa]
      | ok u h1 =>
        generalize hr2 : F_do_simple [.ref n, .d (.str "up"), .d (.int 0)] h1 = r2
        cases r2 <;> simp [-ev_app, q "up" "again" (by decide), q "up" "if" (by decide), q "up" "do" (by decide), lp, hpl, hst, hfa, hr2]
    | down =>
      have tl := tail_ev s1 .down 0 ok1 (fun _ => rfl)
      refine st_of_tail tl ?_
      clear tl
      have ee : Stm.down.e = .tuple [.str "down"] := by rw [Stm.e]
      rw [ee]
      have hs : y.less.h.st = .tuple [y.less.h.spot.e, .int y.less.h.heading, .bool y.less.h.down, .int y.less.h.ink] := rfl
      rw [hs, show Vb.down.s = "down" from rfl]
      generalize hfa : fApp (.ref (n + 4)) [.d (.tuple [.str "down", .int 0, .tuple [y.less.h.spot.e, .int y.less.h.heading, .bool y.less.h.down, .int y.less.h.ink]])] H1 = r1
      cases r1 with
      | stuck => simp [-ev_app, q "down" "again" (by decide), q "down" "if" (by decide), q "down" "do" (by decide), q "down" "up" (by decide), lp, hpl, hst, hfa]
      | exc e h1 => simp [-ev_app, q "down" "again" (by decide), q "down" "if" (by decide), q "down" "do" (by decide), q "down" "up" (by decide), lp, hpl, hst, hfa]
      | ok u h1 =>
        generalize hr2 : F_do_simple [.ref n, .d (.str "down"), .d (.int 0)] h1 = r2
        cases r2 <;> simp [-ev_app, q "down" "again" (by decide), q "down" "if" (by decide), q "down" "do" (by decide), q "down" "up" (by decide), lp, hpl, hst, hfa, hr2]
    | go a =>
      rw [Stm.wf] at wf
      have hv := value_ev cs1 a wf
      have ee : (Stm.go a).e = .tuple [.str "go", a.e] := by rw [Stm.e]
      rw [ee]
      dsimp only
      by_cases hg : great (cl.val a) = true
      · rw [if_pos hg] at hv ⊢
        refine ⟨[], ?_⟩
        rw [List.append_nil, s1.self]
        simp [q "go" "again" (by decide), q "go" "if" (by decide), q "go" "do" (by decide), q "go" "up" (by decide), q "go" "down" (by decide), hc1, lc_value, hv]
      · rw [if_neg hg] at hv ⊢
        have tl := tail_ev s1 .go (cl.val a) ok1 (by rintro (z | z) <;> cases z)
        refine st_of_tail tl ?_
        clear tl
        have hs : y.less.h.st = .tuple [y.less.h.spot.e, .int y.less.h.heading, .bool y.less.h.down, .int y.less.h.ink] := rfl
        rw [hs, show Vb.go.s = "go" from rfl]
        generalize hfa : fApp (.ref (n + 4)) [.d (.tuple [.str "go", .int (cl.val a), .tuple [y.less.h.spot.e, .int y.less.h.heading, .bool y.less.h.down, .int y.less.h.ink]])] H1 = r1
        cases r1 with
        | stuck => simp [-ev_app, q "go" "again" (by decide), q "go" "if" (by decide), q "go" "do" (by decide), q "go" "up" (by decide), q "go" "down" (by decide), hc1, lc_value, hv, lp, hpl, hst, hfa]
        | exc e h1 => simp [-ev_app, q "go" "again" (by decide), q "go" "if" (by decide), q "go" "do" (by decide), q "go" "up" (by decide), q "go" "down" (by decide), hc1, lc_value, hv, lp, hpl, hst, hfa]
        | ok u h1 =>
          generalize hr2 : F_do_simple [.ref n, .d (.str "go"), .d (.int (cl.val a))] h1 = r2
          cases r2 <;> simp [-ev_app, q "go" "again" (by decide), q "go" "if" (by decide), q "go" "do" (by decide), q "go" "up" (by decide), q "go" "down" (by decide), hc1, lc_value, hv, lp, hpl, hst, hfa, hr2]
    | turn a =>
      rw [Stm.wf] at wf
      have hv := value_ev cs1 a wf
      have ee : (Stm.turn a).e = .tuple [.str "turn", a.e] := by rw [Stm.e]
      rw [ee]
      dsimp only
      by_cases hg : great (cl.val a) = true
      · rw [if_pos hg] at hv ⊢
        refine ⟨[], ?_⟩
        rw [List.append_nil, s1.self]
        simp [q "turn" "again" (by decide), q "turn" "if" (by decide), q "turn" "do" (by decide), q "turn" "up" (by decide), q "turn" "down" (by decide), hc1, lc_value, hv]
      · rw [if_neg hg] at hv ⊢
        have tl := tail_ev s1 .turn (cl.val a) ok1 (by rintro (z | z) <;> cases z)
        refine st_of_tail tl ?_
        clear tl
        have hs : y.less.h.st = .tuple [y.less.h.spot.e, .int y.less.h.heading, .bool y.less.h.down, .int y.less.h.ink] := rfl
        rw [hs, show Vb.turn.s = "turn" from rfl]
        generalize hfa : fApp (.ref (n + 4)) [.d (.tuple [.str "turn", .int (cl.val a), .tuple [y.less.h.spot.e, .int y.less.h.heading, .bool y.less.h.down, .int y.less.h.ink]])] H1 = r1
        cases r1 with
        | stuck => simp [-ev_app, q "turn" "again" (by decide), q "turn" "if" (by decide), q "turn" "do" (by decide), q "turn" "up" (by decide), q "turn" "down" (by decide), hc1, lc_value, hv, lp, hpl, hst, hfa]
        | exc e h1 => simp [-ev_app, q "turn" "again" (by decide), q "turn" "if" (by decide), q "turn" "do" (by decide), q "turn" "up" (by decide), q "turn" "down" (by decide), hc1, lc_value, hv, lp, hpl, hst, hfa]
        | ok u h1 =>
          generalize hr2 : F_do_simple [.ref n, .d (.str "turn"), .d (.int (cl.val a))] h1 = r2
          cases r2 <;> simp [-ev_app, q "turn" "again" (by decide), q "turn" "if" (by decide), q "turn" "do" (by decide), q "turn" "up" (by decide), q "turn" "down" (by decide), hc1, lc_value, hv, lp, hpl, hst, hfa, hr2]
    | ink a =>
      rw [Stm.wf] at wf
      have hv := value_ev cs1 a wf
      have ee : (Stm.ink a).e = .tuple [.str "ink", a.e] := by rw [Stm.e]
      rw [ee]
      dsimp only
      by_cases hg : great (cl.val a) = true
      · rw [if_pos hg] at hv ⊢
        refine ⟨[], ?_⟩
        rw [List.append_nil, s1.self]
        simp [q "ink" "again" (by decide), q "ink" "if" (by decide), q "ink" "do" (by decide), q "ink" "up" (by decide), q "ink" "down" (by decide), hc1, lc_value, hv]
      · rw [if_neg hg] at hv ⊢
        have tl := tail_ev s1 .ink (cl.val a) ok1 (by rintro (z | z) <;> cases z)
        refine st_of_tail tl ?_
        clear tl
        have hs : y.less.h.st = .tuple [y.less.h.spot.e, .int y.less.h.heading, .bool y.less.h.down, .int y.less.h.ink] := rfl
        rw [hs, show Vb.ink.s = "ink" from rfl]
        generalize hfa : fApp (.ref (n + 4)) [.d (.tuple [.str "ink", .int (cl.val a), .tuple [y.less.h.spot.e, .int y.less.h.heading, .bool y.less.h.down, .int y.less.h.ink]])] H1 = r1
        cases r1 with
        | stuck => simp [-ev_app, q "ink" "again" (by decide), q "ink" "if" (by decide), q "ink" "do" (by decide), q "ink" "up" (by decide), q "ink" "down" (by decide), hc1, lc_value, hv, lp, hpl, hst, hfa]
        | exc e h1 => simp [-ev_app, q "ink" "again" (by decide), q "ink" "if" (by decide), q "ink" "do" (by decide), q "ink" "up" (by decide), q "ink" "down" (by decide), hc1, lc_value, hv, lp, hpl, hst, hfa]
        | ok u h1 =>
          generalize hr2 : F_do_simple [.ref n, .d (.str "ink"), .d (.int (cl.val a))] h1 = r2
          cases r2 <;> simp [-ev_app, q "ink" "again" (by decide), q "ink" "if" (by decide), q "ink" "do" (by decide), q "ink" "up" (by decide), q "ink" "down" (by decide), hc1, lc_value, hv, lp, hpl, hst, hfa, hr2]
    | mark i =>
      rw [Stm.wf] at wf
      have hv := value_ev cs1 (.int i) (by show i.natAbs ≤ 1000000; omega)
      have ee : (Stm.mark i).e = .tuple [.str "mark", .int i] := by rw [Stm.e]
      rw [ee]
      have hg : ¬ great (cl.val (.int i)) = true := by
        show ¬ great i = true
        unfold great
        simp
        omega
      rw [if_neg hg, show cl.val (.int i) = i from rfl, show Amt.e (.int i) = .int i from rfl] at hv
      have tl := tail_ev s1 .mark i ok1 (by rintro (z | z) <;> cases z)
      refine st_of_tail tl ?_
      clear tl
      have hs : y.less.h.st = .tuple [y.less.h.spot.e, .int y.less.h.heading, .bool y.less.h.down, .int y.less.h.ink] := rfl
      rw [hs, show Vb.mark.s = "mark" from rfl]
      generalize hfa : fApp (.ref (n + 4)) [.d (.tuple [.str "mark", .int i, .tuple [y.less.h.spot.e, .int y.less.h.heading, .bool y.less.h.down, .int y.less.h.ink]])] H1 = r1
      cases r1 with
      | stuck => simp [-ev_app, q "mark" "again" (by decide), q "mark" "if" (by decide), q "mark" "do" (by decide), q "mark" "up" (by decide), q "mark" "down" (by decide), hc1, lc_value, hv, lp, hpl, hst, hfa]
      | exc e h1 => simp [-ev_app, q "mark" "again" (by decide), q "mark" "if" (by decide), q "mark" "do" (by decide), q "mark" "up" (by decide), q "mark" "down" (by decide), hc1, lc_value, hv, lp, hpl, hst, hfa]
      | ok u h1 =>
        generalize hr2 : F_do_simple [.ref n, .d (.str "mark"), .d (.int i)] h1 = r2
        cases r2 <;> simp [-ev_app, q "mark" "again" (by decide), q "mark" "if" (by decide), q "mark" "do" (by decide), q "mark" "up" (by decide), q "mark" "down" (by decide), hc1, lc_value, hv, lp, hpl, hst, hfa, hr2]
    | back i =>
      rw [Stm.wf] at wf
      have hv := value_ev cs1 (.int i) (by show i.natAbs ≤ 1000000; omega)
      have ee : (Stm.back i).e = .tuple [.str "back", .int i] := by rw [Stm.e]
      rw [ee]
      have hg : ¬ great (cl.val (.int i)) = true := by
        show ¬ great i = true
        unfold great
        simp
        omega
      rw [if_neg hg, show cl.val (.int i) = i from rfl, show Amt.e (.int i) = .int i from rfl] at hv
      have tl := tail_ev s1 .back i ok1 (by rintro (z | z) <;> cases z)
      refine st_of_tail tl ?_
      clear tl
      have hs : y.less.h.st = .tuple [y.less.h.spot.e, .int y.less.h.heading, .bool y.less.h.down, .int y.less.h.ink] := rfl
      rw [hs, show Vb.back.s = "back" from rfl]
      generalize hfa : fApp (.ref (n + 4)) [.d (.tuple [.str "back", .int i, .tuple [y.less.h.spot.e, .int y.less.h.heading, .bool y.less.h.down, .int y.less.h.ink]])] H1 = r1
      cases r1 with
      | stuck => simp [-ev_app, q "back" "again" (by decide), q "back" "if" (by decide), q "back" "do" (by decide), q "back" "up" (by decide), q "back" "down" (by decide), hc1, lc_value, hv, lp, hpl, hst, hfa]
      | exc e h1 => simp [-ev_app, q "back" "again" (by decide), q "back" "if" (by decide), q "back" "do" (by decide), q "back" "up" (by decide), q "back" "down" (by decide), hc1, lc_value, hv, lp, hpl, hst, hfa]
      | ok u h1 =>
        generalize hr2 : F_do_simple [.ref n, .d (.str "back"), .d (.int i)] h1 = r2
        cases r2 <;> simp [-ev_app, q "back" "again" (by decide), q "back" "if" (by decide), q "back" "do" (by decide), q "back" "up" (by decide), q "back" "down" (by decide), hc1, lc_value, hv, lp, hpl, hst, hfa, hr2]
    | again a b =>
      rw [Stm.wf] at wf
      have ra := RHd.fin (again_ev6 st hw wf.1 wf.2 s1 cs1 iv1)
      have he : (Stm.again a b).e = .tuple [.str "again", a.e, .tuple (bE b)] := by rw [Stm.e]
      rw [he] at ra ⊢
      refine RHd.eq ?_ ra
      generalize hrr : Rec_do_again (m + 2) 0 [.ref n, .d (.tuple [.str "again", a.e, .tuple (bE b)]), .ref c] H1 = rr
      cases rr <;> simp [hrr]
    | iff a b b' =>
      rw [Stm.wf] at wf
      obtain ⟨wa, wb, wb'⟩ := wf
      have hv := value_ev cs1 a wa
      have he : (Stm.iff a b b').e = .tuple [.str "if", a.e, .tuple (bE b), .tuple (bE b')] := by rw [Stm.e]
      rw [he]
      dsimp only
      by_cases hg : great (cl.val a) = true
      · rw [if_pos hg] at hv ⊢
        refine ⟨[], ?_⟩
        rw [List.append_nil, s1.self]
        simp [q "if" "again" (by decide), hc1, lc_value, hv]
      · rw [if_neg hg] at hv ⊢
        by_cases hz : cl.val a ≤ 0
        · rw [if_pos hz]
          have rb := RHd.fin (body_ev6 (b := b') st1 hw s1 cs1 wb' iv1)
          refine RHd.eq ?_ rb
          generalize hrr : Rec_do_again (m + 1 + 1) 3 [.ref n, .d (.tuple (bE b')), .ref c] H1 = rr
          have hrr' : Rec_do_again (m + 2) 3 [.ref n, .d (.tuple (bE b')), .ref c] H1 = rr := hrr
          cases rr <;> simp [q "if" "again" (by decide), hc1, lc_value, hv, hz, hrr']
        · rw [if_neg hz]
          have rb := RHd.fin (body_ev6 (b := b) st1 hw s1 cs1 wb iv1)
          refine RHd.eq ?_ rb
          generalize hrr : Rec_do_again (m + 1 + 1) 3 [.ref n, .d (.tuple (bE b)), .ref c] H1 = rr
          have hrr' : Rec_do_again (m + 2) 3 [.ref n, .d (.tuple (bE b)), .ref c] H1 = rr := hrr
          cases rr <;> simp [q "if" "again" (by decide), hc1, lc_value, hv, hz, hrr']
    | call w as =>
      have wf0 := wf
      rw [Stm.wf] at wf0
      obtain ⟨⟨x, hx, hxn, hxm⟩, wa⟩ := wf0
      have ra := RHd.fin (word_ev6 gw st hw wf (by rw [← hxm]; exact hla x hx) s1 cs1 iv1)
      have he : (Stm.call w as).e = .tuple [.str "do", .str w, .tuple (as.map Amt.e)] := by rw [Stm.e]
      rw [he] at ra ⊢
      refine RHd.eq ?_ ra
      generalize as.map Amt.e = Ae
      generalize hrr : Rec_do_again (m + 2) 1 [.ref n, .d (.tuple [.str "do", .str w, .tuple Ae]), .ref c] H1 = rr
      cases rr <;> simp [q "do" "again" (by decide), q "do" "if" (by decide), hrr]
theorem st_all {n wd : Nat} {ws : List Wrd} (gw : GW ws) (hla : ∀ x ∈ ws, x.many ≤ 900) : ∀ (k m : Nat), 3 * k ≤ m → StOk n wd m k ws
  | 0, m, _ => fun s cl y h c _ _ _ _ _ => trivial
  | k + 1, m, h => by
    obtain ⟨m', rfl⟩ : ∃ m', m = m' + 3 := ⟨m - 3, by omega⟩
    exact st_step gw hla (st_all gw hla k m' (by omega)) (st_all gw hla k (m' + 1) (by omega))
end Lw

namespace Lw
open PySem L2 Wk
theorem putU_new {kvs : List (Key × U)} {k : Key} {v : U} (h : ∀ z ∈ kvs, z.1 ≠ k) : putU kvs k v = kvs ++ [(k, v)] := by
  unfold putU
  rw [if_neg]
  intro z
  obtain ⟨x, hx, e⟩ := List.any_eq_true.mp z
  exact h x hx (of_decide_eq_true e)
theorem words_loop (P : D) (most : Int) (N : Nat) : ∀ (r done : List Wrd) (A : Sto) (e5 e6 e7 : Option U), A.length = N → (∀ x ∈ done ++ r, ∀ y ∈ done ++ r, x.name = y.name → x = y) → (done ++ r).Nodup → (done ++ r).length ≤ 1000 →
    ∃ f5 f6 f7, forGo (gTup' 3 (gCons' (gN 5) (gCons' (gN 6) (gCons' (gN 7) gNil')))) L_hand_behind_0 ((r.map Wrd.e).map U.d) [some (.d P), some (.d (.int most)), some (.ref N), none, none, e5, e6, e7] (A ++ [.dct ((dictW done).map Wk.wE)]) =
      .next [some (.d P), some (.d (.int most)), some (.ref N), none, none, f5, f6, f7] (A ++ [.dct ((dictW (done ++ r)).map Wk.wE)])
  | [], done, A, e5, e6, e7, _, _, _, _ => ⟨e5, e6, e7, by simp⟩
  | w :: r, done, A, e5, e6, e7, hN, hu, hd, hl => by
    have hne : ∀ z ∈ (dictW done).map Wk.wE, z.1 ≠ .inr w.name := fun z hz => by
      obtain ⟨p, hp, rfl⟩ := List.mem_map.mp hz
      obtain ⟨x, hx, rfl⟩ := List.mem_map.mp hp
      intro e
      have e' : x.name = w.name := Sum.inr.inj e
      have := hu x (List.mem_append_left _ hx) w (List.mem_append_right _ List.mem_cons_self) e'
      subst this
      exact (List.nodup_append.mp hd).2.2 x hx x List.mem_cons_self rfl
    have hput := putU_new (v := .d (.tuple (bE w.body))) hne
    have happ : (dictW done).map Wk.wE ++ [((.inr w.name : Key), U.d (.tuple (bE w.body)))] = (dictW (done ++ [w])).map Wk.wE := by
      unfold dictW
      rw [List.map_append, List.map_append]
      rfl
    have hdp : dPut (.ref N) (.d (.str w.name)) (.d (.tuple (bE w.body))) (A ++ [.dct ((dictW done).map Wk.wE)]) = some (A ++ [.dct ((dictW (done ++ [w])).map Wk.wE)]) := by
      unfold dPut
      have g0 : (A ++ [Ob.dct ((dictW done).map Wk.wE)])[N]? = some (.dct ((dictW done).map Wk.wE)) := by rw [← hN]; exact ag0 _ _
      have hz : ask (((dictW done).map Wk.wE).length < sizeLine) = true := ask_t (by
        rw [sizeLine_eq]
        unfold dictW
        simp at hl ⊢
        omega)
      simp only [g0, keyOf, hz, if_true, hput, happ]
      rw [← hN, as0]
      rfl
    have es : L_hand_behind_0 [some (.d P), some (.d (.int most)), some (.ref N), none, none, some (.d (.str w.name)), some (.d (.int w.many)), some (.d (.tuple (bE w.body)))] (A ++ [.dct ((dictW done).map Wk.wE)]) = .next [some (.d P), some (.d (.int most)), some (.ref N), none, none, some (.d (.str w.name)), some (.d (.int w.many)), some (.d (.tuple (bE w.body)))] (A ++ [.dct ((dictW (done ++ [w])).map Wk.wE)]) := by
      unfold L_hand_behind_0
      simp [ev_DPutS, hdp, -List.append_assoc]
    have ha : done ++ w :: r = (done ++ [w]) ++ r := by simp
    rw [ha] at hu hd hl ⊢
    obtain ⟨f5, f6, f7, ih⟩ := words_loop P most N r (done ++ [w]) A (some (.d (.str w.name))) (some (.d (.int w.many))) (some (.d (.tuple (bE w.body)))) hN hu hd hl
    refine ⟨f5, f6, f7, ?_⟩
    rw [List.map_cons, List.map_cons, ev_forC]
    have ht : gTup' 3 (gCons' (gN 5) (gCons' (gN 6) (gCons' (gN 7) gNil'))) (.d w.e) [some (.d P), some (.d (.int most)), some (.ref N), none, none, e5, e6, e7] (A ++ [.dct ((dictW done).map Wk.wE)]) = some [some (.d P), some (.d (.int most)), some (.ref N), none, none, some (.d (.str w.name)), some (.d (.int w.many)), some (.d (.tuple (bE w.body)))] := by
      unfold Wrd.e
      simp
    rw [ht]
    dsimp only
    rw [es]
    simp only [SRes.seq_next]
    exact ih
/-- what run and its hand come to -/
def BhR (h : Sto) (wd : List (Key × U)) (r : Res U) : Rn → Prop
  | .ok y => ∃ t, r = .ok (.tup [.ref (h.length + 1), .d (.bool true)]) ((h ++ [.dct wd]) ++ (hb (h.length + 1) y.h ++ t))
  | .exc e y => if e = "Stopped" then ∃ t, r = .ok (.tup [.ref (h.length + 1), .d (.bool false)]) ((h ++ [.dct wd]) ++ (hb (h.length + 1) y.h ++ t)) else ∃ t, r = .exc e ((h ++ [.dct wd]) ++ (hb (h.length + 1) y.h ++ t))
  | .out => True
theorem behind6 {ws : List Wrd} {b : List Stm} (g : GP ws b) {most : Int} (hm : most ≤ 50000) (h : Sto) : BhR h ((dictW ws).map Wk.wE) (F_hand_behind [.d (progE ws b), .d (.int most)] h) (runR ws b most) := by
  have hnd : ws.Nodup := by
    have : ∀ r : List Wrd, wsWf r → r.Nodup := fun r => by
      induction r with
      | nil => exact fun _ => List.nodup_nil
      | cons w r ih =>
        rintro ⟨_, _, _, h4, h5⟩
        exact List.nodup_cons.mpr ⟨fun hz => h4 w hz rfl, ih h5⟩
    have := this _ g.w
    exact (List.pairwise_reverse.mp this).imp Ne.symm
  obtain ⟨f5, f6, f7, wl⟩ := words_loop (progE ws b) most h.length ws [] h none none none rfl (by rw [List.nil_append]; exact g.gw.u) (by rw [List.nil_append]; exact hnd) (by rw [List.nil_append]; have := g.l; omega)
  rw [List.nil_append] at wl
  have w0 : (dictW []).map Wk.wE = [] := rfl
  rw [w0] at wl
  generalize hWD : (dictW ws).map Wk.wE = WD at *
  have e1 := init_ev most (h ++ [.dct WD])
  have e2 := cinit_ev (.ref h.length) [] (.int 0) ((h ++ [.dct WD]) ++ hb (h.length + 1) (hd0 most))
  have hlen : (h ++ [Ob.dct WD]).length = h.length + 1 := by simp
  rw [hlen] at e1
  have hlen2 : ((h ++ [Ob.dct WD]) ++ hb (h.length + 1) (hd0 most)).length = h.length + 6 := by simp [hb]
  rw [hlen2] at e2
  have s := hb_HS (h ++ [Ob.dct WD]) [.ins "Call" (cfs (.ref h.length) [] (.int 0))] (hd0 most)
  rw [hlen] at s
  have hc : ((h ++ [Ob.dct WD]) ++ (hb (h.length + 1) (hd0 most) ++ [.ins "Call" (cfs (.ref h.length) [] (.int 0))]))[h.length + 6]? = some (.ins "Call" (cfs (.ref h.length) [] (.int 0))) := by
    rw [← List.append_assoc]
    have := ag0 ((h ++ [Ob.dct WD]) ++ hb (h.length + 1) (hd0 most)) [.ins "Call" (cfs (.ref h.length) [] (.int 0))]
    rw [hlen2] at this
    exact this
  have hwd : ((h ++ [Ob.dct WD]) ++ (hb (h.length + 1) (hd0 most) ++ [.ins "Call" (cfs (.ref h.length) [] (.int 0))]))[h.length]? = some (.dct WD) := by
    rw [List.append_assoc]
    exact ag0 _ _
  have cs : CS (h.length + 1) h.length (h.length + 6) ⟨dictW ws, [], 0⟩ ((h ++ [Ob.dct WD]) ++ (hb (h.length + 1) (hd0 most) ++ [.ins "Call" (cfs (.ref h.length) [] (.int 0))])) := ⟨by rw [hwd, hWD], hc, .inl (by omega), .inr (by omega)⟩
  have be := body_ev6 (m := 149) (k := 49) (st_all (n := h.length + 1) (wd := h.length) g.gw g.many 49 149 (by decide)) (cl := ⟨dictW ws, [], 0⟩) rfl (y := hn0 most) s cs g.f (hn0_iv hm)
  have hF : Rec_do_again (149 + 1) 3 = F_do_body := rfl
  rw [hF] at be
  have hbl : ∀ n x, (hb n x).length = 5 := fun _ _ => rfl
  have hx1 : exm "Stopped" "Stopped" = some true := by with_unfolding_all rfl
  have hx2 : exm "TooGreat" "Stopped" = some false := by with_unfolding_all rfl
  have hx3 : exm "NoMark" "Stopped" = some false := by with_unfolding_all rfl
  have hoe := iB_okE (iS_okE 49) b ⟨dictW ws, [], 0⟩ (hn0 most)
  have hsets : ∀ (y : Hn) (t : Sto), hset (h.length + 1) y.h ((h ++ [Ob.dct WD]) ++ (hb (h.length + 1) (hd0 most) ++ [.ins "Call" (cfs (.ref h.length) [] (.int 0))]) ++ t) = (h ++ [Ob.dct WD]) ++ (hb (h.length + 1) y.h ++ ([.ins "Call" (cfs (.ref h.length) [] (.int 0))] ++ t)) := fun y t => by
    have := hset_hb (h ++ [Ob.dct WD]) ([.ins "Call" (cfs (.ref h.length) [] (.int 0))] ++ t) (hd0 most) y.h
    rw [hlen] at this
    rw [← this]
    simp
  have q : ∀ (f g : Str), decide (f = g) = false → ¬ f = g := fun f g e => of_decide_eq_false e
  have n1 := q "TooGreat" "Stopped" (by decide)
  have n2 := q "NoMark" "Stopped" (by decide)
  unfold runR
  rw [← List.append_assoc (h ++ [Ob.dct WD]) (hb (h.length + 1) (hd0 most))] at be hsets
  have hpE : ∀ e5 e6 e7 : Option U, Y_hand_behind_1 [some (.d (progE ws b)), some (.d (.int most)), some (.ref h.length), some (.ref (h.length + 1)), some (.d (.bool true)), e5, e6, e7] (h ++ [.dct WD] ++ hb (h.length + 1) (hd0 most)) = (F_do_body [.ref (h.length + 1), .d (.tuple (bE b)), .ref (h.length + 6)] (h ++ [.dct WD] ++ hb (h.length + 1) (hd0 most) ++ [.ins "Call" (cfs (.ref h.length) [] (.int 0))])).then_ [some (.d (progE ws b)), some (.d (.int most)), some (.ref h.length), some (.ref (h.length + 1)), some (.d (.bool true)), e5, e6, e7] fun _ h1 => .next [some (.d (progE ws b)), some (.d (.int most)), some (.ref h.length), some (.ref (h.length + 1)), some (.d (.bool true)), e5, e6, e7] h1 := fun e5 e6 e7 => by
    unfold Y_hand_behind_1 progE
    simp [-List.append_assoc, hbl, e2]
  have pre : ∀ r : Rn, (∀ (X : SRes), X = Y_hand_behind_1 [some (.d (progE ws b)), some (.d (.int most)), some (.ref h.length), some (.ref (h.length + 1)), some (.d (.bool true)), f5, f6, f7] (h ++ [.dct WD] ++ hb (h.length + 1) (hd0 most)) → BhR h WD (match (match X with
      | .exc c env' h' => tryGo exm c env' h' [("Stopped", sSet 4 (eC (.bool false)))]
      | .next env' h' => .next env' h'
      | .ret u h' => .ret u h'
      | .stuck => .stuck : SRes).seq (sRet (eTup (aCons (eV 3) (aCons (eV 4) aNil)))) with
      | .ret u h' => .ok u h'
      | .next _ h' => .ok (.d .none) h'
      | .exc c _ h' => .exc c h'
      | .stuck => .stuck) r) → BhR h WD (F_hand_behind [.d (progE ws b), .d (.int most)] h) r := fun r hr => by
    have := hr _ rfl
    unfold F_hand_behind B_hand_behind
    rw [sfOf_ap]
    have wl' := wl
    unfold progE at wl' this ⊢
    simp only [List.map_cons, List.map_nil, List.length_cons, List.length_nil, List.cons_append, List.nil_append]
    rw [show (List.replicate (8 - (0 + 1 + 1)) none : List (Option U)) = [none, none, none, none, none, none] from rfl]
    generalize ws.map Wrd.e = WE at *
    simp only [ev_Seq, ev_Set, ev_DNew, Res.then_ok, SRes.seq_next, List.set_cons_succ, List.set_cons_zero, ev_For, ev_iSeq, ev_Bin, ev_V, ev_C, List.getElem?_cons_zero, Res.bind_ok, ev_ixT, atI_0, wl', ev_Mk, ev_aCons, ev_aNil, hlen, e1, ev_retN, List.getElem?_cons_succ]
    exact this
  refine pre _ fun X hX => ?_
  rw [hpE] at hX
  subst hX
  cases hq : iB (iS 49) b ⟨dictW ws, [], 0⟩ (hn0 most) with
  | out => trivial
  | ok y =>
    rw [hq] at be
    obtain ⟨t, be⟩ := be
    rw [be, hsets]
    refine ⟨[.ins "Call" (cfs (.ref h.length) [] (.int 0))] ++ t, ?_⟩
    simp
  | exc e y =>
    rw [hq] at be hoe
    obtain ⟨t, be⟩ := be
    rw [be, hsets]
    unfold BhR
    dsimp only
    rcases hoe with z | z | z <;> subst z
    · rw [if_pos rfl]
      refine ⟨[.ins "Call" (cfs (.ref h.length) [] (.int 0))] ++ t, ?_⟩
      simp [tryGo, hx1, SRes.noEx]
    · rw [if_neg n1]
      refine ⟨[.ins "Call" (cfs (.ref h.length) [] (.int 0))] ++ t, ?_⟩
      simp [tryGo, hx2]
    · rw [if_neg n2]
      refine ⟨[.ins "Call" (cfs (.ref h.length) [] (.int 0))] ++ t, ?_⟩
      simp [tryGo, hx3]
def RuR (h : Sto) (wd : List (Key × U)) (r : Res U) : Rn → Prop
  | .ok y => ∃ t, r = .ok (.tup [.ref (h.length + 1 + 2), .ref (h.length + 1 + 3), .d y.h.st, .d (.int y.turns), .d (.bool true)]) ((h ++ [.dct wd]) ++ (hb (h.length + 1) y.h ++ t))
  | .exc e y => if e = "Stopped" then ∃ t, r = .ok (.tup [.ref (h.length + 1 + 2), .ref (h.length + 1 + 3), .d y.h.st, .d (.int y.turns), .d (.bool false)]) ((h ++ [.dct wd]) ++ (hb (h.length + 1) y.h ++ t)) else ∃ t, r = .exc e ((h ++ [.dct wd]) ++ (hb (h.length + 1) y.h ++ t))
  | .out => True
theorem run6 {ws : List Wrd} {b : List Stm} (g : GP ws b) {most : Int} (hm : most ≤ 50000) (h : Sto) : RuR h ((dictW ws).map Wk.wE) (F_run [.d (progE ws b), .d (.int most)] h) (runR ws b most) := by
  have e := behind6 g hm h
  generalize (dictW ws).map Wk.wE = WD at *
  have fin : ∀ (y : Hn) (t : Sto) (d : Bool), F_hand_behind [.d (progE ws b), .d (.int most)] h = .ok (.tup [.ref (h.length + 1), .d (.bool d)]) ((h ++ [.dct WD]) ++ (hb (h.length + 1) y.h ++ t)) →
      F_run [.d (progE ws b), .d (.int most)] h = .ok (.tup [.ref (h.length + 1 + 2), .ref (h.length + 1 + 3), .d y.h.st, .d (.int y.turns), .d (.bool d)]) ((h ++ [.dct WD]) ++ (hb (h.length + 1) y.h ++ t)) := fun y t d e => by
    have s := hb_HS (h ++ [Ob.dct WD]) t y.h
    have hlen : (h ++ [Ob.dct WD]).length = h.length + 1 := by simp
    rw [hlen] at s
    have hst := state_ev s
    have ho := s.o
    generalize h ++ [Ob.dct WD] ++ (hb (h.length + 1) y.h ++ t) = h2 at *
    unfold F_run B_run
    rw [sfOf_ap]
    have it : ∀ (u w : U) (h : Sto), itemsOf h (.tup [u, w]) = some [u, w] := fun _ _ _ => rfl
    have tn : y.h.turns = y.turns := rfl
    simp [e, it, ho, hst, Hd.st, tn]
  cases hq : runR ws b most with
  | out => trivial
  | ok y =>
    rw [hq] at e
    obtain ⟨t, e⟩ := e
    exact ⟨t, fin y t true e⟩
  | exc x y =>
    rw [hq] at e
    unfold BhR at e
    unfold RuR
    dsimp only at e ⊢
    split at e
    · rename_i hx
      rw [if_pos hx]
      obtain ⟨t, e⟩ := e
      exact ⟨t, fin y t false e⟩
    · rename_i hx
      rw [if_neg hx]
      obtain ⟨t, e⟩ := e
      refine ⟨t, ?_⟩
      unfold F_run B_run
      rw [sfOf_ap]
      simp [e, -List.append_assoc]
end Lw

namespace Lw
open PySem L2 Wk
theorem next_ev {n : Nat} {ds : List Int} {h : Sto} (e : h[n]? = some (.lst (dk ds))) : F_law_next [.ref n] h = .ok (.d (.int (ds.headD 0))) (h.set n (.lst (dk ds.tail))) := by
  unfold F_law_next B_law_next
  rw [sfOf_ap]
  cases ds with
  | nil =>
    have q := set_self e
    simp [e, dk_len]
    rw [show (dk ([] : List Int)) = [] from rfl] at q
    exact q.symm
  | cons c ds =>
    have hne : ¬ ((ds.length : Int) + 1 = 0) := by omega
    have hl := dk_last c ds
    have hd := dk_drop c ds
    rw [dk_len] at hl
    simp only [List.length_cons, Nat.add_sub_cancel] at hl
    simp [e, dk_len, hne, hl, hd]
    exact (List.getElem?_eq_some_iff.mp hl).2
theorem dcell_ev (ns : List Int) (hl : ns.length ≤ 63) (k : Int) (h0 : 0 ≤ k) (h1 : k < 1000) : ∃ r, F_law_cell [.list (ns.map .int), .int k] = .ok (.int r) := cell_ev ns k h0 (by omega) (by omega)
theorem deck_ev (ns : List Int) (hl : ns.length ≤ 63) (st : Int) (s0 : 0 ≤ st) (s1 : st ≤ 1) (h : Sto) : ∃ ds : List Int, F_law_deck [.d (.list (ns.map .int)), .d (.int st)] h = .ok (.ref h.length) (h ++ [.lst (dk ds)]) ∧ 32 ≤ ds.length ∧ ds.length ≤ 504 ∧ ∀ c ∈ ds, 0 ≤ c ∧ c < 1000 := by
  generalize hcnt : (if (if (ns.length : Int) < 63 then (ns.length : Int) else 63) > st + 4 then (if (ns.length : Int) < 63 then (ns.length : Int) else 63) else st + 4) = cnt
  have hc : st + 4 ≤ cnt ∧ cnt ≤ 63 := by rw [← hcnt]; split <;> split <;> omega
  have r1 : rngOk st = true := rng_of (by omega) (by omega)
  have r2 : rngOk cnt = true := rng_of (by omega) (by omega)
  obtain ⟨env', h', e, ds, y3, e1, e2, e3, e4⟩ := forGo_inv (t := gN 3) (b := L_law_deck_0) (us := iRange (cnt - st).toNat st)
    (fun i env h' => ∃ (ds : List Int) (y3 : Option U), env = [some (.d (.list (ns.map .int))), some (.d (.int st)), some (.d (.list (ds.map .int))), y3] ∧ h' = h ∧ ds.length = 8 * i ∧ ∀ c ∈ ds, 0 ≤ c ∧ c < 1000) 0
    (env := [some (.d (.list (ns.map .int))), some (.d (.int st)), some (.d (.list [])), none]) (h := h) ⟨[], none, rfl, rfl, rfl, by simp⟩ (fun i u env h' eu hI => by
      obtain ⟨ds, y3, rfl, rfl, e3, e4⟩ := hI
      obtain ⟨hi, rfl⟩ := iRange_get eu
      obtain ⟨cc, ecc⟩ := dcell_ev ns hl (st + i) (by omega) (by omega)
      obtain ⟨row, er, lr, hr⟩ := row_ev cc 1000 8 (by decide) (by decide) (by decide)
      have er' : F_law_row [.int cc, .int 1000, .int 8] = .ok (.list (row.map .int)) := er
      have ad := fun h => addLL (ds.map PyData.int) (row.map PyData.int) h (by simp; omega)
      refine ⟨_, [some (.d (.list (ns.map .int))), some (.d (.int st)), some (.d (.list ((ds ++ row).map .int))), some (.d (.int (st + i)))], h', rfl, ?_, ds ++ row, _, rfl, rfl, by simp [e3, lr]; omega, fun c hc' => ?_⟩
      · unfold L_law_deck_0
        simp [ecc, er', ad]
      · rcases List.mem_append.mp hc' with z | z
        · exact e4 c z
        · exact hr c z)
  subst e1 e2
  rw [iRange_len] at e3
  refine ⟨ds, ?_, by omega, by omega, e4⟩
  unfold F_law_deck B_law_deck
  rw [sfOf_ap]
  simp [hcnt, r1, r2, e, dk]
theorem nextD {n : Nat} {ds : List Int} {h t : Sto} (hn : InS n h) : F_law_next [.ref n] (dst n ds h t) = .ok (.d (.int (ds.headD 0))) (dst n ds.tail h t) := by
  rw [next_ev (dst_get hn), dst_set hn]
theorem nAdd (c : Int) (h : Sto) (k : Nat) (hk : c = k) (k4 : k < 4) : ∃ z : Str, fStr [.d (.int c)] h = .ok (.d (.str z)) h ∧ opAdd false (.d (.str "n")) (.d (.str z)) h = .ok (.d (.str (nName k))) h := by
  subst hk
  have hf : ∀ z w : Str, z.length + w.length ≤ 16777216 → opAdd false (.d (.str z)) (.d (.str w)) h = .ok (.d (.str (z ++ w))) h := fun z w hl => by
    show (if fits (z.length + w.length) then .ok (.d (.str (z ++ w))) h else .stuck : Res U) = _
    rw [fits_of hl]
    rfl
  have hz : k = 0 ∨ k = 1 ∨ k = 2 ∨ k = 3 := by omega
  rcases hz with z | z | z | z <;> subst z
  · exact ⟨_, ev_str h 0 (by decide +kernel), by rw [hf _ _ (by decide +kernel)]; rfl⟩
  · exact ⟨_, ev_str h 1 (by decide +kernel), by rw [hf _ _ (by decide +kernel)]; rfl⟩
  · exact ⟨_, ev_str h 2 (by decide +kernel), by rw [hf _ _ (by decide +kernel)]; rfl⟩
  · exact ⟨_, ev_str h 3 (by decide +kernel), by rw [hf _ _ (by decide +kernel)]; rfl⟩
/-- an amount is drawn -/
theorem amountD {n : Nat} {ds : List Int} {h t : Sto} (hn : InS n h) (ok : okD ds) (i : Bool) (tk : Nat) (tk4 : tk ≤ 4) : ∃ (a : Amt) (ds' : List Int), F_law_amount [.ref n, .d (.bool i), .d (.int tk)] (dst n ds h t) = .ok (.d a.e) (dst n ds' h t) ∧ a.wf tk ∧ a.cn i ∧ a.sml ∧ okD ds' ∧ ds'.length ≤ ds.length := by
  have e1 := nextD (t := t) (ds := ds) hn
  have e2 := nextD (t := t) (ds := ds.tail) hn
  have e3 := nextD (t := t) (ds := ds.tail.tail) hn
  have o1 := ok.hd
  have o2 := ok.tl.hd
  have t1 := ok.tl
  have t2 := ok.tl.tl
  have t3 := ok.tl.tl.tl
  generalize hd0 : ds.headD 0 = c1 at *
  generalize hd1 : ds.tail.headD 0 = c2 at *
  generalize hd2 : ds.tail.tail.headD 0 = c3 at *
  have l1 : ds.tail.length ≤ ds.length := by simp
  have l2 : ds.tail.tail.length ≤ ds.length := by simp; omega
  have l3 : ds.tail.tail.tail.length ≤ ds.length := by simp; omega
  generalize dst n ds h t = h0 at *
  generalize hh1 : dst n ds.tail h t = h1 at *
  generalize hh2 : dst n ds.tail.tail h t = h2 at *
  generalize hh3 : dst n ds.tail.tail.tail h t = h3 at *
  unfold F_law_amount B_law_amount
  rw [sfOf_ap]
  have plain : ∃ (a : Amt) (ds' : List Int), (Res.ok (.d (.int (c1 / 4 % 19 - 9))) h1 : Res U) = .ok (.d a.e) (dst n ds' h t) ∧ a.wf tk ∧ a.cn i ∧ a.sml ∧ okD ds' ∧ ds'.length ≤ ds.length :=
    ⟨.int (c1 / 4 % 19 - 9), ds.tail, by rw [hh1]; rfl, by show Int.natAbs _ ≤ _; omega, trivial, by show _ ∧ _; omega, t1, l1⟩
  by_cases h0 : c1 % 4 = 0
  · cases i with
    | true =>
      refine ⟨.cnt (c1 / 4 % 7 - 3) (c2 % 7 - 3), ds.tail.tail, ?_, ⟨by show Int.natAbs _ ≤ _; omega, by show Int.natAbs _ ≤ _; omega⟩, rfl, by show _ ∧ _; omega, t2, l2⟩
      rw [hh2]
      simp [e1, e2, h0, Amt.e]
    | false =>
      have h1' : ¬ c1 % 4 = 1 := by omega
      obtain ⟨a, ds', q, r⟩ := plain
      refine ⟨a, ds', ?_, r⟩
      rw [← q]
      simp [e1, h0]
  · by_cases h1' : c1 % 4 = 1
    · by_cases htk : 0 < tk
      · have htk' : (0 : Int) < (tk : Int) := by omega
        have hm0 := Int.emod_nonneg c2 (show (tk : Int) ≠ 0 by omega)
        have hm1 := Int.emod_lt_of_pos c2 htk'
        obtain ⟨z, z1, z2⟩ := nAdd (c2 % tk) h2 (c2 % tk).toNat (by omega) (by omega)
        refine ⟨.num (c1 / 4 % 7 - 3) (c2 % tk).toNat (c3 % 7 - 3), ds.tail.tail.tail, ?_, ⟨by show Int.natAbs _ ≤ _; omega, by show Int.natAbs _ ≤ _; omega, by omega, by omega⟩, trivial, by show _ ∧ _; omega, t3, l3⟩
        rw [hh3]
        simp [e1, e2, e3, h1', htk, z1, z2, Amt.e]
      · obtain ⟨a, ds', q, r⟩ := plain
        refine ⟨a, ds', ?_, r⟩
        rw [← q]
        simp [e1, h1', htk]
    · obtain ⟨a, ds', q, r⟩ := plain
      refine ⟨a, ds', ?_, r⟩
      rw [← q]
      simp [e1, h0, h1']
theorem amountsD {n : Nat} {h t : Sto} (hn : InS n h) (i : Bool) (tk : Nat) (tk4 : tk ≤ 4) (e3 e4 e5 e6 : Option U) : ∀ (m : Nat) (lo : Int) (acc : List D) (ds : List Int), okD ds → acc.length + m ≤ 1000 → ∃ (as : List Amt) (ds' : List Int),
    lcGo (gN 7) cYes K_law_call_0 [some (.ref n), some (.d (.bool i)), some (.d (.int tk)), e3, e4, e5, e6, none] (iRange m lo) acc (dst n ds h t) = .ok (acc ++ as.map Amt.e) (dst n ds' h t) ∧ as.length = m ∧ (∀ a ∈ as, a.wf tk) ∧ (∀ a ∈ as, a.cn i) ∧ (∀ a ∈ as, a.sml) ∧ okD ds' ∧ ds'.length ≤ ds.length
  | 0, lo, acc, ds, ok, _ => ⟨[], ds, by simp [iRange], rfl, by simp, by simp, by simp, ok, Nat.le_refl _⟩
  | m + 1, lo, acc, ds, ok, hl => by
    obtain ⟨a, d1, q1, q2, q3, q4, q5, q6⟩ := amountD (t := t) hn ok i tk tk4
    obtain ⟨as, d2, r1, r2, r3, r4, r5, r6, r7⟩ := amountsD (t := t) hn i tk tk4 e3 e4 e5 e6 m (lo + 1) (acc ++ [a.e]) d1 q5 (by simp; omega)
    have hf : fits (acc.length + 1) = true := fits_of (by omega)
    refine ⟨a :: as, d2, ?_, by rw [List.length_cons, r2], fun x hx => ?_, fun x hx => ?_, fun x hx => ?_, r6, by omega⟩
    · rw [iRange_succ, ev_lcC]
      have ek : K_law_call_0 [some (.ref n), some (.d (.bool i)), some (.d (.int tk)), e3, e4, e5, e6, some (.d (.int lo))] (dst n ds h t) = .ok (.d a.e) (dst n d1 h t) := by
        unfold K_law_call_0
        simp [q1]
      simp only [ev_gN, List.set_cons_succ, List.set_cons_zero, ev_yes, Res.bind_ok, ek, hf, if_true, r1]
      simp
    · rcases List.mem_cons.mp hx with z | z
      · rw [z]; exact q2
      · exact r3 x z
    · rcases List.mem_cons.mp hx with z | z
      · rw [z]; exact q3
      · exact r4 x z
    · rcases List.mem_cons.mp hx with z | z
      · rw [z]; exact q4
      · exact r5 x z
/-- a do is drawn -/
theorem callD {n w : Nat} {ws : List Wrd} {ds : List Int} {h t : Sto} (hn : InS n h) (hw : h[w]? = some (.lst (ws.map Wrd.e))) (hnw : w ≠ n) (m4 : ∀ x ∈ ws, x.many ≤ 4) (hne : ws ≠ []) (ok : okD ds) (i : Bool) (tk : Nat) (tk4 : tk ≤ 4) (d : Nat) :
    ∃ (s : Stm) (ds' : List Int), F_law_call [.ref n, .d (.bool i), .d (.int tk), .ref w] (dst n ds h t) = .ok (.d s.e) (dst n ds' h t) ∧ s.gd ws tk i d ∧ s.size = 1 ∧ okD ds' ∧ ds'.length ≤ ds.length := by
  have e1 := nextD (t := t) (ds := ds) hn
  have hp : 0 < ws.length := List.length_pos_iff.mpr hne
  have hp' : (0 : Int) < (ws.length : Int) := by omega
  obtain ⟨x, ex, hx⟩ := atI_in (xs := ws) (i := ds.headD 0 % (ws.length : Int)) (Int.emod_nonneg _ (by omega)) (Int.emod_lt_of_pos _ hp')
  have ex' : atI (ws.map Wrd.e) (ds.headD 0 % (ws.length : Int)) = some (.tuple [.str x.name, .int x.many, .tuple (bE x.body)]) := by rw [atI_map, ex]; rfl
  have hx4 := m4 x hx
  have gw0 : (dst n ds.tail h t)[w]? = some (.lst (ws.map Wrd.e)) := dst_other hnw hw
  have hix := ixRf gw0 (ds.headD 0 % (ws.length : Int))
  rw [ex'] at hix
  obtain ⟨as, d2, r1, r2, r3, r4, r5, r6, r7⟩ := amountsD (t := t) hn i tk tk4 (some (.ref w)) (some (.d (.str x.name))) (some (.d (.int x.many))) (some (.d (.tuple (bE x.body)))) x.many 0 [] ds.tail ok.tl (by simp; omega)
  have hr : rngOk ((x.many : Nat) : Int) = true := rng_of (by omega) (by omega)
  refine ⟨.call x.name as, d2, ?_, ⟨?_, ?_, ?_, ?_⟩, by simp [Stm.size], r6, by simp at r7; omega⟩
  · have he : (Stm.call x.name as).e = .tuple [.str "do", .str x.name, .tuple (as.map Amt.e)] := by rw [Stm.e]
    rw [he]
    rw [List.nil_append] at r1
    have hlen : (((ws.map Wrd.e).length : Nat) : Int) = (ws.length : Int) := by simp
    generalize ds.headD 0 = c1 at *
    generalize hh2 : dst n d2 h t = h2 at *
    generalize dst n ds h t = h0 at *
    generalize dst n ds.tail h t = h1 at *
    generalize ws.map Wrd.e = WE at *
    generalize as.map Amt.e = AE at *
    generalize bE x.body = BE at *
    unfold F_law_call B_law_call
    rw [sfOf_ap]
    simp [e1, gw0, hlen, hp', hp, hix, hr, wipeE, r1]
  · rw [Stm.wf]
    exact ⟨⟨x, hx, rfl, r2.symm⟩, r3⟩
  · simp only [Stm.cn]; exact r4
  · simp only [Stm.sml]; exact r5
  · simp [Stm.deep]
theorem markD {n : Nat} {ds : List Int} {h t : Sto} (hn : InS n h) (ok : okD ds) (hl : ds.length ≤ 1000) : ∃ (v : Int) (ds' : List Int), F_law_mark [.ref n] (dst n ds h t) = .ok (.d (.int v)) (dst n ds' h t) ∧ 0 ≤ v ∧ v ≤ 9 ∧ okD ds' ∧ ds'.length ≤ ds.length := by
  have e1 := nextD (t := t) (ds := ds) hn
  have g0 := dst_get (ds := ds) (t := t) hn
  have ad := addRfL (ys := [.int 0]) g0 (by rw [dk_len]; simp; omega)
  obtain ⟨f, ef⟩ : ∃ f : Int, atI (dk ds ++ [.int 0]) 0 = some (.int f) := by
    cases q : dk ds with
    | nil => exact ⟨0, atI_0 _ _⟩
    | cons a r =>
      have : a ∈ dk ds := by rw [q]; exact List.mem_cons_self
      unfold dk at this
      obtain ⟨c, _, rfl⟩ := List.mem_map.mp (List.mem_reverse.mp this)
      exact ⟨c, atI_0 _ _⟩
  have hz : ds.headD 0 % 2 = 0 ∨ ds.headD 0 % 2 = 1 := by omega
  have p0 := Int.emod_nonneg f (show (90 : Int) ≠ 0 by decide)
  have p1 := Int.emod_lt_of_pos f (show (0 : Int) < 90 by decide)
  have l1 : ds.tail.length ≤ ds.length := by simp
  generalize ds.headD 0 = c1 at *
  generalize dst n ds h t = h0 at *
  unfold F_law_mark B_law_mark
  rw [sfOf_ap]
  rcases hz with z | z
  · refine ⟨f % 90 / 9, ds.tail, ?_, by omega, by omega, ok.tl, l1⟩
    simp [ad, ef, e1, z]
  · refine ⟨(f % 90 / 9 + 1 + f % 90 % 9) % 10, ds.tail, ?_, Int.emod_nonneg _ (by decide), by omega, ok.tl, l1⟩
    simp [ad, ef, e1, z]
/-- what a drawing function gives at the deep d, by its level -/
def BodyOk (n w m d : Nat) (ws : List Wrd) : Prop := ∀ (i : Bool) (tk : Nat) (ds : List Int) (h t : Sto), tk ≤ 4 → InS n h → h[w]? = some (.lst (ws.map Wrd.e)) → okD ds → ds.length ≤ 1000 →
  ∃ (b : List Stm) (ds' : List Int) (t' : Sto), Rec_law_rounds m 3 [.ref n, .d (.int d), .d (.bool i), .d (.int tk), .ref w] (dst n ds h t) = .ok (.d (.tuple (bE b))) (dst n ds' h (t ++ t')) ∧ bGd ws tk i (4 - d) b ∧ okD ds' ∧ ds'.length + bSize b ≤ ds.length ∧ (ds ≠ [] → ds'.length < ds.length)
def StmOk (n w m d : Nat) (ws : List Wrd) : Prop := ∀ (i : Bool) (tk : Nat) (ds : List Int) (h t : Sto), tk ≤ 4 → InS n h → h[w]? = some (.lst (ws.map Wrd.e)) → okD ds → ds.length ≤ 1000 → ds ≠ [] →
  ∃ (s : Stm) (ds' : List Int) (t' : Sto), Rec_law_rounds m 2 [.ref n, .d (.int d), .d (.bool i), .d (.int tk), .ref w] (dst n ds h t) = .ok (.d s.e) (dst n ds' h (t ++ t')) ∧ s.gd ws tk i (4 - d) ∧ okD ds' ∧ ds'.length + s.size ≤ ds.length
theorem dst_app {n : Nat} {ds : List Int} {h t u : Sto} : dst n ds h t ++ u = dst n ds h (t ++ u) := by
  unfold dst
  rw [List.append_assoc]
theorem dst_len {n : Nat} {ds ds' : List Int} {h t : Sto} : (dst n ds h t).length = (dst n ds' h t).length := by
  unfold dst
  simp
/-- the body: a loop over a drawn number -/
theorem body_of {n w m d : Nat} {ws : List Wrd} (hnw : w ≠ n) (st : StmOk n w m d ws) : BodyOk n w (m + 1) d ws := by
  intro i tk ds h t tk4 hn hw ok hl
  have e : Rec_law_rounds (m + 1) 3 = sfOf 7 (B_law_body (Rec_law_rounds m)) := rfl
  -- the list that is made stands at N
  generalize hN : (dst n ds h t).length = N
  have e1 := nextD (t := t ++ [Ob.lst []]) (ds := ds) hn
  generalize hcnt : ds.headD 0 % 5 + (if (d : Int) = 0 then 1 else 0) = cnt
  have hc0 : 0 ≤ cnt ∧ cnt ≤ 5 := by
    rw [← hcnt]
    split <;> omega
  have hr : rngOk cnt = true := rng_of (by omega) (by omega)
  have hlenN : ∀ (d' : List Int), (dst n d' h t).length = N := fun d' => by rw [← hN]; exact dst_len
  have hget : ∀ (d' : List Int) (L : List D) (t2 : Sto), (dst n d' h (t ++ (Ob.lst L :: t2)))[N]? = some (.lst L) := fun d' L t2 => by
    rw [← dst_app, ← hlenN d', List.getElem?_append_right (Nat.le_refl _), Nat.sub_self]
    rfl
  have hput : ∀ (d' : List Int) (L L' : List D) (t2 : Sto), (dst n d' h (t ++ (Ob.lst L :: t2))).set N (.lst L') = dst n d' h (t ++ (Ob.lst L' :: t2)) := fun d' L L' t2 => by
    rw [← dst_app, ← dst_app, ← hlenN d', List.set_append_right _ _ (Nat.le_refl _), Nat.sub_self]
    rfl
  obtain ⟨env', h', el, b, d2, t2, e6, z1, z2, z3, z4, z5⟩ := forGo_inv (t := gN 6) (b := L_law_body_0 (Rec_law_rounds m)) (us := iRange cnt.toNat 0)
    (fun k env hh => ∃ (b : List Stm) (d2 : List Int) (t2 : Sto) (e6 : Option U), env = [some (.ref n), some (.d (.int d)), some (.d (.bool i)), some (.d (.int tk)), some (.ref w), some (.ref N), e6] ∧ hh = dst n d2 h (t ++ (Ob.lst (bE b) :: t2)) ∧ bGd ws tk i (4 - d) b ∧ okD d2 ∧ d2.length + bSize b ≤ ds.tail.length) 0
    (env := [some (.ref n), some (.d (.int d)), some (.d (.bool i)), some (.d (.int tk)), some (.ref w), some (.ref N), none]) (h := dst n ds.tail h (t ++ [Ob.lst []])) ⟨[], ds.tail, [], none, rfl, rfl, bGd.nil, ok.tl, by simp [bSize]⟩ (fun k u env hh eu hI => by
      obtain ⟨b, d2, t2, e6, rfl, rfl, y3, y4, y5⟩ := hI
      obtain ⟨hk, rfl⟩ := iRange_get eu
      have gn := dst_get (ds := d2) (t := t ++ (Ob.lst (bE b) :: t2)) hn
      have hld : d2.length ≤ 1000 := by simp at y5; omega
      have hlb : b.length ≤ 1000 := by have := len_size b; simp at y5; omega
      by_cases hd : d2 = []
      · subst hd
        refine ⟨_, _, _, rfl, ?_, b, [], t2, some (.d (.int (0 + k))), rfl, rfl, y3, y4, y5⟩
        unfold L_law_body_0
        simp [gn, dk_len]
      · obtain ⟨s, d3, t3, s1, s2, s3, s4⟩ := st i tk d2 h (t ++ (Ob.lst (bE b) :: t2)) tk4 hn hw y4 hld hd
        rw [List.append_assoc, List.cons_append] at s1
        have hp : 0 < d2.length := List.length_pos_iff.mpr hd
        have g5 := hget d2 (bE b) t2
        have g6 := hget d3 (bE b) (t2 ++ t3)
        have g7 := hput d3 (bE b) (bE b ++ [s.e]) (t2 ++ t3)
        have hf : fits ((bE b).length + 1) = true := fits_of (by rw [bE_len]; omega)
        have hbe : bE (b ++ [s]) = bE b ++ [s.e] := by rw [bE_app]; rfl
        refine ⟨_, _, _, rfl, ?_, b ++ [s], d3, t2 ++ t3, some (.d (.int (0 + k))), rfl, rfl, y3.app (bGd.one s2), s3, by rw [bSize_app, bSize_one]; omega⟩
        rw [hbe]
        generalize dst n d2 h (t ++ (Ob.lst (bE b) :: t2)) = hA at *
        generalize dst n d3 h (t ++ (Ob.lst (bE b) :: (t2 ++ t3))) = hB at *
        generalize dst n d3 h (t ++ (Ob.lst (bE b ++ [s.e]) :: (t2 ++ t3))) = hC at *
        unfold L_law_body_0
        simp [gn, dk_len, hp, g5, s1, g6, hf, g7])
  subst z1 z2
  refine ⟨b, d2, Ob.lst (bE b) :: t2, ?_, z3, z4, ?_, fun hne => ?_⟩
  · have ft := tupR N _ _ (hget d2 (bE b) t2)
    have ea : dst n ds h t ++ [Ob.lst []] = dst n ds h (t ++ [Ob.lst []]) := dst_app
    have hcnt' : (if (d : Int) = 0 then ds.headD 0 % 5 + 1 else ds.headD 0 % 5) = cnt := by rw [← hcnt]; split <;> omega
    rw [e, sfOf_ap]
    unfold B_law_body
    generalize ds.headD 0 = c1 at *
    generalize dst n d2 h (t ++ (Ob.lst (bE b) :: t2)) = hZ at *
    simp only [List.map_cons, List.map_nil, List.length_cons, List.length_nil, List.cons_append, List.nil_append]
    rw [show (List.replicate (7 - (0 + 1 + 1 + 1 + 1 + 1)) none : List (Option U)) = [none, none] from rfl]
    simp only [ev_Seq, ev_Set, ev_Lst, ev_aNil, Res.bind_ok, List.length_nil, Nat.zero_le, if_true, ev_allN, ev_mkT, Res.then_ok, SRes.seq_next, List.set_cons_succ, List.set_cons_zero, hN, ea]
    by_cases hz : (d : Int) = 0
    · have hz' : d = 0 := by omega
      subst hz'
      rw [if_pos (show ((0 : Nat) : Int) = 0 from rfl)] at hcnt
      rw [show ((0 : Nat) : Int) = 0 from rfl] at el
      simp [e1, hcnt, hr, el, ft]
    · have hz' : ¬ d = 0 := by omega
      rw [if_neg hz, Int.add_zero] at hcnt
      simp [e1, hz', hcnt, hr, el, ft]
  · simp at z5; omega
  · have : ds.tail.length < ds.length := by
      cases ds with
      | nil => exact absurd rfl hne
      | cons a r => simp
    omega
theorem Stm.gd.simple {ws : List Wrd} {tk : Nat} {i : Bool} {d : Nat} {s : Stm} (w : s.wf ws tk) (c : s.cn i) (m : s.sml) (e : s.deep = 0) : s.gd ws tk i d := ⟨w, c, m, by rw [e]; exact Nat.zero_le _⟩
theorem rounds_of {n w m d : Nat} {ws : List Wrd} (hd : d < 4) (bo : BodyOk n w m (d + 1) ws) (i : Bool) (tk : Nat) (ds : List Int) (h t : Sto) (tk4 : tk ≤ 4) (hn : InS n h) (hw : h[w]? = some (.lst (ws.map Wrd.e))) (ok : okD ds) (hl : ds.length ≤ 1000) :
    ∃ (s : Stm) (ds' : List Int) (t' : Sto), Rec_law_rounds (m + 1) 0 [.ref n, .d (.int d), .d (.bool i), .d (.int tk), .ref w] (dst n ds h t) = .ok (.d s.e) (dst n ds' h (t ++ t')) ∧ s.gd ws tk i (4 - d) ∧ okD ds' ∧ ds'.length + s.size ≤ ds.length + 1 := by
  have e : Rec_law_rounds (m + 1) 0 = sfOf 7 (B_law_rounds (Rec_law_rounds m)) := rfl
  have e1 := nextD (t := t) (ds := ds) hn
  obtain ⟨a, d1, q1, q2, q3, q4, q5, q6⟩ := amountD (t := t) hn ok.tl i tk tk4
  have l1 : ds.tail.length ≤ ds.length := by simp
  have o1 := ok.hd
  rw [e, sfOf_ap]
  unfold B_law_rounds
  have he : ∀ a b, (Stm.again a b).e = .tuple [.str "again", a.e, .tuple (bE b)] := fun a b => by rw [Stm.e]
  have dd : ((d : Int) + 1) = ((d + 1 : Nat) : Int) := by omega
  by_cases h1 : ds.headD 0 % 3 = 1
  · obtain ⟨b, d2, t2, b1, b2, b3, b4, b5⟩ := bo true tk d1 h t tk4 hn hw q5 (by omega)
    refine ⟨.again a b, d2, t2, ?_, ⟨?_, ?_, ?_, ?_⟩, b3, ?_⟩
    · rw [he]
      generalize ds.headD 0 = c1 at *
      generalize dst n ds h t = h0 at *
      generalize dst n ds.tail h t = h1' at *
      generalize dst n d1 h t = h2 at *
      generalize dst n d2 h (t ++ t2) = h3 at *
      rw [← dd] at b1
      simp [e1, h1, q1, b1]
    · rw [Stm.wf]; exact ⟨q2, b2.w⟩
    · simp only [Stm.cn]; exact ⟨q3, b2.c⟩
    · simp only [Stm.sml]; exact ⟨q4, b2.m⟩
    · simp only [Stm.deep]; have := b2.d; omega
    · simp only [Stm.size]; omega
  · obtain ⟨b, d2, t2, b1, b2, b3, b4, b5⟩ := bo true tk ds.tail h t tk4 hn hw ok.tl (by omega)
    refine ⟨.again (.int (ds.headD 0 / 3 % 5)) b, d2, t2, ?_, ⟨?_, ?_, ?_, ?_⟩, b3, ?_⟩
    · rw [he]
      generalize ds.headD 0 = c1 at *
      generalize dst n ds h t = h0 at *
      generalize dst n ds.tail h t = h1' at *
      generalize dst n d2 h (t ++ t2) = h3 at *
      rw [← dd] at b1
      simp [e1, h1, b1, Amt.e]
    · rw [Stm.wf]; exact ⟨by show Int.natAbs _ ≤ _; omega, b2.w⟩
    · simp only [Stm.cn]; exact ⟨trivial, b2.c⟩
    · simp only [Stm.sml]; exact ⟨by show _ ∧ _; omega, b2.m⟩
    · simp only [Stm.deep]; have := b2.d; omega
    · simp only [Stm.size]; omega
theorem choice_of {n w m d : Nat} {ws : List Wrd} (hd : d < 4) (bo : BodyOk n w m (d + 1) ws) (i : Bool) (tk : Nat) (ds : List Int) (h t : Sto) (tk4 : tk ≤ 4) (hn : InS n h) (hw : h[w]? = some (.lst (ws.map Wrd.e))) (ok : okD ds) (hl : ds.length ≤ 1000) :
    ∃ (s : Stm) (ds' : List Int) (t' : Sto), Rec_law_rounds (m + 1) 1 [.ref n, .d (.int d), .d (.bool i), .d (.int tk), .ref w] (dst n ds h t) = .ok (.d s.e) (dst n ds' h (t ++ t')) ∧ s.gd ws tk i (4 - d) ∧ okD ds' ∧ ds'.length + s.size ≤ ds.length + 1 := by
  have e : Rec_law_rounds (m + 1) 1 = sfOf 7 (B_law_choice (Rec_law_rounds m)) := rfl
  obtain ⟨a, d1, q1, q2, q3, q4, q5, q6⟩ := amountD (t := t) hn ok i tk tk4
  obtain ⟨b, d2, t2, b1, b2, b3, b4, b5⟩ := bo i tk d1 h t tk4 hn hw q5 (by omega)
  obtain ⟨c, d3, t3, c1, c2, c3, c4, c5⟩ := bo i tk d2 h (t ++ t2) tk4 hn hw b3 (by omega)
  rw [e, sfOf_ap]
  unfold B_law_choice
  have he : (Stm.iff a b c).e = .tuple [.str "if", a.e, .tuple (bE b), .tuple (bE c)] := by rw [Stm.e]
  have dd : ((d : Int) + 1) = ((d + 1 : Nat) : Int) := by omega
  refine ⟨.iff a b c, d3, t2 ++ t3, ?_, ⟨?_, ?_, ?_, ?_⟩, c3, ?_⟩
  · rw [he]
    rw [List.append_assoc] at c1
    generalize dst n ds h t = h0 at *
    generalize dst n d1 h t = h1' at *
    generalize dst n d2 h (t ++ t2) = h2 at *
    generalize dst n d3 h (t ++ (t2 ++ t3)) = h3 at *
    rw [← dd] at b1 c1
    simp [q1, b1, c1]
  · rw [Stm.wf]; exact ⟨q2, b2.w, c2.w⟩
  · simp only [Stm.cn]; exact ⟨q3, b2.c, c2.c⟩
  · simp only [Stm.sml]; exact ⟨q4, b2.m, c2.m⟩
  · simp only [Stm.deep]; have := b2.d; have := c2.d; omega
  · simp only [Stm.size]; omega
theorem stm_of {n w m d : Nat} {ws : List Wrd} (hnw : w ≠ n) (m4 : ∀ x ∈ ws, x.many ≤ 4) (bo : d < 4 → BodyOk n w m (d + 1) ws) : StmOk n w (m + 2) d ws := by
  intro i tk ds h t tk4 hn hw ok hl hne
  have e : Rec_law_rounds (m + 2) 2 = sfOf 6 (B_law_statement (Rec_law_rounds (m + 1))) := rfl
  have e1 := nextD (t := t) (ds := ds) hn
  have e2 := nextD (t := t) (ds := ds.tail) hn
  have l1 : ds.tail.length + 1 = ds.length := by
    cases ds with
    | nil => exact absurd rfl hne
    | cons a r => rfl
  have l2 : ds.tail.tail.length ≤ ds.tail.length := by simp
  obtain ⟨a, d1, q1, q2, q3, q4, q5, q6⟩ := amountD (t := t) hn ok.tl i tk tk4
  have gw : ∀ d', (dst n d' h t)[w]? = some (.lst (ws.map Wrd.e)) := fun d' => dst_other hnw hw
  have o1 := ok.hd
  have o2 := ok.tl.hd
  have w0 := Int.emod_nonneg (ds.headD 0) (show (13 : Int) ≠ 0 by decide)
  have w1 := Int.emod_lt_of_pos (ds.headD 0) (show (0 : Int) < 13 by decide)
  rw [e, sfOf_ap]
  unfold B_law_statement
  have eg : ∀ a, (Stm.go a).e = .tuple [.str "go", a.e] := fun a => by rw [Stm.e]
  have et : ∀ a, (Stm.turn a).e = .tuple [.str "turn", a.e] := fun a => by rw [Stm.e]
  have ei : ∀ a, (Stm.ink a).e = .tuple [.str "ink", a.e] := fun a => by rw [Stm.e]
  have eu : Stm.up.e = .tuple [.str "up"] := by rw [Stm.e]
  have ed : Stm.down.e = .tuple [.str "down"] := by rw [Stm.e]
  have em : ∀ a, (Stm.mark a).e = .tuple [.str "mark", .int a] := fun a => by rw [Stm.e]
  have eb : ∀ a, (Stm.back a).e = .tuple [.str "back", .int a] := fun a => by rw [Stm.e]
  by_cases c1 : ds.headD 0 % 13 < 4
  · refine ⟨.go a, d1, [], ?_, Stm.gd.simple (by rw [Stm.wf]; exact q2) (by simp only [Stm.cn]; exact q3) (by simp only [Stm.sml]; exact q4) (by simp [Stm.deep]), q5, by simp only [Stm.size]; omega⟩
    rw [eg, List.append_nil]
    generalize ds.headD 0 = x1 at *
    simp [e1, c1, q1]
  · by_cases c2 : ds.headD 0 % 13 < 7
    · refine ⟨.turn a, d1, [], ?_, Stm.gd.simple (by rw [Stm.wf]; exact q2) (by simp only [Stm.cn]; exact q3) (by simp only [Stm.sml]; exact q4) (by simp [Stm.deep]), q5, by simp only [Stm.size]; omega⟩
      rw [et, List.append_nil]
      generalize ds.headD 0 = x1 at *
      simp [e1, c1, c2, q1]
    · by_cases c3 : ds.headD 0 % 13 = 7
      · have hz : ds.tail.headD 0 % 3 = 0 ∨ ds.tail.headD 0 % 3 = 1 ∨ ds.tail.headD 0 % 3 = 2 := by omega
        have fin : ∀ s : Stm, (s = .up ∨ s = .down) → s.gd ws tk i (4 - d) ∧ s.size = 1 := fun s hs => by
          rcases hs with z | z <;> subst z
          · exact ⟨Stm.gd.simple (by rw [Stm.wf]; trivial) (by simp [Stm.cn]) (by simp [Stm.sml]) (by simp [Stm.deep]), by simp [Stm.size]⟩
          · exact ⟨Stm.gd.simple (by rw [Stm.wf]; trivial) (by simp [Stm.cn]) (by simp [Stm.sml]) (by simp [Stm.deep]), by simp [Stm.size]⟩
        rcases hz with z | z | z
        · refine ⟨.up, ds.tail.tail, [], ?_, (fin _ (.inl rfl)).1, ok.tl.tl, by rw [(fin _ (.inl rfl)).2]; omega⟩
          rw [eu, List.append_nil]
          generalize ds.headD 0 = x1 at *
          generalize ds.tail.headD 0 = x2 at *
          simp [e1, e2, c1, c2, c3, z]
        · refine ⟨.down, ds.tail.tail, [], ?_, (fin _ (.inr rfl)).1, ok.tl.tl, by rw [(fin _ (.inr rfl)).2]; omega⟩
          rw [ed, List.append_nil]
          generalize ds.headD 0 = x1 at *
          generalize ds.tail.headD 0 = x2 at *
          simp [e1, e2, c1, c2, c3, z]
        · refine ⟨.down, ds.tail.tail, [], ?_, (fin _ (.inr rfl)).1, ok.tl.tl, by rw [(fin _ (.inr rfl)).2]; omega⟩
          rw [ed, List.append_nil]
          generalize ds.headD 0 = x1 at *
          generalize ds.tail.headD 0 = x2 at *
          simp [e1, e2, c1, c2, c3, z]
      · by_cases c4 : ds.headD 0 % 13 = 8
        · refine ⟨.ink a, d1, [], ?_, Stm.gd.simple (by rw [Stm.wf]; exact q2) (by simp only [Stm.cn]; exact q3) (by simp only [Stm.sml]; exact q4) (by simp [Stm.deep]), q5, by simp only [Stm.size]; omega⟩
          rw [ei, List.append_nil]
          generalize ds.headD 0 = x1 at *
          simp [e1, c1, c2, c3, c4, q1]
        · by_cases c5 : ds.headD 0 % 13 = 9
          · obtain ⟨v, d2, v1, v2, v3, v4, v5⟩ := markD (t := t) hn ok.tl.tl (by omega)
            have fin : ∀ s : Stm, (s = .mark v ∨ s = .back v) → s.gd ws tk i (4 - d) ∧ s.size = 1 := fun s hs => by
              rcases hs with z | z <;> subst z
              · exact ⟨Stm.gd.simple (by rw [Stm.wf]; exact ⟨v2, v3⟩) (by simp [Stm.cn]) (by simp [Stm.sml]) (by simp [Stm.deep]), by simp [Stm.size]⟩
              · exact ⟨Stm.gd.simple (by rw [Stm.wf]; exact ⟨v2, v3⟩) (by simp [Stm.cn]) (by simp [Stm.sml]) (by simp [Stm.deep]), by simp [Stm.size]⟩
            have hz : ds.tail.headD 0 % 3 = 0 ∨ ds.tail.headD 0 % 3 = 1 ∨ ds.tail.headD 0 % 3 = 2 := by omega
            rcases hz with z | z | z
            · refine ⟨.mark v, d2, [], ?_, (fin _ (.inl rfl)).1, v4, by rw [(fin _ (.inl rfl)).2]; omega⟩
              rw [em, List.append_nil]
              generalize ds.headD 0 = x1 at *
              generalize ds.tail.headD 0 = x2 at *
              simp [e1, e2, c1, c2, c3, c4, c5, z, v1]
            · refine ⟨.mark v, d2, [], ?_, (fin _ (.inl rfl)).1, v4, by rw [(fin _ (.inl rfl)).2]; omega⟩
              rw [em, List.append_nil]
              generalize ds.headD 0 = x1 at *
              generalize ds.tail.headD 0 = x2 at *
              simp [e1, e2, c1, c2, c3, c4, c5, z, v1]
            · refine ⟨.back v, d2, [], ?_, (fin _ (.inr rfl)).1, v4, by rw [(fin _ (.inr rfl)).2]; omega⟩
              rw [eb, List.append_nil]
              generalize ds.headD 0 = x1 at *
              generalize ds.tail.headD 0 = x2 at *
              simp [e1, e2, c1, c2, c3, c4, c5, z, v1]
          · have hd4 : d < 4 ↔ (d : Int) < 4 := by omega
            by_cases c6 : ds.headD 0 % 13 = 10 ∧ d < 4
            · obtain ⟨s, d2, t2, s1, s2, s3, s4⟩ := choice_of c6.2 (bo c6.2) i tk ds.tail h t tk4 hn hw ok.tl (by omega)
              refine ⟨s, d2, t2, ?_, s2, s3, by omega⟩
              obtain ⟨c6, c6'⟩ := c6
              have hI : (d : Int) < 4 := by omega
              generalize ds.headD 0 = x1 at *
              simp [e1, c1, c2, c3, c4, c5, c6, hI, s1]
            · by_cases c7 : ds.headD 0 % 13 = 11 ∧ ws ≠ []
              · obtain ⟨c7, c7'⟩ := c7
                obtain ⟨s, d2, s1, s2, s3, s4, s5⟩ := callD (t := t) hn hw hnw m4 c7' ok.tl i tk tk4 (4 - d)
                refine ⟨s, d2, [], ?_, s2, s4, by omega⟩
                have hp : 0 < ws.length := List.length_pos_iff.mpr c7'
                have g1 := gw ds.tail
                rw [List.append_nil]
                have c6' : ¬ ds.headD 0 % 13 = 10 := by omega
                generalize ds.headD 0 = x1 at *
                simp [e1, c1, c2, c3, c4, c5, c6', c7, g1, hp, s1]
              · have hlw : ds.headD 0 % 13 = 11 → ws = [] := fun z => Classical.byContradiction fun z' => c7 ⟨z, z'⟩
                have g1 := gw ds.tail
                have key : ∀ X Y : SRes, True := fun _ _ => trivial
                by_cases c8 : d < 4
                · obtain ⟨s, d2, t2, s1, s2, s3, s4⟩ := rounds_of c8 (bo c8) i tk ds.tail h t tk4 hn hw ok.tl (by omega)
                  refine ⟨s, d2, t2, ?_, s2, s3, by omega⟩
                  have c6' : ¬ ds.headD 0 % 13 = 10 := fun z => c6 ⟨z, c8⟩
                  have hI : (d : Int) < 4 := by omega
                  by_cases c9 : ds.headD 0 % 13 = 11
                  · have := hlw c9
                    subst this
                    generalize ds.headD 0 = x1 at *
                    simp [e1, c1, c2, c3, c4, c5, c6', c9, g1, hI, s1]
                  · generalize ds.headD 0 = x1 at *
                    simp [e1, c1, c2, c3, c4, c5, c6', c9, hI, s1]
                · refine ⟨.turn (.int (1 + ds.tail.headD 0 % 7)), ds.tail.tail, [], ?_, Stm.gd.simple (by rw [Stm.wf]; show Int.natAbs _ ≤ _; omega) (by simp only [Stm.cn]; trivial) (by simp only [Stm.sml]; show _ ∧ _; omega) (by simp [Stm.deep]), ok.tl.tl, by simp only [Stm.size]; omega⟩
                  have hI : ¬ (d : Int) < 4 := by omega
                  rw [et, List.append_nil]
                  by_cases c9 : ds.headD 0 % 13 = 11
                  · have := hlw c9
                    subst this
                    generalize ds.headD 0 = x1 at *
                    generalize ds.tail.headD 0 = x2 at *
                    simp [e1, e2, c1, c2, c3, c4, c5, c9, g1, hI, Amt.e]
                  · by_cases c10 : ds.headD 0 % 13 = 10
                    · generalize ds.headD 0 = x1 at *
                      generalize ds.tail.headD 0 = x2 at *
                      simp [e1, e2, c1, c2, c3, c4, c5, c10, hI, Amt.e]
                    · generalize ds.headD 0 = x1 at *
                      generalize ds.tail.headD 0 = x2 at *
                      simp [e1, e2, c1, c2, c3, c4, c5, c9, c10, hI, Amt.e]
theorem body_all {n w : Nat} {ws : List Wrd} (hnw : w ≠ n) (m4 : ∀ x ∈ ws, x.many ≤ 4) : ∀ (k d m : Nat), d + k = 4 → 3 * (k + 1) ≤ m → BodyOk n w m d ws
  | 0, d, m, hd, hm => by
    obtain ⟨m', rfl⟩ : ∃ m', m = m' + 3 := ⟨m - 3, by omega⟩
    exact body_of hnw (stm_of hnw m4 fun z => absurd z (by omega))
  | k + 1, d, m, hd, hm => by
    obtain ⟨m', rfl⟩ : ∃ m', m = m' + 3 := ⟨m - 3, by omega⟩
    exact body_of hnw (stm_of hnw m4 fun _ => body_all hnw m4 k (d + 1) m' (by omega) (by omega))
end Lw

namespace Lw
open PySem L2 Wk
def wb (h : Sto) (ws : List Wrd) : Sto := h ++ [.lst (ws.map Wrd.e)]
theorem wb_get (h : Sto) (ws : List Wrd) : (wb h ws)[h.length]? = some (.lst (ws.map Wrd.e)) := ag0 _ _
theorem wb_in {n : Nat} {h : Sto} (ws : List Wrd) (hn : InS n h) : InS n (wb h ws) := by
  unfold InS wb at *
  rw [List.length_append]
  omega
theorem wb_put {n : Nat} {d : List Int} {h t : Sto} {ws ws' : List Wrd} (hn : InS n h) : (dst n d (wb h ws) t).set h.length (.lst (ws'.map Wrd.e)) = dst n d (wb h ws') t := by
  unfold dst wb
  have hn' : n < h.length := hn
  rw [List.set_append_left _ _ hn', List.set_append_left _ _ hn', List.append_assoc, List.append_assoc, List.set_append_right _ _ (by simp), List.length_set, Nat.sub_self]
  rfl
theorem program_ev {n : Nat} {ds : List Int} {h : Sto} (e0 : h[n]? = some (.lst (dk ds))) (ok : okD ds) (hl : ds.length ≤ 1000) : ∃ (ws : List Wrd) (b : List Stm) (h' : Sto), F_law_program [.ref n] h = .ok (.d (progE ws b)) h' ∧ GX ws b ds.length := by
  have hn : InS n h := get_lt e0
  have hnw : h.length ≠ n := fun z => by unfold InS at hn; omega
  generalize hmo : (3 : Int) + 2 * (if ds.headD 0 / 15 % 8 = 1 then 1 else 0) + 4 * (if ds.headD 0 / 15 % 8 = 2 then 1 else 0) = mo
  have hm3 : mo = 3 ∨ mo = 5 ∨ mo = 7 := by
    rw [← hmo]
    split <;> split <;> omega
  generalize hkk : ds.headD 0 % mo = kk
  have o1 := ok.hd
  have hk0 : 0 ≤ kk ∧ kk ≤ 6 := by
    rw [← hkk]
    have := Int.emod_nonneg (ds.headD 0) (show mo ≠ 0 by omega)
    have := Int.emod_lt_of_pos (ds.headD 0) (show 0 < mo by omega)
    omega
  have hr : rngOk kk = true := rng_of (by omega) (by omega)
  have e1 : F_law_next [.ref n] (h ++ [Ob.lst []]) = .ok (.d (.int (ds.headD 0))) (dst n ds.tail (wb h []) []) := by
    have := nextD (t := []) (ds := ds) (wb_in [] hn)
    rw [dst_self (by unfold wb; rw [List.getElem?_append_left hn]; exact e0)] at this
    exact this
  -- the words
  obtain ⟨env', h', el, ws, d2, t2, y4, y6, y7, z1, z2, z3, z4, z5, z6, z7, z8, z9⟩ := forGo_inv (t := gN 4) (b := L_law_program_0) (us := iRange kk.toNat 0)
    (fun k env hh => ∃ (ws : List Wrd) (d2 : List Int) (t2 : Sto) (y4 y6 y7 : Option U), env = [some (.ref n), some (.ref h.length), some (.d (.int (ds.headD 0))), some (.d (.int mo)), y4, none, y6, y7] ∧ hh = dst n d2 (wb h ws) t2 ∧ wsWf ws.reverse ∧ ws.length = k ∧ okD d2 ∧ d2.length + wSize ws ≤ ds.length ∧ (∀ x ∈ ws, bCn false x.body) ∧ (∀ x ∈ ws, bSml x.body) ∧ ws.map Wrd.name = wNames.take ws.length) 0
    (env := [some (.ref n), some (.ref h.length), some (.d (.int (ds.headD 0))), some (.d (.int mo)), none, none, none, none]) (h := dst n ds.tail (wb h []) []) ⟨[], ds.tail, [], none, none, none, rfl, rfl, trivial, rfl, ok.tl, by simp [wSize], by simp, by simp, rfl⟩ (fun k u env hh eu hI => by
      obtain ⟨ws, d2, t2, y4, y6, y7, rfl, rfl, z3, z4, z5, z6, z7, z8, z9⟩ := hI
      obtain ⟨hk, rfl⟩ := iRange_get eu
      have m4 : ∀ x ∈ ws, x.many ≤ 4 := fun x hx => by
        obtain ⟨r', _, _, _, _, k5, _⟩ := wsWf_at z3 (List.mem_reverse.mpr hx)
        exact k5
      have q1 := nextD (t := t2) (ds := d2) (wb_in ws hn)
      have hmin : (if mo < 5 then mo else 5) = 3 ∨ (if mo < 5 then mo else 5) = 5 := by split <;> omega
      generalize hmi : (if mo < 5 then mo else 5) = mi at hmin
      have hmip : 0 < mi := by omega
      have o2 := z5.hd
      obtain ⟨mn, hmn⟩ : ∃ mn : Nat, d2.headD 0 % mi = (mn : Int) := ⟨(d2.headD 0 % mi).toNat, by have := Int.emod_nonneg (d2.headD 0) (show mi ≠ 0 by omega); omega⟩
      have hmn4 : mn ≤ 4 := by have := Int.emod_lt_of_pos (d2.headD 0) hmip; omega
      have tl1 : d2.tail.length ≤ d2.length := by simp
      obtain ⟨b, d3, t3, b1, b2, b3, b4, b5⟩ := body_all hnw m4 3 1 150 rfl (by decide) false mn d2.tail (wb h ws) t2 hmn4 (wb_in ws hn) (wb_get h ws) z5.tl (by omega)
      have hF : Rec_law_rounds 150 3 = F_law_body := rfl
      rw [hF] at b1
      have hk6 : ws.length < 6 := by omega
      obtain ⟨z, hz⟩ : ∃ z, wNames[ws.length]? = some z := ⟨_, List.getElem?_eq_getElem (show ws.length < wNames.length from hk6)⟩
      have hat : atI [PyData.str "leaf", .str "go", .str "x", .str "star", .str "turn", .str "backward"] ((0 : Int) + (0 + k : Nat)) = some (.str z) := by
        have : atI (wNames.map PyData.str) ((ws.length : Nat) : Int) = some (.str z) := atI_nat (by rw [List.getElem?_map, hz]; rfl)
        rw [z4] at this
        rw [Int.zero_add]
        exact this
      have hwl : ∀ d' t', (dst n d' (wb h ws) t')[h.length]? = some (.lst (ws.map Wrd.e)) := fun d' t' => dst_other hnw (wb_get h ws)
      have hf : fits ((ws.map Wrd.e).length + 1) = true := fits_of (by rw [List.length_map]; omega)
      have hpt := wb_put (d := d3) (t := t2 ++ t3) (ws := ws) (ws' := ws ++ [⟨z, mn, b⟩]) hn
      have hmap : (ws ++ [(⟨z, mn, b⟩ : Wrd)]).map Wrd.e = ws.map Wrd.e ++ [.tuple [.str z, .int mn, .tuple (bE b)]] := by rw [List.map_append]; rfl
      rw [hmap] at hpt
      refine ⟨_, _, _, rfl, ?_, ws ++ [⟨z, mn, b⟩], d3, t2 ++ t3, some (.d (.int (0 + (k : Int)))), some (.d (.int mn)), some (.d (.str z)), rfl, rfl, ?_, by simp [z4], b3, ?_, fun x hx => ?_, fun x hx => ?_, ?_⟩
      · have g1 := hwl d2.tail t2
        have g0 := hwl d2 t2
        have g3 := hwl d3 (t2 ++ t3)
        generalize d2.headD 0 = x1 at *
        generalize dst n d2 (wb h ws) t2 = hA at *
        generalize dst n d2.tail (wb h ws) t2 = hB at *
        generalize dst n d3 (wb h ws) (t2 ++ t3) = hC at *
        generalize dst n d3 (wb h (ws ++ [⟨z, mn, b⟩])) (t2 ++ t3) = hD at *
        generalize ws.map Wrd.e = WE at *
        have b1' : F_law_body [.ref n, .d (.int 1), .d (.bool false), .d (.int mn), .ref h.length] hB = .ok (.d (.tuple (bE b))) hC := b1
        generalize bE b = BE at *
        have hat' : atI [PyData.str "leaf", .str "go", .str "x", .str "star", .str "turn", .str "backward"] (k : Int) = some (.str z) := by
          rw [Int.zero_add, Nat.zero_add] at hat
          exact hat
        unfold L_law_program_0
        simp [q1, hmi, hmip, hmn, hat', g1, b1', g3, hf, hpt]
      · rw [List.reverse_append]
        exact ⟨bWf_mono (fun x hx => List.mem_reverse.mpr hx) _ b2.w, hmn4, by have := b2.d; omega, fun x hx => nm_new z9 hk6 hz x (List.mem_reverse.mp hx), z3⟩
      · rw [wSize_app]
        show d3.length + (wSize ws + (bSize b + 0)) ≤ _
        omega
      · rcases List.mem_append.mp hx with q | q
        · exact z7 x q
        · rw [List.mem_singleton.mp q]; exact b2.c
      · rcases List.mem_append.mp hx with q | q
        · exact z8 x q
        · rw [List.mem_singleton.mp q]; exact b2.m
      · rw [List.map_append, z9, List.length_append, List.length_singleton, List.take_succ, hz]
        rfl)
  subst z1 z2
  rw [iRange_len] at z4
  have m4 : ∀ x ∈ ws, x.many ≤ 4 := fun x hx => by
    obtain ⟨r', _, _, _, _, k5, _⟩ := wsWf_at z3 (List.mem_reverse.mpr hx)
    exact k5
  -- the body
  have cond : ∀ (d3 : List Int) (t3 : Sto) (b : List Stm), C_law_program_1 [some (.ref n), some (.ref h.length), some (.d (.int (ds.headD 0))), some (.d (.int mo)), y4, some (.d (.tuple (bE b))), y6, y7] (dst n d3 (wb h ws) t3) = .ok (decide (0 < d3.length ∧ b.length < 12)) (dst n d3 (wb h ws) t3) := fun d3 t3 b => by
    have g0 := dst_get (ds := d3) (t := t3) (wb_in ws hn)
    have hbl := bE_len b
    generalize dst n d3 (wb h ws) t3 = hA at *
    unfold C_law_program_1
    by_cases h1 : 0 < d3.length
    · by_cases h2 : b.length < 12
      · simp [g0, dk_len, h1, hbl, h2]
        omega
      · simp [g0, dk_len, h1, hbl, h2]
        omega
    · simp [g0, dk_len, h1]
  obtain ⟨m', env'', h'', h1, wl, ⟨d3, t3, b, x1, x2, x3, x4, x5, x6⟩, ec⟩ := whileGo_ix (c := C_law_program_1) (b := L_law_program_2)
    (fun m env hh => ∃ (d3 : List Int) (t3 : Sto) (b : List Stm), m = d3.length ∧ env = [some (.ref n), some (.ref h.length), some (.d (.int (ds.headD 0))), some (.d (.int mo)), y4, some (.d (.tuple (bE b))), y6, y7] ∧ hh = dst n d3 (wb h ws) t3 ∧ okD d3 ∧ bGd ws 0 false 4 b ∧ d3.length + bSize b + wSize ws ≤ ds.length)
    (fun m env hh hI => by
      obtain ⟨d3, t3, b, rfl, rfl, rfl, x4, x5, x6⟩ := hI
      refine ⟨_, _, cond d3 t3 b, fun hc => ?_⟩
      obtain ⟨hc1, hc2⟩ := of_decide_eq_true hc
      obtain ⟨b', d4, t4, b1, b2, b3, b4, b5⟩ := body_all hnw m4 4 0 150 rfl (by decide) false 0 d3 (wb h ws) t3 (by decide) (wb_in ws hn) (wb_get h ws) x4 (by omega)
      have hF : Rec_law_rounds 150 3 = F_law_body := rfl
      rw [hF] at b1
      have ad := fun h => addTT (bE b) (bE b') h (by
        rw [bE_len, bE_len]
        have := len_size b'
        omega)
      refine ⟨d4.length, _, _, b5 (List.length_pos_iff.mp hc1), ?_, d4, t3 ++ t4, b ++ b', rfl, rfl, rfl, b3, x5.app b2, by rw [bSize_app]; omega⟩
      rw [bE_app]
      generalize dst n d3 (wb h ws) t3 = hA at *
      generalize dst n d4 (wb h ws) (t3 ++ t4) = hB at *
      have b1' : F_law_body [.ref n, .d (.int 0), .d (.bool false), .d (.int 0), .ref h.length] hA = .ok (.d (.tuple (bE b'))) hB := b1
      generalize bE b = B1 at *
      generalize bE b' = B2 at *
      unfold L_law_program_2
      simp [b1', ad])
    fuel d2.length [some (.ref n), some (.ref h.length), some (.d (.int (ds.headD 0))), some (.d (.int mo)), y4, some (.d (.tuple [])), y6, y7] (dst n d2 (wb h ws) t2) ⟨d2, t2, [], rfl, rfl, rfl, z5, bGd.nil, by simp [bSize]; omega⟩ (by unfold fuel; omega)
  subst x2 x3
  rw [cond] at ec
  injection ec with ec1 ec2
  refine ⟨ws, b, h1, ?_, ⟨⟨z3, by omega, x5.w, x5.d⟩, x5.c, x5.m, z7, z8, by omega, z9⟩⟩
  have gw : (dst n d3 (wb h ws) t3)[h.length]? = some (.lst (ws.map Wrd.e)) := dst_other hnw (wb_get h ws)
  have ft := tupR h.length _ _ gw
  rw [ec2] at ft
  have hme : ∀ (X : Int), (3 : Int) + 2 * (if X / 15 % 8 = 1 then 1 else 0) + 4 * (if X / 15 % 8 = 2 then 1 else 0) = mo → True := fun _ _ => trivial
  have hmp : 0 < mo := by omega
  unfold F_law_program B_law_program progE
  rw [sfOf_ap]
  generalize ds.headD 0 = c1 at *
  generalize dst n ds.tail (wb h []) [] = hA at *
  generalize dst n d2 (wb h ws) t2 = hB at *
  generalize ws.map Wrd.e = WE at *
  generalize bE b = BE at *
  by_cases k1 : c1 / 15 % 8 = 1
  · have k2 : ¬ c1 / 15 % 8 = 2 := by omega
    rw [if_pos k1, if_neg k2] at hmo
    have hmo' : mo = 5 := by omega
    subst hmo'
    simp [e1, k1, hkk, hr, el, wl, ft]
  · by_cases k2 : c1 / 15 % 8 = 2
    · rw [if_neg k1, if_pos k2] at hmo
      have hmo' : mo = 7 := by omega
      subst hmo'
      simp [e1, k2, hkk, hr, el, wl, ft]
    · rw [if_neg k1, if_neg k2] at hmo
      have hmo' : mo = 3 := by omega
      subst hmo'
      simp [e1, k1, k2, hkk, hr, el, wl, ft]
end Lw

namespace Lw
open PySem L2 Wk
theorem ran_ev {ws : List Wrd} {b : List Stm} (g : GP ws b) {most : Int} (hm : most ≤ 50000) : F_law_ran [progE ws b, .int most] = .ok (ranD (runR ws b most)) := by
  have hr := run6 g hm []
  have hin := g.in_ most
  have hoe := iB_okE (iS_okE 49) b ⟨dictW ws, [], 0⟩ (hn0 most)
  have hrr : runR ws b most = iB (iS 49) b ⟨dictW ws, [], 0⟩ (hn0 most) := rfl
  rw [← hrr] at hoe
  have q : ∀ (f g : Str), decide (f = g) = false → ¬ f = g := fun f g e => of_decide_eq_false e
  have x1 : exm "TooGreat" "NoMark" = some false := by with_unfolding_all rfl
  have x2 : exm "TooGreat" "TooGreat" = some true := by with_unfolding_all rfl
  have x3 : exm "NoMark" "NoMark" = some true := by with_unfolding_all rfl
  generalize (dictW ws).map Wk.wE = WD at *
  generalize progE ws b = P at *
  have fin : ∀ (y : Hn) (t : Sto) (d : Bool), F_run [.d P, .d (.int most)] [] = .ok (.tup [.ref 3, .ref 4, .d y.h.st, .d (.int y.turns), .d (.bool d)]) ([.dct WD] ++ (hb 1 y.h ++ t)) → F_law_ran [P, .int most] = .ok (.list [.str "", tell y d]) := fun y t d e => by
    have ey : Y_law_ran_0 [some (.d P), some (.d (.int most)), some (.d (.str "")), some (.d .none)] [] = .next [some (.d P), some (.d (.int most)), some (.d (.str "")), some (.tup [.ref 3, .ref 4, .d y.h.st, .d (.int y.turns), .d (.bool d)])] ([.dct WD] ++ (hb 1 y.h ++ t)) := by
      unfold Y_law_ran_0
      simp [e]
    have hfz : fzR (.tup [.ref 3, .ref 4, .d y.h.st, .d (.int y.turns), .d (.bool d)]) ([Ob.dct WD] ++ (hb 1 y.h ++ t)) = .ok (.d (tell y d)) (fzH (refsOf (.tup [.ref 3, .ref 4, .d y.h.st, .d (.int y.turns), .d (.bool d)])) ([Ob.dct WD] ++ (hb 1 y.h ++ t))) := by
      have hd : dataOf ([Ob.dct WD] ++ (hb 1 y.h ++ t)) (.tup [.ref 3, .ref 4, .d y.h.st, .d (.int y.turns), .d (.bool d)]) = some (tell y d) := by
        rw [dataOf, datasOf, datasOf, datasOf, datasOf, datasOf, datasOf]
        rfl
      unfold fzR
      simp only [hd]
    generalize [Ob.dct WD] ++ (hb 1 y.h ++ t) = HH at *
    unfold F_law_ran B_law_ran
    rw [pfOf_ap]
    simp only [List.map_cons, List.map_nil, List.length_cons, List.length_nil, List.cons_append, List.nil_append]
    rw [show (List.replicate (4 - (0 + 1 + 1)) none : List (Option U)) = [none, none] from rfl]
    simp only [ev_Seq, ev_Set, ev_C, Res.then_ok, SRes.seq_next, List.set_cons_succ, List.set_cons_zero, sTry, ey]
    simp [hfz]
  have fex : ∀ (x : Str) (hx : Sto) (rf : Str), F_run [.d P, .d (.int most)] [] = .exc x hx → (tryGo exm x [some (.d P), some (.d (.int most)), some (.d (.str "")), some (.d .none)] hx [("NoMark", sSet 2 (eC (.str "mark"))), ("TooGreat", sSet 2 (eC (.str "great")))] = .next [some (.d P), some (.d (.int most)), some (.d (.str rf)), some (.d .none)] hx) → F_law_ran [P, .int most] = .ok (.list [.str rf, .none]) := fun x hx rf e et => by
    have ey : Y_law_ran_0 [some (.d P), some (.d (.int most)), some (.d (.str "")), some (.d .none)] [] = .exc x [some (.d P), some (.d (.int most)), some (.d (.str "")), some (.d .none)] hx := by
      unfold Y_law_ran_0
      simp [e]
    unfold F_law_ran B_law_ran
    rw [pfOf_ap]
    simp only [List.map_cons, List.map_nil, List.length_cons, List.length_nil, List.cons_append, List.nil_append]
    rw [show (List.replicate (4 - (0 + 1 + 1)) none : List (Option U)) = [none, none] from rfl]
    simp only [ev_Seq, ev_Set, ev_C, Res.then_ok, SRes.seq_next, List.set_cons_succ, List.set_cons_zero, sTry, ey, et]
    simp
  cases hq : runR ws b most with
  | out => exact absurd hq hin
  | ok y =>
    rw [hq] at hr
    obtain ⟨t, e⟩ := hr
    exact fin y t true e
  | exc x y =>
    rw [hq] at hr hoe
    unfold RuR at hr
    unfold ranD
    dsimp only at hr ⊢
    rcases hoe with z | z | z <;> subst z
    · rw [if_pos rfl] at hr ⊢
      obtain ⟨t, e⟩ := hr
      exact fin y t false e
    · rw [if_neg (q _ _ (by decide))] at hr
      obtain ⟨t, e⟩ := hr
      rw [if_neg (q _ _ (by decide)), if_neg (q _ _ (by decide))]
      exact fex _ _ _ e (by simp [tryGo, x1, x2, SRes.noEx])
    · rw [if_neg (q _ _ (by decide))] at hr
      obtain ⟨t, e⟩ := hr
      rw [if_neg (q _ _ (by decide)), if_pos rfl]
      exact fex _ _ _ e (by simp [tryGo, x3, SRes.noEx])
end Lw

namespace Lw
open PySem L2 Wk
def gv (g : Bool) : Str := if g then "go" else "turn"
def kgo (g : Bool) (k : Int) : Int := if g then k else 1
def ktu (g : Bool) (k : Int) : Int := if g then 1 else k
theorem times_ev (a : Amt) (k : Int) (hk : k.natAbs < 2 ^ 64) : F_times_over [a.e, .int k] = .ok (a.mul k).e := by
  have m1 : ∀ i, mulOk i k = true := fun i => mulOk_of (.inr hk)
  unfold F_times_over B_times_over
  rw [pfOf_ap]
  cases a with
  | int i => simp [Amt.e, Amt.mul, isTy, m1]
  | cnt t m => simp [Amt.e, Amt.mul, isTy, m1]
  | num t j m =>
    simp only [Amt.e, Amt.mul]
    generalize nName j = nj
    simp [isTy, m1]
theorem with_step {m : Nat} {g : Bool} {k : Int} (hk : k.natAbs < 2 ^ 64) (ih : ∀ b : List Stm, bDeep b < m → bSize b < 100000 → pfS (Rec_with_amounts m 0) [.tuple (bE b), .str (gv g), .int k] = .ok (.tuple (bE (bOv (kgo g k) (ktu g k) b)))) (s : Stm) (hs : s.deep < m + 1) (hl : s.size < 100000) (L : List D) (hL : L.length < 100000) (e0 e5 : Option U) :
    ∃ e5', L_with_amounts_0 (Rec_with_amounts m) [e0, some (.d (.str (gv g))), some (.d (.int k)), some (.ref 0), some (.d s.e), e5] [.lst L] = .next [e0, some (.d (.str (gv g))), some (.d (.int k)), some (.ref 0), some (.d s.e), e5'] [.lst (L ++ [(s.ov (kgo g k) (ktu g k)).e])] := by
  have hf : fits (L.length + 1) = true := fits_of (by omega)
  have q : ∀ (f g : Str), decide (f = g) = false → ¬ f = g := fun f g e => of_decide_eq_false e
  unfold L_with_amounts_0
  cases s with
  | go a =>
    have h1 := times_ev a k hk
    refine ⟨e5, ?_⟩
    simp only [Stm.ov, Stm.e]
    cases g
    · simp [gv, kgo, mul_one, q "go" "turn" (by decide), q "go" "again" (by decide), q "go" "if" (by decide), hf]
    · simp [gv, kgo, h1, hf]
  | turn a =>
    have h1 := times_ev a k hk
    refine ⟨e5, ?_⟩
    simp only [Stm.ov, Stm.e]
    cases g
    · simp [gv, ktu, h1, hf]
    · simp [gv, ktu, mul_one, q "turn" "go" (by decide), q "turn" "again" (by decide), q "turn" "if" (by decide), hf]
  | ink a =>
    refine ⟨e5, ?_⟩
    simp only [Stm.ov, Stm.e]
    cases g <;> simp [gv, q "ink" "turn" (by decide), q "ink" "go" (by decide), q "ink" "again" (by decide), q "ink" "if" (by decide), hf]
  | up =>
    refine ⟨e5, ?_⟩
    simp only [Stm.ov, Stm.e]
    cases g <;> simp [gv, q "up" "turn" (by decide), q "up" "go" (by decide), q "up" "again" (by decide), q "up" "if" (by decide), hf]
  | down =>
    refine ⟨e5, ?_⟩
    simp only [Stm.ov, Stm.e]
    cases g <;> simp [gv, q "down" "turn" (by decide), q "down" "go" (by decide), q "down" "again" (by decide), q "down" "if" (by decide), hf]
  | mark i =>
    refine ⟨e5, ?_⟩
    simp only [Stm.ov, Stm.e]
    cases g <;> simp [gv, q "mark" "turn" (by decide), q "mark" "go" (by decide), q "mark" "again" (by decide), q "mark" "if" (by decide), hf]
  | back i =>
    refine ⟨e5, ?_⟩
    simp only [Stm.ov, Stm.e]
    cases g <;> simp [gv, q "back" "turn" (by decide), q "back" "go" (by decide), q "back" "again" (by decide), q "back" "if" (by decide), hf]
  | call w as =>
    refine ⟨e5, ?_⟩
    simp only [Stm.ov, Stm.e]
    generalize as.map Amt.e = AE
    cases g <;> simp [gv, q "do" "turn" (by decide), q "do" "go" (by decide), q "do" "again" (by decide), q "do" "if" (by decide), hf]
  | again a b =>
    simp only [Stm.deep] at hs
    simp only [Stm.size] at hl
    have h1 := ih b (by omega) (by omega)
    refine ⟨e5, ?_⟩
    simp only [Stm.ov, Stm.e]
    generalize bE b = B at *
    generalize bE (bOv (kgo g k) (ktu g k) b) = B' at *
    cases g
    · simp only [gv, Bool.false_eq_true, if_false] at h1
      simp [gv, q "again" "turn" (by decide), h1, hf]
    · simp only [gv, if_true] at h1
      simp [gv, q "again" "go" (by decide), h1, hf]
  | iff a b c =>
    simp only [Stm.deep] at hs
    simp only [Stm.size] at hl
    have h1 := ih b (by omega) (by omega)
    have h2 := ih c (by omega) (by omega)
    refine ⟨some (.d (.tuple (bE (bOv (kgo g k) (ktu g k) b)))), ?_⟩
    simp only [Stm.ov, Stm.e]
    generalize bE b = B at *
    generalize bE (bOv (kgo g k) (ktu g k) b) = B' at *
    generalize bE c = C at *
    generalize bE (bOv (kgo g k) (ktu g k) c) = C' at *
    cases g
    · simp only [gv, Bool.false_eq_true, if_false] at h1 h2
      simp [gv, q "if" "turn" (by decide), q "if" "again" (by decide), h1, h2, hf]
    · simp only [gv, if_true] at h1 h2
      simp [gv, q "if" "go" (by decide), q "if" "again" (by decide), h1, h2, hf]
theorem with_loop {m : Nat} {g : Bool} {k : Int} (hk : k.natAbs < 2 ^ 64) (ih : ∀ b : List Stm, bDeep b < m → bSize b < 100000 → pfS (Rec_with_amounts m 0) [.tuple (bE b), .str (gv g), .int k] = .ok (.tuple (bE (bOv (kgo g k) (ktu g k) b)))) (e0 : Option U) : ∀ (b : List Stm) (L : List D) (e4 e5 : Option U), bDeep b < m + 1 → bSize b < 100000 → L.length + b.length < 100000 →
    ∃ e4' e5', forGo (gN 4) (L_with_amounts_0 (Rec_with_amounts m)) ((bE b).map U.d) [e0, some (.d (.str (gv g))), some (.d (.int k)), some (.ref 0), e4, e5] [.lst L] = .next [e0, some (.d (.str (gv g))), some (.d (.int k)), some (.ref 0), e4', e5'] [.lst (L ++ bE (bOv (kgo g k) (ktu g k) b))]
  | [], L, e4, e5, _, _, _ => ⟨e4, e5, by simp [bE, bOv]⟩
  | s :: r, L, e4, e5, hd, hz, hl => by
    rw [bDeep] at hd
    rw [bSize] at hz
    rw [List.length_cons] at hl
    obtain ⟨f5, st⟩ := with_step hk ih s (by omega) (by omega) L (by omega) e0 e5
    obtain ⟨f4, g5, r1⟩ := with_loop hk ih e0 r (L ++ [(s.ov (kgo g k) (ktu g k)).e]) (some (.d s.e)) f5 (by omega) (by omega) (by simp; omega)
    refine ⟨f4, g5, ?_⟩
    rw [bE, List.map_cons, ev_forC]
    simp only [ev_gN, List.set_cons_succ, List.set_cons_zero]
    rw [st]
    simp only [SRes.seq_next]
    rw [r1, bOv, bE]
    simp
theorem with_ev {g : Bool} {k : Int} (hk : k.natAbs < 2 ^ 64) : ∀ (m : Nat) (b : List Stm), bDeep b < m → bSize b < 100000 → pfS (Rec_with_amounts m 0) [.tuple (bE b), .str (gv g), .int k] = .ok (.tuple (bE (bOv (kgo g k) (ktu g k) b)))
  | 0, b, h, _ => absurd h (Nat.not_lt_zero _)
  | m + 1, b, h, hz => by
    have e : Rec_with_amounts (m + 1) 0 = sfOf 6 (B_with_amounts (Rec_with_amounts m)) := rfl
    obtain ⟨f4, f5, lp⟩ := with_loop hk (with_ev hk m) (some (.d (.tuple (bE b)))) b [] none none h hz (by have := len_size b; simp; omega)
    rw [List.nil_append] at lp
    unfold pfS
    rw [e, sfOf_ap]
    unfold B_with_amounts
    have ft : fTuple [.ref 0] [.lst (bE (bOv (kgo g k) (ktu g k) b))] = .ok (.d (.tuple (bE (bOv (kgo g k) (ktu g k) b)))) [.lst (bE (bOv (kgo g k) (ktu g k) b))] := rfl
    generalize bE (bOv (kgo g k) (ktu g k) b) = B' at *
    generalize bE b = B at *
    simp [lp, ft]
theorem with_ev' {g : Bool} {k : Int} (hk : k.natAbs < 2 ^ 64) {b : List Stm} (hd : bDeep b ≤ 100) (hz : bSize b < 100000) : pfS F_with_amounts [.tuple (bE b), .str (gv g), .int k] = .ok (.tuple (bE (bOv (kgo g k) (ktu g k) b))) := with_ev hk 150 b (by omega) hz
theorem all_ev {g : Bool} {k : Int} (hk : k.natAbs < 2 ^ 64) {ws : List Wrd} {b : List Stm} (hd : bDeep b ≤ 100) (hz : bSize b < 100000) (hw : ∀ x ∈ ws, bDeep x.body ≤ 100 ∧ bSize x.body < 100000) (hl : ws.length ≤ 1000) : F_all_amounts [progE ws b, .str (gv g), .int k] = .ok (progE (ws.map (Wrd.ov (kgo g k) (ktu g k))) (bOv (kgo g k) (ktu g k) b)) := by
  have h1 := with_ev' (g := g) hk hd hz
  have lc : ∀ (e0 e3 e4 e5 : Option U) (h : Sto), lcGo (gTup' 3 (gCons' (gN 6) (gCons' (gN 7) (gCons' (gN 8) gNil')))) cYes K_all_amounts_0 [e0, some (.d (.str (gv g))), some (.d (.int k)), e3, e4, e5, none, none, none] ((ws.map Wrd.e).map U.d) [] h = .ok ((ws.map (Wrd.ov (kgo g k) (ktu g k))).map Wrd.e) h := fun e0 e3 e4 e5 h => by
    have := lcGo_mapF (t := gTup' 3 (gCons' (gN 6) (gCons' (gN 7) (gCons' (gN 8) gNil')))) (e := K_all_amounts_0) (env := [e0, some (.d (.str (gv g))), some (.d (.int k)), e3, e4, e5, none, none, none]) (h := h) (fun w : Wrd => U.d w.e) (fun w => (w.ov (kgo g k) (ktu g k)).e) ws [] (fun w hw' => by
      refine ⟨[e0, some (.d (.str (gv g))), some (.d (.int k)), e3, e4, e5, some (.d (.str w.name)), some (.d (.int w.many)), some (.d (.tuple (bE w.body)))], rfl, ?_⟩
      have h2 := with_ev' (g := g) hk (hw w hw').1 (hw w hw').2
      unfold K_all_amounts_0
      simp only [Wrd.e, Wrd.ov]
      generalize bE w.body = B at *
      generalize bE (bOv (kgo g k) (ktu g k) w.body) = B' at *
      simp [h2]) (by simp; omega)
    rw [List.nil_append] at this
    rw [List.map_map, List.map_map]
    exact this
  unfold F_all_amounts B_all_amounts progE
  rw [pfOf_ap]
  generalize (ws.map (Wrd.ov (kgo g k) (ktu g k))).map Wrd.e = WO at *
  generalize ws.map Wrd.e = WE at *
  generalize bE b = B at *
  generalize bE (bOv (kgo g k) (ktu g k) b) = B' at *
  generalize gv g = G at *
  simp [wipeE, lc, h1]
theorem GX.dz {ws : List Wrd} {b : List Stm} {m : Nat} (x : GX ws b m) (hm : m ≤ 50000) : bDeep b ≤ 100 ∧ bSize b < 100000 ∧ (∀ w ∈ ws, bDeep w.body ≤ 100 ∧ bSize w.body < 100000) ∧ ws.length ≤ 1000 := by
  have h1 := x.g.d
  have h2 := x.sz
  have h3 := x.g.l
  have key : ∀ (r : List Wrd) (w : Wrd), w ∈ r → bSize w.body ≤ wSize r := fun r => by
    induction r with
    | nil => intro w hw; cases hw
    | cons a r ih =>
      intro w hw
      rw [wSize]
      rcases List.mem_cons.mp hw with z | z
      · rw [z]; omega
      · have := ih w z; omega
  refine ⟨by omega, by omega, fun w hw => ⟨?_, ?_⟩, by omega⟩
  · obtain ⟨r', _, _, _, k4, _, _⟩ := wsWf_at x.g.w (List.mem_reverse.mpr hw)
    omega
  · have := key ws w hw; omega
theorem far_step {m : Nat} (ih : ∀ b : List Stm, bDeep b < m → pfS (Rec_farthest_go m 0) [.tuple (bE b)] = .ok (.int (bFar b))) (s : Stm) (hs : s.deep < m + 1) (f : Int) (e0 : Option U) (h : Sto) :
    L_farthest_go_0 (Rec_farthest_go m) [e0, some (.d (.int f)), some (.d s.e)] h = .next [e0, some (.d (.int (if 0 ≤ f then max f s.far else f))), some (.d s.e)] h ∨ f < 0 := by
  by_cases hf : f < 0
  · exact .inr hf
  have hf0 : 0 ≤ f := by omega
  rw [if_pos hf0]
  refine .inl ?_
  have q : ∀ (f g : Str), decide (f = g) = false → ¬ f = g := fun f g e => of_decide_eq_false e
  unfold L_farthest_go_0
  have mx0 : max f 0 = f := by omega
  have ab : ∀ i : Int, (if i < 0 then -i else i) = (i.natAbs : Int) := fun i => by split <;> omega
  cases s with
  | go a =>
    simp only [Stm.e, Stm.far]
    cases a with
    | int i => simp [Amt.e, Amt.far, isTy, ab]; omega
    | cnt t k => simp [Amt.e, Amt.far, isTy, Int.max_assoc, ab]
    | num t j k =>
      simp only [Amt.e, Amt.far]
      generalize nName j = nj
      simp [isTy, Int.max_assoc, ab]
  | turn a => simp [Stm.e, Stm.far, q "turn" "go" (by decide), q "turn" "again" (by decide), q "turn" "if" (by decide), mx0]
  | ink a => simp [Stm.e, Stm.far, q "ink" "go" (by decide), q "ink" "again" (by decide), q "ink" "if" (by decide), mx0]
  | up => simp [Stm.e, Stm.far, q "up" "go" (by decide), q "up" "again" (by decide), q "up" "if" (by decide), mx0]
  | down => simp [Stm.e, Stm.far, q "down" "go" (by decide), q "down" "again" (by decide), q "down" "if" (by decide), mx0]
  | mark i => simp [Stm.e, Stm.far, q "mark" "go" (by decide), q "mark" "again" (by decide), q "mark" "if" (by decide), mx0]
  | back i => simp [Stm.e, Stm.far, q "back" "go" (by decide), q "back" "again" (by decide), q "back" "if" (by decide), mx0]
  | call w as =>
    simp only [Stm.e, Stm.far]
    generalize as.map Amt.e = AE
    simp [q "do" "go" (by decide), q "do" "again" (by decide), q "do" "if" (by decide), mx0]
  | again a b =>
    simp only [Stm.deep] at hs
    have h1 := ih b (by omega)
    simp only [Stm.e, Stm.far]
    generalize bE b = B at *
    generalize bFar b = F at *
    simp [q "again" "go" (by decide), h1]
    omega
  | iff a b c =>
    simp only [Stm.deep] at hs
    have h1 := ih b (by omega)
    have h2 := ih c (by omega)
    simp only [Stm.e, Stm.far]
    generalize bE b = B at *
    generalize bE c = C at *
    simp [q "if" "go" (by decide), q "if" "again" (by decide), h1, h2, Int.max_assoc]
theorem far_loop {m : Nat} (ih : ∀ b : List Stm, bDeep b < m → pfS (Rec_farthest_go m 0) [.tuple (bE b)] = .ok (.int (bFar b))) (e0 : Option U) (h : Sto) : ∀ (b : List Stm) (f : Int) (e2 : Option U), 0 ≤ f → bDeep b < m + 1 →
    ∃ e2', forGo (gN 2) (L_farthest_go_0 (Rec_farthest_go m)) ((bE b).map U.d) [e0, some (.d (.int f)), e2] h = .next [e0, some (.d (.int (max f (bFar b)))), e2'] h
  | [], f, e2, hf, _ => ⟨e2, by rw [bE, List.map_nil, forGo_nil, bFar, show max f 0 = f by omega]⟩
  | s :: r, f, e2, hf, hd => by
    rw [bDeep] at hd
    have st := (far_step ih s (by omega) f e0 h).resolve_right (by omega)
    rw [if_pos hf] at st
    obtain ⟨f2, lp⟩ := far_loop ih e0 h r (max f s.far) (some (.d s.e)) (by omega) (by omega)
    refine ⟨f2, ?_⟩
    rw [bE, List.map_cons, forGo_cons, ev_gN]
    simp only [List.set_cons_succ, List.set_cons_zero]
    rw [st, SRes.seq_next, lp, bFar, Int.max_assoc]
theorem far_ev : ∀ (m : Nat) (b : List Stm), bDeep b < m → pfS (Rec_farthest_go m 0) [.tuple (bE b)] = .ok (.int (bFar b))
  | 0, b, h => absurd h (Nat.not_lt_zero _)
  | m + 1, b, h => by
    have e : Rec_farthest_go (m + 1) 0 = sfOf 3 (B_farthest_go (Rec_farthest_go m)) := rfl
    obtain ⟨f2, lp⟩ := far_loop (far_ev m) (some (.d (.tuple (bE b)))) [] b 0 none (Int.le_refl _) h
    rw [show max (0 : Int) (bFar b) = bFar b by have := bFar_nn b; omega] at lp
    unfold pfS
    rw [e, List.map_cons, List.map_nil, sfOf_ap]
    unfold B_farthest_go
    generalize bFar b = F at *
    generalize bE b = B at *
    simp [lp]
/-- the bodies that larger looks at -/
def lgOk (ws : List Wrd) (b : List Stm) : Prop := (∀ x ∈ ws, bFar x.body ≤ 1000000) ∧ bFar b ≤ 1000000
theorem lg_step (e0 e1 e2 e3 e4 e5 e6 e7 e8 : Option U) (h : Sto) (b : List Stm) (hd : bDeep b < 150) : L_larger_1 [e0, e1, e2, some (.d (.tuple (bE b))), e4, e5, e6, e7, e8] h = if bFar b ≤ 1000000 then .next [e0, e1, e2, some (.d (.tuple (bE b))), e4, e5, e6, e7, e8] h else .exc "TooGreat" [e0, e1, e2, some (.d (.tuple (bE b))), e4, e5, e6, e7, e8] h := by
  have hF : Rec_farthest_go 150 0 = F_farthest_go := rfl
  have f := far_ev 150 b hd
  rw [hF] at f
  unfold L_larger_1 c_FARTHEST
  generalize bFar b = F at *
  generalize bE b = B at *
  by_cases hz : F ≤ 1000000
  · have hz' : ¬ 1000000 < F := by omega
    simp [f, hz, hz']
  · have hz' : 1000000 < F := by omega
    simp [f, hz, hz']
theorem lg_go (e0 e1 e2 e4 e5 e6 e7 e8 : Option U) (h : Sto) : ∀ (bs : List (List Stm)) (e3 : Option U), (∀ b ∈ bs, bDeep b < 150) →
    ((∀ b ∈ bs, bFar b ≤ 1000000) → ∃ e3', forGo (gN 3) L_larger_1 ((bs.map fun b => PyData.tuple (bE b)).map U.d) [e0, e1, e2, e3, e4, e5, e6, e7, e8] h = .next [e0, e1, e2, e3', e4, e5, e6, e7, e8] h) ∧
    ((∃ b ∈ bs, ¬ bFar b ≤ 1000000) → ∃ env, forGo (gN 3) L_larger_1 ((bs.map fun b => PyData.tuple (bE b)).map U.d) [e0, e1, e2, e3, e4, e5, e6, e7, e8] h = .exc "TooGreat" env h)
  | [], e3, _ => ⟨fun _ => ⟨e3, rfl⟩, fun ⟨b, hb, _⟩ => nomatch hb⟩
  | b :: r, e3, hd => by
    have st := lg_step e0 e1 e2 e3 e4 e5 e6 e7 e8 h b (hd b List.mem_cons_self)
    obtain ⟨i1, i2⟩ := lg_go e0 e1 e2 e4 e5 e6 e7 e8 h r (some (.d (.tuple (bE b)))) fun x hx => hd x (List.mem_cons_of_mem _ hx)
    have un : forGo (gN 3) L_larger_1 (((b :: r).map fun b => PyData.tuple (bE b)).map U.d) [e0, e1, e2, e3, e4, e5, e6, e7, e8] h = (L_larger_1 [e0, e1, e2, some (.d (.tuple (bE b))), e4, e5, e6, e7, e8] h).seq (forGo (gN 3) L_larger_1 ((r.map fun b => PyData.tuple (bE b)).map U.d)) := by
      rw [List.map_cons, List.map_cons, forGo_cons, ev_gN]
      simp only [List.set_cons_succ, List.set_cons_zero]
    rw [un, st]
    by_cases hz : bFar b ≤ 1000000
    · rw [if_pos hz, SRes.seq_next]
      refine ⟨fun H => i1 fun x hx => H x (List.mem_cons_of_mem _ hx), fun ⟨x, hx, hn⟩ => ?_⟩
      rcases List.mem_cons.mp hx with z | z
      · subst z; exact absurd hz hn
      · exact i2 ⟨x, z, hn⟩
    · rw [if_neg hz]
      refine ⟨fun H => absurd (H b List.mem_cons_self) hz, fun _ => ⟨_, rfl⟩⟩
theorem larger_ev {k : Int} (hk : k.natAbs < 2 ^ 64) {ws : List Wrd} {b : List Stm} (hd : bDeep b ≤ 100) (hz : bSize b < 100000) (hw : ∀ x ∈ ws, bDeep x.body ≤ 100 ∧ bSize x.body < 100000) (hl : ws.length ≤ 900) (ho : ∀ b : List Stm, bDeep (bOv k 1 b) = bDeep b) :
    F_larger [progE ws b, .int k] = if ask (lgOk (ws.map (Wrd.ov k 1)) (bOv k 1 b)) then .ok (progE (ws.map (Wrd.ov k 1)) (bOv k 1 b)) else .exc "TooGreat" := by
  have ea := all_ev (g := true) hk hd hz hw (by omega)
  have e1 : gv true = "go" := rfl
  have e2 : kgo true k = k := rfl
  have e3 : ktu true k = 1 := rfl
  rw [e1, e2, e3] at ea
  generalize hws : ws.map (Wrd.ov k 1) = ws2 at *
  generalize hb2 : bOv k 1 b = b2 at *
  have hl2 : ws2.length ≤ 900 := by rw [← hws, List.length_map]; exact hl
  have hd2 : ∀ x ∈ ws2, bDeep x.body < 150 := fun x hx => by
    rw [← hws] at hx
    obtain ⟨y, hy, rfl⟩ := List.mem_map.mp hx
    have := (hw y hy).1
    show bDeep (bOv k 1 y.body) < 150
    rw [ho]
    omega
  have lc : ∀ (f0 f1 f2 f3 f4 f5 : Option U) (h : Sto), lcGo (gTup' 3 (gCons' (gN 6) (gCons' (gN 7) (gCons' (gN 8) gNil')))) cYes K_larger_0 [f0, f1, f2, f3, f4, f5, none, none, none] ((ws2.map Wrd.e).map U.d) [] h = .ok (ws2.map fun x => .tuple (bE x.body)) h := fun f0 f1 f2 f3 f4 f5 h => by
    have := lcGo_mapF (t := gTup' 3 (gCons' (gN 6) (gCons' (gN 7) (gCons' (gN 8) gNil')))) (e := K_larger_0) (env := [f0, f1, f2, f3, f4, f5, none, none, none]) (h := h) (fun w : Wrd => U.d w.e) (fun w => .tuple (bE w.body)) ws2 [] (fun w hw' => by
      refine ⟨[f0, f1, f2, f3, f4, f5, some (.d (.str w.name)), some (.d (.int w.many)), some (.d (.tuple (bE w.body)))], rfl, ?_⟩
      unfold K_larger_0
      simp) (by simp; omega)
    rw [List.nil_append] at this
    rw [List.map_map]
    exact this
  have hm : (ws2.map fun x : Wrd => PyData.tuple (bE x.body)) ++ [.tuple (bE b2)] = ((ws2.map Wrd.body ++ [b2]).map fun b => PyData.tuple (bE b)) := by simp
  have ad := fun h => addLL (ws2.map fun x : Wrd => PyData.tuple (bE x.body)) [.tuple (bE b2)] h (by simp; omega)
  rw [hm] at ad
  obtain ⟨l1, l2⟩ := lg_go (some (.d (progE ws b))) (some (.d (.int k))) (some (.d (progE ws2 b2))) (some (.d (.tuple (ws.map Wrd.e)))) (some (.d (.tuple (bE b)))) none none none [] (ws2.map Wrd.body ++ [b2]) none (fun x hx => by
    rcases List.mem_append.mp hx with z | z
    · obtain ⟨y, hy, rfl⟩ := List.mem_map.mp z
      exact hd2 y hy
    · rw [List.mem_singleton.mp z, ← hb2, ho]; omega)
  unfold F_larger B_larger
  rw [pfOf_ap]
  by_cases hq : lgOk ws2 b2
  · rw [if_pos (ask_t hq)]
    obtain ⟨e3', lp⟩ := l1 fun x hx => by
      rcases List.mem_append.mp hx with z | z
      · obtain ⟨y, hy, rfl⟩ := List.mem_map.mp z
        exact hq.1 y hy
      · rw [List.mem_singleton.mp z]; exact hq.2
    unfold progE at *
    generalize ((ws2.map Wrd.body ++ [b2]).map fun b => PyData.tuple (bE b)) = LL at *
    generalize ws2.map Wrd.e = W2 at *
    generalize ws.map Wrd.e = W1 at *
    generalize (ws2.map fun x : Wrd => PyData.tuple (bE x.body)) = W3 at *
    generalize bE b = B1 at *
    generalize bE b2 = B2 at *
    simp [ea, wipeE, lc, ad, lp]
  · have hqf : ask (lgOk ws2 b2) = false := by
      cases z : ask (lgOk ws2 b2) with
      | false => rfl
      | true => exact absurd (ask_iff.mp z) hq
    rw [hqf]
    obtain ⟨env, lp⟩ := l2 (by
      by_cases hx : bFar b2 ≤ 1000000
      · have : ¬ ∀ x ∈ ws2, bFar x.body ≤ 1000000 := fun z => hq ⟨z, hx⟩
        simp only [Classical.not_forall] at this
        obtain ⟨x, hx1, hx2⟩ := this
        exact ⟨x.body, List.mem_append_left _ (List.mem_map.mpr ⟨x, hx1, rfl⟩), hx2⟩
      · exact ⟨b2, List.mem_append_right _ (List.mem_singleton.mpr rfl), hx⟩)
    unfold progE at *
    generalize ((ws2.map Wrd.body ++ [b2]).map fun b => PyData.tuple (bE b)) = LL at *
    generalize ws2.map Wrd.e = W2 at *
    generalize ws.map Wrd.e = W1 at *
    generalize (ws2.map fun x : Wrd => PyData.tuple (bE x.body)) = W3 at *
    generalize bE b = B1 at *
    generalize bE b2 = B2 at *
    simp [ea, wipeE, lc, ad, lp]
end Lw

namespace Lw
open PySem L2 Wk
theorem scaled_ev (p : P4) (k : Int) (hk : k.natAbs < 2 ^ 64) : F_law_scaled [p.e, .int k] = .ok (sclP k p).e := by
  have m1 : ∀ i, mulOk i k = true := fun i => mulOk_of (.inr hk)
  have lc : ∀ e0 e1 : Option U, e1 = some (.d (.int k)) → lcGo (gN 2) cYes K_law_scaled_0 [e0, e1, none] [.d p.x.e, .d p.y.e] [] [] = .ok [.tuple [.int (p.a * k), .int (p.b * k)], .tuple [.int (p.c * k), .int (p.d * k)]] [] := fun e0 e1 he => by
    subst he
    have := lcGo_mapF (t := gN 2) (e := K_law_scaled_0) (env := [e0, some (.d (.int k)), none]) (h := []) (fun x : Nm => U.d x.e) (fun x => .tuple [.int (x.a * k), .int (x.b * k)]) [p.x, p.y] [] (fun x hx => by
      refine ⟨_, rfl, ?_⟩
      unfold K_law_scaled_0 Nm.e
      simp [m1]) (by simp)
    exact this
  have pe : p.e = .tuple [p.x.e, p.y.e] := rfl
  have tp : ∀ (xs : List D) h, fTuple [.d (.list xs)] h = .ok (.d (.tuple xs)) h := fun xs h => rfl
  rw [pe]
  show _ = PR.ok (.tuple [.tuple [.int (p.a * k), .int (p.b * k)], .tuple [.int (p.c * k), .int (p.d * k)]])
  unfold F_law_scaled B_law_scaled
  rw [pfOf_ap]
  generalize p.x.e = px at *
  generalize p.y.e = py at *
  simp [wipeE, lc, tp]
theorem most_in (p q : P4) (f : Int) (e0 e1 e2 e3 e7 e8 : Option U) : ∃ z7 z8, L_law_most_1 [e0, e1, e2, e3, some (.d (.int f)), some (.d p.e), some (.d q.e), e7, e8] [] = .next [e0, e1, e2, e3, some (.d (.int (max (max (max (max f (if q.a - p.a < 0 then -(q.a - p.a) else q.a - p.a)) (if q.b - p.b < 0 then -(q.b - p.b) else q.b - p.b)) (if q.c - p.c < 0 then -(q.c - p.c) else q.c - p.c)) (if q.d - p.d < 0 then -(q.d - p.d) else q.d - p.d)))), some (.d p.e), some (.d q.e), z7, z8] [] := by
  refine ⟨some (.d p.y.e), some (.d q.y.e), ?_⟩
  have zp : zipD [p.x.e, p.y.e] [q.x.e, q.y.e] = [.d (.tuple [p.x.e, q.x.e]), .d (.tuple [p.y.e, q.y.e])] := rfl
  unfold L_law_most_1
  unfold P4.e
  unfold P4.x P4.y Nm.e at *
  unfold L_law_most_0
  simp [zp, forGo_cons, forGo_nil]
theorem most_loop {B : Int} (e0 e1 e2 e3 : Option U) : ∀ (ps : List (P4 × P4)) (f : Int) (e5 e6 e7 e8 : Option U), 1 ≤ f → f ≤ B → (∀ z ∈ ps, near B z.1 z.2) → ∃ f' z5 z6 z7 z8, f ≤ f' ∧ f' ≤ B ∧ (∀ z ∈ ps, near f' z.1 z.2) ∧ forGo (gTup' 2 (gCons' (gN 5) (gCons' (gN 6) gNil'))) L_law_most_1 (ps.map fun z => U.d (.tuple [z.1.e, z.2.e])) [e0, e1, e2, e3, some (.d (.int f)), e5, e6, e7, e8] [] = .next [e0, e1, e2, e3, some (.d (.int f')), z5, z6, z7, z8] []
  | [], f, e5, e6, e7, e8, h1, h2, _ => ⟨f, e5, e6, e7, e8, Int.le_refl _, h2, fun _ h => (nomatch h), rfl⟩
  | z :: ps, f, e5, e6, e7, e8, h1, h2, hb => by
    obtain ⟨z7, z8, st⟩ := most_in z.1 z.2 f e0 e1 e2 e3 e7 e8
    have nb := hb z List.mem_cons_self
    generalize hf : max (max (max (max f (if z.2.a - z.1.a < 0 then -(z.2.a - z.1.a) else z.2.a - z.1.a)) (if z.2.b - z.1.b < 0 then -(z.2.b - z.1.b) else z.2.b - z.1.b)) (if z.2.c - z.1.c < 0 then -(z.2.c - z.1.c) else z.2.c - z.1.c)) (if z.2.d - z.1.d < 0 then -(z.2.d - z.1.d) else z.2.d - z.1.d) = g at st
    have hg : f ≤ g ∧ g ≤ B ∧ near g z.1 z.2 := by
      unfold near at nb ⊢
      subst hf
      omega
    obtain ⟨f', w5, w6, w7, w8, k1, k2, k3, e⟩ := most_loop e0 e1 e2 e3 ps g (some (.d z.1.e)) (some (.d z.2.e)) z7 z8 (by omega) hg.2.1 fun x hx => hb x (List.mem_cons_of_mem _ hx)
    refine ⟨f', w5, w6, w7, w8, by omega, k2, fun x hx => ?_, ?_⟩
    · rcases List.mem_cons.mp hx with q | q
      · subst q
        have := hg.2.2
        unfold near at this ⊢
        omega
      · exact k3 x q
    · rw [List.map_cons, forGo_cons]
      have tg : gTup' 2 (gCons' (gN 5) (gCons' (gN 6) gNil')) (.d (.tuple [z.1.e, z.2.e])) [e0, e1, e2, e3, some (.d (.int f)), e5, e6, e7, e8] [] = some [e0, e1, e2, e3, some (.d (.int f)), some (.d z.1.e), some (.d z.2.e), e7, e8] := rfl
      rw [tg]
      dsimp only
      rw [st, SRes.seq_next, e]
theorem most_ref (x : Str) (v : D) (fr m : Int) (h : x ≠ "" ∨ fr = 0) : F_law_most [.list [.str x, v], .int fr, .int m] = .ok (.int (if 4 < m then 3 else 9)) := by
  unfold F_law_most B_law_most
  rw [pfOf_ap]
  by_cases c : x = ""
  · have c2 : fr = 0 := by rcases h with q | q; exact absurd c q; exact q
    subst c c2
    by_cases hm : 4 < m <;> simp [hm]
  · by_cases hm : 4 < m <;> simp [c, hm]
theorem most_far {y : Hn} {d : Bool} {fr m B : Int} (hfr : fr ≠ 0) (hc : ∀ p ∈ y.corners, p.bd B) (hB : 1 ≤ B ∧ B ≤ 1000000000000) : ∃ f : Int, 1 ≤ f ∧ adj f y.corners ∧ F_law_most [.list [.str "", tell y d], .int fr, .int m] = .ok (.int (if (if 1000000 / f < 1000 then 1000000 / f else 1000) > 1 then (if 1000000 / f < 1000 then 1000000 / f else 1000) else 1)) := by
  obtain ⟨f, z5, z6, z7, z8, k1, k2, k3, e⟩ := most_loop (B := 2 * B) (some (.d (.list [.str "", tell y d]))) (some (.d (.int fr))) (some (.d (.int m))) (some (.d (.list (y.corners.map P4.e)))) (pairs y.corners) 1 none none none none (by decide) (by omega) (fun z hz => by
    have h1 := hc _ (pairs_mem hz).1
    have h2 := hc _ (pairs_mem hz).2
    unfold P4.bd at h1 h2
    unfold near
    omega)
  refine ⟨f, k1, adj_pairs k3, ?_⟩
  have zp : zipD (y.corners.map P4.e).dropLast (y.corners.map P4.e).tail = (pairs y.corners).map fun z => U.d (.tuple [z.1.e, z.2.e]) := by
    rw [zipD_pairs, pairs_map, List.map_map]
    rfl
  have dv : divOk f = true := divOk_s (by omega) (by omega)
  have slE : ∀ (f : Ev) (lo hi : Eo) (env : Env') (h : Sto), eSl false f lo hi env h = (f env h).bind fun u h1 => (lo env h1).bind fun l h2 => (hi env h2).bind fun r h3 => opSl false u l r h3 := fun _ _ _ _ _ => rfl
  have soE : ∀ (f : Ev) (env : Env') (h : Sto), oSo f env h = (f env h).bind fun u h1 => match intOf u with | some i => .ok (some i) h1 | none => .stuck := fun _ _ _ => rfl
  have noE : ∀ (env : Env') (h : Sto), oNo env h = .ok none h := fun _ _ => rfl
  have slL : ∀ (xs : List D) (lo hi : Option Int) (h : Sto), opSl false (.d (.list xs)) lo hi h = .ok (.d (.list (cutD xs lo hi))) h := fun _ _ _ _ => rfl
  have ls : ∀ (xs : List D) st, fList false [.d (.list xs)] st = .ok (.d (.list xs)) st := fun xs st => rfl
  have c1 := cut_front (y.corners.map P4.e)
  have c2 := cut_tail (y.corners.map P4.e)
  have t1 : tell y d = .tuple [.list (y.strokes.map Stk.e), .list (y.corners.map P4.e), y.c.e, .int y.turns, .bool d] := rfl
  rw [t1] at e ⊢
  unfold F_law_most B_law_most
  rw [pfOf_ap]
  generalize (pairs y.corners).map (fun z => U.d (.tuple [z.1.e, z.2.e])) = PP at *
  generalize (y.corners.map P4.e).dropLast = C1 at *
  generalize (y.corners.map P4.e).tail = C2 at *
  generalize y.corners.map P4.e = CC at *
  generalize y.strokes.map Stk.e = SS at *
  generalize y.c.e = ce at *
  simp [hfr, ls, slE, soE, noE, slL, c1, c2, zp, e, ev_pow6, dv]
end Lw

namespace Lw
open PySem L2 Wk
theorem told_shp {y : Hn} {d : Bool} : Shp 6 (tell y d) := by
  refine (Shp.tuple (k := 4) (shp_cons (Shp.list (k := 3) fun z hz => ?_) (shp_cons (Shp.mono (k := 3) (Shp.list (k := 2) fun z hz => ?_) (by decide)) (shp_cons (Shp.mono (k := 3) (Shp.tuple (k := 2) (shp_cons (.place _) (shp_cons (.int _ _) (shp_cons (.bool _ _) (shp_cons (.int _ _) shp_nil))))) (by decide)) (shp_cons (.int _ _) (shp_cons (.bool _ _) shp_nil)))))).mono (by decide)
  · obtain ⟨s, _, rfl⟩ := List.mem_map.mp hz
    exact s.shp
  · obtain ⟨s, _, rfl⟩ := List.mem_map.mp hz
    exact .place _
theorem law_true : ∀ ns : List Int, ns.length ≤ 63 → (∀ z ∈ ns, PySem.Builtin.Int.intBits z ≤ 1048576) → F_law [.list (ns.map .int)] = .ok (.bool true) := by
  intro ns hl _
  obtain ⟨c, ec⟩ := dcell_ev ns hl 0 (by decide) (by decide)
  obtain ⟨ds, ed, dl, du, dok⟩ := deck_ev ns hl 1 (by decide) (by decide) []
  have g0 : ([Ob.lst (dk ds)] : Sto)[0]? = some (.lst (dk ds)) := rfl
  obtain ⟨ws, b, h2, ep, gx⟩ := program_ev g0 dok (by omega)
  obtain ⟨z1, z2, z3, z4⟩ := GX.dz gx (by omega)
  have lw := gx.g.l
  have m0 := Int.emod_nonneg c (show (301 : Int) ≠ 0 by decide)
  have m1 := Int.emod_lt_of_pos c (show (0 : Int) < 301 by decide)
  have r1 := ran_ev gx.g (most := c % 301) (by omega)
  have q0 := fun n h => ev_eqS n h (by intro s z; cases z) ((gx.g.shp (names_ok gx.nm)).shaped (by decide))
  have hin := gx.g.in_ (c % 301)
  have hoe := iB_okE (iS_okE 49) b ⟨dictW ws, [], 0⟩ (hn0 (c % 301))
  have hrr : runR ws b (c % 301) = iB (iS 49) b ⟨dictW ws, [], 0⟩ (hn0 (c % 301)) := rfl
  have hiv := iB_riv (iS_riv 49) b ⟨dictW ws, [], 0⟩ (hn0 (c % 301)) (hn0_iv (by omega))
  have hci := cr_run (ws := ws) (b := b) (most := c % 301) m0
  rw [← hrr] at hoe hiv
  have q : ∀ (f g : Str), decide (f = g) = false → ¬ f = g := fun f g e => of_decide_eq_false e
  have dv1 : divOk 602 = true := divOk_s (by decide) (by decide)
  have dv2 : divOk 301 = true := divOk_s (by decide) (by decide)
  have lg : ∀ k : Int, 1 ≤ k ∧ k ≤ 1000 → F_larger [progE ws b, .int k] = .ok (progE (ws.map (Wrd.ov k 1)) (bOv k 1 b)) := fun k hk => by
    have h1 := larger_ev (k := k) (by omega) z1 z2 z3 (by omega) (fun b => bDeep_ov k 1 b)
    have h2 := gx.g.ovk hk gx.m gx.wm
    rw [if_pos (ask_t ⟨fun x hx => by
      obtain ⟨w, hw, rfl⟩ := List.mem_map.mp hx
      have := h2.2.2 w hw
      show bFar (bOv k 1 w.body) ≤ 1000000
      omega, by have := h2.2.1; omega⟩)] at h1
    exact h1
  have l1 := lg 1 (by decide)
  rw [ov_id] at l1
  have lP : progE ws b = .tuple [.tuple (ws.map Wrd.e), .tuple (bE b)] := rfl
  have lenW : (ws.map Wrd.e).length = ws.length := List.length_map _
  -- one run that is told
  have key : ∀ (M : Int) (y : Hn) (d : Bool), y.iv → 1 ≤ M → M ≤ 1000 → F_law_most [.list [.str "", tell y d], .int (c / 301 % 2), .int ws.length] = .ok (.int M) → (∀ k, 1 ≤ k → k ≤ M → iB (iSk k 49) b ⟨dictW ws, [], 0⟩ (hn0 (c % 301)) = runR ws b (c % 301)) → ranD (runR ws b (c % 301)) = .list [.str "", tell y d] → (∀ k, ranD (mapR (sclH k) (runR ws b (c % 301))) = .list [.str "", tell (sclH k y) d]) → F_law [.list (ns.map .int)] = .ok (.bool true) := fun M y d iv hM hM2 em hsim k1 k2 => by
    have f0 := Int.emod_nonneg (c / 602) (show M ≠ 0 by omega)
    have f1 := Int.emod_lt_of_pos (c / 602) (show 0 < M by omega)
    generalize hkk : 1 + c / 602 % M = k at *
    have hk : 1 ≤ k ∧ k ≤ 1000 := by omega
    have sc := run_scl (ws := ws) (b := b) (most := c % 301) hk.1 (hsim k hk.1 (by omega))
    have r2 := ran_ev (gx.g.ovk hk gx.m gx.wm).1 (most := c % 301) (by omega)
    rw [sc, k2 k] at r2
    rw [k1] at r1
    have l2 := lg k hk
    have hk64 : k.natAbs < 2 ^ 64 := by omega
    have ho := iv.o
    have hs : y.strokes.length ≤ 100000 := by have := ho.ls; omega
    have hc : y.corners.length ≤ 100000 := by have := ho.lc; omega
    have t1 : tell y d = .tuple [.list (y.strokes.map Stk.e), .list (y.corners.map P4.e), .tuple [y.c.spot.e, .int y.c.heading, .bool y.c.pen, .int y.c.ink], .int y.turns, .bool d] := rfl
    have t2 : tell (sclH k y) d = .tuple [.list ((y.strokes.map (sclS k)).map Stk.e), .list ((y.corners.map (sclP k)).map P4.e), .tuple [(sclP k y.c.spot).e, .int y.c.heading, .bool y.c.pen, .int y.c.ink], .int y.turns, .bool d] := rfl
    have lc1 : ∀ (e0 e1 e2 e3 e5 e6 e8 e9 e10 e11 e12 e15 : Option U) (h : Sto), lcGo (gTup' 3 (gCons' (gN 13) (gCons' (gN 14) (gCons' (gN 7) gNil')))) cYes K_law_0 [e0, e1, e2, e3, some (.d (.int k)), e5, e6, none, e8, e9, e10, e11, e12, none, none, e15] ((y.strokes.map Stk.e).map U.d) [] h = .ok ((y.strokes.map (sclS k)).map Stk.e) h := fun e0 e1 e2 e3 e5 e6 e8 e9 e10 e11 e12 e15 h => by
      have := lcGo_mapF (t := gTup' 3 (gCons' (gN 13) (gCons' (gN 14) (gCons' (gN 7) gNil')))) (e := K_law_0) (env := [e0, e1, e2, e3, some (.d (.int k)), e5, e6, none, e8, e9, e10, e11, e12, none, none, e15]) (h := h) (fun s : Stk => U.d s.e) (fun s => (sclS k s).e) y.strokes [] (fun s _ => by
        refine ⟨[e0, e1, e2, e3, some (.d (.int k)), e5, e6, some (.d s.b.e), e8, e9, e10, e11, e12, some (.d (.int s.ink)), some (.d s.a.e), e15], rfl, ?_⟩
        have s1 := scaled_ev s.a k hk64
        have s2 := scaled_ev s.b k hk64
        unfold K_law_0
        simp only [sclS, Stk.e]
        generalize (sclP k s.a).e = u1 at *
        generalize (sclP k s.b).e = u2 at *
        generalize s.a.e = u3 at *
        generalize s.b.e = u4 at *
        simp [s1, s2]) (by simp; omega)
      rw [List.nil_append] at this
      rw [List.map_map, List.map_map]
      exact this
    have lc2 : ∀ (e0 e1 e2 e3 e5 e6 e7 e8 e9 e10 e11 e12 e13 e14 : Option U) (h : Sto), lcGo (gN 15) cYes K_law_1 [e0, e1, e2, e3, some (.d (.int k)), e5, e6, e7, e8, e9, e10, e11, e12, e13, e14, none] ((y.corners.map P4.e).map U.d) [] h = .ok ((y.corners.map (sclP k)).map P4.e) h := fun e0 e1 e2 e3 e5 e6 e7 e8 e9 e10 e11 e12 e13 e14 h => by
      have := lcGo_mapF (t := gN 15) (e := K_law_1) (env := [e0, e1, e2, e3, some (.d (.int k)), e5, e6, e7, e8, e9, e10, e11, e12, e13, e14, none]) (h := h) (fun s : P4 => U.d s.e) (fun s => (sclP k s).e) y.corners [] (fun s _ => by
        refine ⟨[e0, e1, e2, e3, some (.d (.int k)), e5, e6, e7, e8, e9, e10, e11, e12, e13, e14, some (.d s.e)], rfl, ?_⟩
        have s1 := scaled_ev s k hk64
        unfold K_law_1
        generalize (sclP k s).e = u1 at *
        generalize s.e = u3 at *
        simp [s1]) (by simp; omega)
      rw [List.nil_append] at this
      rw [List.map_map, List.map_map]
      exact this
    have sh1 : Shp 5 (.list ((y.strokes.map (sclS k)).map Stk.e)) := Shp.mono (k := 4) (Shp.list fun z hz => by
      obtain ⟨s, _, rfl⟩ := List.mem_map.mp hz
      exact s.shp) (by decide)
    have sh2 : Shp 5 (.list ((y.corners.map (sclP k)).map P4.e)) := Shp.mono (k := 3) (Shp.list fun z hz => by
      obtain ⟨s, _, rfl⟩ := List.mem_map.mp hz
      exact .place _) (by decide)
    have sh3 : Shp 5 (.tuple [.tuple [(sclP k y.c.spot).e, .int y.c.heading, .bool y.c.pen, .int y.c.ink], .int y.turns, .bool d]) := Shp.mono (k := 4) (Shp.tuple (k := 3) (shp_cons (Shp.tuple (k := 2) (shp_cons (.place _) (shp_cons (.int _ _) (shp_cons (.bool _ _) (shp_cons (.int _ _) shp_nil))))) (shp_cons (.int _ _) (shp_cons (.bool _ _) shp_nil)))) (by decide)
    have q1 := fun n h => ev_eqS n h (by intro s z; cases z) (sh1.shaped (by decide))
    have q2 := fun n h => ev_eqS n h (by intro s z; cases z) (sh2.shaped (by decide))
    have q3 := fun n h => ev_eqS n h (by intro s z; cases z) (sh3.shaped (by decide))
    have fl := scaled_ev y.c.spot k hk64
    have slE : ∀ (f : Ev) (lo hi : Eo) (env : Env') (h : Sto), eSl false f lo hi env h = (f env h).bind fun u h1 => (lo env h1).bind fun l h2 => (hi env h2).bind fun r h3 => opSl false u l r h3 := fun _ _ _ _ _ => rfl
    have soE : ∀ (f : Ev) (env : Env') (h : Sto), oSo f env h = (f env h).bind fun u h1 => match intOf u with | some i => .ok (some i) h1 | none => .stuck := fun _ _ _ => rfl
    have noE : ∀ (env : Env') (h : Sto), oNo env h = .ok none h := fun _ _ => rfl
    have slT : ∀ (xs : List D) (lo hi : Option Int) (h : Sto), opSl false (.d (.tuple xs)) lo hi h = .ok (.d (.tuple (cutD xs lo hi))) h := fun _ _ _ _ => rfl
    have ls : ∀ (xs : List D) st, fList false [.d (.list xs)] st = .ok (.d (.list xs)) st := fun xs st => rfl
    have ad := fun (x : D) h => addTT [x] [.int y.c.heading, .bool y.c.pen, .int y.c.ink] h (by simp)
    have hM0 : 0 < M := by omega
    rw [t1] at r1 em
    rw [t2] at r2
    rw [lP] at ep r1 l1 l2
    simp only [lP] at q0
    generalize (y.strokes.map (sclS k)).map Stk.e = S2 at *
    generalize y.strokes.map Stk.e = S1 at *
    generalize (y.corners.map (sclP k)).map P4.e = C2 at *
    generalize y.corners.map P4.e = C1 at *
    generalize (sclP k y.c.spot).e = sp2 at *
    generalize y.c.spot.e = sp1 at *
    generalize progE (ws.map (Wrd.ov k 1)) (bOv k 1 b) = Q at *
    generalize ws.map Wrd.e = WW at *
    generalize bE b = BB at *
    have cu : ∀ (a b c d e : D) , cutD [a, b, c, d, e] (some 2) none = [c, d, e] := fun a b c d e => rfl
    have cu1 : ∀ (a b c d : D) , cutD [a, b, c, d] (some 1) none = [b, c, d] := fun a b c d => rfl
    unfold F_law B_law
    rw [pfOf_ap]
    simp [ed, ep, ec, l1, l2, q0, r1, r2, lenW, dv1, dv2, em, hM0, hkk, wipeE, lc1, lc2, q1, q2, fl, ls, slE, soE, noE, slT, cu, cu1, ad, q3]
  have small : ∀ k : Int, 1 ≤ k → k ≤ (if 4 < (ws.length : Int) then 3 else 9) → iB (iSk k 49) b ⟨dictW ws, [], 0⟩ (hn0 (c % 301)) = runR ws b (c % 301) := fun k h1 h2 => by
    refine run_small h1 (by omega) gx.g gx.m gx.wm ?_
    split at h2
    · exact .inr h2
    · exact .inl ⟨by omega, h2⟩
  have keyx : ∀ x : Str, (x = "mark" ∨ x = "great") → ranD (runR ws b (c % 301)) = .list [.str x, .none] → (∀ k, ranD (mapR (sclH k) (runR ws b (c % 301))) = .list [.str x, .none]) → F_law [.list (ns.map .int)] = .ok (.bool true) := fun x hx k1 k2 => by
    have n1 : ¬ x = "" := by rcases hx with z | z <;> subst z <;> exact q _ _ (by decide)
    have em := most_ref x .none (c / 301 % 2) ws.length (.inl n1)
    generalize hM : (if 4 < (ws.length : Int) then (3 : Int) else 9) = M at *
    have hM1 : 1 ≤ M ∧ M ≤ 9 := by rw [← hM]; split <;> omega
    have f0 := Int.emod_nonneg (c / 602) (show M ≠ 0 by omega)
    have f1 := Int.emod_lt_of_pos (c / 602) (show 0 < M by omega)
    generalize hkk : 1 + c / 602 % M = k at *
    have hk : 1 ≤ k ∧ k ≤ 1000 := by omega
    have sc := run_scl (ws := ws) (b := b) (most := c % 301) hk.1 (small k hk.1 (by omega))
    have r2 := ran_ev (gx.g.ovk hk gx.m gx.wm).1 (most := c % 301) (by omega)
    rw [sc, k2 k] at r2
    rw [k1] at r1
    have l2 := lg k hk
    have hM0 : 0 < M := by omega
    rw [lP] at ep r1 l1 l2
    simp only [lP] at q0
    generalize progE (ws.map (Wrd.ov k 1)) (bOv k 1 b) = Q at *
    generalize ws.map Wrd.e = WW at *
    generalize bE b = BB at *
    unfold F_law B_law
    rw [pfOf_ap]
    simp [ed, ep, ec, l1, l2, q0, r1, r2, lenW, dv1, dv2, em, hM0, hkk, n1]
  have told : ∀ (y : Hn) (d : Bool), y.iv → CIn (c % 301) y → (adjF : ∀ F, adj F y.corners → fin F (runR ws b (c % 301))) → ranD (runR ws b (c % 301)) = .list [.str "", tell y d] → (∀ k, ranD (mapR (sclH k) (runR ws b (c % 301))) = .list [.str "", tell (sclH k y) d]) → F_law [.list (ns.map .int)] = .ok (.bool true) := fun y d iv ci adjF k1 k2 => by
    by_cases hf : c / 301 % 2 = 0
    · have em := most_ref "" (tell y d) (c / 301 % 2) ws.length (.inr hf)
      exact key _ y d iv (by split <;> omega) (by split <;> omega) em small k1 k2
    · have r0 := ci.f.r0
      obtain ⟨f, f1, fa, em⟩ := most_far (y := y) (d := d) (fr := c / 301 % 2) (m := ws.length) (B := 1000000000) hf (fun p hp => (ci.co p hp).mono (by omega)) (by decide)
      have d0 : 0 ≤ 1000000 / f := Int.ediv_nonneg (by decide) (by omega)
      have d1 : 1000000 / f * f ≤ 1000000 := Int.ediv_mul_le _ (by omega)
      generalize 1000000 / f = D at *
      refine key _ y d iv (by split <;> omega) (by split <;> (try split) <;> omega) em (fun k h1 h2 => run_near h1 ?_ (by omega) (adjF f fa)) k1 k2
      by_cases hk1 : k = 1
      · exact .inr hk1
      · left
        have hkD : k ≤ D := by split at h2 <;> (try split at h2) <;> omega
        have := Int.mul_le_mul_of_nonneg_right hkD (show 0 ≤ f by omega)
        rw [Int.mul_comm f k]
        omega
  cases hq : runR ws b (c % 301) with
  | out => exact absurd hq hin
  | ok y =>
    rw [hq] at told hiv hci
    exact told y true hiv hci (fun F h => h) rfl fun k => rfl
  | exc e y =>
    rw [hq] at told keyx hiv hoe hci
    rcases hoe with z | z | z <;> subst z
    · exact told y false hiv hci (fun F h => h) (ranD_stop _) fun k => ranD_stop _
    · exact keyx "great" (.inr rfl) (ranD_great _) fun k => ranD_great _
    · exact keyx "mark" (.inl rfl) (ranD_mark _) fun k => ranD_mark _
end Lw

open PySem PySem.W PyProof.Rows in
set_option maxHeartbeats 0 in
theorem PySem.Challenge.cw_turtlehouse_k52_whole_larger_holds : PySem.Challenge.rw_turtlehouse_k52_whole_larger.Holds := by
  w_on; o_law; k_head; (case hw => w_witness2)
  k_fill
  refine Wk.end_of (l := PySem.Challenge.rw_turtlehouse_k52_whole_larger) (n := 63) (k := 158) (x := "_law_script") (st := Lw.s_law) (F := Lw.F_law) rfl (by decide) rfl ⟨rfl, by decide, by decide⟩ (fun w h Y => PySem.W.kIn_of Y) ?F Lw.law_true
  case F =>
    intro w mg h KX G
    refine (fun (T : Lw.Txt _ mg) => ⟨T.h_law, fun base => Lw.ok_law T⟩) ?T
    case T =>
      refine' ⟨Wk.has_mk KX G (fun _ _ _ _ _ _ us hl => match us, hl with | [_, _], _ => rfl) ?g1 ?g2 ?g3 ?g4,
        Wk.has_mk KX G (fun _ _ _ _ _ _ us hl => match us, hl with | [_, _, _], _ => rfl) ?g5 ?g6 ?g7 ?g8,
        Wk.has_mk KX G (fun _ _ _ _ _ _ us hl => match us, hl with | [_, _, _], _ => rfl) ?g9 ?g10 ?g11 ?g12,
        Wk.has_mk KX G (fun _ _ _ _ _ _ us hl => match us, hl with | [_], _ => rfl) ?g13 ?g14 ?g15 ?g16,
        Wk.has_mk KX G (fun _ _ _ _ _ _ us hl => match us, hl with | [_, _], _ => rfl) ?g17 ?g18 ?g19 ?g20,
        Wk.has_mk KX G (fun _ _ _ _ _ _ us hl => match us, hl with | [_, _], _ => rfl) ?g21 ?g22 ?g23 ?g24,
        Wk.has_mk KX G (fun _ _ _ _ _ _ us hl => match us, hl with | [_, _], _ => rfl) ?g25 ?g26 ?g27 ?g28,
        Wk.has_mk KX G (fun _ _ _ _ _ _ us hl => match us, hl with | [_, _, _], _ => rfl) ?g29 ?g30 ?g31 ?g32,
        Wk.hasI_mk KX G (fun _ _ _ _ _ _ us hl => match us, hl with | [_, _], _ => rfl) ?g33 ?g34 ?g35 ?g36 ?g37 ?g38 ?g39 ?g40,
        Wk.hasM_mk KX G (fun _ _ _ _ _ _ us hl => match us, hl with | [_], _ => rfl) ?g41 ?g42 ?g43 ?g44 ?g45 ?g46,
        Wk.hasM_mk KX G (fun _ _ _ _ _ _ us hl => match us, hl with | [_, _], _ => rfl) ?g47 ?g48 ?g49 ?g50 ?g51 ?g52,
        Wk.hasM_mk KX G (fun _ _ _ _ _ _ us hl => match us, hl with | [_, _], _ => rfl) ?g53 ?g54 ?g55 ?g56 ?g57 ?g58,
        Wk.hasM_mk KX G (fun _ _ _ _ _ _ us hl => match us, hl with | [_, _], _ => rfl) ?g59 ?g60 ?g61 ?g62 ?g63 ?g64,
        Wk.hasM_mk KX G (fun _ _ _ _ _ _ us hl => match us, hl with | [_], _ => rfl) ?g65 ?g66 ?g67 ?g68 ?g69 ?g70,
        Wk.hasI_mk KX G (fun _ _ _ _ _ _ us hl => match us, hl with | [_, _, _, _], _ => rfl) ?g71 ?g72 ?g73 ?g74 ?g75 ?g76 ?g77 ?g78,
        Wk.hasM_mk KX G (fun _ _ _ _ _ _ us hl => match us, hl with | [_, _], _ => rfl) ?g79 ?g80 ?g81 ?g82 ?g83 ?g84,
        Wk.hasM_mk KX G (fun _ _ _ _ _ _ us hl => match us, hl with | [_, _], _ => rfl) ?g85 ?g86 ?g87 ?g88 ?g89 ?g90,
        Wk.has_mk KX G (fun _ _ _ _ _ _ us hl => match us, hl with | [_, _, _], _ => rfl) ?g91 ?g92 ?g93 ?g94,
        Wk.has_mk KX G (fun _ _ _ _ _ _ us hl => match us, hl with | [_, _, _], _ => rfl) ?g95 ?g96 ?g97 ?g98,
        Wk.has_mk KX G (fun _ _ _ _ _ _ us hl => match us, hl with | [_, _, _], _ => rfl) ?g99 ?g100 ?g101 ?g102,
        Wk.has_mk KX G (fun _ _ _ _ _ _ us hl => match us, hl with | [_, _, _], _ => rfl) ?g103 ?g104 ?g105 ?g106,
        Wk.has_mk KX G (fun _ _ _ _ _ _ us hl => match us, hl with | [_, _, _], _ => rfl) ?g107 ?g108 ?g109 ?g110,
        Wk.has_mk KX G (fun _ _ _ _ _ _ us hl => match us, hl with | [_, _], _ => rfl) ?g111 ?g112 ?g113 ?g114,
        Wk.has_mk KX G (fun _ _ _ _ _ _ us hl => match us, hl with | [_, _], _ => rfl) ?g115 ?g116 ?g117 ?g118,
        Wk.has_mk KX G (fun _ _ _ _ _ _ us hl => match us, hl with | [_, _], _ => rfl) ?g119 ?g120 ?g121 ?g122,
        Wk.has_mk KX G (fun _ _ _ _ _ _ us hl => match us, hl with | [_, _, _], _ => rfl) ?g123 ?g124 ?g125 ?g126,
        Wk.has_mk KX G (fun _ _ _ _ _ _ us hl => match us, hl with | [_, _], _ => rfl) ?g127 ?g128 ?g129 ?g130,
        Wk.has_mk KX G (fun _ _ _ _ _ _ us hl => match us, hl with | [_, _], _ => rfl) ?g131 ?g132 ?g133 ?g134,
        Wk.has_mk KX G (fun _ _ _ _ _ _ us hl => match us, hl with | [_], _ => rfl) ?g135 ?g136 ?g137 ?g138,
        Wk.has_mk KX G (fun _ _ _ _ _ _ us hl => match us, hl with | [_, _, _], _ => rfl) ?g139 ?g140 ?g141 ?g142,
        Wk.has_mk KX G (fun _ _ _ _ _ _ us hl => match us, hl with | [_, _, _, _], _ => rfl) ?g143 ?g144 ?g145 ?g146,
        Wk.has_mk KX G (fun _ _ _ _ _ _ us hl => match us, hl with | [_], _ => rfl) ?g147 ?g148 ?g149 ?g150,
        Wk.has_mk KX G (fun _ _ _ _ _ _ us hl => match us, hl with | [_, _, _, _, _], _ => rfl) ?g151 ?g152 ?g153 ?g154,
        Wk.has_mk KX G (fun _ _ _ _ _ _ us hl => match us, hl with | [_, _, _, _, _], _ => rfl) ?g155 ?g156 ?g157 ?g158,
        Wk.has_mk KX G (fun _ _ _ _ _ _ us hl => match us, hl with | [_, _, _, _, _], _ => rfl) ?g159 ?g160 ?g161 ?g162,
        Wk.has_mk KX G (fun _ _ _ _ _ _ us hl => match us, hl with | [_, _, _, _, _], _ => rfl) ?g163 ?g164 ?g165 ?g166,
        Wk.has_mk KX G (fun _ _ _ _ _ _ us hl => match us, hl with | [_], _ => rfl) ?g167 ?g168 ?g169 ?g170,
        Wk.has_mk KX G (fun _ _ _ _ _ _ us hl => match us, hl with | [_, _], _ => rfl) ?g171 ?g172 ?g173 ?g174,
        Wk.has_mk KX G (fun _ _ _ _ _ _ us hl => match us, hl with | [_, _], _ => rfl) ?g175 ?g176 ?g177 ?g178,
        Wk.has_mk KX G (fun _ _ _ _ _ _ us hl => match us, hl with | [_, _, _], _ => rfl) ?g179 ?g180 ?g181 ?g182,
        Wk.has_mk KX G (fun _ _ _ _ _ _ us hl => match us, hl with | [_], _ => rfl) ?g183 ?g184 ?g185 ?g186,
        Wk.clsF_mk KX G ?g187 ?g188 ?g189 ?g190 ?g191,
        Wk.clsF_mk KX G ?g192 ?g193 ?g194 ?g195 ?g196,
        Wk.clsX_mk KX G ?g197,
        Wk.clsX_mk KX G ?g198,
        Wk.clsX_mk KX G ?g199,
        Wk.clsX_mk KX G ?g200,
        Wk.clsX_mk KX G ?g201,
        Wk.fldF_mk KX G ?g202 ?g203,
        Wk.fldF_mk KX G ?g204 ?g205,
        Wk.fldF_mk KX G ?g206 ?g207,
        Wk.fldF_mk KX G ?g208 ?g209,
        Wk.fldF_mk KX G ?g210 ?g211,
        Wk.fldF_mk KX G ?g212 ?g213,
        Wk.fldF_mk KX G ?g214 ?g215,
        Wk.fldF_mk KX G ?g216 ?g217,
        Wk.fldF_mk KX G ?g218 ?g219,
        Wk.fldF_mk KX G ?g220 ?g221,
        Wk.fldF_mk KX G ?g222 ?g223,
        Wk.fldF_mk KX G ?g224 ?g225,
        Wk.fldF_mk KX G ?g226 ?g227,
        Wk.excC_mk KX G ?g228 ?g229 ?g230 ?g231 ?g232,
        Wk.excC_mk KX G ?g233 ?g234 ?g235 ?g236 ?g237,
        Wk.excC_mk KX G ?g238 ?g239 ?g240 ?g241 ?g242,
        Lw.mt_mk (Wk.mtOne_mk (c := "NoMark") (d := "NoMark") (b := true) KX G ?g243 ?g244 ?g245) (Wk.mtOne_mk (c := "NoMark") (d := "Stopped") (b := false) KX G ?g246 ?g247 ?g248) (Wk.mtOne_mk (c := "NoMark") (d := "TooGreat") (b := false) KX G ?g249 ?g250 ?g251) (Wk.mtOne_mk (c := "Stopped") (d := "NoMark") (b := false) KX G ?g252 ?g253 ?g254) (Wk.mtOne_mk (c := "Stopped") (d := "Stopped") (b := true) KX G ?g255 ?g256 ?g257) (Wk.mtOne_mk (c := "Stopped") (d := "TooGreat") (b := false) KX G ?g258 ?g259 ?g260) (Wk.mtOne_mk (c := "TooGreat") (d := "NoMark") (b := false) KX G ?g261 ?g262 ?g263) (Wk.mtOne_mk (c := "TooGreat") (d := "Stopped") (b := false) KX G ?g264 ?g265 ?g266) (Wk.mtOne_mk (c := "TooGreat") (d := "TooGreat") (b := true) KX G ?g267 ?g268 ?g269) ,
        PySem.W.mg_none_of KX G ?g270,
        PySem.W.mg_none_of KX G ?g271,
        PySem.W.mg_none_of KX G ?g272,
        PySem.W.mg_none_of KX G ?g273,
        PySem.W.mg_none_of KX G ?g274,
        PySem.W.mg_none_of KX G ?g275,
        PySem.W.mg_none_of KX G ?g276,
        PySem.W.mg_none_of KX G ?g277,
        PySem.W.mg_none_of KX G ?g278,
        PySem.W.mg_none_of KX G ?g279,
        PySem.W.mg_none_of KX G ?g280,
        PySem.W.mg_none_of KX G ?g281,
        Wk.const_mk KX G ?g282 ?g283,
        Wk.const_mk KX G ?g284 ?g285,
        Wk.const_mk KX G ?g286 ?g287,
        Wk.const_mk KX G ?g288 ?g289⟩
      (case g1 => k_is)
      (case g2 => k_is)
      (case g3 => k_is)
      (case g4 => k_is)
      (case g5 => k_is)
      (case g6 => k_is)
      (case g7 => k_is)
      (case g8 => k_is)
      (case g9 => k_is)
      (case g10 => k_is)
      (case g11 => k_is)
      (case g12 => k_is)
      (case g13 => k_is)
      (case g14 => k_is)
      (case g15 => k_is)
      (case g16 => k_is)
      (case g17 => k_is)
      (case g18 => k_is)
      (case g19 => k_is)
      (case g20 => k_is)
      (case g21 => k_is)
      (case g22 => k_is)
      (case g23 => k_is)
      (case g24 => k_is)
      (case g25 => k_is)
      (case g26 => k_is)
      (case g27 => k_is)
      (case g28 => k_is)
      (case g29 => k_is)
      (case g30 => k_is)
      (case g31 => k_is)
      (case g32 => k_is)
      (case g33 => k_is)
      (case g34 => k_is)
      (case g35 => k_is)
      (case g36 => k_is)
      (case g37 => k_is)
      (case g38 => k_is)
      (case g39 => k_is)
      (case g40 => k_is)
      (case g41 => k_is)
      (case g42 => k_is)
      (case g43 => k_is)
      (case g44 => k_is)
      (case g45 => k_is)
      (case g46 => k_is)
      (case g47 => k_is)
      (case g48 => k_is)
      (case g49 => k_is)
      (case g50 => k_is)
      (case g51 => k_is)
      (case g52 => k_is)
      (case g53 => k_is)
      (case g54 => k_is)
      (case g55 => k_is)
      (case g56 => k_is)
      (case g57 => k_is)
      (case g58 => k_is)
      (case g59 => k_is)
      (case g60 => k_is)
      (case g61 => k_is)
      (case g62 => k_is)
      (case g63 => k_is)
      (case g64 => k_is)
      (case g65 => k_is)
      (case g66 => k_is)
      (case g67 => k_is)
      (case g68 => k_is)
      (case g69 => k_is)
      (case g70 => k_is)
      (case g71 => k_is)
      (case g72 => k_is)
      (case g73 => k_is)
      (case g74 => k_is)
      (case g75 => k_is)
      (case g76 => k_is)
      (case g77 => k_is)
      (case g78 => k_is)
      (case g79 => k_is)
      (case g80 => k_is)
      (case g81 => k_is)
      (case g82 => k_is)
      (case g83 => k_is)
      (case g84 => k_is)
      (case g85 => k_is)
      (case g86 => k_is)
      (case g87 => k_is)
      (case g88 => k_is)
      (case g89 => k_is)
      (case g90 => k_is)
      (case g91 => k_is)
      (case g92 => k_is)
      (case g93 => k_is)
      (case g94 => k_is)
      (case g95 => k_is)
      (case g96 => k_is)
      (case g97 => k_is)
      (case g98 => k_is)
      (case g99 => k_is)
      (case g100 => k_is)
      (case g101 => k_is)
      (case g102 => k_is)
      (case g103 => k_is)
      (case g104 => k_is)
      (case g105 => k_is)
      (case g106 => k_is)
      (case g107 => k_is)
      (case g108 => k_is)
      (case g109 => k_is)
      (case g110 => k_is)
      (case g111 => k_is)
      (case g112 => k_is)
      (case g113 => k_is)
      (case g114 => k_is)
      (case g115 => k_is)
      (case g116 => k_is)
      (case g117 => k_is)
      (case g118 => k_is)
      (case g119 => k_is)
      (case g120 => k_is)
      (case g121 => k_is)
      (case g122 => k_is)
      (case g123 => k_is)
      (case g124 => k_is)
      (case g125 => k_is)
      (case g126 => k_is)
      (case g127 => k_is)
      (case g128 => k_is)
      (case g129 => k_is)
      (case g130 => k_is)
      (case g131 => k_is)
      (case g132 => k_is)
      (case g133 => k_is)
      (case g134 => k_is)
      (case g135 => k_is)
      (case g136 => k_is)
      (case g137 => k_is)
      (case g138 => k_is)
      (case g139 => k_is)
      (case g140 => k_is)
      (case g141 => k_is)
      (case g142 => k_is)
      (case g143 => k_is)
      (case g144 => k_is)
      (case g145 => k_is)
      (case g146 => k_is)
      (case g147 => k_is)
      (case g148 => k_is)
      (case g149 => k_is)
      (case g150 => k_is)
      (case g151 => k_is)
      (case g152 => k_is)
      (case g153 => k_is)
      (case g154 => k_is)
      (case g155 => k_is)
      (case g156 => k_is)
      (case g157 => k_is)
      (case g158 => k_is)
      (case g159 => k_is)
      (case g160 => k_is)
      (case g161 => k_is)
      (case g162 => k_is)
      (case g163 => k_is)
      (case g164 => k_is)
      (case g165 => k_is)
      (case g166 => k_is)
      (case g167 => k_is)
      (case g168 => k_is)
      (case g169 => k_is)
      (case g170 => k_is)
      (case g171 => k_is)
      (case g172 => k_is)
      (case g173 => k_is)
      (case g174 => k_is)
      (case g175 => k_is)
      (case g176 => k_is)
      (case g177 => k_is)
      (case g178 => k_is)
      (case g179 => k_is)
      (case g180 => k_is)
      (case g181 => k_is)
      (case g182 => k_is)
      (case g183 => k_is)
      (case g184 => k_is)
      (case g185 => k_is)
      (case g186 => k_is)
      (case g187 => k_is)
      (case g188 => k_is)
      (case g189 => k_is)
      (case g190 => k_is)
      (case g191 => k_is)
      (case g192 => k_is)
      (case g193 => k_is)
      (case g194 => k_is)
      (case g195 => k_is)
      (case g196 => k_is)
      (case g197 => k_is)
      (case g198 => k_is)
      (case g199 => k_is)
      (case g200 => k_is)
      (case g201 => k_is)
      (case g202 => k_is)
      (case g203 => k_is)
      (case g204 => k_is)
      (case g205 => k_is)
      (case g206 => k_is)
      (case g207 => k_is)
      (case g208 => k_is)
      (case g209 => k_is)
      (case g210 => k_is)
      (case g211 => k_is)
      (case g212 => k_is)
      (case g213 => k_is)
      (case g214 => k_is)
      (case g215 => k_is)
      (case g216 => k_is)
      (case g217 => k_is)
      (case g218 => k_is)
      (case g219 => k_is)
      (case g220 => k_is)
      (case g221 => k_is)
      (case g222 => k_is)
      (case g223 => k_is)
      (case g224 => k_is)
      (case g225 => k_is)
      (case g226 => k_is)
      (case g227 => k_is)
      (case g228 => k_is)
      (case g229 => k_exc)
      (case g230 => k_is)
      (case g231 => k_is)
      (case g232 => k_is)
      (case g233 => k_is)
      (case g234 => k_exc)
      (case g235 => k_is)
      (case g236 => k_is)
      (case g237 => k_is)
      (case g238 => k_is)
      (case g239 => k_exc)
      (case g240 => k_is)
      (case g241 => k_is)
      (case g242 => k_is)
      (case g243 => k_is)
      (case g244 => k_is)
      (case g245 => kts_exm)
      (case g246 => k_is)
      (case g247 => k_is)
      (case g248 => kts_exm)
      (case g249 => k_is)
      (case g250 => k_is)
      (case g251 => kts_exm)
      (case g252 => k_is)
      (case g253 => k_is)
      (case g254 => kts_exm)
      (case g255 => k_is)
      (case g256 => k_is)
      (case g257 => kts_exm)
      (case g258 => k_is)
      (case g259 => k_is)
      (case g260 => kts_exm)
      (case g261 => k_is)
      (case g262 => k_is)
      (case g263 => kts_exm)
      (case g264 => k_is)
      (case g265 => k_is)
      (case g266 => kts_exm)
      (case g267 => k_is)
      (case g268 => k_is)
      (case g269 => kts_exm)
      (case g270 => k_is)
      (case g271 => k_is)
      (case g272 => k_is)
      (case g273 => k_is)
      (case g274 => k_is)
      (case g275 => k_is)
      (case g276 => k_is)
      (case g277 => k_is)
      (case g278 => k_is)
      (case g279 => k_is)
      (case g280 => k_is)
      (case g281 => k_is)
      (case g282 => k_is)
      (case g283 => kernel_rfl)
      (case g284 => k_is)
      (case g285 => kernel_rfl)
      (case g286 => k_is)
      (case g287 => kernel_rfl)
      (case g288 => k_is)
      (case g289 => kernel_rfl)


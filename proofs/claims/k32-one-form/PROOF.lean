import PyProof.Rows.All
import Wide.All
import OpenK.AllK
import Wide.FinOn
import HandS.ForMost
import HandS.ForExc
import HandS.TryMany
import HandS.Wide
import HandS.EndBits
import HandS.NoneIn
import HandS.IsInst
import HandS.Flow
import KE.KeyNested
import HandS.TupAny
import HandS.TupMul
import HandS.Style
import HandS.Text
import HandS.Rev
import HandS.Zip
import HandS.Deep
import HandS.Steps
import PyProof.ListRange
import HandS.ExcOwn
import KE.KAssignIn
import PyProof.ExcBaseAll.ValueError
import KE.RegKTryMore
import KE.GoesRaise
import HandS.Flt
import HandS.ExcIs
import HandS.DictTup
import HandS.SortRule
import HandS.NamedTupSort
import KE.LtSeq
import HandS.TupSets
import HandS.Strs
import PySem.Challenge.RW_turtlehouse_k32_whole_one_form
set_option Elab.async false
set_option linter.all false
set_option maxRecDepth 100000
/-! T1: plain data, an abstract state, readings by functions. -/
namespace Wk
open PySem PySem.Spec PyProof.Rows L2

abbrev D := PyData

/-- a value of a frame: data that never changes, a thing of the frame's own store, a tuple with such things -/
inductive U where
  | d (x : D)
  | ref (n : Nat)
  | tup (us : List U)
  | exn (a : Addr)

/-- a thing of the store -/
inductive Ob where
  | lst (xs : List D)
  | frz (xs : List D)
  | ins (c : Str) (fs : List (Str × U))
  | dct (kvs : List (Key × U))
  | lsu (us : List U)
  | fzu (us : List U)
  | dtp (kvs : List (NestedKey × U))
  | fdt (kvs : List (NestedKey × U))

abbrev Sto := List Ob
inductive Res (α : Type) where
  | ok (x : α) (h : Sto)
  | exc (c : Str) (h : Sto)
  | stuck
def Res.bind {α β : Type} (r : Res α) (k : α → Sto → Res β) : Res β := match r with
  | .ok x h => k x h
  | .exc c h => .exc c h
  | .stuck => .stuck
@[simp] theorem Res.bind_ok {α β : Type} (x : α) (h : Sto) (k : α → Sto → Res β) : (Res.ok x h).bind k = k x h := (rfl)
@[simp] theorem Res.bind_exc {α β : Type} (c : Str) (h : Sto) (k : α → Sto → Res β) : (Res.exc c h).bind k = .exc c h := (rfl)
@[simp] theorem Res.bind_stuck {α β : Type} (k : α → Sto → Res β) : (Res.stuck : Res α).bind k = .stuck := (rfl)
abbrev Env' := List (Option U)
abbrev Ev := Env' → Sto → Res U
abbrev Eb := Env' → Sto → Res Bool
abbrev Ea := Env' → Sto → Res (List U)
/-- a statement's end -/
inductive SRes where
  | next (env : Env') (h : Sto)
  | ret (u : U) (h : Sto)
  | exc (c : Str) (env : Env') (h : Sto)
  | stuck
abbrev Es := Env' → Sto → SRes

/-! ### how they lie in the heap -/
/-- a list that can't be written any more -/
def FzL (K : PySem.W.Frag) (H : Hp) (a : Addr) (xs : List V) : Prop :=
  (∃ o, H a = some (.frz o (.lst xs))) ∨
    ∃ (o : Obj) (its : Array Value) (n : Nat), K.lookup a = some o ∧ o.cls = .type "list" ∧ o.dict = none ∧ o.data = .seq its n ∧ its.size ≤ sizeLine ∧ Vals xs its.toList
theorem FzL.sq {K : PySem.W.Frag} {H : Hp} {a : Addr} {xs : List V} (h : FzL K H a xs) : SqL K H a xs := by
  rcases h with ⟨o, h⟩ | h
  · exact .inl (.inr ⟨o, h⟩)
  · exact .inr h
mutual
inductive RD (K : PySem.W.Frag) (H : Hp) : V → D → Prop
  | non : RD K H .non .none
  | bl (b : Bool) : RD K H (.bl b) (.bool b)
  | int (i : Int) : RD K H (.int i) (.int i)
  | str (x : Str) : RD K H (.str x) (.str x)
  | lst {a : Addr} {xs : List V} {ds : List D} : FzL K H a xs → RDs K H xs ds → RD K H (.ref a) (.list ds)
  | tup {a : Addr} {xs : List V} {ds : List D} : SqT K H a xs → RDs K H xs ds → RD K H (.ref a) (.tuple ds)
inductive RDs (K : PySem.W.Frag) (H : Hp) : List V → List D → Prop
  | nil : RDs K H [] []
  | cons {v : V} {vs : List V} {d : D} {ds : List D} : RD K H v d → RDs K H vs ds → RDs K H (v :: vs) (d :: ds)
end
mutual
inductive RU (K : PySem.W.Frag) (H : Hp) (m : List Addr) : V → U → Prop
  | d {v : V} {x : D} : RD K H v x → RU K H m v (.d x)
  | ref {n : Nat} {a : Addr} : m[n]? = some a → RU K H m (.ref a) (.ref n)
  | tup {a : Addr} {vs : List V} {us : List U} : SqT K H a vs → RUs K H m vs us → RU K H m (.ref a) (.tup us)
  | exn (a : Addr) : RU K H m (.ref a) (.exn a)
inductive RUs (K : PySem.W.Frag) (H : Hp) (m : List Addr) : List V → List U → Prop
  | nil : RUs K H m [] []
  | cons {v : V} {vs : List V} {u : U} {us : List U} : RU K H m v u → RUs K H m vs us → RUs K H m (v :: vs) (u :: us)
end

/-- what never changes stays -/
structure Kp (H H' : Hp) : Prop where
  tup : ∀ a xs, H a = some (.tup xs) → H' a = some (.tup xs)
  frz : ∀ a o u, H a = some (.frz o u) → H' a = some (.frz o u)
theorem Kp.refl (H : Hp) : Kp H H := ⟨fun _ _ h => h, fun _ _ _ h => h⟩
theorem Kp.trans {H H1 H2 : Hp} (a : Kp H H1) (b : Kp H1 H2) : Kp H H2 := ⟨fun c xs h => b.tup c xs (a.tup c xs h), fun c o u h => b.frz c o u (a.frz c o u h)⟩
theorem Kp.same {H H' : Hp} (s : Same H H') : Kp H H' := ⟨fun a _ h => s a _ h, fun a _ _ h => s a _ h⟩
theorem Kp.sqT {K : PySem.W.Frag} {H H' : Hp} {a : Addr} {xs : List V} (k : Kp H H') (h : SqT K H a xs) : SqT K H' a xs := by
  rcases h with (h | ⟨o, h⟩) | h
  · exact .inl (.inl (k.tup _ _ h))
  · exact .inl (.inr ⟨o, k.frz _ _ _ h⟩)
  · exact .inr h
theorem Kp.fzL {K : PySem.W.Frag} {H H' : Hp} {a : Addr} {xs : List V} (k : Kp H H') (h : FzL K H a xs) : FzL K H' a xs := by
  rcases h with ⟨o, h⟩ | h
  · exact .inl ⟨o, k.frz _ _ _ h⟩
  · exact .inr h
mutual
theorem RD.kp {K : PySem.W.Frag} {H H' : Hp} (k : Kp H H') : ∀ (d : D) (v : V), RD K H v d → RD K H' v d
  | .none, _, h => by cases h; exact .non
  | .bool b, _, h => by cases h; exact .bl b
  | .int i, _, h => by cases h; exact .int i
  | .str x, _, h => by cases h; exact .str x
  | .list ds, _, h => by
    cases h with
    | lst a b => exact .lst (k.fzL a) (RDs.kp k ds _ b)
  | .tuple ds, _, h => by
    cases h with
    | tup a b => exact .tup (k.sqT a) (RDs.kp k ds _ b)
  | .dict _, _, h => by cases h
theorem RDs.kp {K : PySem.W.Frag} {H H' : Hp} (k : Kp H H') : ∀ (ds : List D) (vs : List V), RDs K H vs ds → RDs K H' vs ds
  | [], _, h => by cases h; exact .nil
  | d :: ds, _, h => by
    cases h with
    | cons a b => exact .cons (RD.kp k d _ a) (RDs.kp k ds _ b)
end
mutual
theorem RU.kp {K : PySem.W.Frag} {H H' : Hp} {m m' : List Addr} (k : Kp H H') (pre : ∃ e, m' = m ++ e) : ∀ (u : U) (v : V), RU K H m v u → RU K H' m' v u
  | .d x, _, h => by
    cases h with
    | d a => exact .d (RD.kp k x _ a)
  | .ref n, _, h => by
    cases h with
    | ref a =>
      obtain ⟨e, rfl⟩ := pre
      exact .ref (by rw [List.getElem?_append_left (List.getElem?_eq_some_iff.mp a).1]; exact a)
  | .tup us, _, h => by
    cases h with
    | tup a b => exact .tup (k.sqT a) (RUs.kp k pre us _ b)
  | .exn a, _, h => by
    cases h
    exact .exn a
theorem RUs.kp {K : PySem.W.Frag} {H H' : Hp} {m m' : List Addr} (k : Kp H H') (pre : ∃ e, m' = m ++ e) : ∀ (us : List U) (vs : List V), RUs K H m vs us → RUs K H' m' vs us
  | [], _, h => by cases h; exact .nil
  | u :: us, _, h => by
    cases h with
    | cons a b => exact .cons (RU.kp k pre u _ a) (RUs.kp k pre us _ b)
end

/-- the state grows: things of the store may change, new ones come; all else stays -/
structure Gr (H : Hp) (m : List Addr) (H' : Hp) (m' : List Addr) : Prop where
  pre : ∃ e, m' = m ++ e
  keep : ∀ a o, H a = some o → a ∉ m → H' a = some o
  fresh : ∀ a, a ∈ m' → a ∉ m → H a = none
  kp : Kp H H'
theorem Gr.refl (H : Hp) (m : List Addr) : Gr H m H m := ⟨⟨[], by simp⟩, fun _ _ h _ => h, fun _ h n => absurd h n, Kp.refl H⟩
theorem Gr.trans {H H1 H2 : Hp} {m m1 m2 : List Addr} (a : Gr H m H1 m1) (b : Gr H1 m1 H2 m2) : Gr H m H2 m2 where
  pre := by
    obtain ⟨e, rfl⟩ := a.pre
    obtain ⟨f, rfl⟩ := b.pre
    exact ⟨e ++ f, by rw [List.append_assoc]⟩
  keep := fun c o h n => b.keep c o (a.keep c o h n) fun hm => by
    have z := a.fresh c hm n
    rw [h] at z
    cases z
  fresh := fun c hm n => by
    by_cases h1 : c ∈ m1
    · exact a.fresh c h1 n
    · have z := b.fresh c hm h1
      cases q : H c with
      | none => rfl
      | some o =>
        rw [a.keep c o q n] at z
        cases z
  kp := a.kp.trans b.kp
theorem Gr.same {H H' : Hp} {m : List Addr} (g : Gr H [] H' m) : Same H H' := fun a o h => g.keep a o h (by simp)

/-! ### the store -/
def RF (K : PySem.W.Frag) (H : Hp) (m : List Addr) : List (Str × V) → List (Str × U) → Prop := Paired fun p q => p.1 = q.1 ∧ RU K H m p.2 q.2
def RK (K : PySem.W.Frag) (H : Hp) (m : List Addr) : List (Key × V) → List (Key × U) → Prop := Paired fun p q => p.1 = q.1 ∧ RU K H m p.2 q.2
/-! dicts whose keys are tuples of ints and of such tuples -/
mutual
def pureK : NestedKey → Bool
  | .num _ => true
  | .tup ks => pureKs ks
  | .none => false
  | .text _ => false
def pureKs : List NestedKey → Bool
  | [] => true
  | k :: ks => pureK k && pureKs ks
end
mutual
def hK : NestedKey → Int
  | .num i => hashInt i
  | .tup ks => reduceHash (Builtin.Tuple.tupleHashOf (hKs ks))
  | .none => 0
  | .text _ => 0
def hKs : List NestedKey → List Int
  | [] => []
  | k :: ks => hK k :: hKs ks
end
mutual
theorem hK_hash (w : World) : ∀ k : NestedKey, pureK k = true → k.hash w = hK k
  | .num i, _ => by rw [NestedKey.hash, hK]
  | .tup ks, h => by rw [pureK] at h; rw [NestedKey.hash, hK, hKs_hash w ks h]
  | .none, h => by rw [pureK] at h; cases h
  | .text _, h => by rw [pureK] at h; cases h
theorem hKs_hash (w : World) : ∀ ks : List NestedKey, pureKs ks = true → NestedKey.hashes w ks = hKs ks
  | [], _ => by rw [NestedKey.hashes, hKs]
  | k :: ks, h => by
    rw [pureKs, Bool.and_eq_true] at h
    rw [NestedKey.hashes, hKs, hK_hash w k h.1, hKs_hash w ks h.2]
end
abbrev XS := List (NestedKey × Addr × Value)
def eK (x : NestedKey × Addr × Value) : DictEntry := ⟨hK x.1, .ref x.2.1, x.2.2⟩
def DNo (a : Addr) (xs : XS) : HO := .ext fun h => ∃ o es ep, h.get? a = some o ∧ o.ExactDict ∧ o.data = .dict es ep ∧ es.toList = xs.map eK
structure DN (K : PySem.W.Frag) (H : Hp) (m : List Addr) (a : Addr) (xs : XS) (kvs : List (NestedKey × U)) : Prop where
  sys : (a == sysModules) = false
  nd : (xs.map (·.1)).Nodup
  sz : xs.length ≤ sizeLine
  p : Paired (fun x kv => x.1 = kv.1 ∧ (pureK x.1 = true ∧ x.1.depth ≤ 8) ∧ RD K H (.ref x.2.1) x.1.data ∧ ∃ v, RU K H m v kv.2 ∧ RelV v x.2.2) xs kvs
def RO (K : PySem.W.Frag) (mg : Str → Option Value) (H : Hp) (m : List Addr) (a : Addr) : Ob → Prop
  | .lst xs => ∃ vs, H a = some (.lst vs) ∧ RDs K H vs xs
  | .frz xs => ∃ o vs, H a = some (.frz o (.lst vs)) ∧ RDs K H vs xs
  | .ins c fs => ∃ C dx gs, mg c = some (.ref C) ∧ H a = some (.ins C dx gs) ∧ RF K H m gs fs
  | .dct kvs => ∃ gs, H a = some (.dK gs) ∧ RK K H m gs kvs
  | .lsu us => ∃ vs, H a = some (.lst vs) ∧ RUs K H m vs us
  | .fzu us => ∃ o vs, H a = some (.frz o (.lst vs)) ∧ RUs K H m vs us
  | .dtp kvs => ∃ xs, H a = some (DNo a xs) ∧ DN K H m a xs kvs
  | .fdt kvs => ∃ o xs, H a = some (.frz o (DNo a xs)) ∧ DN K H m a xs kvs
structure Sta (K : PySem.W.Frag) (mg : Str → Option Value) (H : Hp) (m : List Addr) (h : Sto) : Prop where
  nd : m.Nodup
  len : m.length = h.length
  obj : ∀ (i : Nat) a o, m[i]? = some a → h[i]? = some o → RO K mg H m a o
section
variable {K : PySem.W.Frag} {mg : Str → Option Value} {H H' : Hp} {m m' : List Addr} {h h' : Sto} {a : Addr} {o : Ob}
theorem paired_imp {α β : Type} {F G : α → β → Prop} (f : ∀ a b, F a b → G a b) : ∀ {l : List α} {r : List β}, Paired F l r → Paired G l r
  | _, _, .nil => .nil
  | _, _, .cons p q => .cons (f _ _ p) (paired_imp f q)
theorem DN.kp {xs : XS} {kvs : List (NestedKey × U)} (d : DN K H m a xs kvs) (k : Kp H H') (pre : ∃ e, m' = m ++ e) : DN K H' m' a xs kvs :=
  ⟨d.sys, d.nd, d.sz, paired_imp (fun p q z => ⟨z.1, z.2.1, RD.kp k _ _ z.2.2.1, z.2.2.2.imp fun v hv => ⟨RU.kp k pre _ _ hv.1, hv.2⟩⟩) d.p⟩
theorem RO.mono (r : RO K mg H m a o) (e : H' a = H a) (k : Kp H H') (pre : ∃ e, m' = m ++ e) : RO K mg H' m' a o := by
  cases o with
  | lst xs => obtain ⟨vs, h1, h2⟩ := r; exact ⟨vs, e.trans h1, RDs.kp k _ _ h2⟩
  | frz xs => obtain ⟨o, vs, h1, h2⟩ := r; exact ⟨o, vs, e.trans h1, RDs.kp k _ _ h2⟩
  | ins c fs => obtain ⟨C, dx, gs, h0, h1, h2⟩ := r; exact ⟨C, dx, gs, h0, e.trans h1, paired_imp (fun p q z => ⟨z.1, RU.kp k pre _ _ z.2⟩) h2⟩
  | dct kvs => obtain ⟨gs, h1, h2⟩ := r; exact ⟨gs, e.trans h1, paired_imp (fun p q z => ⟨z.1, RU.kp k pre _ _ z.2⟩) h2⟩
  | lsu us => obtain ⟨vs, h1, h2⟩ := r; exact ⟨vs, e.trans h1, RUs.kp k pre _ _ h2⟩
  | fzu us => obtain ⟨o, vs, h1, h2⟩ := r; exact ⟨o, vs, e.trans h1, RUs.kp k pre _ _ h2⟩
  | dtp kvs => obtain ⟨xs, h1, h2⟩ := r; exact ⟨xs, e.trans h1, h2.kp k pre⟩
  | fdt kvs => obtain ⟨o, xs, h1, h2⟩ := r; exact ⟨o, xs, e.trans h1, h2.kp k pre⟩
theorem RO.has (r : RO K mg H m a o) : ∃ x, H a = some x := by
  cases o with
  | lst xs => obtain ⟨vs, h1, _⟩ := r; exact ⟨_, h1⟩
  | frz xs => obtain ⟨o, vs, h1, _⟩ := r; exact ⟨_, h1⟩
  | ins c fs => obtain ⟨C, dx, gs, _, h1, _⟩ := r; exact ⟨_, h1⟩
  | dct kvs => obtain ⟨gs, h1, _⟩ := r; exact ⟨_, h1⟩
  | lsu us => obtain ⟨vs, h1, _⟩ := r; exact ⟨_, h1⟩
  | fzu us => obtain ⟨o, vs, h1, _⟩ := r; exact ⟨_, h1⟩
  | dtp kvs => obtain ⟨xs, h1, _⟩ := r; exact ⟨_, h1⟩
  | fdt kvs => obtain ⟨o, xs, h1, _⟩ := r; exact ⟨_, h1⟩
theorem Sta.at_ (s : Sta K mg H m h) {i : Nat} (e : m[i]? = some a) : ∃ o, h[i]? = some o ∧ RO K mg H m a o := by
  have hi := (List.getElem?_eq_some_iff.mp e).1
  have hi' : i < h.length := by rw [← s.len]; exact hi
  exact ⟨h[i], List.getElem?_eq_getElem hi', s.obj i a _ e (List.getElem?_eq_getElem hi')⟩
theorem Sta.addr (s : Sta K mg H m h) {i : Nat} (e : h[i]? = some o) : ∃ a, m[i]? = some a ∧ RO K mg H m a o := by
  have hi := (List.getElem?_eq_some_iff.mp e).1
  have hi' : i < m.length := by rw [s.len]; exact hi
  exact ⟨m[i], List.getElem?_eq_getElem hi', s.obj i _ o (List.getElem?_eq_getElem hi') e⟩
theorem Sta.has (s : Sta K mg H m h) (hm : a ∈ m) : ∃ x, H a = some x := by
  obtain ⟨i, hi⟩ := List.mem_iff_getElem?.mp hm
  obtain ⟨o, _, r⟩ := s.at_ hi
  exact r.has
theorem Sta.new (s : Sta K mg H m h) (n : H a = none) : a ∉ m := fun hm => by
  obtain ⟨x, q⟩ := s.has hm
  rw [n] at q
  cases q
theorem Sta.nil : Sta K mg H [] [] := ⟨List.nodup_nil, rfl, fun i a o h => by simp at h⟩
/-- nothing of the store is touched -/
theorem Sta.same (s : Sta K mg H m h) (e : ∀ b x, H b = some x → H' b = some x) : Sta K mg H' m h :=
  ⟨s.nd, s.len, fun i b o h1 h2 => by
    have r := s.obj i b o h1 h2
    obtain ⟨x, q⟩ := r.has
    exact r.mono ((e b x q).trans q.symm) ⟨fun c _ z => e c _ z, fun c _ _ z => e c _ z⟩ ⟨[], by simp⟩⟩
theorem Gr.of_same (s : Same H H') (m : List Addr) : Gr H m H' m := ⟨⟨[], by simp⟩, fun b x q _ => s b x q, fun _ z n => absurd z n, Kp.same s⟩
/-- a new thing that the store does not know -/
theorem Same.lay {x : HO} (n : H a = none) : Same H (upd H a x) := fun b o e => by
  rw [upd_ne (ne_of_none e n)]
  exact e
theorem mut_kp {x y : HO} (hx : H a = .some x) (mu : Mut (.some x)) : Kp H (upd H a y) :=
  ⟨fun b xs q => by rw [upd_ne (fun z => by subst z; rw [hx] at q; cases q; exact mu)]; exact q,
   fun b o u q => by rw [upd_ne (fun z => by subst z; rw [hx] at q; cases q; exact mu)]; exact q⟩
/-- a thing of the store is written -/
theorem Gr.write {x y : HO} (hm : a ∈ m) (hx : H a = .some x) (mu : Mut (.some x)) : Gr H m (upd H a y) m :=
  ⟨⟨[], by simp⟩, fun b o q n => by rw [upd_ne (fun z => n (by rw [z]; exact hm))]; exact q, fun _ z n => absurd z n, mut_kp hx mu⟩
theorem Sta.write {i : Nat} {x y : HO} {o' : Ob} (s : Sta K mg H m h) (e : m[i]? = .some a) (hx : H a = .some x) (mu : Mut (.some x)) (r : RO K mg (upd H a y) m a o') : Sta K mg (upd H a y) m (h.set i o') := by
  have hi := (List.getElem?_eq_some_iff.mp e).1
  refine ⟨s.nd, by rw [List.length_set]; exact s.len, fun j b ob h1 h2 => ?_⟩
  by_cases hj : i = j
  · subst hj
    rw [e] at h1
    cases h1
    rw [List.getElem?_set_self (by rw [← s.len]; exact hi)] at h2
    cases h2
    exact r
  · rw [List.getElem?_set_ne hj] at h2
    have nb : b ≠ a := fun z => by
      subst z
      exact hj (nd_ix s.nd e h1)
    exact (s.obj j b ob h1 h2).mono (upd_ne nb) (mut_kp hx mu) ⟨[], by simp⟩
/-- a new thing comes into the store -/
theorem Gr.push {x : HO} (n : H a = none) : Gr H m (upd H a x) (m ++ [a]) :=
  ⟨⟨[a], rfl⟩, fun b o q _ => Same.lay n b o q, fun b hb nb => by
    rcases List.mem_append.mp hb with z | z
    · exact absurd z nb
    · rw [List.mem_singleton.mp z]; exact n, Kp.same (Same.lay n)⟩
theorem Sta.push {x : HO} {o' : Ob} (s : Sta K mg H m h) (n : H a = none) (r : RO K mg (upd H a x) (m ++ [a]) a o') : Sta K mg (upd H a x) (m ++ [a]) (h ++ [o']) := by
  have na := s.new n
  refine ⟨List.nodup_append.mpr ⟨s.nd, by simp, fun b hb c hc z => by rw [List.mem_singleton.mp hc] at z; rw [z] at hb; exact na hb⟩, by simp [s.len], fun j b ob h1 h2 => ?_⟩
  by_cases hj : j < m.length
  · rw [List.getElem?_append_left hj] at h1
    rw [List.getElem?_append_left (by rw [← s.len]; exact hj)] at h2
    have hb : b ∈ m := List.mem_of_getElem? h1
    exact (s.obj j b ob h1 h2).mono (upd_ne fun z => na (z ▸ hb)) (Kp.same (Same.lay n)) ⟨[a], rfl⟩
  · rw [List.getElem?_append_right (by omega)] at h1
    rw [List.getElem?_append_right (by rw [← s.len]; omega)] at h2
    have e1 : j - m.length = 0 := by
      have := (List.getElem?_eq_some_iff.mp h1).1
      simpa using this
    have e2 : j - h.length = 0 := by rw [← s.len]; exact e1
    rw [e1] at h1
    rw [e2] at h2
    simp at h1 h2
    rw [← h1, ← h2]
    exact r
end

/-! ### the slots -/
def Sl (K : PySem.W.Frag) (H : Hp) (m : List Addr) (σ : L2.St) (env : Env') : Prop := σ.length = env.length ∧ ∀ (i : Nat) u, env[i]? = some (some u) → ∃ v, σ[i]? = some (some v) ∧ RU K H m v u
section
variable {K : PySem.W.Frag} {mg : Str → Option Value} {H H' : Hp} {m m' : List Addr} {σ : L2.St} {env : Env'}
theorem Sl.gr (s : Sl K H m σ env) (g : Gr H m H' m') : Sl K H' m' σ env := ⟨s.1, fun i u e => by
  obtain ⟨v, h1, h2⟩ := s.2 i u e
  exact ⟨v, h1, RU.kp g.kp g.pre _ _ h2⟩⟩
theorem Sl.set (s : Sl K H m σ env) {v : V} {u : U} (r : RU K H m v u) (i : Nat) : Sl K H m (σ.set i (some v)) (env.set i (some u)) := by
  refine ⟨by simp [s.1], fun j w e => ?_⟩
  by_cases hj : i = j
  · subst hj
    by_cases hi : i < env.length
    · rw [List.getElem?_set_self hi] at e
      cases e
      exact ⟨v, by rw [List.getElem?_set_self (by rw [s.1]; exact hi)], r⟩
    · rw [List.getElem?_eq_none (by simpa using hi)] at e
      cases e
  · rw [List.getElem?_set_ne hj] at e
    obtain ⟨v', h1, h2⟩ := s.2 j w e
    exact ⟨v', by rw [List.getElem?_set_ne hj]; exact h1, h2⟩
end

/-! ### readings by functions -/
/-- an exception of the class c is what is wished -/
def ExW (X : Cx) (W : WX) (c : Str) (σ : L2.St) (H : Hp) : Prop := ∀ C, X.mg c = some (.ref C) → W (.ref C) none σ H
def Out {α β : Type} (X : Cx) (W : WX) (rl : Hp → List Addr → β → α → Prop) (σ : L2.St) (H : Hp) (m : List Addr) (r : Res α) (Q : β → Hp → Prop) : Prop := match r with
  | .ok a h' => ∀ b H' m', Gr H m H' m' → Sta X.K X.mg H' m' h' → rl H' m' b a → Q b H'
  | .exc c h' => ∀ H' m', Gr H m H' m' → Sta X.K X.mg H' m' h' → ExW X W c σ H'
  | .stuck => False
def rd {α β : Type} (X : Cx) (W : WX) (rl : Hp → List Addr → β → α → Prop) (f : Env' → Sto → Res α) (σ : L2.St) (H : Hp) (Q : β → Hp → Prop) : Prop :=
  ∃ env m h, Sta X.K X.mg H m h ∧ Sl X.K H m σ env ∧ Out X W rl σ H m (f env h) Q
def rlU (K : PySem.W.Frag) : Hp → List Addr → V → U → Prop := fun H m v u => RU K H m v u
def rlB : Hp → List Addr → Bool → Bool → Prop := fun _ _ b c => b = c
def rlA (K : PySem.W.Frag) : Hp → List Addr → List V → List U → Prop := fun H m vs us => RUs K H m vs us
structure SE (X : Cx) (W : WX) (e : Expr) (f : Ev) : Prop where
  pe : PE X e (rd X W (rlU X.K) f)
structure ST (X : Cx) (W : WX) (e : Expr) (f : Eb) : Prop where
  pt : PT X e (rd X W rlB f)
structure SW (X : Cx) (W : WX) (e : Expr) (f : Eb) : Prop where
  pw : PW X e (rd X W rlB f)
structure SA (X : Cx) (W : WX) (es : List Expr) (f : Ea) : Prop where
  pa : PA X es (rd X W (rlA X.K) f)
section
variable {α β γ δ : Type} {X : Cx} {W : WX} {rl : Hp → List Addr → β → α → Prop} {rl2 : Hp → List Addr → δ → γ → Prop} {σ : L2.St} {H H1 : Hp} {m m1 : List Addr} {h : Sto} {env : Env'} {r : Res α} {Q : β → Hp → Prop}
theorem Out.gr (o : Out X W rl σ H m r Q) (g : Gr H m H1 m1) : Out X W rl σ H1 m1 r Q := by
  cases r with
  | ok a h' => exact fun b H' m' g' => o b H' m' (g.trans g')
  | exc c h' => exact fun H' m' g' => o H' m' (g.trans g')
  | stuck => exact o
/-- the next part of a computation -/
theorem rd_of {f : Env' → Sto → Res γ} {k : γ → Sto → Res α} {Q' : δ → Hp → Prop} (sta : Sta X.K X.mg H m h) (sl : Sl X.K H m σ env) (out : Out X W rl σ H m ((f env h).bind k) Q)
    (nx : ∀ a h1 b H1 m1, Gr H m H1 m1 → Sta X.K X.mg H1 m1 h1 → rl2 H1 m1 b a → Out X W rl σ H1 m1 (k a h1) Q → Q' b H1) : rd X W rl2 f σ H Q' := by
  refine ⟨env, m, h, sta, sl, ?_⟩
  generalize f env h = q at out
  cases q with
  | ok a h1 => exact fun b H1 m1 g s r => nx a h1 b H1 m1 g s r (Out.gr out g)
  | exc c h1 => exact out
  | stuck => exact out
theorem Out.ok {a : α} {b : β} {h' : Sto} (o : Out X W rl σ H m (.ok a h') Q) {H' : Hp} {m' : List Addr} (g : Gr H m H' m') (s : Sta X.K X.mg H' m' h') (r : rl H' m' b a) : Q b H' := o b H' m' g s r
theorem Out.here {a : α} {b : β} {h' : Sto} (o : Out X W rl σ H m (.ok a h') Q) (s : Sta X.K X.mg H m h') (r : rl H m b a) : Q b H := o b H m (Gr.refl H m) s r
end
theorem pe_imp {X : Cx} {e : Expr} {t t' : TE} (h : PE X e t) (i : ∀ σ H Q, t' σ H Q → t σ H Q) : PE X e t' := ⟨fun pins s σ H Q I q => h.run pins s σ H Q I (i σ H Q q)⟩
theorem pt_imp {X : Cx} {e : Expr} {t t' : TT} (h : PT X e t) (i : ∀ σ H Q, t' σ H Q → t σ H Q) : PT X e t' := ⟨fun pins s σ H Q I q => h.run pins s σ H Q I (i σ H Q q)⟩
theorem pw_imp {X : Cx} {e : Expr} {t t' : TT} (h : PW X e t) (i : ∀ σ H Q, t' σ H Q → t σ H Q) : PW X e t' := ⟨fun wh pins s σ H Q I q => h.run wh pins s σ H Q I (i σ H Q q)⟩
theorem pa_imp {X : Cx} {es : List Expr} {t t' : TA} (h : PA X es t) (i : ∀ σ H Q, t' σ H Q → t σ H Q) : PA X es t' := ⟨fun p pins s σ H Q I q => h.run p pins s σ H Q I (i σ H Q q)⟩
theorem ps_imp {X : Cx} {st : Stmt} {t t' : TS} (h : PS X st t) (i : ∀ D σ H, t' D σ H → t D σ H) : PS X st t' := ⟨fun pins s σ H D I q => h.run pins s σ H D I (i D σ H q)⟩
theorem pss_imp {X : Cx} {st : List Stmt} {t t' : TS} (h : PSs X st t) (i : ∀ D σ H, t' D σ H → t D σ H) : PSs X st t' := ⟨fun pins s σ H D I q => h.run pins s σ H D I (i D σ H q)⟩

/-! ### freezing, unseen by the program -/
structure Fz (S : List Addr) (H H' : Hp) : Prop where
  alt : ∀ a, H' a = H a ∨ (a ∈ S ∧ ∃ o vs, H a = some (.lst vs) ∧ H' a = some (.frz o (.lst vs)))
  did : ∀ a ∈ S, ∀ vs, H a = some (.lst vs) → ∃ o, H' a = some (.frz o (.lst vs))
theorem inv_fz {X : Cx} {pins : List (Addr × Obj)} {σ : L2.St} {s : Shared} : ∀ (S : List Addr) {H : Hp}, L2.Inv X pins σ H s → ∃ H', Fz S H H' ∧ L2.Inv X pins σ H' s
  | [], H, I => ⟨H, ⟨fun _ => .inl rfl, fun _ z => nomatch z⟩, I⟩
  | a :: S, H, I => by
    obtain ⟨H1, f1, I1⟩ := inv_fz S I
    by_cases hl : ∃ vs, H1 a = some (.lst vs)
    · obtain ⟨vs, hl⟩ := hl
      obtain ⟨od, I2⟩ := I1.lock hl trivial
      refine ⟨_, ⟨fun b => ?_, fun b hb ws hb2 => ?_⟩, I2⟩
      · by_cases hb : b = a
        · subst hb
          rcases f1.alt b with z | ⟨_, o, ws, _, z⟩
          · exact .inr ⟨List.mem_cons_self, od, vs, z.symm.trans hl, upd_same⟩
          · rw [hl] at z; cases z
        · rw [upd_ne hb]
          rcases f1.alt b with z | ⟨h1, h2⟩
          · exact .inl z
          · exact .inr ⟨List.mem_cons_of_mem _ h1, h2⟩
      · by_cases hb : b = a
        · subst hb
          rcases f1.alt b with z | ⟨_, o, ws', _, z⟩
          · rw [hl, hb2] at z
            cases z
            exact ⟨od, upd_same⟩
          · rw [hl] at z; cases z
        · rw [upd_ne hb]
          rename_i hb'
          rcases List.mem_cons.mp hb' with z | z
          · exact absurd z hb
          · exact f1.did b z ws hb2
    · refine ⟨H1, ⟨fun b => ?_, fun b hb ws hb2 => ?_⟩, I1⟩
      · rcases f1.alt b with z | ⟨h1, h2⟩
        · exact .inl z
        · exact .inr ⟨List.mem_cons_of_mem _ h1, h2⟩
      · rcases List.mem_cons.mp hb with z | z
        · subst z
          rcases f1.alt b with z | ⟨_, o, ws', q, z⟩
          · exact absurd ⟨ws, z.trans hb2⟩ hl
          · rw [hb2] at q
            cases q
            exact ⟨o, z⟩
        · exact f1.did b z ws hb2
def gh (Q : VK) : VK := fun v H => ∃ S, ∀ H', Fz S H H' → Q v H'
theorem pe_gh {X : Cx} {e : Expr} {t : TE} (h : PE X e t) : PE X e (fun σ H Q => t σ H (gh Q)) := by
  refine ⟨fun pins s σ H Q I q => thn (h.run pins s σ H _ I q) fun u s1 ⟨v, H1, I1, r, S, q1⟩ => ?_⟩
  obtain ⟨H2, f, I2⟩ := inv_fz S I1
  exact ⟨v, H2, I2, r, q1 H2 f⟩
theorem gh.no {Q : VK} {v : V} {H : Hp} (q : Q v H) : gh Q v H := ⟨[], fun H' f => by
  have e : H' = H := funext fun a => by
    rcases f.alt a with z | ⟨z, _⟩
    · exact z
    · cases z
  rw [e]; exact q⟩
theorem Fz.kp {S : List Addr} {H H' : Hp} (f : Fz S H H') : Kp H H' := by
  refine ⟨fun a xs h => ?_, fun a o u h => ?_⟩
  · rcases f.alt a with z | ⟨_, o, vs, q, _⟩
    · exact z.trans h
    · rw [h] at q; cases q
  · rcases f.alt a with z | ⟨_, o', vs, q, _⟩
    · exact z.trans h
    · rw [h] at q; cases q
end Wk

/-! T2: expressions. -/
namespace Wk
open PySem PySem.Spec PyProof.Rows L2

/-! ### lists of data -/
section
variable {K : PySem.W.Frag} {H : Hp} {m : List Addr}
theorem RDs.len : ∀ {ds : List D} {vs : List V}, RDs K H vs ds → vs.length = ds.length
  | [], _, h => by cases h; rfl
  | _ :: _, _, h => by cases h with | cons a b => rw [List.length_cons, List.length_cons, RDs.len b]
theorem RDs.get : ∀ {ds : List D} {vs : List V} {i : Nat} {d : D}, RDs K H vs ds → ds[i]? = some d → ∃ v, vs[i]? = some v ∧ RD K H v d
  | [], _, _, _, h, e => by simp at e
  | _ :: _, _, 0, _, h, e => by
    cases h with
    | cons a b => simp at e; subst e; exact ⟨_, rfl, a⟩
  | _ :: _, _, i + 1, _, h, e => by
    cases h with
    | cons a b =>
      obtain ⟨v, h1, h2⟩ := RDs.get (i := i) b (by simpa using e)
      exact ⟨v, by simpa using h1, h2⟩
theorem RDs.app : ∀ {ds es : List D} {vs ws : List V}, RDs K H vs ds → RDs K H ws es → RDs K H (vs ++ ws) (ds ++ es)
  | [], _, _, _, h, q => by cases h; exact q
  | _ :: _, _, _, _, h, q => by cases h with | cons a b => exact .cons a (RDs.app b q)
theorem RDs.one {v : V} {d : D} (h : RD K H v d) : RDs K H [v] [d] := .cons h .nil
theorem RDs.take : ∀ (n : Nat) {ds : List D} {vs : List V}, RDs K H vs ds → RDs K H (vs.take n) (ds.take n)
  | 0, _, _, _ => by simp; exact .nil
  | _ + 1, [], _, h => by cases h; exact .nil
  | n + 1, _ :: _, _, h => by cases h with | cons a b => exact .cons a (RDs.take n b)
theorem RDs.drop : ∀ (n : Nat) {ds : List D} {vs : List V}, RDs K H vs ds → RDs K H (vs.drop n) (ds.drop n)
  | 0, _, _, h => by simpa using h
  | _ + 1, [], _, h => by cases h; exact .nil
  | n + 1, _ :: _, _, h => by cases h with | cons a b => exact RDs.drop n b
theorem RDs.set {v : V} {d : D} (r : RD K H v d) : ∀ (n : Nat) {ds : List D} {vs : List V}, RDs K H vs ds → RDs K H (vs.set n v) (ds.set n d)
  | _, [], _, h => by cases h; exact .nil
  | 0, _ :: _, _, h => by cases h with | cons a b => exact .cons r b
  | n + 1, _ :: _, _, h => by cases h with | cons a b => exact .cons a (RDs.set r n b)
theorem RDs.rep {ds : List D} {vs : List V} (h : RDs K H vs ds) : ∀ n : Nat, RDs K H (List.replicate n vs).flatten (List.replicate n ds).flatten
  | 0 => by simp; exact .nil
  | n + 1 => by
    rw [List.replicate_succ, List.replicate_succ, List.flatten_cons, List.flatten_cons]
    exact h.app (RDs.rep h n)
theorem RDs.dropLast {ds : List D} {vs : List V} (h : RDs K H vs ds) : RDs K H vs.dropLast ds.dropLast := by
  rw [List.dropLast_eq_take, List.dropLast_eq_take, h.len]
  exact h.take _
theorem RDs.rev : ∀ {ds : List D} {vs : List V}, RDs K H vs ds → RDs K H vs.reverse ds.reverse
  | [], _, h => by cases h; exact .nil
  | _ :: _, _, h => by
    cases h with
    | cons a b =>
      rw [List.reverse_cons, List.reverse_cons]
      exact (RDs.rev b).app (.one a)
theorem RDs.ints : ∀ {ns : List Int}, RDs K H (ns.map V.int) (ns.map PyData.int)
  | [] => .nil
  | n :: r => .cons (.int n) RDs.ints
theorem RDs.ints' : ∀ {ns : List Int} {vs : List V}, RDs K H vs (ns.map PyData.int) → vs = ns.map V.int
  | [], _, h => by cases h; rfl
  | n :: r, _, h => by
    cases h with
    | cons a b => cases a; rw [RDs.ints' b]; rfl
theorem RUs.len : ∀ {us : List U} {vs : List V}, RUs K H m vs us → vs.length = us.length
  | [], _, h => by cases h; rfl
  | _ :: _, _, h => by cases h with | cons a b => rw [List.length_cons, List.length_cons, RUs.len b]
theorem RUs.get : ∀ {us : List U} {vs : List V} {i : Nat} {u : U}, RUs K H m vs us → us[i]? = some u → ∃ v, vs[i]? = some v ∧ RU K H m v u
  | [], _, _, _, h, e => by simp at e
  | _ :: _, _, 0, _, h, e => by
    cases h with
    | cons a b => simp at e; subst e; exact ⟨_, rfl, a⟩
  | _ :: _, _, i + 1, _, h, e => by
    cases h with
    | cons a b =>
      obtain ⟨v, h1, h2⟩ := RUs.get (i := i) b (by simpa using e)
      exact ⟨v, by simpa using h1, h2⟩
theorem RU.rd {v : V} {x : D} (h : RU K H m v (.d x)) : RD K H v x := by cases h; assumption
end
mutual
theorem RD.dp {K : PySem.W.Frag} {H : Hp} : ∀ (d : D) (v : V), RD K H v d → Dp K H v d
  | .none, _, h => by cases h; exact .non
  | .bool b, _, h => by cases h; exact .bl b
  | .int i, _, h => by cases h; exact .int i
  | .str x, _, h => by cases h; exact .str x
  | .list ds, _, h => by
    cases h with
    | lst a b => exact .lst a.sq (RDs.dp ds _ b)
  | .tuple ds, _, h => by
    cases h with
    | tup a b => exact .tup a (RDs.dp ds _ b)
  | .dict _, _, h => by cases h
theorem RDs.dp {K : PySem.W.Frag} {H : Hp} : ∀ (ds : List D) (vs : List V), RDs K H vs ds → DpAll K H vs ds
  | [], _, h => by cases h; exact .nil
  | d :: ds, _, h => by
    cases h with
    | cons a b => exact .cons (RD.dp d _ a) (RDs.dp ds _ b)
end

/-! ### what a value is -/
def intOf : U → Option Int
  | .d (.int i) => some i
  | _ => none
def boolOf : U → Option Bool
  | .d (.bool b) => some b
  | _ => none
def strOf : U → Option Str
  | .d (.str x) => some x
  | _ => none
def tupOf : U → Option (List D)
  | .d (.tuple xs) => some xs
  | _ => none
def listOf (h : Sto) : U → Option (List D)
  | .d (.list xs) => some xs
  | .ref n => match h[n]? with
    | some (.lst xs) => some xs
    | some (.frz xs) => some xs
    | _ => none
  | _ => none
section
variable {K : PySem.W.Frag} {mg : Str → Option Value} {H : Hp} {m : List Addr} {h : Sto} {v : V} {u : U}
theorem intOf_v {i : Int} (e : intOf u = some i) (r : RU K H m v u) : v = .int i := by
  unfold intOf at e
  split at e
  · cases e; cases r.rd; rfl
  · cases e
theorem boolOf_v {b : Bool} (e : boolOf u = some b) (r : RU K H m v u) : v = .bl b := by
  unfold boolOf at e
  split at e
  · cases e; cases r.rd; rfl
  · cases e
theorem strOf_v {x : Str} (e : strOf u = some x) (r : RU K H m v u) : v = .str x := by
  unfold strOf at e
  split at e
  · cases e; cases r.rd; rfl
  · cases e
theorem tupOf_v {xs : List D} (e : tupOf u = some xs) (r : RU K H m v u) : ∃ a vs, v = .ref a ∧ SqT K H a vs ∧ RDs K H vs xs := by
  unfold tupOf at e
  split at e
  · cases e
    cases r.rd with
    | tup p q => exact ⟨_, _, rfl, p, q⟩
  · cases e
theorem listOf_v {xs : List D} (s : Sta K mg H m h) (e : listOf h u = some xs) (r : RU K H m v u) : ∃ a vs, v = .ref a ∧ SqL K H a vs ∧ RDs K H vs xs := by
  unfold listOf at e
  split at e
  · cases e
    cases r.rd with
    | lst p q => exact ⟨_, _, rfl, p.sq, q⟩
  · cases r with
    | ref hm =>
      split at e
      · rename_i o ho
        cases e
        obtain ⟨vs, h1, h2⟩ := s.obj _ _ _ hm ho
        exact ⟨_, vs, rfl, .inl (.inl h1), h2⟩
      · rename_i o ho
        cases e
        obtain ⟨o, vs, h1, h2⟩ := s.obj _ _ _ hm ho
        exact ⟨_, vs, rfl, .inl (.inr ⟨o, h1⟩), h2⟩
      · cases e
  · cases e
end

/-! ### a new list: of the store, or frozen at once -/
def mkL (b : Bool) (xs : List D) (h : Sto) : Res U := match b with
  | true => .ok (.ref h.length) (h ++ [.lst xs])
  | false => .ok (.d (.list xs)) h
theorem mkL_ok {X : Cx} {W : WX} {σ : L2.St} {H : Hp} {m : List Addr} {h : Sto} {b : Bool} {xs : List D} {vs : List V} {p : Addr} {Q : VK} (s : Sta X.K X.mg H m h) (n : H p = none) (r : RDs X.K H vs xs) (out : Out X W (rlU X.K) σ H m (mkL b xs h) Q) :
    gh Q (.ref p) (upd H p (.lst vs)) := by
  have r' : RDs X.K (upd H p (.lst vs)) vs xs := RDs.kp (Kp.same (Same.lay n)) _ _ r
  cases b with
  | true =>
    refine gh.no (Out.ok (b := V.ref p) out (Gr.push n) (s.push n ⟨vs, upd_same, r'⟩) ?_)
    exact .ref (by rw [← s.len]; simp)
  | false =>
    refine ⟨[p], fun H2 f => ?_⟩
    have sm : Same H H2 := fun a x q => by
      have na := ne_of_none q n
      rcases f.alt a with z | ⟨z, _⟩
      · rw [z, upd_ne na]; exact q
      · exact absurd (List.mem_singleton.mp z) na
    obtain ⟨o, ho⟩ := f.did p List.mem_cons_self vs upd_same
    exact Out.ok (b := V.ref p) out (Gr.of_same sm m) (s.same sm) (.d (.lst (.inl ⟨o, ho⟩) (RDs.kp f.kp _ _ r')))
theorem fzs_of {H : Hp} {p : Addr} {o : HO} {Q : VK} {v : V} (q : Q v (upd H p o)) : gh Q v (upd H p o) := gh.no q

/-! ### two-place operations -/
def eBin (F : U → U → Sto → Res U) (f g : Ev) : Ev := fun env h => (f env h).bind fun u h1 => (g env h1).bind fun w h2 => F u w h2
def eUn (F : U → Sto → Res U) (f : Ev) : Ev := fun env h => (f env h).bind F
def Ab2 (X : Cx) (W : WX) (F : U → U → Sto → Res U) (r : R2) : Prop := ∀ (σ : L2.St) (H : Hp) (m : List Addr) (h : Sto) (x y : V) (u w : U) (Q : VK), Sta X.K X.mg H m h → RU X.K H m x u → RU X.K H m y w → Out X W (rlU X.K) σ H m (F u w h) Q → r x y H Q
def tB (r : Res U) : Res Bool := r.bind fun u h => match boolOf u with
  | some b => .ok b h
  | none => .stuck
def tBin (F : U → U → Sto → Res U) (f g : Ev) : Eb := fun env h => tB (eBin F f g env h)
theorem gh_op {X : Cx} {f : Value → Value → Sem Value} {r : R2} (h : OpR X f r) : OpR X f (fun x y H Q => r x y H (gh Q)) := by
  intro pins s σ H x y v u Q I rx ry q
  refine thn (h pins s σ H x y v u _ I rx ry q) fun z s1 ⟨zv, H1, I1, rz, S, q1⟩ => ?_
  obtain ⟨H2, f2, I2⟩ := inv_fz S I1
  exact ⟨zv, H2, I2, rz, q1 H2 f2⟩
section
variable {X : Cx} {W : WX} {a b c : Expr} {f g : Ev} {pos : Pos} {F : U → U → Sto → Res U} {r : R2}
theorem out_bool {σ : L2.St} {H : Hp} {m : List Addr} {q : Res U} {Q : Bool → Hp → Prop} (o : Out X W rlB σ H m (tB q) Q) : Out X W (rlU X.K) σ H m q (fun z H' => ∃ k, z = .bl k ∧ Q k H') := by
  cases q with
  | ok u h =>
    intro v H' m' g s r
    have o' : Out X W rlB σ H m (match boolOf u with | some b => Res.ok b h | none => Res.stuck) Q := o
    cases e : boolOf u with
    | none => rw [e] at o'; exact o'.elim
    | some k =>
      rw [e] at o'
      exact ⟨k, boolOf_v e r, o' k H' m' g s rfl⟩
  | exc c h => exact o
  | stuck => exact o
theorem se_bin {op : Operator} (ho : OpR X (binaryOp op) r) (ab : Ab2 X W F r) (ha : SE X W a f) (hb : SE X W b g) : SE X W (.BinOp a op b pos) (eBin F f g) :=
  ⟨pe_imp (pe_op ho ha.pe hb.pe) fun σ H Q ⟨env, m, h, sta, sl, out⟩ => rd_of sta sl out fun u h1 x H1 m1 g1 s1 r1 out1 => rd_of s1 (sl.gr g1) out1 fun w h2 y H2 m2 g2 s2 r2 out2 =>
    ab σ H2 m2 h2 x y u w Q s2 (RU.kp g2.kp g2.pre _ _ r1) r2 out2⟩
theorem se_cmp {op : CmpOp} (ho : OpR X (compareOp op) r) (ab : Ab2 X W F r) (hm : behindInMarks op b = false) (ha : SE X W a f) (hb : SE X W b g) : SE X W (.Compare a [op] [b] pos) (eBin F f g) :=
  ⟨pe_imp (pe_cmpR ho ha.pe hb.pe hm) fun σ H Q ⟨env, m, h, sta, sl, out⟩ => rd_of sta sl out fun u h1 x H1 m1 g1 s1 r1 out1 => rd_of s1 (sl.gr g1) out1 fun w h2 y H2 m2 g2 s2 r2 out2 =>
    ab σ H2 m2 h2 x y u w Q s2 (RU.kp g2.kp g2.pre _ _ r1) r2 out2⟩
theorem bind_assoc {α β γ : Type} (q : Res α) (k : α → Sto → Res β) (l : β → Sto → Res γ) : (q.bind k).bind l = q.bind fun x h => (k x h).bind l := by cases q <;> rfl
theorem st_cmp {op : CmpOp} (ho : OpR X (compareOp op) r) (ab : Ab2 X W F r) (hm : behindInMarks op b = false) (ha : SE X W a f) (hb : SE X W b g) : ST X W (.Compare a [op] [b] pos) (tBin F f g) :=
  ⟨pt_imp (pt_cmpR ho ha.pe hb.pe hm) fun σ H Q ⟨env, m, h, sta, sl, out⟩ => by
    have out' : Out X W rlB σ H m ((f env h).bind fun u h1 => (g env h1).bind fun w h2 => tB (F u w h2)) Q := by
      have e : tBin F f g env h = ((f env h).bind fun u h1 => (g env h1).bind fun w h2 => tB (F u w h2)) := by
        unfold tBin tB eBin
        rw [bind_assoc]
        congr 1
        funext u h1
        rw [bind_assoc]
      rw [e] at out
      exact out
    exact rd_of sta sl out' fun u h1 x H1 m1 g1 s1 r1 out1 => rd_of s1 (sl.gr g1) out1 fun w h2 y H2 m2 g2 s2 r2 out2 => ab σ H2 m2 h2 x y u w _ s2 (RU.kp g2.kp g2.pre _ _ r1) r2 (out_bool out2)⟩
/-- a op b op' c -/
def eChain (F G : U → U → Sto → Res U) (f g k : Ev) : Ev := fun env h => (f env h).bind fun u h1 => (g env h1).bind fun w h2 => (tB (F u w h2)).bind fun b h3 => match b with
  | true => (k env h3).bind fun z h4 => G w z h4
  | false => .ok (.d (.bool false)) h3
def tChain (F G : U → U → Sto → Res U) (f g k : Ev) : Eb := fun env h => tB (eChain F G f g k env h)
theorem se_chain {op op' : CmpOp} {G : U → U → Sto → Res U} {r' : R2} {k : Ev} (ho : OpR X (compareOp op) r) (ho' : OpR X (compareOp op') r') (ab : Ab2 X W F r) (ab' : Ab2 X W G r') (ha : SE X W a f) (hb : SE X W b g) (hc : SE X W c k)
    (hm : lastMarks [op, op'] [b, c] = false := by with_unfolding_all rfl) : SE X W (.Compare a [op, op'] [b, c] pos) (eChain F G f g k) :=
  ⟨pe_imp (pe_chain ho ho' ha.pe hb.pe hc.pe hm) fun σ H Q ⟨env, m, h, sta, sl, out⟩ => rd_of sta sl out fun u h1 x H1 m1 g1 s1 r1 out1 => rd_of s1 (sl.gr g1) out1 fun w h2 y H2 m2 g2 s2 r2 out2 => by
    have rx := RU.kp g2.kp g2.pre _ _ r1
    have sl2 := (sl.gr g1).gr g2
    refine ab σ H2 m2 h2 x y u w _ s2 rx r2 ?_
    -- the first answer
    revert out2
    generalize F u w h2 = q
    intro out2
    cases q with
    | stuck => exact out2
    | exc c h3 => exact out2
    | ok z h3 =>
      intro zv H3 m3 g3 s3 rz
      have out3 : Out X W (rlU X.K) σ H2 m2 ((match boolOf z with | some b => Res.ok b h3 | none => Res.stuck).bind fun b h3 => match b with | true => (k env h3).bind fun z h4 => G w z h4 | false => .ok (.d (.bool false)) h3) Q := out2
      cases e : boolOf z with
      | none => rw [e] at out3; exact out3.elim
      | some b =>
        rw [e] at out3
        refine ⟨b, boolOf_v e rz, ?_⟩
        have out4 := Out.gr out3 g3
        cases b with
        | false =>
          rw [if_neg Bool.false_ne_true]
          exact Out.here (b := V.bl false) out4 s3 (.d (.bl false))
        | true =>
          rw [if_pos rfl]
          refine rd_of s3 (sl2.gr g3) out4 fun z2 h4 y2 H4 m4 g4 s4 r4 out5 => ?_
          exact ab' σ H4 m4 h4 y y2 w z2 Q s4 (RU.kp (g3.trans g4).kp (g3.trans g4).pre _ _ r2) r4 out5⟩
end

/-! ### the operators -/
/-- a test that nobody evaluates by itself -/
noncomputable def ask (p : Prop) : Bool := @decide p (Classical.propDecidable p)
theorem ask_iff {p : Prop} : ask p = true ↔ p := @decide_eq_true_iff p (Classical.propDecidable p)
theorem ask_t {p : Prop} (h : p) : ask p = true := ask_iff.mpr h
noncomputable def fits (n : Nat) : Bool := ask (n ≤ sizeLine)
noncomputable def mulOk (i j : Int) : Bool := ask (i.natAbs < 2 ^ 64 ∨ j.natAbs < 2 ^ 64 ∨ (i.natAbs < 2 ^ 400000 ∧ j.natAbs < 2 ^ 400000))
noncomputable def opAdd (b : Bool) (u w : U) (h : Sto) : Res U :=
  match intOf u, intOf w with
  | some i, some j => .ok (.d (.int (i + j))) h
  | _, _ => match tupOf u, tupOf w with
    | some xs, some ys => if fits (xs.length + ys.length) then .ok (.d (.tuple (xs ++ ys))) h else .stuck
    | _, _ => match strOf u, strOf w with
      | some x, some y => if fits (x.length + y.length) then .ok (.d (.str (x ++ y))) h else .stuck
      | _, _ => match listOf h u, listOf h w with
        | some xs, some ys => if fits (xs.length + ys.length) then mkL b (xs ++ ys) h else .stuck
        | _, _ => .stuck
def opSub (u w : U) (h : Sto) : Res U := match intOf u, intOf w with
  | some i, some j => .ok (.d (.int (i - j))) h
  | _, _ => .stuck
noncomputable def opMul (u w : U) (h : Sto) : Res U := match intOf u, intOf w with
  | some i, some j => if mulOk i j then .ok (.d (.int (i * j))) h else .stuck
  | _, _ => .stuck
noncomputable def divOk (j : Int) : Bool := ask (0 < j ∧ j.natAbs < 2 ^ 8000)
noncomputable def opFdiv (u w : U) (h : Sto) : Res U := match intOf u, intOf w with
  | some i, some j => if divOk j then .ok (.d (.int (i / j))) h else .stuck
  | _, _ => .stuck
def opMod (u w : U) (h : Sto) : Res U := match intOf u, intOf w with
  | some i, some j => if 0 < j then .ok (.d (.int (i % j))) h else .stuck
  | _, _ => .stuck
noncomputable def opPow (u w : U) (h : Sto) : Res U := match intOf u, intOf w with
  | some i, some j => if ask (0 ≤ j ∧ j ≤ 1000000 ∧ i.natAbs < 2 ^ 64) then .ok (.d (.int (i ^ j.toNat))) h else .stuck
  | _, _ => .stuck
def opNeg (u : U) (h : Sto) : Res U := match intOf u with
  | some i => .ok (.d (.int (-i))) h
  | _ => .stuck
def opI (p : Int → Int → Bool) (u w : U) (h : Sto) : Res U := match intOf u, intOf w with
  | some i, some j => .ok (.d (.bool (p i j))) h
  | _, _ => .stuck
abbrev opLt := opI fun i j => decide (i < j)
abbrev opLe := opI fun i j => decide (i ≤ j)
abbrev opGt := opI fun i j => decide (j < i)
abbrev opGe := opI fun i j => decide (j ≤ i)
/-- the list + list of any kind -/
def rCatL (K : PySem.W.Frag) : R2 := fun x y H Q => ∃ l b xs zs, x = .ref l ∧ y = .ref b ∧ SqL K H l xs ∧ SqL K H b zs ∧ xs.length + zs.length ≤ sizeLine ∧ ∀ p, H p = none → Q (.ref p) (upd H p (.lst (xs ++ zs)))
section
variable {X : Cx} {W : WX}
theorem plainL_get {h : Heap} {l : Addr} {its : Array Value} (p : PlainL h l its) : ∃ o n, h.get? l = some o ∧ o.cls = .type "list" ∧ o.dict = none ∧ o.data = .seq its n := p
theorem mulOk_ok {i j : Int} (h : mulOk i j = true) : IntMulOk i j := by
  have h := ask_iff.mp h
  rcases h with h | h | ⟨h1, h2⟩
  · exact CMul.ok (.inl (by omega))
  · exact CMul.ok (.inr (by omega))
  · exact CMulW.ok (wide_mul h1 h2 (by decide) (by decide) (by decide))
theorem op_mulA : OpR X (binaryOp .Mult) (rI (fun i j => mulOk i j = true) fun i j => .int (i * j)) := L2.opI fun _ _ _ _ _ _ _ hc q => mul_int q (mulOk_ok hc)
theorem op_fdivA : OpR X (binaryOp .FloorDiv) (rI (fun _ j => divOk j = true) fun i j => .int (i / j)) := by
  intro pins s σ H x y v u Q I rx ry h
  obtain ⟨i, j, e1, e2, hc, q⟩ := h
  have hc := ask_iff.mp hc
  exact op_fdivW pins s σ H x y v u Q I rx ry ⟨i, j, e1, e2, wide_div hc.1 hc.2 (by decide) (by decide), q⟩
theorem ab_int {F : U → U → Sto → Res U} {C : Int → Int → Prop} {g : Int → Int → V} {gd : Int → Int → D} (hF : ∀ u w h, F u w h = .stuck ∨ ∃ i j, intOf u = some i ∧ intOf w = some j ∧ (F u w h = .stuck ∨ (C i j ∧ F u w h = .ok (.d (gd i j)) h)))
    (hg : ∀ (K : PySem.W.Frag) (H : Hp) i j, RD K H (g i j) (gd i j)) : Ab2 X W F (rI C g) := by
  intro σ H m h x y u w Q s ru rw out
  rcases hF u w h with e | ⟨i, j, e1, e2, e | ⟨hc, e⟩⟩
  · rw [e] at out; exact out.elim
  · rw [e] at out; exact out.elim
  · rw [e] at out
    exact ⟨i, j, intOf_v e1 ru, intOf_v e2 rw, hc, Out.here out s (.d (hg _ _ i j))⟩
theorem ab_int0 {F : U → U → Sto → Res U} {g : Int → Int → V} {gd : Int → Int → D} (hF : ∀ u w h, F u w h = .stuck ∨ ∃ i j, intOf u = some i ∧ intOf w = some j ∧ F u w h = .ok (.d (gd i j)) h)
    (hg : ∀ (K : PySem.W.Frag) (H : Hp) i j, RD K H (g i j) (gd i j)) : Ab2 X W F (rI0 g) := by
  intro σ H m h x y u w Q s ru rw out
  rcases hF u w h with e | ⟨i, j, e1, e2, e⟩
  · rw [e] at out; exact out.elim
  · rw [e] at out
    exact ⟨i, j, intOf_v e1 ru, intOf_v e2 rw, Out.here out s (.d (hg _ _ i j))⟩
theorem ab_sub : Ab2 X W opSub (rI0 fun i j => .int (i - j)) := ab_int0 (gd := fun i j => .int (i - j)) (fun u w h => by
  unfold opSub
  split
  · exact .inr ⟨_, _, by assumption, by assumption, rfl⟩
  · exact .inl rfl) fun _ _ _ _ => .int _
theorem ab_cmp (p : Int → Int → Bool) : Ab2 X W (opI p) (rI0 fun i j => .bl (p i j)) := ab_int0 (gd := fun i j => .bool (p i j)) (fun u w h => by
  unfold opI
  split
  · exact .inr ⟨_, _, by assumption, by assumption, rfl⟩
  · exact .inl rfl) fun _ _ _ _ => .bl _
theorem ab_mul : Ab2 X W opMul (rI (fun i j => mulOk i j = true) fun i j => .int (i * j)) := ab_int (gd := fun i j => .int (i * j)) (fun u w h => by
  unfold opMul
  split
  · refine .inr ⟨_, _, by assumption, by assumption, ?_⟩
    split
    · exact .inr ⟨by assumption, rfl⟩
    · exact .inl rfl
  · exact .inl rfl) fun _ _ _ _ => .int _
theorem ab_fdiv : Ab2 X W opFdiv (rI (fun _ j => divOk j = true) fun i j => .int (i / j)) := ab_int (gd := fun i j => .int (i / j)) (fun u w h => by
  unfold opFdiv
  split
  · refine .inr ⟨_, _, by assumption, by assumption, ?_⟩
    split
    · exact .inr ⟨by assumption, rfl⟩
    · exact .inl rfl
  · exact .inl rfl) fun _ _ _ _ => .int _
theorem ab_mod : Ab2 X W opMod (rI (fun _ j => 0 < j) fun i j => .int (i % j)) := ab_int (gd := fun i j => .int (i % j)) (fun u w h => by
  unfold opMod
  split
  · refine .inr ⟨_, _, by assumption, by assumption, ?_⟩
    split
    · exact .inr ⟨by assumption, rfl⟩
    · exact .inl rfl
  · exact .inl rfl) fun _ _ _ _ => .int _
theorem ab_pow : Ab2 X W opPow (rI CPow fun i j => .int (i ^ j.toNat)) := ab_int (gd := fun i j => .int (i ^ j.toNat)) (fun u w h => by
  unfold opPow
  split
  · refine .inr ⟨_, _, by assumption, by assumption, ?_⟩
    split
    · rename_i hz
      exact .inr ⟨ask_iff.mp hz, rfl⟩
    · exact .inl rfl
  · exact .inl rfl) fun _ _ _ _ => .int _
theorem op_catL : OpR X (binaryOp .Add) (rCatL X.K) := by
  intro pins s σ H x y v u Q I rx ry h
  obtain ⟨l, b, xs, zs, rfl, rfl, hH, hB, hz, q⟩ := h
  cases rx
  cases ry
  obtain ⟨its, r, ⟨o, n, e, c1, c2, c3⟩, z⟩ := I.list hH
  obtain ⟨its2, r2, ⟨o2, n2, e2, d1, d2, d3⟩, z2⟩ := I.list hB
  obtain ⟨oc, od, odt, osl⟩ := o
  obtain ⟨oc2, od2, odt2, osl2⟩ := o2
  simp only at c1 c2 c3 d1 d2 d3
  subst c1 c2 c3 d1 d2 d3
  have h1 := r.length
  have h2 := r2.length
  have ea : its.toArray ++ its2.toArray = (its ++ its2).toArray := by simp
  refine concat_meets ⟨_, e, rfl⟩ ⟨_, e2, rfl⟩ noFill_list_add seq_list_add PySem.F.slot_list_add PySem.F.entry_list_add (PySem.F.args_list_add_2 _ _) (list_addW l b its.toArray its2.toArray n n2 none none osl osl2 (by rw [List.size_toArray, List.size_toArray]; omega)) ⟨e, e2, ?_⟩
  rw [ea]
  exact ⟨.ref _, _, I.lnew (t' := s.toks) (r.append r2) (by rw [List.length_append]; omega), rfl, q _ I.fresh⟩
/-- a + b of ints, tuples, texts, lists -/
def rAddA (K : PySem.W.Frag) : R2 := fun x y H Q => rI0 (fun i j => .int (i + j)) x y H Q ∨ rCatA K x y H Q ∨ (∃ i j, x = .str i ∧ y = .str j ∧ i.length + j.length ≤ sizeLine ∧ Q (.str (i ++ j)) H) ∨ rCatL K x y H (gh Q)
theorem op_addA : OpR X (binaryOp .Add) (rAddA X.K) := op_add.or (op_catA.or (op_add_str.or (gh_op op_catL)))
theorem ab_add (b : Bool) : Ab2 X W (opAdd b) (rAddA X.K) := by
  intro σ H m h x y u w Q s ru rw out
  unfold opAdd at out
  split at out
  · rename_i i j e1 e2
    exact .inl ⟨i, j, intOf_v e1 ru, intOf_v e2 rw, Out.here out s (.d (.int _))⟩
  · split at out
    · rename_i xs ys e1 e2
      split at out
      · rename_i hz
        obtain ⟨p, vs, rfl, t1, d1⟩ := tupOf_v e1 ru
        obtain ⟨p', vs', rfl, t2, d2⟩ := tupOf_v e2 rw
        refine .inr (.inl ⟨p, p', vs, vs', rfl, rfl, t1, t2, by rw [d1.len, d2.len]; exact ask_iff.mp hz, fun e => ?_, fun e e' => ?_, fun e e' a na => ?_⟩)
        · subst e
          cases d1
          exact Out.here (b := V.ref p') out s (.d (.tup t2 d2))
        · subst e'
          cases d2
          rw [List.append_nil] at out
          exact Out.here (b := V.ref p) out s (.d (.tup t1 d1))
        · have sm : Same H (upd H a (.tup (vs ++ vs'))) := Same.lay na
          exact Out.ok (b := V.ref a) out (Gr.of_same sm m) (s.same sm) (.d (.tup (.inl (.inl upd_same)) (RDs.kp (Kp.same sm) _ _ (d1.app d2))))
      · exact out.elim
    · split at out
      · rename_i xs ys e1 e2
        split at out
        · rename_i hz
          exact .inr (.inr (.inl ⟨_, _, strOf_v e1 ru, strOf_v e2 rw, ask_iff.mp hz, Out.here out s (.d (.str _))⟩))
        · exact out.elim
      · split at out
        · rename_i xs ys e1 e2
          split at out
          · rename_i hz
            obtain ⟨p, vs, rfl, t1, d1⟩ := listOf_v s e1 ru
            obtain ⟨p', vs', rfl, t2, d2⟩ := listOf_v s e2 rw
            exact .inr (.inr (.inr ⟨p, p', vs, vs', rfl, rfl, t1, t2, by rw [d1.len, d2.len]; exact ask_iff.mp hz, fun a na => mkL_ok s na (d1.app d2) out⟩))
          · exact out.elim
        · exact out.elim

/-! ### == and != -/
mutual
def dataOf (h : Sto) : U → Option D
  | .d x => some x
  | .ref n => (listOf h (.ref n)).map .list
  | .tup us => (datasOf h us).map .tuple
  | .exn _ => none
def datasOf (h : Sto) : List U → Option (List D)
  | [] => some []
  | u :: us => match dataOf h u, datasOf h us with
    | some x, some xs => some (x :: xs)
    | _, _ => none
end
mutual
theorem dataOf_v {K : PySem.W.Frag} {mg : Str → Option Value} {H : Hp} {m : List Addr} {h : Sto} (s : Sta K mg H m h) : ∀ (u : U) (v : V) (d : D), dataOf h u = some d → RU K H m v u → Dp K H v d
  | .d x, v, d, e, r => by
    rw [dataOf] at e
    cases e
    exact RD.dp _ _ r.rd
  | .ref n, v, d, e, r => by
    rw [dataOf] at e
    cases q : listOf h (.ref n) with
    | none => rw [q] at e; cases e
    | some xs =>
      rw [q] at e
      cases e
      obtain ⟨a, vs, rfl, h1, h2⟩ := listOf_v s q r
      exact .lst h1 (RDs.dp _ _ h2)
  | .tup us, v, d, e, r => by
    rw [dataOf] at e
    cases q : datasOf h us with
    | none => rw [q] at e; cases e
    | some xs =>
      rw [q] at e
      cases e
      cases r with
      | tup t b => exact .tup t (datasOf_v s us _ xs q b)
  | .exn a, v, d, e, r => by
    rw [dataOf] at e
    cases e
theorem datasOf_v {K : PySem.W.Frag} {mg : Str → Option Value} {H : Hp} {m : List Addr} {h : Sto} (s : Sta K mg H m h) : ∀ (us : List U) (vs : List V) (ds : List D), datasOf h us = some ds → RUs K H m vs us → DpAll K H vs ds
  | [], vs, ds, e, r => by
    rw [datasOf] at e
    cases e
    cases r
    exact .nil
  | u :: us, vs, ds, e, r => by
    rw [datasOf] at e
    split at e
    · rename_i x xs e1 e2
      cases e
      cases r with
      | cons a b => exact .cons (dataOf_v s u _ x e1 a) (datasOf_v s us _ xs e2 b)
    · cases e
end
def opEqB (n : Bool) (u w : U) (h : Sto) : Res U := match strOf u, strOf w with
  | some x, some y => .ok (.d (.bool (xor n (decide (x = y))))) h
  | _, _ => match dataOf h u, dataOf h w with
    | some d, some e => if SeqAt.shaped d && SeqAt.shaped e then .ok (.d (.bool (xor n (PyData.eqv d e)))) h else .stuck
    | _, _ => .stuck
abbrev opEq := opEqB false
abbrev opNe := opEqB true
def rEqA (K : PySem.W.Frag) : R2 := fun x y H Q => rEq x y H Q ∨ rEqD K x y H Q
def rNeA (K : PySem.W.Frag) : R2 := fun x y H Q => rNe x y H Q ∨ rNeD K x y H Q
theorem op_eqA (hu : X.A.units + 64 < cLine) : OpR X (compareOp .Eq) (rEqA X.K) := op_eq.or (op_eqD hu)
theorem op_neA (hu : X.A.units + 64 < cLine) : OpR X (compareOp .NotEq) (rNeA X.K) := op_ne.or (op_neD hu)
theorem dec_strV {x y : Str} : decide (V.str x = V.str y) = decide (x = y) := by
  rw [Bool.eq_iff_iff]
  simp
theorem ab_eq : Ab2 X W opEq (rEqA X.K) := by
  intro σ H m h x y u w Q s ru rw out
  unfold opEq opEqB at out
  split at out
  · rename_i a b e1 e2
    refine .inl ?_
    rw [strOf_v e1 ru, strOf_v e2 rw]
    refine ⟨rfl, ?_⟩
    rw [dec_strV]
    exact Out.here (b := V.bl _) out s (.d (by rw [Bool.false_xor]; exact .bl _))
  · split at out
    · rename_i d e e1 e2
      split at out
      · rename_i hs
        rw [Bool.and_eq_true] at hs
        exact .inr ⟨d, e, dataOf_v s _ _ _ e1 ru, dataOf_v s _ _ _ e2 rw, hs.1, hs.2, Out.here (b := V.bl _) out s (.d (by rw [Bool.false_xor]; exact .bl _))⟩
      · exact out.elim
    · exact out.elim
theorem ab_ne : Ab2 X W opNe (rNeA X.K) := by
  intro σ H m h x y u w Q s ru rw out
  unfold opNe opEqB at out
  split at out
  · rename_i a b e1 e2
    refine .inl ?_
    rw [strOf_v e1 ru, strOf_v e2 rw]
    refine ⟨rfl, ?_⟩
    rw [dec_strV]
    exact Out.here (b := V.bl _) out s (.d (by rw [Bool.true_xor]; exact .bl _))
  · split at out
    · rename_i d e e1 e2
      split at out
      · rename_i hs
        rw [Bool.and_eq_true] at hs
        exact .inr ⟨d, e, dataOf_v s _ _ _ e1 ru, dataOf_v s _ _ _ e2 rw, hs.1, hs.2, Out.here (b := V.bl _) out s (.d (by rw [Bool.true_xor]; exact .bl _))⟩
      · exact out.elim
    · exact out.elim
/-- x is None, x is not None -/
def isN : U → Bool
  | .d .none => true
  | _ => false
def opIsN (n : Bool) (u w : U) (h : Sto) : Res U := match isN w with
  | true => .ok (.d (.bool (xor n (isN u)))) h
  | false => .stuck
theorem isN_v {K : PySem.W.Frag} {H : Hp} {m : List Addr} {v : V} {u : U} (r : RU K H m v u) : decide (v = .non) = isN u := by
  cases r with
  | d p => cases p <;> first | rfl | simp [isN]
  | ref p => simp [isN]
  | tup p q => simp [isN]
  | exn a => simp [isN]
theorem isN_non {K : PySem.W.Frag} {H : Hp} {m : List Addr} {v : V} {u : U} (r : RU K H m v u) (e : isN u = true) : v = .non := by
  have z := isN_v r
  rw [e] at z
  exact of_decide_eq_true z
theorem ab_isN : Ab2 X W (opIsN false) (fun x y H Q => y = .non ∧ Q (.bl (decide (x = .non))) H) := by
  intro σ H m h x y u w Q s ru rw out
  unfold opIsN at out
  split at out
  · rename_i e
    refine ⟨isN_non rw e, ?_⟩
    rw [isN_v ru]
    exact Out.here (b := V.bl _) out s (.d (by rw [Bool.false_xor]; exact .bl _))
  · exact out.elim
theorem ab_notN : Ab2 X W (opIsN true) (fun x y H Q => y = .non ∧ Q (.bl (!decide (x = .non))) H) := by
  intro σ H m h x y u w Q s ru rw out
  unfold opIsN at out
  split at out
  · rename_i e
    refine ⟨isN_non rw e, ?_⟩
    rw [isN_v ru]
    exact Out.here (b := V.bl _) out s (.d (by rw [Bool.true_xor]; exact .bl _))
  · exact out.elim
end

/-! ### names, constants -/
def eV (i : Nat) : Ev := fun env h => match env[i]? with
  | some (some u) => .ok u h
  | _ => .stuck
def eC (d : D) : Ev := fun _ h => .ok (.d d) h
section
variable {X : Cx} {W : WX} {a b c : Expr} {f g : Ev} {pos : Pos}
theorem se_v (i : Nat) {x : Str} (hN : X.N[i]? = some x := by rfl) (hv : Vis X.env.scope x := by first | exact Or.inl rfl | exact Or.inr (Or.inl rfl) | exact Or.inr (Or.inr rfl)) (hd : (x == ("__debug__" : Str)) = false := by decide)
    (hcd : (x == ("__classdict__" : Str)) = false := by decide) : SE X W (.Name x pos) (eV i) :=
  ⟨pe_imp (pv i hN hv hd hcd) fun σ H Q ⟨env, m, h, sta, sl, out⟩ => by
    unfold eV at out
    split at out
    · rename_i u e
      obtain ⟨v, h1, h2⟩ := sl.2 i u e
      exact ⟨v, h1, Out.here out sta h2⟩
    · exact out.elim⟩
theorem se_c {e : Expr} {v : V} {d : D} (h : PE X e (tC v)) (r : ∀ H, RD X.K H v d) : SE X W e (eC d) :=
  ⟨pe_imp h fun σ H Q ⟨env, m, h, sta, sl, out⟩ => Out.here (b := v) out sta (.d (r H))⟩
theorem se_int {i : Int} {j : Nat} : SE X W (.Constant (.int i) j pos) (eC (.int i)) := se_c pe_int fun _ => .int i
theorem se_bl {i : Bool} {j : Nat} : SE X W (.Constant (.bool i) j pos) (eC (.bool i)) := se_c pe_bl fun _ => .bl i
theorem se_non {j : Nat} : SE X W (.Constant .none j pos) (eC .none) := se_c pe_non fun _ => .non
theorem se_str {x : Str} {j : Nat} : SE X W (.Constant (.str x) j pos) (eC (.str x)) := se_c pe_str fun _ => .str x
/-- a constant of the module -/
theorem se_glob {x : Str} {v : V} {u : Value} {d : D} (hg : Gl X x) (hm : X.mg x = some u) (r : RelV v u) (hd : ∀ H, RD X.K H v d) (hx : (x == ("__debug__" : Str)) = false := by decide) : SE X W (.Name x pos) (eC d) :=
  se_c (pe_glob hg hm r hx) hd
theorem se_neg (ha : SE X W a f) : SE X W (.UnaryOp .USub a pos) (eUn opNeg f) :=
  ⟨pe_imp (pe_un un_neg ha.pe) fun σ H Q ⟨env, m, h, sta, sl, out⟩ => rd_of sta sl out fun u h1 x H1 m1 g1 s1 r1 out1 => by
    unfold opNeg at out1
    split at out1
    · rename_i i e
      exact ⟨i, intOf_v e r1, Out.here (b := V.int _) out1 s1 (.d (.int _))⟩
    · exact out1.elim⟩

/-! ### tests -/
def truthOf (h : Sto) (u : U) : Option Bool := match boolOf u with
  | some b => some b
  | none => match intOf u with
    | some i => some (i != 0)
    | none => match tupOf u with
      | some xs => some (!xs.isEmpty)
      | none => match listOf h u with
        | some xs => some (!xs.isEmpty)
        | none => none
def tTru (f : Ev) : Eb := fun env h => (f env h).bind fun u h1 => match truthOf h1 u with
  | some b => .ok b h1
  | none => .stuck
theorem isEmpty_rds {K : PySem.W.Frag} {H : Hp} {vs : List V} {ds : List D} (r : RDs K H vs ds) : (!ds.isEmpty) = !vs.isEmpty := by cases r <;> rfl
theorem st_truth (ha : SE X W a f) (he : ∀ whole, isTrue a X.env whole = (do let v ← whole; standAt a.pos; holding [v] (truthy v)) := by intro _; rfl) : ST X W a (tTru f) :=
  ⟨pt_imp (pt_truth ha.pe he) fun σ H Q ⟨env, m, h, sta, sl, out⟩ => rd_of sta sl out fun u h1 x H1 m1 g1 s1 r1 out1 => by
    have tr : ∀ k, truthOf h1 u = some k → TruV X.K x H1 k := fun k e => by
      unfold truthOf at e
      split at e
      · rename_i b eb
        cases e
        rw [boolOf_v eb r1]
        rfl
      · split at e
        · rename_i i eb
          cases e
          rw [intOf_v eb r1]
          rfl
        · split at e
          · rename_i xs eb
            cases e
            obtain ⟨p, vs, rfl, t1, d1⟩ := tupOf_v eb r1
            exact .inr (.inl ⟨vs, t1, isEmpty_rds d1⟩)
          · split at e
            · rename_i xs eb
              cases e
              obtain ⟨p, vs, rfl, t1, d1⟩ := listOf_v s1 eb r1
              exact .inl ⟨vs, t1, isEmpty_rds d1⟩
            · cases e
    cases e : truthOf h1 u with
    | none => rw [e] at out1; exact out1.elim
    | some k =>
      rw [e] at out1
      exact ⟨k, tr k e, Out.here (b := k) out1 s1 rfl⟩⟩
def bAnd (f g : Eb) : Eb := fun env h => (f env h).bind fun b h1 => match b with
  | true => g env h1
  | false => .ok false h1
def bOr (f g : Eb) : Eb := fun env h => (f env h).bind fun b h1 => match b with
  | true => .ok true h1
  | false => g env h1
def bNot (f : Eb) : Eb := fun env h => (f env h).bind fun b h1 => .ok (!b) h1
variable {p q : Eb} {rest : List Expr}
theorem sw_st {e : Expr} (h : SW X W e p) : ST X W e p := ⟨h.pw.pt⟩
theorem sw_and1 (ha : ST X W a p) : SW X W (.BoolOp .And [a] pos) p := ⟨pw_and1 ha.pt⟩
theorem sw_or1 (ha : ST X W a p) : SW X W (.BoolOp .Or [a] pos) p := ⟨pw_or1 ha.pt⟩
theorem rd_id {α β : Type} {rl : Hp → List Addr → β → α → Prop} {f : Env' → Sto → Res α} {σ : L2.St} {H : Hp} {m : List Addr} {h : Sto} {env : Env'} {Q : β → Hp → Prop} (sta : Sta X.K X.mg H m h) (sl : Sl X.K H m σ env) (out : Out X W rl σ H m (f env h) Q) : rd X W rl f σ H Q := ⟨env, m, h, sta, sl, out⟩
theorem sw_and (ha : ST X W a p) (hb : SW X W (.BoolOp .And (b :: rest) pos) q) : SW X W (.BoolOp .And (a :: b :: rest) pos) (bAnd p q) :=
  ⟨pw_imp (pw_and ha.pt hb.pw) fun σ H Q ⟨env, m, h, sta, sl, out⟩ => rd_of sta sl out fun u h1 x H1 m1 g1 s1 r1 out1 => by
    cases r1
    cases u with
    | true => rw [if_pos rfl]; exact rd_id s1 (sl.gr g1) out1
    | false => rw [if_neg Bool.false_ne_true]; exact Out.here (b := false) out1 s1 rfl⟩
theorem sw_or (ha : ST X W a p) (hb : SW X W (.BoolOp .Or (b :: rest) pos) q) : SW X W (.BoolOp .Or (a :: b :: rest) pos) (bOr p q) :=
  ⟨pw_imp (pw_or ha.pt hb.pw) fun σ H Q ⟨env, m, h, sta, sl, out⟩ => rd_of sta sl out fun u h1 x H1 m1 g1 s1 r1 out1 => by
    cases r1
    cases u with
    | true => rw [if_pos rfl]; exact Out.here (b := true) out1 s1 rfl
    | false => rw [if_neg Bool.false_ne_true]; exact rd_id s1 (sl.gr g1) out1⟩
theorem st_not (ha : ST X W a p) : ST X W (.UnaryOp .Not a pos) (bNot p) :=
  ⟨pt_imp (pt_not ha.pt) fun σ H Q ⟨env, m, h, sta, sl, out⟩ => rd_of sta sl out fun u h1 x H1 m1 g1 s1 r1 out1 => by
    cases r1
    exact Out.here (b := !u) out1 s1 rfl⟩
/-! .. as values -/
def eAnd (f g : Ev) : Ev := fun env h => (tB (f env h)).bind fun b h1 => match b with
  | true => g env h1
  | false => .ok (.d (.bool false)) h1
def eOr (f g : Ev) : Ev := fun env h => (tB (f env h)).bind fun b h1 => match b with
  | true => .ok (.d (.bool true)) h1
  | false => g env h1
def eNot (f : Ev) : Ev := fun env h => (tB (f env h)).bind fun b h1 => .ok (.d (.bool (!b))) h1
theorem rd_ofB {α β : Type} {rl : Hp → List Addr → β → α → Prop} {f : Ev} {k : Bool → Sto → Res α} {σ : L2.St} {H : Hp} {m : List Addr} {h : Sto} {env : Env'} {Q : β → Hp → Prop} {Q' : V → Hp → Prop} (sta : Sta X.K X.mg H m h) (sl : Sl X.K H m σ env)
    (out : Out X W rl σ H m ((tB (f env h)).bind k) Q) (nx : ∀ b h1 H1 m1, Gr H m H1 m1 → Sta X.K X.mg H1 m1 h1 → Out X W rl σ H1 m1 (k b h1) Q → Q' (.bl b) H1) : rd X W (rlU X.K) f σ H Q' := by
  unfold tB at out
  rw [bind_assoc] at out
  refine rd_of sta sl out fun u h1 x H1 m1 g1 s1 r1 out1 => ?_
  cases e : boolOf u with
  | none => rw [e] at out1; exact out1.elim
  | some b =>
    rw [e] at out1
    rw [boolOf_v e r1]
    exact nx b h1 H1 m1 g1 s1 out1
theorem se_one {op : BoolOp} (h : SE X W a f) : SE X W (.BoolOp op [a] pos) f := ⟨pe_one h.pe⟩
theorem se_and (ha : SE X W a f) (hb : SE X W (.BoolOp .And (b :: rest) pos) g) : SE X W (.BoolOp .And (a :: b :: rest) pos) (eAnd f g) :=
  ⟨pe_imp (pe_and ha.pe hb.pe) fun σ H Q ⟨env, m, h, sta, sl, out⟩ => rd_ofB sta sl out fun b h1 H1 m1 g1 s1 out1 => ⟨b, rfl, by
    cases b with
    | true => rw [if_pos rfl]; exact rd_id s1 (sl.gr g1) out1
    | false => rw [if_neg Bool.false_ne_true]; exact Out.here (b := V.bl false) out1 s1 (.d (.bl false))⟩⟩
theorem se_or (ha : SE X W a f) (hb : SE X W (.BoolOp .Or (b :: rest) pos) g) : SE X W (.BoolOp .Or (a :: b :: rest) pos) (eOr f g) :=
  ⟨pe_imp (pe_or ha.pe hb.pe) fun σ H Q ⟨env, m, h, sta, sl, out⟩ => rd_ofB sta sl out fun b h1 H1 m1 g1 s1 out1 => ⟨b, rfl, by
    cases b with
    | false => rw [if_neg Bool.false_ne_true]; exact rd_id s1 (sl.gr g1) out1
    | true => rw [if_pos rfl]; exact Out.here (b := V.bl true) out1 s1 (.d (.bl true))⟩⟩
theorem se_not (ha : SE X W a f) : SE X W (.UnaryOp .Not a pos) (eNot f) :=
  ⟨pe_imp (pe_not ha.pe) fun σ H Q ⟨env, m, h, sta, sl, out⟩ => rd_ofB sta sl out fun b h1 H1 m1 g1 s1 out1 => ⟨b, rfl, Out.here (b := V.bl (!b)) out1 s1 (.d (.bl _))⟩⟩

/-! ### arguments, displays -/
def aNil : Ea := fun _ h => .ok [] h
def aCons (f : Ev) (r : Ea) : Ea := fun env h => (f env h).bind fun u h1 => (r env h1).bind fun us h2 => .ok (u :: us) h2
theorem sa_nil : SA X W [] aNil := ⟨pa_imp pa_nil fun σ H Q ⟨env, m, h, sta, sl, out⟩ => Out.here (b := ([] : List V)) out sta .nil⟩
theorem sa_cons {e : Expr} {es : List Expr} {r : Ea} (ha : SE X W e f) (hr : SA X W es r) (hs : starEach (e :: es) X.env = (false, eval e X.env) :: starEach es X.env := by rfl) : SA X W (e :: es) (aCons f r) :=
  ⟨pa_imp (pa_cons ha.pe hr.pa hs) fun σ H Q ⟨env, m, h, sta, sl, out⟩ => rd_of sta sl out fun u h1 x H1 m1 g1 s1 r1 out1 => rd_of s1 (sl.gr g1) out1 fun us h2 xs H2 m2 g2 s2 r2 out2 =>
    Out.here (b := x :: xs) out2 s2 (.cons (RU.kp g2.kp g2.pre _ _ r1) r2)⟩
def allD : List U → Option (List D)
  | [] => some []
  | .d x :: r => match allD r with
    | some xs => some (x :: xs)
    | none => none
  | _ :: _ => none
theorem allD_v {K : PySem.W.Frag} {H : Hp} {m : List Addr} : ∀ {us : List U} {vs : List V} {ds : List D}, allD us = some ds → RUs K H m vs us → RDs K H vs ds
  | [], _, _, e, r => by cases e; cases r; exact .nil
  | .d x :: us, _, _, e, r => by
    unfold allD at e
    split at e
    · rename_i xs q
      cases e
      cases r with
      | cons a b => exact .cons a.rd (allD_v q b)
    · cases e
  | .ref _ :: _, _, _, e, _ => by cases e
  | .tup _ :: _, _, _, e, _ => by cases e
def eTup (r : Ea) : Ev := fun env h => (r env h).bind fun us h1 => if us.length ≤ 1000 then (match allD us with
  | some ds => .ok (.d (.tuple ds)) h1
  | none => .ok (.tup us) h1) else .stuck
theorem line1000 {n : Nat} (h : n ≤ 1000) : n ≤ sizeLine := by rw [sizeLine_eq]; omega
theorem se_tup {es : List Expr} {r : Ea} {x1 : Nat} (h : SA X W es r) : SE X W (.Tuple es x1 pos) (eTup r) :=
  ⟨pe_imp (pe_tup h.pa) fun σ H Q ⟨env, m, h, sta, sl, out⟩ => rd_of sta sl out fun us h1 xs H1 m1 g1 s1 r1 out1 => by
    split at out1
    · rename_i hz
      refine ⟨by rw [RUs.len r1]; exact line1000 hz, fun p np => ?_⟩
      have sm : Same H1 (upd H1 p (.tup xs)) := Same.lay np
      split at out1
      · rename_i ds e
        exact Out.ok (b := V.ref p) out1 (Gr.of_same sm m1) (s1.same sm) (.d (.tup (.inl (.inl upd_same)) (RDs.kp (Kp.same sm) _ _ (allD_v e r1))))
      · exact Out.ok (b := V.ref p) out1 (Gr.of_same sm m1) (s1.same sm) (.tup (.inl (.inl upd_same)) (RUs.kp (Kp.same sm) ⟨[], by simp⟩ _ _ r1))
    · exact out1.elim⟩
def eLst (b : Bool) (r : Ea) : Ev := fun env h => (r env h).bind fun us h1 => if us.length ≤ 1000 then (match allD us with
  | some ds => mkL b ds h1
  | none => .stuck) else .stuck
theorem se_lst (b : Bool) {es : List Expr} {r : Ea} (h : SA X W es r) : SE X W (.List es pos) (eLst b r) :=
  ⟨pe_imp (pe_gh (pe_lst h.pa)) fun σ H Q ⟨env, m, h, sta, sl, out⟩ => rd_of sta sl out fun us h1 xs H1 m1 g1 s1 r1 out1 => by
    split at out1
    · rename_i hz
      refine ⟨by rw [RUs.len r1]; exact line1000 hz, fun p np => ?_⟩
      split at out1
      · rename_i ds e
        exact mkL_ok s1 np (allD_v e r1) out1
      · exact out1.elim
    · exact out1.elim⟩

/-! ### a[i], a[i:j] -/
def opIx (u w : U) (h : Sto) : Res U := match intOf w with
  | none => .stuck
  | some i => match tupOf u with
    | some xs => (match atI xs i with | some x => .ok (.d x) h | none => .stuck)
    | none => match listOf h u with
      | some xs => (match atI xs i with | some x => .ok (.d x) h | none => .stuck)
      | none => match u with
        | .tup us => (match atI us i with | some x => .ok x h | none => .stuck)
        | _ => .stuck
theorem atI_rds {K : PySem.W.Frag} {H : Hp} {vs : List V} {ds : List D} {i : Int} {d : D} (r : RDs K H vs ds) (e : atI ds i = some d) : ∃ v, atI vs i = some v ∧ RD K H v d := by
  unfold atI at e ⊢
  rw [r.len]
  cases q : ixN ds.length i with
  | none => rw [q] at e; cases e
  | some j =>
    rw [q] at e
    exact r.get e
theorem atI_rus {K : PySem.W.Frag} {H : Hp} {m : List Addr} {vs : List V} {ds : List U} {i : Int} {d : U} (r : RUs K H m vs ds) (e : atI ds i = some d) : ∃ v, atI vs i = some v ∧ RU K H m v d := by
  unfold atI at e ⊢
  rw [r.len]
  cases q : ixN ds.length i with
  | none => rw [q] at e; cases e
  | some j =>
    rw [q] at e
    exact r.get e
theorem se_ix (hs : PlainIx b) (ha : SE X W a f) (hb : SE X W b g) : SE X W (.Subscript a b pos) (eBin opIx f g) :=
  ⟨pe_imp (pe_ix ix_seq ha.pe hb.pe hs) fun σ H Q ⟨env, m, h, sta, sl, out⟩ => rd_of sta sl out fun u h1 x H1 m1 g1 s1 r1 out1 => rd_of s1 (sl.gr g1) out1 fun w h2 y H2 m2 g2 s2 r2 out2 => by
    have ru := RU.kp g2.kp g2.pre _ _ r1
    unfold opIx at out2
    split at out2
    · exact out2.elim
    · rename_i i ei
      have ey := intOf_v ei r2
      split at out2
      · rename_i xs e
        obtain ⟨p, vs, rfl, t1, d1⟩ := tupOf_v e ru
        split at out2
        · rename_i d ed
          obtain ⟨v, h3, h4⟩ := atI_rds d1 ed
          exact .inr (.inl ⟨p, vs, i, v, rfl, ey, t1, h3, Out.here out2 s2 (.d h4)⟩)
        · exact out2.elim
      · split at out2
        · rename_i xs e
          obtain ⟨p, vs, rfl, t1, d1⟩ := listOf_v s2 e ru
          split at out2
          · rename_i d ed
            obtain ⟨v, h3, h4⟩ := atI_rds d1 ed
            exact .inl ⟨p, vs, i, v, rfl, ey, t1, h3, Out.here out2 s2 (.d h4)⟩
          · exact out2.elim
        · split at out2
          · split at out2
            · rename_i d ed
              cases ru with
              | tup t1 d1 =>
                obtain ⟨v, h3, h4⟩ := atI_rus d1 ed
                exact .inr (.inl ⟨_, _, i, v, rfl, ey, t1, h3, Out.here out2 s2 h4⟩)
            · exact out2.elim
          · exact out2.elim⟩
end
end Wk

/-! T3: freezing, calls, statements, loops, comprehensions, defs. -/
namespace Wk
open PySem PySem.Spec PyProof.Rows L2

/-! ### what is handed on is frozen -/
mutual
def refsOf : U → List Nat
  | .d _ => []
  | .ref n => [n]
  | .tup us => refsOfs us
  | .exn _ => []
def refsOfs : List U → List Nat
  | [] => []
  | u :: us => refsOf u ++ refsOfs us
end
def fzO : Ob → Ob
  | .lst xs => .frz xs
  | .lsu us => .fzu us
  | o => o
def fzH (ns : List Nat) (h : Sto) : Sto := h.mapIdx fun i o => if i ∈ ns then fzO o else o
def fzR (u : U) (h : Sto) : Res U := match u with
  | .d x => .ok (.d x) h
  | u => match dataOf h u with
    | some x => .ok (.d x) (fzH (refsOf u) h)
    | none => .stuck
def eFz (f : Ev) : Ev := fun env h => (f env h).bind fzR
section
variable {K : PySem.W.Frag} {mg : Str → Option Value} {H H' : Hp} {m : List Addr} {h : Sto}
def fzA (m : List Addr) (ns : List Nat) : List Addr := ns.filterMap fun n => m[n]?
theorem mem_fzA {ns : List Nat} {a : Addr} (hm : a ∈ fzA m ns) : ∃ i ∈ ns, m[i]? = some a := by
  obtain ⟨i, h1, h2⟩ := List.mem_filterMap.mp hm
  exact ⟨i, h1, h2⟩
theorem fzA_mem {ns : List Nat} {a : Addr} {i : Nat} (h1 : i ∈ ns) (h2 : m[i]? = some a) : a ∈ fzA m ns := List.mem_filterMap.mpr ⟨i, h1, h2⟩
theorem fz_gr {ns : List Nat} (f : Fz (fzA m ns) H H') : Gr H m H' m :=
  ⟨⟨[], by simp⟩, fun a o e n => by
    rcases f.alt a with z | ⟨z, _⟩
    · exact z.trans e
    · obtain ⟨i, _, q⟩ := mem_fzA z
      exact absurd (List.mem_of_getElem? q) n, fun _ z n => absurd z n, f.kp⟩
theorem fz_sta {ns : List Nat} (s : Sta K mg H m h) (f : Fz (fzA m ns) H H') : Sta K mg H' m (fzH ns h) := by
  refine ⟨s.nd, by unfold fzH; rw [List.length_mapIdx]; exact s.len, fun i a o h1 h2 => ?_⟩
  unfold fzH at h2
  rw [List.getElem?_mapIdx] at h2
  obtain ⟨o0, e0, r0⟩ := s.at_ h1
  rw [e0] at h2
  have e2 : (if i ∈ ns then fzO o0 else o0) = o := Option.some.inj h2
  have stay : H' a = H a → RO K mg H' m a o0 := fun e => r0.mono e f.kp ⟨[], by simp⟩
  have nfz : i ∉ ns → H' a = H a := fun hn => by
    rcases f.alt a with z | ⟨z, _⟩
    · exact z
    · obtain ⟨j, hj, q⟩ := mem_fzA z
      rw [nd_ix s.nd h1 q] at hn
      exact absurd hj hn
  by_cases hi : i ∈ ns
  · rw [if_pos hi] at e2
    subst e2
    cases o0 with
    | lst xs =>
      obtain ⟨vs, k1, k2⟩ := r0
      obtain ⟨o, k3⟩ := f.did a (fzA_mem hi h1) vs k1
      exact ⟨o, vs, k3, RDs.kp f.kp _ _ k2⟩
    | frz xs =>
      obtain ⟨o, vs, k1, k2⟩ := r0
      exact ⟨o, vs, f.kp.frz _ _ _ k1, RDs.kp f.kp _ _ k2⟩
    | ins c fs =>
      refine stay ?_
      rcases f.alt a with z | ⟨_, _, vs, q, _⟩
      · exact z
      · obtain ⟨C, dx, gs, _, k, _⟩ := r0
        rw [k] at q; cases q
    | dct kvs =>
      refine stay ?_
      rcases f.alt a with z | ⟨_, _, vs, q, _⟩
      · exact z
      · obtain ⟨gs, k, _⟩ := r0
        rw [k] at q; cases q
    | lsu us =>
      obtain ⟨vs, k1, k2⟩ := r0
      obtain ⟨o, k3⟩ := f.did a (fzA_mem hi h1) vs k1
      exact ⟨o, vs, k3, RUs.kp f.kp ⟨[], by simp⟩ _ _ k2⟩
    | fzu us =>
      obtain ⟨o, vs, k1, k2⟩ := r0
      exact ⟨o, vs, f.kp.frz _ _ _ k1, RUs.kp f.kp ⟨[], by simp⟩ _ _ k2⟩
    | dtp kvs =>
      refine stay ?_
      rcases f.alt a with z | ⟨_, _, vs, q, _⟩
      · exact z
      · obtain ⟨gs, k, _⟩ := r0
        rw [k] at q; cases q
    | fdt kvs =>
      refine stay ?_
      rcases f.alt a with z | ⟨_, _, vs, q, _⟩
      · exact z
      · obtain ⟨o, gs, k, _⟩ := r0
        rw [k] at q; cases q
  · rw [if_neg hi] at e2
    subst e2
    exact stay (nfz hi)
mutual
theorem fz_rd (s : Sta K mg H m h) {ns : List Nat} (f : Fz (fzA m ns) H H') : ∀ (u : U) (v : V) (d : D), (∀ n ∈ refsOf u, n ∈ ns) → dataOf h u = some d → RU K H m v u → RD K H' v d
  | .d x, v, d, _, e, r => by
    rw [dataOf] at e
    cases e
    exact RD.kp f.kp _ _ r.rd
  | .ref n, v, d, sub, e, r => by
    rw [dataOf] at e
    cases r with
    | ref hm =>
      rename_i a
      have hn : n ∈ ns := sub n (by rw [refsOf]; exact List.mem_singleton.mpr rfl)
      obtain ⟨o0, e0, r0⟩ := s.at_ hm
      unfold listOf at e
      simp only [e0] at e
      cases o0 with
      | lst xs =>
        cases e
        obtain ⟨vs, k1, k2⟩ := r0
        obtain ⟨o, k3⟩ := f.did a (fzA_mem hn hm) vs k1
        exact .lst (.inl ⟨o, k3⟩) (RDs.kp f.kp _ _ k2)
      | frz xs =>
        cases e
        obtain ⟨o, vs, k1, k2⟩ := r0
        exact .lst (.inl ⟨o, f.kp.frz _ _ _ k1⟩) (RDs.kp f.kp _ _ k2)
      | ins c fs => cases e
      | dct kvs => cases e
      | lsu us => cases e
      | fzu us => cases e
      | dtp kvs => cases e
      | fdt kvs => cases e
  | .tup us, v, d, sub, e, r => by
    rw [dataOf] at e
    cases q : datasOf h us with
    | none => rw [q] at e; cases e
    | some xs =>
      rw [q] at e
      cases e
      cases r with
      | tup t b => exact .tup (f.kp.sqT t) (fz_rds s f us _ xs (fun n hn => sub n (by rw [refsOf]; exact hn)) q b)
  | .exn a, v, d, sub, e, r => by
    rw [dataOf] at e
    cases e
theorem fz_rds (s : Sta K mg H m h) {ns : List Nat} (f : Fz (fzA m ns) H H') : ∀ (us : List U) (vs : List V) (ds : List D), (∀ n ∈ refsOfs us, n ∈ ns) → datasOf h us = some ds → RUs K H m vs us → RDs K H' vs ds
  | [], vs, ds, _, e, r => by
    rw [datasOf] at e
    cases e
    cases r
    exact .nil
  | u :: us, vs, ds, sub, e, r => by
    rw [datasOf] at e
    split at e
    · rename_i x xs e1 e2
      cases e
      cases r with
      | cons a b => exact .cons (fz_rd s f u _ x (fun n hn => sub n (by rw [refsOfs]; exact List.mem_append_left _ hn)) e1 a) (fz_rds s f us _ xs (fun n hn => sub n (by rw [refsOfs]; exact List.mem_append_right _ hn)) e2 b)
    · cases e
end
end
theorem fzR_ok {X : Cx} {W : WX} {σ : L2.St} {H : Hp} {m : List Addr} {h : Sto} {u : U} {v : V} {Q : VK} (s : Sta X.K X.mg H m h) (r : RU X.K H m v u) (out : Out X W (rlU X.K) σ H m (fzR u h) Q) : gh Q v H := by
  have gen : (∀ x, u ≠ .d x) → gh Q v H := fun nd => by
    have out' : Out X W (rlU X.K) σ H m (match dataOf h u with | some x => .ok (.d x) (fzH (refsOf u) h) | none => .stuck) Q := by
      cases u with
      | d x => exact absurd rfl (nd x)
      | ref n => exact out
      | tup us => exact out
      | exn a => exact out
    cases e : dataOf h u with
    | none => rw [e] at out'; exact out'.elim
    | some x =>
      rw [e] at out'
      exact ⟨fzA m (refsOf u), fun H' f => Out.ok out' (fz_gr f) (fz_sta s f) (.d (fz_rd s f u v x (fun _ hn => hn) e r))⟩
  cases u with
  | d x => exact gh.no (Out.here out s r)
  | ref n => exact gen fun x z => nomatch z
  | tup us => exact gen fun x z => nomatch z
  | exn a => exact gen fun x z => nomatch z
theorem se_fz {X : Cx} {W : WX} {e : Expr} {f : Ev} (h : SE X W e f) : SE X W e (eFz f) :=
  ⟨pe_imp (pe_gh h.pe) fun σ H Q ⟨env, m, h, sta, sl, out⟩ => rd_of sta sl out fun u h1 v H1 m1 g1 s1 r1 out1 => fzR_ok s1 r1 out1⟩

/-! ### defs that take data and give data -/
inductive PR where
  | ok (d : D)
  | exc (c : Str)
  | stuck
abbrev PF := List D → PR
def PR.res (r : PR) (h : Sto) : Res U := match r with
  | .ok d => .ok (.d d) h
  | .exc c => .exc c h
  | .stuck => .stuck
def spP (K : PySem.W.Frag) (mg : Str → Option Value) (n : Nat) (F : PF) : Sp := fun vs H Q E => ∃ ds, RDs K H vs ds ∧ vs.length = n ∧ match F ds with
  | .ok d => ∀ v H', Same H H' → RD K H' v d → Q v H'
  | .exc c => ∀ H', Same H H' → ∀ C, mg c = some (.ref C) → E (.ref C) none H'
  | .stuck => False
structure FnP (P : Program) (w : World) (K : PySem.W.Frag) (mg : Str → Option Value) (base : Heap) (k : Nat) (name : Str) (ps : List Str) (F : PF) : Prop where
  ex : ∃ f fd, mg name = some (.ref f) ∧ PySem.W.keepIn K (.ref f) = true ∧ Binds K fd ps [] ∧ FnOk P w K mg base (L2.CX P w) k f fd ps (spP K mg ps.length F)
theorem FnP.mono {P : Program} {w : World} {K : PySem.W.Frag} {mg : Str → Option Value} {base : Heap} {j k : Nat} {name : Str} {ps : List Str} {F : PF} (h : FnP P w K mg base j name ps F) (l : j ≤ k) : FnP P w K mg base k name ps F := by
  obtain ⟨f, fd, h1, h2, h3, h4⟩ := h.ex
  exact ⟨f, fd, h1, h2, h3, h4.mono l⟩
/-- how many arguments there are -/
def aLen (fa : Ea) (n : Nat) : Prop := ∀ us env h h', fa env h = .ok us h' → us.length = n
theorem aLen_nil : aLen aNil 0 := fun us env h h' e => by cases e; rfl
theorem aLen_cons {f : Ev} {r : Ea} {n : Nat} (hr : aLen r n) : aLen (aCons f r) (n + 1) := fun us env h h' e => by
  unfold aCons at e
  cases q : f env h with
  | stuck => rw [q] at e; cases e
  | exc c h1 => rw [q] at e; cases e
  | ok u h1 =>
    rw [q] at e
    rw [Res.bind_ok] at e
    cases q2 : r env h1 with
    | stuck => rw [q2] at e; cases e
    | exc c h2 => rw [q2] at e; cases e
    | ok us' h2 =>
      rw [q2] at e
      cases e
      rw [List.length_cons, hr us' env h1 _ q2]
/-- what the calls of a context let out is taken -/
def TakesC (X : Cx) (W : WX) : Prop := ∀ σ, PassesAt (L2.CX X.prog X.w) X σ (WE W σ)
theorem TakesC.c {X : Cx} {W : WX} (tk : TakesC X W) : TakesC X W := tk
theorem _root_.L2.Takes.c {X : Cx} {W : WX} (tk : Takes X W) : TakesC X W := fun σ => passAt tk σ
def eCall (F : PF) (fa : Ea) : Ev := fun env h => (fa env h).bind fun us h1 => match allD us with
  | some ds => (F ds).res h1
  | none => .stuck
section
variable {X : Cx} {W : WX} {k j : Nat} {x : Str} {p pos : Pos} {e : Expr} {es : List Expr} {ps : List Str} {F : PF} {fa : Ea}
theorem spP_of {σ : L2.St} {H : Hp} {m : List Addr} {h : Sto} {us : List U} {ds : List D} {vs : List V} {Q : VK} {n : Nat} (s : Sta X.K X.mg H m h) (r : RUs X.K H m vs us) (e : allD us = some ds) (hn : ds.length = n) (out : Out X W (rlU X.K) σ H m ((F ds).res h) Q) :
    spP X.K X.mg n F vs H Q (WE W σ) := by
  refine ⟨ds, allD_v e r, (allD_v e r).len.trans hn, ?_⟩
  generalize F ds = q at out
  cases q with
  | ok d => exact fun v H' sm rd => Out.ok (b := v) out (Gr.of_same sm m) (s.same sm) (.d rd)
  | exc c => exact fun H' sm C hC => (show ∀ H' m', Gr H m H' m' → Sta X.K X.mg H' m' h → ExW X W c σ H' from out) H' m (Gr.of_same sm m) (s.same sm) C hC
  | stuck => exact out
theorem se_call (tk : TakesC X W) (f : FnP X.prog X.w X.K X.mg X.base k x ps F) (hr : Room k X.A) (hg : Gl X x) (ha : SA X W (e :: es) fa) (hn : aLen fa ps.length)
    (hdb : (x == ("__debug__" : Str)) = false := by decide) (he : starEach (e :: es) X.env = (false, eval e X.env) :: starEach es X.env := by rfl) (hpl : (backTo pos (starEach es X.env)).any (·.1) = false := by rfl) :
    SE X W (.Call (.Name x p) (e :: es) [] pos) (eCall F fa) := by
  obtain ⟨fa', fd, h1, h2, h3, h4⟩ := f.ex
  refine ⟨pe_imp (pe_callS h4 hr hg h1 h2 h3 tk ha.pa hdb he hpl) fun σ H Q ⟨env, m, h, sta, sl, out⟩ => ?_⟩
  have hl := fun us => hn us env h
  refine ⟨env, m, h, sta, sl, ?_⟩
  unfold eCall at out
  generalize hq : fa env h = q at out
  cases q with
  | stuck => exact out
  | exc c h1 => exact out
  | ok us h1 =>
    intro vs H1 m1 g1 s1 r1
    have out1 : Out X W (rlU X.K) σ H1 m1 (match allD us with | some ds => (F ds).res h1 | none => .stuck) Q := Out.gr out g1
    cases ed : allD us with
    | none => rw [ed] at out1; exact out1.elim
    | some ds =>
      rw [ed] at out1
      exact spP_of s1 r1 ed (by rw [← (allD_v ed r1).len, RUs.len r1]; exact hl us h1 hq) out1
end

/-! ### built-in functions and types -/
def eB (F : List U → Sto → Res U) (fa : Ea) : Ev := fun env h => (fa env h).bind F
def AbC (X : Cx) (W : WX) (F : List U → Sto → Res U) (r : List V → Hp → VK → Prop) : Prop := ∀ (σ : L2.St) (H : Hp) (m : List Addr) (h : Sto) (xs : List V) (us : List U) (Q : VK), Sta X.K X.mg H m h → RUs X.K H m xs us → Out X W (rlU X.K) σ H m (F us h) Q → r xs H Q
theorem gh_call {X : Cx} {f : Value} {r : List V → Hp → VK → Prop} (h : CallR X f r) : CallR X f (fun xs H Q => r xs H (gh Q)) := by
  intro pins s σ H xs us Q I rx q
  refine thn (h pins s σ H xs us _ I rx q) fun z s1 ⟨zv, H1, I1, rz, S, q1⟩ => ?_
  obtain ⟨H2, f2, I2⟩ := inv_fz S I1
  exact ⟨zv, H2, I2, rz, q1 H2 f2⟩
section
variable {X : Cx} {W : WX} {x : Str} {p pos : Pos} {e : Expr} {es : List Expr} {fa : Ea} {id T : String} {r : List V → Hp → VK → Prop} {F : List U → Sto → Res U}
theorem se_callB (hc : CallR X (.builtin id) r) (ab : AbC X W F r) (hg : Gl X x) (hm : X.mg x = none) (hv : bootBuiltins x = some (.builtin id)) (ha : SA X W (e :: es) fa) (hn : x ≠ "__name__" := by decide) (hdb : (x == ("__debug__" : Str)) = false := by decide)
    (he : starEach (e :: es) X.env = (false, eval e X.env) :: starEach es X.env := by rfl) (hpl : (backTo pos (starEach es X.env)).any (·.1) = false := by rfl) : SE X W (.Call (.Name x p) (e :: es) [] pos) (eB F fa) :=
  ⟨pe_imp (pe_callB hc hg hm hv ha.pa hn hdb he hpl) fun σ H Q ⟨env, m, h, sta, sl, out⟩ => rd_of sta sl out fun us h1 xs H1 m1 g1 s1 r1 out1 => ab σ H1 m1 h1 xs us Q s1 r1 out1⟩
theorem se_callTy (hc : CallR X (.type T) r) (ab : AbC X W F r) (hg : Gl X x) (hm : X.mg x = none) (hv : bootBuiltins x = some (.type T)) (ha : SA X W (e :: es) fa) (hn : x ≠ "__name__" := by decide) (hdb : (x == ("__debug__" : Str)) = false := by decide)
    (he : starEach (e :: es) X.env = (false, eval e X.env) :: starEach es X.env := by rfl) (hpl : (backTo pos (starEach es X.env)).any (·.1) = false := by rfl) : SE X W (.Call (.Name x p) (e :: es) [] pos) (eB F fa) :=
  ⟨pe_imp (pe_callTy hc hg hm hv ha.pa hn hdb he hpl) fun σ H Q ⟨env, m, h, sta, sl, out⟩ => rd_of sta sl out fun us h1 xs H1 m1 g1 s1 r1 out1 => ab σ H1 m1 h1 xs us Q s1 r1 out1⟩
/-- len -/
noncomputable def lenOf (h : Sto) (u : U) : Option Nat := match tupOf u with
  | some xs => some xs.length
  | none => match listOf h u with
    | some xs => some xs.length
    | none => match strOf u with
      | some x => if fits x.length then some x.length else none
      | none => match u with
        | .tup us => some us.length
        | _ => none
noncomputable def fLen (us : List U) (h : Sto) : Res U := match us with
  | [u] => (match lenOf h u with
    | some n => .ok (.d (.int n)) h
    | none => .stuck)
  | _ => .stuck
theorem ab_len : AbC X W fLen (fun xs H Q => ∃ x n, xs = [x] ∧ LenV X.K x H n ∧ Q (.int n) H) := by
  intro σ H m h xs us Q s r out
  unfold fLen at out
  split at out
  · rename_i u
    cases r with
    | cons ru rn =>
      rename_i v vs
      cases rn
      split at out
      · rename_i n e
        refine ⟨v, n, rfl, ?_, Out.here (b := V.int n) out s (.d (.int _))⟩
        unfold lenOf at e
        split at e
        · rename_i ys ey
          cases e
          obtain ⟨p, ws, rfl, t1, d1⟩ := tupOf_v ey ru
          exact .inr ⟨ws, t1, d1.len.symm⟩
        · split at e
          · rename_i ys ey
            cases e
            obtain ⟨p, ws, rfl, t1, d1⟩ := listOf_v s ey ru
            exact .inl ⟨ws, t1, d1.len.symm⟩
          · split at e
            · rename_i y ey
              split at e
              · rename_i hz
                cases e
                rw [strOf_v ey ru]
                exact ⟨ask_iff.mp hz, rfl⟩
              · cases e
            · split at e
              · cases e
                cases ru with
                | tup t b => exact .inr ⟨_, t, (RUs.len b).symm⟩
              · cases e
      · exact out.elim
  · exact out.elim
/-- one int, two ints -/
def fI1 (g : Int → Int) (us : List U) (h : Sto) : Res U := match us with
  | [u] => (match intOf u with
    | some i => .ok (.d (.int (g i))) h
    | none => .stuck)
  | _ => .stuck
def fI2 (g : Int → Int → Int) (us : List U) (h : Sto) : Res U := match us with
  | [u, w] => (match intOf u, intOf w with
    | some i, some j => .ok (.d (.int (g i j))) h
    | _, _ => .stuck)
  | _ => .stuck
abbrev fAbs := fI1 fun i => if i < 0 then -i else i
abbrev fMax := fI2 fun i j => if j > i then j else i
abbrev fMin := fI2 fun i j => if j < i then j else i
theorem ab_i1 (g : Int → Int) : AbC X W (fI1 g) (fun xs H Q => ∃ i, xs = [.int i] ∧ Q (.int (g i)) H) := by
  intro σ H m h xs us Q s r out
  unfold fI1 at out
  split at out
  · cases r with
    | cons ru rn =>
      cases rn
      split at out
      · rename_i i e
        exact ⟨i, by rw [intOf_v e ru], Out.here (b := V.int _) out s (.d (.int _))⟩
      · exact out.elim
  · exact out.elim
theorem ab_i2 (g : Int → Int → Int) : AbC X W (fI2 g) (fun xs H Q => ∃ i j, xs = [.int i, .int j] ∧ Q (.int (g i j)) H) := by
  intro σ H m h xs us Q s r out
  unfold fI2 at out
  split at out
  · cases r with
    | cons ru rn =>
      cases rn with
      | cons rw rn =>
        cases rn
        split at out
        · rename_i i j e1 e2
          exact ⟨i, j, by rw [intOf_v e1 ru, intOf_v e2 rw], Out.here (b := V.int _) out s (.d (.int _))⟩
        · exact out.elim
  · exact out.elim
/-- int(x) -/
def fInt (us : List U) (h : Sto) : Res U := match us with
  | [u] => (match intOf u with
    | some i => .ok (.d (.int i)) h
    | none => match boolOf u with
      | some b => .ok (.d (.int (if b then 1 else 0))) h
      | none => .stuck)
  | _ => .stuck
theorem ab_intOf : AbC X W fInt (fun xs H Q => (∃ i, xs = [.int i] ∧ Q (.int i) H) ∨ ∃ k, xs = [.bl k] ∧ Q (.int (if k then 1 else 0)) H) := by
  intro σ H m h xs us Q s r out
  unfold fInt at out
  split at out
  · cases r with
    | cons ru rn =>
      cases rn
      split at out
      · rename_i i e
        exact .inl ⟨i, by rw [intOf_v e ru], Out.here (b := V.int _) out s (.d (.int _))⟩
      · split at out
        · rename_i b e
          exact .inr ⟨b, by rw [boolOf_v e ru], Out.here (b := V.int _) out s (.d (.int _))⟩
        · exact out.elim
  · exact out.elim
/-- list(x), tuple(x) -/
def seqOf (h : Sto) (u : U) : Option (List D) := match tupOf u with
  | some xs => some xs
  | none => listOf h u
def fList (b : Bool) (us : List U) (h : Sto) : Res U := match us with
  | [u] => (match seqOf h u with
    | some xs => mkL b xs h
    | none => .stuck)
  | _ => .stuck
def fTuple (us : List U) (h : Sto) : Res U := match us with
  | [u] => (match seqOf h u with
    | some xs => .ok (.d (.tuple xs)) h
    | none => .stuck)
  | _ => .stuck
theorem seqOf_v {K : PySem.W.Frag} {mg : Str → Option Value} {H : Hp} {m : List Addr} {h : Sto} {v : V} {u : U} {xs : List D} (s : Sta K mg H m h) (e : seqOf h u = some xs) (r : RU K H m v u) : ∃ a vs, v = .ref a ∧ (SqL K H a vs ∨ SqT K H a vs) ∧ RDs K H vs xs := by
  unfold seqOf at e
  split at e
  · rename_i ys ey
    cases e
    obtain ⟨p, ws, rfl, t1, d1⟩ := tupOf_v ey r
    exact ⟨p, ws, rfl, .inr t1, d1⟩
  · obtain ⟨p, ws, rfl, t1, d1⟩ := listOf_v s e r
    exact ⟨p, ws, rfl, .inl t1, d1⟩
theorem ab_list (b : Bool) : AbC X W (fList b) (fun xs H Q => ∃ p ys, xs = [.ref p] ∧ (SqL X.K H p ys ∨ SqT X.K H p ys) ∧ ∀ l, H l = none → gh Q (.ref l) (upd H l (.lst ys))) := by
  intro σ H m h xs us Q s r out
  unfold fList at out
  split at out
  · cases r with
    | cons ru rn =>
      cases rn
      split at out
      · rename_i ys e
        obtain ⟨p, ws, rfl, t1, d1⟩ := seqOf_v s e ru
        exact ⟨p, ws, rfl, t1, fun l nl => mkL_ok s nl d1 out⟩
      · exact out.elim
  · exact out.elim
theorem ab_tuple : AbC X W fTuple (fun xs H Q => ∃ p ys, xs = [.ref p] ∧ ((SqL X.K H p ys ∧ ∀ l, H l = none → Q (.ref l) (upd H l (.tup ys))) ∨ (SqT X.K H p ys ∧ Q (.ref p) H))) := by
  intro σ H m h xs us Q s r out
  unfold fTuple at out
  split at out
  · cases r with
    | cons ru rn =>
      cases rn
      split at out
      · rename_i ys e
        obtain ⟨p, ws, rfl, t1, d1⟩ := seqOf_v s e ru
        refine ⟨p, ws, rfl, ?_⟩
        rcases t1 with t1 | t1
        · exact .inl ⟨t1, fun l nl => by
            have sm : Same H (upd H l (.tup ws)) := Same.lay nl
            exact Out.ok (b := V.ref l) out (Gr.of_same sm m) (s.same sm) (.d (.tup (.inl (.inl upd_same)) (RDs.kp (Kp.same sm) _ _ d1)))⟩
        · exact .inr ⟨t1, Out.here (b := V.ref p) out s (.d (.tup t1 d1))⟩
      · exact out.elim
  · exact out.elim
end
/-! ### isinstance(x, T) -/
inductive Ty where | int | bool | str | tuple | list
def Ty.name : Ty → String
  | .int => "int" | .bool => "bool" | .str => "str" | .tuple => "tuple" | .list => "list"
def isTy (T : Ty) : D → Bool
  | .int _ => match T with | .int => true | _ => false
  | .bool _ => match T with | .int => true | .bool => true | _ => false
  | .str _ => match T with | .str => true | _ => false
  | .tuple _ => match T with | .tuple => true | _ => false
  | .list _ => match T with | .list => true | _ => false
  | _ => false
def isTyU (T : Ty) (h : Sto) : U → Option Bool
  | .d x => some (isTy T x)
  | .ref n => match listOf h (.ref n) with
    | some _ => some (match T with | .list => true | _ => false)
    | none => none
  | .tup _ => some (match T with | .tuple => true | _ => false)
  | .exn _ => none
def opIsi (T : Ty) (u : U) (h : Sto) : Res U := match isTyU T h u with
  | some b => .ok (.d (.bool b)) h
  | none => .stuck
theorem kt_non (T : Ty) : kitB "NoneType" T.name = some false := by cases T <;> decide +kernel
theorem kt_bl (T : Ty) : kitB "bool" T.name = some (match T with | .int => true | .bool => true | _ => false) := by cases T <;> decide +kernel
theorem kt_int (T : Ty) : kitB "int" T.name = some (match T with | .int => true | _ => false) := by cases T <;> decide +kernel
theorem kt_str (T : Ty) : kitB "str" T.name = some (match T with | .str => true | _ => false) := by cases T <;> decide +kernel
theorem kt_tup (T : Ty) : kitB "tuple" T.name = some (match T with | .tuple => true | _ => false) := by cases T <;> decide +kernel
theorem kt_lst (T : Ty) : kitB "list" T.name = some (match T with | .list => true | _ => false) := by cases T <;> decide +kernel
section
variable {X : Cx} {W : WX} {a : Expr} {f : Ev} {p p2 pos : Pos} {y : Str}
theorem isTy_v {K : PySem.W.Frag} {mg : Str → Option Value} {H : Hp} {m : List Addr} {h : Sto} {v : V} {u : U} {T : Ty} {b : Bool} (s : Sta K mg H m h) (e : isTyU T h u = some b) (r : RU K H m v u) : ∃ t, TyX K H v t ∧ PySem.W.kitOne K t (.type T.name) = some b := by
  cases r with
  | d rd =>
    cases e
    cases rd with
    | non => exact ⟨_, .base .non, kit_ty (kt_non T)⟩
    | bl i => exact ⟨_, .base (.bl _), kit_ty (kt_bl T)⟩
    | int i => exact ⟨_, .base (.int _), kit_ty (kt_int T)⟩
    | str i => exact ⟨_, .base (.str _), kit_ty (kt_str T)⟩
    | lst z _ =>
      rcases z with ⟨o, z⟩ | ⟨o, its, n, z1, z2, z3⟩
      · exact ⟨_, .base (.frz z), kit_ty (kt_lst T)⟩
      · exact ⟨_, .kList z1 z2, kit_ty (kt_lst T)⟩
    | tup z _ =>
      rcases z with (z | ⟨o, z⟩) | ⟨o, its, n, z1, z2, z3⟩
      · exact ⟨_, .base (.tup z), kit_ty (kt_tup T)⟩
      · exact ⟨_, .fTuple z, kit_ty (kt_tup T)⟩
      · exact ⟨_, .kTuple z1 z2, kit_ty (kt_tup T)⟩
  | ref hm =>
    obtain ⟨o0, e0, r0⟩ := s.at_ hm
    simp only [isTyU, listOf, e0] at e
    cases o0 with
    | lst xs =>
      cases e
      obtain ⟨vs, k1, _⟩ := r0
      exact ⟨_, .base (.lst k1), kit_ty (kt_lst T)⟩
    | frz xs =>
      cases e
      obtain ⟨o, vs, k1, _⟩ := r0
      exact ⟨_, .base (.frz k1), kit_ty (kt_lst T)⟩
    | ins c fs => cases e
    | dct kvs => cases e
    | lsu us => cases e
    | fzu us => cases e
    | dtp kvs => cases e
    | fdt kvs => cases e
  | tup z _ =>
    cases e
    rcases z with (z | ⟨o, z⟩) | ⟨o, its, n, z1, z2, z3⟩
    · exact ⟨_, .base (.tup z), kit_ty (kt_tup T)⟩
    · exact ⟨_, .fTuple z, kit_ty (kt_tup T)⟩
    · exact ⟨_, .kTuple z1 z2, kit_ty (kt_tup T)⟩
  | exn a => cases e
theorem se_isi (T : Ty) (hg : Gl X "isinstance") (hm : X.mg "isinstance" = none) (hg2 : Gl X y) (hm2 : X.mg y = none) (hv2 : bootBuiltins y = some (.type T.name)) (ha : SE X W a f) (hn2 : y ≠ "__name__" := by decide) (hd2 : (y == ("__debug__" : Str)) = false := by decide)
    (he : starEach [a, .Name y p2] X.env = (false, eval a X.env) :: starEach [.Name y p2] X.env := by rfl) (he2 : starEach [.Name y p2] X.env = (false, eval (.Name y p2) X.env) :: starEach [] X.env := by rfl)
    (hpl : (backTo pos (starEach [.Name y p2] X.env)).any (·.1) = false := by rfl) :
    SE X W (.Call (.Name "isinstance" p) [a, .Name y p2] [] pos) (eUn (opIsi T) f) :=
  ⟨pe_imp (pe_callB call_isi hg hm (by decide +kernel) (pa_cons ha.pe (pa_cons (pe_bltn (v := .ty T.name) hg2 hm2 hv2 rfl hn2 hd2) pa_nil he2) he) (by decide) (by decide) he hpl) fun σ H Q ⟨env, m, h, sta, sl, out⟩ => rd_of sta sl out fun u h1 x H1 m1 g1 s1 r1 out1 => by
    unfold opIsi at out1
    split at out1
    · rename_i b e
      obtain ⟨t, h2, h3⟩ := isTy_v s1 e r1
      exact ⟨x, .ty T.name, t, _, b, rfl, .ty _, h2, h3, Out.here (b := V.bl b) out1 s1 (.d (.bl b))⟩
    · exact out1.elim⟩
end
end Wk

/-! T4: statements, loops, comprehensions, defs. -/
namespace Wk
open PySem PySem.Spec PyProof.Rows L2

/-! ### statements -/
def OutS (X : Cx) (W : WX) (D : Ends) (H : Hp) (m : List Addr) : SRes → Prop
  | .next env' h' => ∀ σ' H' m', Gr H m H' m' → Sta X.K X.mg H' m' h' → Sl X.K H' m' σ' env' → D.nx σ' H'
  | .ret u h' => ∀ v H' m', Gr H m H' m' → Sta X.K X.mg H' m' h' → RU X.K H' m' v u → D.rt v H'
  | .exc c env' h' => ∀ σ' H' m', Gr H m H' m' → Sta X.K X.mg H' m' h' → Sl X.K H' m' σ' env' → ExW X W c σ' H'
  | .stuck => False
def rdS (X : Cx) (W : WX) (g : Es) : TS := fun D σ H => ∃ env m h, Sta X.K X.mg H m h ∧ Sl X.K H m σ env ∧ OutS X W D H m (g env h)
structure SS (X : Cx) (W : WX) (st : Stmt) (g : Es) : Prop where
  ps : PS X st (rdS X W g)
structure SSs (X : Cx) (W : WX) (st : List Stmt) (g : Es) : Prop where
  ps : PSs X st (rdS X W g)
theorem OutS.gr {X : Cx} {W : WX} {D : Ends} {H H1 : Hp} {m m1 : List Addr} {r : SRes} (o : OutS X W D H m r) (g : Gr H m H1 m1) : OutS X W D H1 m1 r := by
  cases r with
  | next env' h' => exact fun σ' H' m' g' => o σ' H' m' (g.trans g')
  | ret u h' => exact fun v H' m' g' => o v H' m' (g.trans g')
  | exc c env' h' => exact fun σ' H' m' g' => o σ' H' m' (g.trans g')
  | stuck => exact o
def SRes.seq (r : SRes) (k : Es) : SRes := match r with
  | .next env h => k env h
  | .ret u h => .ret u h
  | .exc c env h => .exc c env h
  | .stuck => .stuck
@[simp] theorem SRes.seq_next (env : Env') (h : Sto) (k : Es) : (SRes.next env h).seq k = k env h := (rfl)
@[simp] theorem SRes.seq_ret (u : U) (h : Sto) (k : Es) : (SRes.ret u h).seq k = .ret u h := (rfl)
@[simp] theorem SRes.seq_exc (c : Str) (env : Env') (h : Sto) (k : Es) : (SRes.exc c env h).seq k = .exc c env h := (rfl)
@[simp] theorem SRes.seq_stuck (k : Es) : (SRes.stuck).seq k = .stuck := (rfl)
def sNil : Es := fun env h => .next env h
def sSeq (a b : Es) : Es := fun env h => (a env h).seq b
/-- an expression, then a statement's end -/
def Res.then_ {α : Type} (r : Res α) (env : Env') (k : α → Sto → SRes) : SRes := match r with
  | .ok x h => k x h
  | .exc c h => .exc c env h
  | .stuck => .stuck
@[simp] theorem Res.then_ok {α : Type} (x : α) (h : Sto) (env : Env') (k : α → Sto → SRes) : (Res.ok x h).then_ env k = k x h := (rfl)
@[simp] theorem Res.then_exc {α : Type} (c : Str) (h : Sto) (env : Env') (k : α → Sto → SRes) : (Res.exc c h : Res α).then_ env k = .exc c env h := (rfl)
@[simp] theorem Res.then_stuck {α : Type} (env : Env') (k : α → Sto → SRes) : (Res.stuck : Res α).then_ env k = .stuck := (rfl)
section
variable {X : Cx} {W : WX} {D : Ends} {σ : L2.St} {H : Hp} {m : List Addr} {h : Sto} {env : Env'}
/-- the expression ahead of a statement's end -/
theorem rd_then {α β : Type} {rl : Hp → List Addr → β → α → Prop} {f : Env' → Sto → Res α} {k : α → Sto → SRes} {Q' : β → Hp → Prop} (sta : Sta X.K X.mg H m h) (sl : Sl X.K H m σ env) (out : OutS X W D H m ((f env h).then_ env k))
    (nx : ∀ a h1 b H1 m1, Gr H m H1 m1 → Sta X.K X.mg H1 m1 h1 → rl H1 m1 b a → OutS X W D H1 m1 (k a h1) → Q' b H1) : rd X W rl f σ H Q' := by
  refine ⟨env, m, h, sta, sl, ?_⟩
  generalize f env h = q at out
  cases q with
  | ok a h1 => exact fun b H1 m1 g s r => nx a h1 b H1 m1 g s r (OutS.gr out g)
  | exc c h1 => exact fun H1 m1 g s => (show ∀ σ' H' m', Gr H m H' m' → Sta X.K X.mg H' m' h1 → Sl X.K H' m' σ' env → ExW X W c σ' H' from out) σ H1 m1 g s (sl.gr g)
  | stuck => exact out
theorem ss_nil : SSs X W [] sNil := ⟨pss_imp pss_nil fun D σ H ⟨env, m, h, sta, sl, out⟩ => (show ∀ σ' H' m', Gr H m H' m' → Sta X.K X.mg H' m' h → Sl X.K H' m' σ' env → D.nx σ' H' from out) σ H m (Gr.refl H m) sta sl⟩
theorem seq_out {st : SRes} {g : Es} (out : OutS X W D H m (st.seq g)) : OutS X W { D with nx := rdS X W g D } H m st := by
  cases st with
  | next env' h' => exact fun σ' H' m' g' s' l' => ⟨env', m', h', s', l', OutS.gr out g'⟩
  | ret u h' => exact out
  | exc c env' h' => exact out
  | stuck => exact out
theorem ss_cons {st : Stmt} {rest : List Stmt} {f g : Es} (h1 : SS X W st f) (h2 : SSs X W rest g) : SSs X W (st :: rest) (sSeq f g) :=
  ⟨pss_imp (pss_cons h1.ps h2.ps) fun D σ H ⟨env, m, h, sta, sl, out⟩ => ⟨env, m, h, sta, sl, seq_out out⟩⟩
theorem ss_one {st : Stmt} {f : Es} (h1 : SS X W st f) : SSs X W [st] f := ⟨pss_one h1.ps⟩

variable {a b c e : Expr} {f g : Ev} {pos : Pos}
theorem ss_pass : SS X W (.Pass pos) sNil := ⟨ps_imp ps_pass fun D σ H ⟨env, m, h, sta, sl, out⟩ => (show ∀ σ' H' m', Gr H m H' m' → Sta X.K X.mg H' m' h → Sl X.K H' m' σ' env → D.nx σ' H' from out) σ H m (Gr.refl H m) sta sl⟩
def sExpr (f : Ev) : Es := fun env h => (f env h).then_ env fun _ h1 => .next env h1
theorem ss_expr (he : SE X W e f) (hs : swapsWith e none pos.line X.env = pure false := by rfl) : SS X W (.Expr e pos) (sExpr f) :=
  ⟨ps_imp (ps_expr he.pe hs) fun D σ H ⟨env, m, h, sta, sl, out⟩ => rd_then sta sl out fun u h1 v H1 m1 g1 s1 r1 out1 =>
    (show ∀ σ' H' m', Gr H1 m1 H' m' → Sta X.K X.mg H' m' h1 → Sl X.K H' m' σ' env → D.nx σ' H' from out1) σ H1 m1 (Gr.refl _ _) s1 (sl.gr g1)⟩
def sRet (f : Ev) : Es := fun env h => (f env h).then_ env fun u h1 => .ret u h1
theorem ss_ret (he : SE X W e f) : SS X W (.Return (some e) pos) (sRet f) :=
  ⟨ps_imp (ps_ret he.pe) fun D σ H ⟨env, m, h, sta, sl, out⟩ => rd_then sta sl out fun u h1 v H1 m1 g1 s1 r1 out1 =>
    (show ∀ v H' m', Gr H1 m1 H' m' → Sta X.K X.mg H' m' h1 → RU X.K H' m' v u → D.rt v H' from out1) v H1 m1 (Gr.refl _ _) s1 r1⟩
def sRetN : Es := fun env h => .ret (.d .none) h
theorem ss_retN : SS X W (.Return none pos) sRetN := ⟨ps_imp ps_retN fun D σ H ⟨env, m, h, sta, sl, out⟩ => (show ∀ v H' m', Gr H m H' m' → Sta X.K X.mg H' m' h → RU X.K H' m' v (.d .none) → D.rt v H' from out) .non H m (Gr.refl H m) sta (.d .non)⟩
def sIf (c : Eb) (f g : Es) : Es := fun env h => (c env h).then_ env fun b h1 => match b with
  | true => f env h1
  | false => g env h1
theorem ss_if {p : Eb} {s t : Es} {th el : List Stmt} (hc : ST X W c p) (ha : SSs X W th s) (hb : SSs X W el t) : SS X W (.If c th el pos) (sIf p s t) :=
  ⟨ps_imp (ps_if hc.pt ha.ps hb.ps) fun D σ H ⟨env, m, h, sta, sl, out⟩ => rd_then (rl := rlB) sta sl out fun u h1 v H1 m1 g1 s1 r1 out1 => by
    cases r1
    cases u with
    | true => rw [if_pos rfl]; exact ⟨env, m1, h1, s1, sl.gr g1, out1⟩
    | false => rw [if_neg Bool.false_ne_true]; exact ⟨env, m1, h1, s1, sl.gr g1, out1⟩⟩
def sSet (i : Nat) (f : Ev) : Es := fun env h => (f env h).then_ env fun u h1 => .next (env.set i (some u)) h1
theorem ss_set (i : Nat) {x : Str} {pos' : Pos} (hN : X.N.Nodup) (he : SE X W e f) (hi : X.N[i]? = some x := by rfl) (hx : Loc X.env.scope x := by first | exact Or.inl rfl | exact Or.inr rfl) (hs : swapsWith e (some (.Name x pos')) pos.line X.env = pure false := by rfl)
    (hf : X.fn x = true ∨ X.env.scope.names.lookup x = some .local := by first | exact .inl rfl | exact .inr rfl | assumption) : SS X W (.Assign [.Name x pos'] e pos) (sSet i f) :=
  ⟨ps_imp (ps_set hN hi hx he.pe hs hf) fun D σ H ⟨env, m, h, sta, sl, out⟩ => rd_then sta sl out fun u h1 v H1 m1 g1 s1 r1 out1 =>
    (show ∀ σ' H' m', Gr H1 m1 H' m' → Sta X.K X.mg H' m' h1 → Sl X.K H' m' σ' (env.set i (some u)) → D.nx σ' H' from out1) _ H1 m1 (Gr.refl _ _) s1 ((sl.gr g1).set r1 i)⟩
end

/-! ### targets -/
abbrev Tg := U → Env' → Sto → Option Env'
abbrev Tgs := List U → Env' → Sto → Option Env'
/-- only the slots of ix change -/
def Only' (ix : List Nat) (σ σ' : L2.St) : Prop := σ'.length = σ.length ∧ ∀ j, j ∉ ix → σ'[j]? = σ[j]?
theorem Only'.refl (ix : List Nat) (σ : L2.St) : Only' ix σ σ := ⟨rfl, fun _ _ => rfl⟩
theorem Only'.trans {ix : List Nat} {σ σ1 σ2 : L2.St} (a : Only' ix σ σ1) (b : Only' ix σ1 σ2) : Only' ix σ σ2 := ⟨b.1.trans a.1, fun j hj => (b.2 j hj).trans (a.2 j hj)⟩
theorem Only'.mono {ix iy : List Nat} {σ σ1 : L2.St} (a : Only' ix σ σ1) (h : ∀ j ∈ ix, j ∈ iy) : Only' iy σ σ1 := ⟨a.1, fun j hj => a.2 j fun z => hj (h j z)⟩
def rdG (X : Cx) (ix : List Nat) (t : Tg) : TG := fun v σ H Q => ∃ u env m h, Sta X.K X.mg H m h ∧ Sl X.K H m σ env ∧ RU X.K H m v u ∧ ∃ env', t u env h = some env' ∧ ∀ σ', Sl X.K H m σ' env' → Only' ix σ σ' → Q σ' H
def rdGs (X : Cx) (ix : List Nat) (t : Tgs) : TGs := fun vs σ H Q => ∃ us env m h, Sta X.K X.mg H m h ∧ Sl X.K H m σ env ∧ RUs X.K H m vs us ∧ ∃ env', t us env h = some env' ∧ ∀ σ', Sl X.K H m σ' env' → Only' ix σ σ' → Q σ' H
structure SG (X : Cx) (tg : Expr) (ix : List Nat) (t : Tg) : Prop where
  pg : PG X tg (rdG X ix t)
structure SGs (X : Cx) (tg : List Expr) (ix : List Nat) (t : Tgs) : Prop where
  pg : PGs X tg (rdGs X ix t)
theorem pg_imp {X : Cx} {e : Expr} {t t' : TG} (h : PG X e t) (i : ∀ v σ H Q, t' v σ H Q → t v σ H Q) : PG X e t' := ⟨fun pins s σ H v u Q I r q => h.run pins s σ H v u Q I r (i v σ H Q q)⟩
theorem pgs_imp {X : Cx} {e : List Expr} {t t' : TGs} (h : PGs X e t) (i : ∀ v σ H Q, t' v σ H Q → t v σ H Q) : PGs X e t' := ⟨fun pins s σ H v u Q I r q => h.run pins s σ H v u Q I r (i v σ H Q q)⟩
theorem pg_or {X : Cx} {e : Expr} {t t' : TG} (h : PG X e t) (h' : PG X e t') : PG X e (fun v σ H Q => t v σ H Q ∨ t' v σ H Q) := ⟨fun pins s σ H v u Q I r q => by
  rcases q with q | q
  · exact h.run pins s σ H v u Q I r q
  · exact h'.run pins s σ H v u Q I r q⟩
def gN (i : Nat) : Tg := fun u env _ => some (env.set i (some u))
def gNil' : Tgs := fun us env _ => match us with
  | [] => some env
  | _ => none
def gCons' (t : Tg) (r : Tgs) : Tgs := fun us env h => match us with
  | u :: us => (match t u env h with
    | some env1 => r us env1 h
    | none => none)
  | [] => none
def itemsOf (h : Sto) (u : U) : Option (List U) := match tupOf u with
  | some xs => some (xs.map .d)
  | none => match listOf h u with
    | some xs => some (xs.map .d)
    | none => match u with
      | .tup us => some us
      | _ => none
def gTup' (n : Nat) (r : Tgs) : Tg := fun u env h => match itemsOf h u with
  | some us => if us.length = n then r us env h else none
  | none => none
theorem RDs.rus {K : PySem.W.Frag} {H : Hp} {m : List Addr} : ∀ {ds : List D} {vs : List V}, RDs K H vs ds → RUs K H m vs (ds.map .d)
  | [], _, h => by cases h; exact .nil
  | _ :: _, _, h => by cases h with | cons a b => exact .cons (.d a) (RDs.rus b)
theorem itemsOf_v {K : PySem.W.Frag} {mg : Str → Option Value} {H : Hp} {m : List Addr} {h : Sto} {v : V} {u : U} {us : List U} (s : Sta K mg H m h) (e : itemsOf h u = some us) (r : RU K H m v u) : ∃ a vs, v = .ref a ∧ (SqT K H a vs ∨ SqL K H a vs) ∧ RUs K H m vs us := by
  unfold itemsOf at e
  split at e
  · rename_i ys ey
    cases e
    obtain ⟨p, ws, rfl, t1, d1⟩ := tupOf_v ey r
    exact ⟨p, ws, rfl, .inl t1, d1.rus⟩
  · split at e
    · rename_i ys ey
      cases e
      obtain ⟨p, ws, rfl, t1, d1⟩ := listOf_v s ey r
      exact ⟨p, ws, rfl, .inr t1, d1.rus⟩
    · split at e
      · cases e
        cases r with
        | tup t b => exact ⟨_, _, rfl, .inl t, b⟩
      · cases e
section
variable {X : Cx} {W : WX} {e : Expr} {es : List Expr} {pos : Pos} {f : Ev} {ix iy : List Nat} {t : Tg} {ts : Tgs}
theorem sg_name (i : Nat) {x : Str} (hN : X.N.Nodup) (hi : X.N[i]? = some x := by rfl) (hx : Loc X.env.scope x := by first | exact Or.inl rfl | exact Or.inr rfl) (hf : X.fn x = true ∨ X.env.scope.names.lookup x = some .local := by first | exact .inl rfl | exact .inr rfl | assumption) : SG X (.Name x pos) [i] (gN i) :=
  ⟨pg_imp (pg_name hN hi hx hf) fun v σ H Q ⟨u, env, m, h, sta, sl, r, env', e, q⟩ => by
    cases e
    exact q _ (sl.set r i) ⟨by simp, fun j hj => List.getElem?_set_ne fun z => hj (by rw [z]; exact List.mem_singleton.mpr rfl)⟩⟩
theorem sgs_nil : SGs X [] [] gNil' :=
  ⟨pgs_imp pgs_nil fun vs σ H Q ⟨us, env, m, h, sta, sl, r, env', e, q⟩ => by
    unfold gNil' at e
    split at e
    · cases e
      cases r
      exact ⟨rfl, q σ sl (Only'.refl _ _)⟩
    · cases e⟩
theorem sgs_cons (h1 : SG X e ix t) (h2 : SGs X es iy ts) (hs : (assignEach (e :: es) X.env).map (·.2) = assign e X.env :: (assignEach es X.env).map (·.2) := by rfl) : SGs X (e :: es) (ix ++ iy) (gCons' t ts) :=
  ⟨pgs_imp (pgs_cons h1.pg h2.pg hs) fun vs σ H Q ⟨us, env, m, h, sta, sl, r, env', e, q⟩ => by
    unfold gCons' at e
    split at e
    · rename_i us u us'
      split at e
      · rename_i env1 e1
        cases r with
        | cons ra rb =>
          exact ⟨_, _, rfl, u, env, m, h, sta, sl, ra, env1, e1, fun σ1 sl1 o1 => ⟨us', env1, m, h, sta, sl1, rb, env', e, fun σ2 sl2 o2 => q σ2 sl2 ((o1.mono fun j hj => List.mem_append_left _ hj).trans (o2.mono fun j hj => List.mem_append_right _ hj))⟩⟩
      · cases e
    · cases e⟩
theorem sg_tup {k n : Nat} (hc : X.calm = true) (h : SGs X es ix ts) (hn : (assignEach es X.env).length = n := by rfl) (hst : (assignEach es X.env).findIdx? (·.1) = none := by rfl) : SG X (.Tuple es k pos) ix (gTup' n ts) :=
  ⟨pg_imp (pg_or (pg_tup hc h.pg hn hst) (pg_unl hc h.pg hn hst)) fun v σ H Q ⟨u, env, m, hh, sta, sl, r, env', e, q⟩ => by
    unfold gTup' at e
    split at e
    · rename_i us eu
      split at e
      · rename_i hl
        obtain ⟨p, vs, rfl, t1, r1⟩ := itemsOf_v sta eu r
        have hvs : vs.length = n := (RUs.len r1).trans hl
        rcases t1 with t1 | t1
        · exact .inl ⟨p, vs, rfl, t1, hvs, us, env, m, hh, sta, sl, r1, env', e, q⟩
        · exact .inr ⟨p, vs, rfl, t1, hvs, us, env, m, hh, sta, sl, r1, env', e, q⟩
      · cases e
    · cases e⟩
/-- target = e -/
def sAsg (t : Tg) (f : Ev) : Es := fun env h => (f env h).then_ env fun u h1 => match t u env h1 with
  | some env' => .next env' h1
  | none => .stuck
theorem ss_asg {tg : Expr} (he : SE X W e f) (hg : SG X tg ix t) (hs : swapsWithSole [tg] e pos.line X.env = pure false := by rfl) (hw : swappedStores [tg] e X.env = pure none := by rfl)
    (h1 : (assignEach [tg] X.env).map (·.2) = [assign tg X.env] := by rfl) : SS X W (.Assign [tg] e pos) (sAsg t f) :=
  ⟨ps_imp (ps_asg he.pe hg.pg hs hw h1) fun D σ H ⟨env, m, h, sta, sl, out⟩ => rd_then sta sl out fun u h1 v H1 m1 g1 s1 r1 out1 => by
    split at out1
    · rename_i env' e'
      exact ⟨u, env, m1, h1, s1, sl.gr g1, r1, env', e', fun σ' sl' _ => (show ∀ σ' H' m', Gr H1 m1 H' m' → Sta X.K X.mg H' m' h1 → Sl X.K H' m' σ' env' → D.nx σ' H' from out1) σ' H1 m1 (Gr.refl _ _) s1 sl'⟩
    · exact out1.elim⟩
end

/-! ### loops -/
/-- J walks the things us, whatever comes -/
def Wlk (K : PySem.W.Frag) (J : It) (H : Hp) (m : List Addr) (us : List U) : Prop := ∀ H' m', Kp H H' → (∃ e, m' = m ++ e) →
  (∀ i, us.length ≤ i → J.stop i H') ∧ ∀ (i : Nat) u, us[i]? = some u → J.go i H' ∧ ∀ x H'', J.yld i H' x H'' → Same H' H'' ∧ RU K H'' m' x u
theorem Wlk.gr {K : PySem.W.Frag} {J : It} {H H1 : Hp} {m m1 : List Addr} {us : List U} (w : Wlk K J H m us) (k : Kp H H1) (p : ∃ e, m1 = m ++ e) : Wlk K J H1 m1 us := fun H' m' k' p' => w H' m' (k.trans k') (by
  obtain ⟨e, rfl⟩ := p
  obtain ⟨e', rfl⟩ := p'
  exact ⟨e ++ e', by rw [List.append_assoc]⟩)
def rlJ (K : PySem.W.Frag) : Hp → List Addr → It → List U → Prop := fun H m J us => Wlk K J H m us
structure SI (X : Cx) (W : WX) (tg iter : Expr) (f : Ea) : Prop where
  pi : PI X tg iter (rd X W (rlJ X.K) f)
theorem pi_imp {X : Cx} {tg e : Expr} {t t' : TI} (h : PI X tg e t) (i : ∀ σ H Q, t' σ H Q → t σ H Q) : PI X tg e t' := ⟨fun pins s σ H Q I q => h.run pins s σ H Q I (i σ H Q q)⟩
theorem pi_or {X : Cx} {tg e : Expr} {t t' : TI} (h : PI X tg e t) (h' : PI X tg e t') : PI X tg e (fun σ H Q => t σ H Q ∨ t' σ H Q) := ⟨fun pins s σ H Q I q => by
  rcases q with q | q
  · exact h.run pins s σ H Q I q
  · exact h'.run pins s σ H Q I q⟩
def iRange (n : Nat) (lo : Int) : List U := (List.range n).map fun (i : Nat) => .d (.int (lo + (i : Int)))
noncomputable def rngOk (i : Int) : Bool := ask (-(2 ^ 62) ≤ i ∧ i < 2 ^ 62)
noncomputable def iR1 (fa : Ea) : Ea := fun env h => (fa env h).bind fun us h1 => match us with
  | [u] => (match intOf u with
    | some j => if rngOk j then .ok (iRange j.toNat 0) h1 else .stuck
    | none => .stuck)
  | _ => .stuck
noncomputable def iR2 (fa : Ea) : Ea := fun env h => (fa env h).bind fun us h1 => match us with
  | [u, w] => (match intOf u, intOf w with
    | some i, some j => if rngOk i && rngOk j then .ok (iRange (j - i).toNat i) h1 else .stuck
    | _, _ => .stuck)
  | _ => .stuck
theorem wlk_range {K : PySem.W.Frag} {lo : Int} {n : Nat} {H : Hp} {m : List Addr} : Wlk K (Itr lo n) H m (iRange n lo) := fun H' m' _ _ => by
  have hl : (iRange n lo).length = n := by unfold iRange; simp
  refine ⟨fun i hi => by rw [hl] at hi; exact hi, fun i u e => ?_⟩
  have hi : i < n := by rw [← hl]; exact (List.getElem?_eq_some_iff.mp e).1
  refine ⟨hi, fun x H'' y => ?_⟩
  obtain ⟨rfl, rfl⟩ := y
  unfold iRange at e
  rw [List.getElem?_map, List.getElem?_range hi] at e
  cases e
  exact ⟨Same.refl _, .d (.int _)⟩
/-- a tuple or a frozen list, walked -/
def iSeq (f : Ev) : Ea := fun env h => (f env h).bind fun u h1 => match u with
  | .d (.tuple xs) => .ok (xs.map .d) h1
  | .d (.list xs) => .ok (xs.map .d) h1
  | .tup us => .ok us h1
  | _ => .stuck
section
variable {X : Cx} {W : WX} {tg a b l : Expr} {fa : Ea} {f : Ev} {p pos : Pos}
theorem si_range1 (hg : Gl X "range") (hm : X.mg "range" = none) (ha : SA X W [a] fa) (hs : starEach [a] X.env = [(false, eval a X.env)] := by rfl) : SI X W tg (.Call (.Name "range" p) [a] [] pos) (iR1 fa) :=
  ⟨pi_imp (pi_range1 hg hm ha.pa hs) fun σ H R ⟨env, m, h, sta, sl, out⟩ => rd_of sta sl out fun us h1 vs H1 m1 g1 s1 r1 out1 => by
    split at out1
    · split at out1
      · rename_i j e
        split at out1
        · rename_i hj
          have hj := ask_iff.mp hj
          cases r1 with
          | cons ra rb =>
            cases rb
            exact ⟨j, by rw [intOf_v e ra], hj.1, hj.2, Out.here (b := Itr 0 j.toNat) out1 s1 wlk_range⟩
        · exact out1.elim
      · exact out1.elim
    · exact out1.elim⟩
theorem si_range2 (hg : Gl X "range") (hm : X.mg "range" = none) (ha : SA X W [a, b] fa) (hs : starEach [a, b] X.env = [(false, eval a X.env), (false, eval b X.env)] := by rfl) (hs2 : starEach [b] X.env = [(false, eval b X.env)] := by rfl) : SI X W tg (.Call (.Name "range" p) [a, b] [] pos) (iR2 fa) :=
  ⟨pi_imp (pi_range2 hg hm ha.pa hs hs2) fun σ H R ⟨env, m, h, sta, sl, out⟩ => rd_of sta sl out fun us h1 vs H1 m1 g1 s1 r1 out1 => by
    split at out1
    · split at out1
      · rename_i i j e1 e2
        split at out1
        · rename_i hj
          have hj : (-(2 ^ 62) ≤ i ∧ i < 2 ^ 62) ∧ -(2 ^ 62) ≤ j ∧ j < 2 ^ 62 := ⟨ask_iff.mp (Bool.and_eq_true_iff.mp hj).1, ask_iff.mp (Bool.and_eq_true_iff.mp hj).2⟩
          cases r1 with
          | cons ra rb =>
            cases rb with
            | cons rb rc =>
              cases rc
              exact ⟨i, j, by rw [intOf_v e1 ra, intOf_v e2 rb], ⟨hj.1.1, hj.1.2, hj.2.1, hj.2.2⟩, Out.here (b := Itr i (j - i).toNat) out1 s1 wlk_range⟩
        · exact out1.elim
      · exact out1.elim
    · exact out1.elim⟩
theorem wlk_lst {K : PySem.W.Frag} {q : Addr} {vs : List V} {us : List U} {H : Hp} {m : List Addr} (t : FzL K H q vs) (r : RUs K H m vs us) : Wlk K (Itl K q) H m us := fun H' m' k pre => by
  have t' := (k.fzL t).sq
  refine ⟨fun i hi => ⟨vs, t', by rw [RUs.len r]; exact hi⟩, fun i u e => ?_⟩
  obtain ⟨v, e1, rv⟩ := RUs.get r e
  refine ⟨⟨vs, v, t', e1⟩, fun x H'' y => ?_⟩
  obtain ⟨rfl, y⟩ := y
  have e2 := y vs t'
  rw [e1] at e2
  cases e2
  exact ⟨Same.refl _, RU.kp k pre _ _ rv⟩
theorem wlk_tup' {K : PySem.W.Frag} {q : Addr} {vs : List V} {us : List U} {H : Hp} {m : List Addr} (t : SqT K H q vs) (r : RUs K H m vs us) : Wlk K (Itt K q) H m us := fun H' m' k pre => by
  have t' := k.sqT t
  refine ⟨fun i hi => ⟨vs, t', by rw [RUs.len r]; exact hi⟩, fun i u e => ?_⟩
  obtain ⟨v, e1, rv⟩ := RUs.get r e
  refine ⟨⟨vs, v, t', e1⟩, fun x H'' y => ?_⟩
  obtain ⟨rfl, y⟩ := y
  have e2 := y vs t'
  rw [e1] at e2
  cases e2
  exact ⟨Same.refl _, RU.kp k pre _ _ rv⟩
theorem si_seq (hl : SE X W l f) : SI X W tg l (iSeq f) :=
  ⟨pi_imp (pi_or (pi_tup hl.pe) (pi_list hl.pe)) fun σ H R ⟨env, m, h, sta, sl, out⟩ => by
    have key : ∀ (Q : VK), (∀ u h1 v H1 m1, Gr H m H1 m1 → Sta X.K X.mg H1 m1 h1 → RU X.K H1 m1 v u → Out X W (rlJ X.K) σ H1 m1 (match u with | .d (.tuple xs) => .ok (xs.map .d) h1 | .d (.list xs) => .ok (xs.map .d) h1 | .tup us => .ok us h1 | _ => .stuck) R → f env h = .ok u h1 → Q v H1) → rd X W (rlU X.K) f σ H Q := fun Q nx => by
      refine ⟨env, m, h, sta, sl, ?_⟩
      unfold iSeq at out
      generalize hq : f env h = q at out
      cases q with
      | ok u h1 => exact fun v H1 m1 g s r => nx u h1 v H1 m1 g s r (Out.gr out g) hq
      | exc c h1 => exact out
      | stuck => exact out
    by_cases hq : ∃ xs h1, f env h = .ok (.d (.list xs)) h1
    · obtain ⟨ys, h2, hq⟩ := hq
      refine .inr (key _ fun u h1 v H1 m1 g1 s1 r1 out1 e => ?_)
      rw [hq] at e
      cases e
      cases r1.rd with
      | lst t d => exact ⟨_, rfl, ⟨_, t.sq⟩, Out.here (b := Itl X.K _) out1 s1 (wlk_lst t d.rus)⟩
    · refine .inl (key _ fun u h1 v H1 m1 g1 s1 r1 out1 e => ?_)
      split at out1
      · cases r1.rd with
        | tup t d => exact ⟨_, rfl, ⟨_, t⟩, Out.here (b := Itt X.K _) out1 s1 (wlk_tup' t d.rus)⟩
      · exact absurd ⟨_, _, e⟩ hq
      · cases r1 with
        | tup t d => exact ⟨_, rfl, ⟨_, t⟩, Out.here (b := Itt X.K _) out1 s1 (wlk_tup' t d)⟩
      · exact out1.elim⟩
end
def forGo (t : Tg) (b : Es) : List U → Es
  | [], env, h => .next env h
  | u :: us, env, h => match t u env h with
    | some env1 => (b env1 h).seq (forGo t b us)
    | none => .stuck
def sFor (it : Ea) (t : Tg) (b : Es) : Es := fun env h => (it env h).then_ env fun us h1 => forGo t b us env h1
def whileGo (c : Eb) (b : Es) : Nat → Es
  | 0, _, _ => .stuck
  | n + 1, env, h => (c env h).then_ env fun k h1 => match k with
    | true => (b env h1).seq (whileGo c b n)
    | false => .next env h1
def sWhile (n : Nat) (c : Eb) (b : Es) : Es := whileGo c b n
section
variable {X : Cx} {W : WX} {tg iter c : Expr} {body : List Stmt} {it : Ea} {ix : List Nat} {t : Tg} {b : Es} {p : Eb} {pos : Pos}
theorem ss_for (hp : PassesOwn (model X.prog X.w) X.A X.env X.xe) (hc : X.calm = true) (hi : SI X W tg iter it) (hg : SG X tg ix t) (hb : SSs X W body b)
    (hs : ∀ x, foldedSetIterable iter X.env x = pure x := by intro _; rfl) : SS X W (.For tg iter body [] pos) (sFor it t b) :=
  ⟨ps_imp (ps_for hp hc hi.pi hg.pg hb.ps hs) fun D σ H ⟨env, m, h, sta, sl, out⟩ => rd_then sta sl out fun us h1 J H1 m1 g1 s1 w1 out1 => by
    refine ⟨fun i k σ' H' => k = us.length - i ∧ i ≤ us.length ∧ ∃ env m h, Sta X.K X.mg H' m h ∧ Sl X.K H' m σ' env ∧ Wlk X.K J H' m us ∧ OutS X W D H' m (forGo t b (us.drop i) env h), ⟨us.length, by simp, Nat.zero_le _, env, m1, h1, s1, sl.gr g1, w1, by simpa using out1⟩, ?_⟩
    rintro i k σ2 H2 ⟨rfl, hi2, env2, m2, h2, s2, l2, w2, o2⟩
    obtain ⟨wst, wgo⟩ := w2 H2 m2 (Kp.refl _) ⟨[], by simp⟩
    by_cases hlt : i < us.length
    · have eu : us[i]? = some us[i] := List.getElem?_eq_getElem hlt
      have ed : us.drop i = us[i] :: us.drop (i + 1) := List.drop_eq_getElem_cons hlt
      obtain ⟨go, gy⟩ := wgo i _ eu
      rw [ed] at o2
      have o3 : OutS X W D H2 m2 (match t us[i] env2 h2 with | some env1 => (b env1 h2).seq (forGo t b (us.drop (i + 1))) | none => .stuck) := o2
      cases et : t us[i] env2 h2 with
      | none => rw [et] at o3; exact o3.elim
      | some env3 =>
        rw [et] at o3
        refine .inr ⟨go, fun σ' H' => us.length - (i + 1) < us.length - i ∧ i + 1 ≤ us.length ∧ ∃ env m h, Sta X.K X.mg H' m h ∧ Sl X.K H' m σ' env ∧ Wlk X.K J H' m us ∧ OutS X W D H' m (forGo t b (us.drop (i + 1)) env h), fun σ' H' ⟨n1, n2, n3⟩ => ⟨us.length - (i + 1), n1, rfl, n2, n3⟩, fun x H3 y => ?_⟩
        obtain ⟨sm, rx⟩ := gy x H3 y
        have gg := Gr.of_same sm m2
        refine ⟨us[i], env2, m2, h2, s2.same sm, l2.gr gg, rx, env3, et, fun σ3 l3 _ => ⟨env3, m2, h2, s2.same sm, l3, ?_⟩⟩
        have o4 : OutS X W D H3 m2 ((b env3 h2).seq (forGo t b (us.drop (i + 1)))) := OutS.gr o3 gg
        revert o4
        generalize b env3 h2 = q
        intro o4
        cases q with
        | next env4 h4 => exact fun σ4 H4 m4 g4 s4 l4 => ⟨by omega, hlt, env4, m4, h4, s4, l4, w2.gr (gg.trans g4).kp (gg.trans g4).pre, OutS.gr o4 g4⟩
        | ret u h4 => exact o4
        | exc c env4 h4 => exact o4
        | stuck => exact o4
    · have e : i = us.length := by omega
      subst e
      rw [List.drop_length] at o2
      exact .inl ⟨wst _ (Nat.le_refl _), (show ∀ σ' H' m', Gr H2 m2 H' m' → Sta X.K X.mg H' m' h2 → Sl X.K H' m' σ' env2 → D.nx σ' H' from o2) σ2 H2 m2 (Gr.refl _ _) s2 l2⟩⟩
theorem ss_while (n : Nat) (hp : PassesOwn (model X.prog X.w) X.A X.env X.xe) (hc : ST X W c p) (hb : SSs X W body b) : SS X W (.While c body [] pos) (sWhile n p b) :=
  ⟨ps_imp (ps_while hp hc.pt hb.ps) fun D σ H ⟨env, m, h, sta, sl, out⟩ => by
    refine ⟨fun k σ' H' => ∃ env m h, Sta X.K X.mg H' m h ∧ Sl X.K H' m σ' env ∧ OutS X W D H' m (whileGo p b k env h), ⟨n, env, m, h, sta, sl, out⟩, ?_⟩
    rintro k σ2 H2 ⟨env2, m2, h2, s2, l2, o2⟩
    cases k with
    | zero => exact o2.elim
    | succ k =>
      refine rd_then (rl := rlB) s2 l2 o2 fun u h3 v H3 m3 g3 s3 r3 o3 => ?_
      cases r3
      cases u with
      | false =>
        rw [if_neg Bool.false_ne_true]
        exact (show ∀ σ' H' m', Gr H3 m3 H' m' → Sta X.K X.mg H' m' h3 → Sl X.K H' m' σ' env2 → D.nx σ' H' from o3) σ2 H3 m3 (Gr.refl _ _) s3 (l2.gr g3)
      | true =>
        rw [if_pos rfl]
        refine ⟨fun σ' H' => ∃ env m h, Sta X.K X.mg H' m h ∧ Sl X.K H' m σ' env ∧ OutS X W D H' m (whileGo p b k env h), fun σ' H' q => ⟨k, Nat.lt_succ_self _, q⟩, env2, m3, h3, s3, l2.gr g3, ?_⟩
        revert o3
        dsimp only
        generalize b env2 h3 = q
        intro o4
        cases q with
        | next env4 h4 => exact fun σ4 H4 m4 g4 s4 l4 => ⟨env4, m4, h4, s4, l4, OutS.gr o4 g4⟩
        | ret u h4 => exact o4
        | exc c env4 h4 => exact o4
        | stuck => exact o4⟩
end
end Wk

/-! T5: methods of lists, slices, comprehensions, defs, the end. -/
namespace Wk
open PySem PySem.Spec PyProof.Rows L2

/-! ### methods of lists -/
def eMl (F : U → List U → Sto → Res U) (f : Ev) (fa : Ea) : Ev := fun env h => (f env h).bind fun u h1 => match listOf h1 u with
  | some _ => (fa env h1).bind fun us h2 => F u us h2
  | none => .stuck
noncomputable def fApp (u : U) (us : List U) (h : Sto) : Res U := match u, us with
  | .ref n, [.d x] => (match h[n]? with
    | some (.lst xs) => if fits (xs.length + 1) then .ok (.d .none) (h.set n (.lst (xs ++ [x]))) else .stuck
    | _ => .stuck)
  | _, _ => .stuck
def fPop (u : U) (us : List U) (h : Sto) : Res U := match u, us with
  | .ref n, [] => (match h[n]? with
    | some (.lst xs) => (match xs[xs.length - 1]? with
      | some y => .ok (.d y) (h.set n (.lst xs.dropLast))
      | none => .stuck)
    | _ => .stuck)
  | _, _ => .stuck
def fClear (u : U) (us : List U) (h : Sto) : Res U := match u, us with
  | .ref n, [] => (match h[n]? with
    | some (.lst xs) => .ok (.d .none) (h.set n (.lst []))
    | _ => .stuck)
  | _, _ => .stuck
def AbM (X : Cx) (W : WX) (F : U → List U → Sto → Res U) (r : V → List V → Hp → VK → Prop) : Prop := ∀ (σ : L2.St) (H : Hp) (m : List Addr) (h : Sto) (x : V) (xs : List V) (u : U) (us : List U) (Q : VK), Sta X.K X.mg H m h → RU X.K H m x u → RUs X.K H m xs us → Out X W (rlU X.K) σ H m (F u us h) Q → r x xs H Q
section
variable {X : Cx} {W : WX} {o e : Expr} {es : List Expr} {f : Ev} {fa : Ea} {name : Str} {apos cpos : Pos} {id : String} {r : V → List V → Hp → VK → Prop} {F : U → List U → Sto → Res U}
theorem tyV_list {K : PySem.W.Frag} {H : Hp} {a : Addr} {vs : List V} (h : SqL K H a vs) : tyV K "list" (.ref a) H := Or.inl ⟨rfl, vs, h⟩
theorem se_ml (slot : Slot "list" name id) (hty : typeOf (.builtin id) = pure (.type "method_descriptor")) (hm : MtR X id r) (ab : AbM X W F r) (ho : SE X W o f) (ha : SA X W (e :: es) fa)
    (hbase : attributeBase o name X.env (eval o X.env) = eval o X.env := by rfl)
    (hfew : ((backTo cpos (starEach (e :: es) X.env)).all (fun x => !x.1) && (backToKw cpos (keywordEach [] X.env)).all (fun x => x.1.isSome)
      && decide ((e :: es).length + ([] : List Keyword).length + (if ([] : List Keyword).isEmpty then 0 else 1) < 30)) = true := by rfl)
    (hline : (apos.endLine == cpos.line) = true := by rfl) (hs : starEach (e :: es) X.env = (false, eval e X.env) :: starEach es X.env := by rfl) (hplain : (backTo cpos (starEach es X.env)).any (·.1) = false := by rfl) :
    SE X W (.Call (.Attribute o name apos) (e :: es) [] cpos) (eMl F f fa) :=
  ⟨pe_imp (pe_bm PySem.F.plainAttrs_list slot hty hm ho.pe ha.pa hbase hfew hline hs hplain) fun σ H Q ⟨env, m, h, sta, sl, out⟩ => rd_of sta sl out fun u h1 x H1 m1 g1 s1 r1 out1 => by
    split at out1
    · rename_i ys ey
      obtain ⟨p, ws, rfl, t1, d1⟩ := listOf_v s1 ey r1
      exact ⟨tyV_list t1, rd_of s1 (sl.gr g1) out1 fun us h2 xs H2 m2 g2 s2 r2 out2 => ab σ H2 m2 h2 _ xs u us Q s2 (RU.kp g2.kp g2.pre _ _ r1) r2 out2⟩
    · exact out1.elim⟩
theorem se_ml0 (slot : Slot "list" name id) (hty : typeOf (.builtin id) = pure (.type "method_descriptor")) (hm : MtR X id r) (ab : AbM X W F r) (ho : SE X W o f)
    (hbase : attributeBase o name X.env (eval o X.env) = eval o X.env := by rfl) (hline : (apos.endLine == cpos.line) = true := by rfl) : SE X W (.Call (.Attribute o name apos) [] [] cpos) (eMl F f aNil) :=
  ⟨pe_imp (pe_bm0 PySem.F.plainAttrs_list slot hty hm ho.pe hbase hline) fun σ H Q ⟨env, m, h, sta, sl, out⟩ => rd_of sta sl out fun u h1 x H1 m1 g1 s1 r1 out1 => by
    split at out1
    · rename_i ys ey
      obtain ⟨p, ws, rfl, t1, d1⟩ := listOf_v s1 ey r1
      exact ⟨tyV_list t1, ab σ H1 m1 h1 _ [] u [] Q s1 r1 .nil out1⟩
    · exact out1.elim⟩
theorem ab_app : AbM X W fApp rAppend := by
  intro σ H m h x xs u us Q s ru rus out
  unfold fApp at out
  split at out
  · split at out
    · rename_i n x h' ds ed
      split at out
      · rename_i hz
        cases ru with
        | ref hm =>
          rename_i a
          cases rus with
          | cons rx rn =>
            cases rn
            obtain ⟨vs, k1, k2⟩ := s.obj _ _ _ hm ed
            refine ⟨a, vs, _, rfl, rfl, k1, by rw [k2.len]; exact ask_iff.mp hz, ?_⟩
            refine Out.ok (b := V.non) out (Gr.write (List.mem_of_getElem? hm) k1 trivial) (s.write hm k1 trivial ⟨_, upd_same, ?_⟩) (.d .non)
            exact (RDs.kp (mut_kp k1 trivial) _ _ k2).app (.one (RD.kp (mut_kp k1 trivial) _ _ rx.rd))
      · exact out.elim
    · exact out.elim
  · exact out.elim
theorem ab_pop : AbM X W fPop rPop := by
  intro σ H m h x xs u us Q s ru rus out
  unfold fPop at out
  split at out
  · split at out
    · rename_i n h' ds ed
      split at out
      · rename_i y ey
        cases ru with
        | ref hm =>
          rename_i a
          cases rus
          obtain ⟨vs, k1, k2⟩ := s.obj _ _ _ hm ed
          obtain ⟨v, e1, e2⟩ := k2.get ey
          have kp := mut_kp (y := HO.lst vs.dropLast) k1 trivial
          refine ⟨a, vs, v, rfl, rfl, k1, by rw [k2.len]; exact e1, ?_⟩
          exact Out.ok (b := v) out (Gr.write (List.mem_of_getElem? hm) k1 trivial) (s.write hm k1 trivial ⟨_, upd_same, (RDs.kp kp _ _ k2).dropLast⟩) (.d (RD.kp kp _ _ e2))
      · exact out.elim
    · exact out.elim
  · exact out.elim
theorem ab_clear : AbM X W fClear rClear := by
  intro σ H m h x xs u us Q s ru rus out
  unfold fClear at out
  split at out
  · split at out
    · rename_i n h' ds ed
      cases ru with
      | ref hm =>
        rename_i a
        cases rus
        obtain ⟨vs, k1, k2⟩ := s.obj _ _ _ hm ed
        exact ⟨a, vs, rfl, rfl, k1, Out.ok (b := V.non) out (Gr.write (List.mem_of_getElem? hm) k1 trivial) (s.write hm k1 trivial ⟨_, upd_same, .nil⟩) (.d .non)⟩
    · exact out.elim
  · exact out.elim
end

/-! ### a[i] = e, a a list of the store -/
def setIx (u w z : U) (h : Sto) : Option Sto := match u, intOf w, z with
  | .ref n, some i, .d x => (match h[n]? with
    | some (.lst xs) => (match ixN xs.length i with
      | some j => some (h.set n (.lst (xs.set j x)))
      | none => none)
    | _ => none)
  | _, _, _ => none
def sSetIx (f o i : Ev) : Es := fun env h => (f env h).then_ env fun z h1 => (o env h1).then_ env fun u h2 => (i env h2).then_ env fun w h3 => match setIx u w z h3 with
  | some h4 => .next env h4
  | none => .stuck
section
variable {X : Cx} {W : WX} {o i e : Expr} {f fo fi : Ev} {pos p2 : Pos}
theorem ss_setIx (he : SE X W e f) (ho : SE X W o fo) (hi : SE X W i fi) (hs : swapsWithSole [.Subscript o i p2] e pos.line X.env = pure false := by rfl) (hw : swappedStores [.Subscript o i p2] e X.env = pure none := by rfl)
    (h1 : (assignEach [.Subscript o i p2] X.env).map (·.2) = [assign (.Subscript o i p2) X.env] := by rfl)
    (ha : ∀ v, assign (.Subscript o i p2) X.env v = (do
      let ov ← holding [v] (eval o X.env)
      let iv ← holding [v, ov] (eval i X.env)
      standAt p2
      holding [v, ov, iv] (setItem ov iv v)
      release [v, ov, iv] []) := by intro _; rfl) : SS X W (.Assign [.Subscript o i p2] e pos) (sSetIx f fo fi) :=
  ⟨ps_imp (ps_asg he.pe (pg_sub ho.pe hi.pe set_list ha) hs hw h1) fun D σ H ⟨env, m, h, sta, sl, out⟩ => rd_then sta sl out fun z h1 vz H1 m1 g1 s1 r1 out1 =>
    rd_then s1 (sl.gr g1) out1 fun u h2 vu H2 m2 g2 s2 r2 out2 => rd_then s2 ((sl.gr g1).gr g2) out2 fun w h3 vw H3 m3 g3 s3 r3 out3 => by
      have rz := RU.kp (g2.trans g3).kp (g2.trans g3).pre _ _ r1
      have ru := RU.kp g3.kp g3.pre _ _ r2
      cases eq : setIx u w z h3 with
      | none => rw [eq] at out3; exact out3.elim
      | some h4 =>
        rw [eq] at out3
        unfold setIx at eq
        split at eq
        · rename_i n i' x ei
          split at eq
          · rename_i xs ex
            split at eq
            · rename_i j ej
              cases eq
              cases ru with
              | ref hm =>
                rename_i a
                obtain ⟨vs, k1, k2⟩ := s3.obj _ _ _ hm ex
                have kp := mut_kp (y := HO.lst (vs.set j vz)) k1 trivial
                refine ⟨a, vs, i', j, rfl, intOf_v ei r3, k1, by rw [k2.len]; exact ej, ?_⟩
                exact (show ∀ σ' H' m', Gr H3 m3 H' m' → Sta X.K X.mg H' m' _ → Sl X.K H' m' σ' env → D.nx σ' H' from out3) σ _ m3 (Gr.write (List.mem_of_getElem? hm) k1 trivial)
                  (s3.write hm k1 trivial ⟨_, upd_same, RDs.set (RD.kp kp _ _ rz.rd) j (RDs.kp kp _ _ k2)⟩) ((((sl.gr g1).gr g2).gr g3).gr (Gr.write (List.mem_of_getElem? hm) k1 trivial))
            · cases eq
          · cases eq
        · cases eq⟩
end

/-! ### slices -/
def cutD {α : Type} (xs : List α) (lo hi : Option Int) : List α := (xs.drop (HT.sIx xs.length 0 lo)).take (HT.sIx xs.length xs.length hi - HT.sIx xs.length 0 lo)
abbrev Eo := Env' → Sto → Res (Option Int)
def oNo : Eo := fun _ h => .ok none h
def oSo (f : Ev) : Eo := fun env h => (f env h).bind fun u h1 => match intOf u with
  | some i => .ok (some i) h1
  | none => .stuck
def rlO : Hp → List Addr → Option Int → Option Int → Prop := fun _ _ b c => b = c
structure SO (X : Cx) (W : WX) (e : Option Expr) (f : Eo) : Prop where
  po : PO X e (rd X W rlO f)
noncomputable def opSl (b : Bool) (u : U) (lo hi : Option Int) (h : Sto) : Res U := match tupOf u with
  | some xs => .ok (.d (.tuple (cutD xs lo hi))) h
  | none => match listOf h u with
    | some xs => mkL b (cutD xs lo hi) h
    | none => match strOf u with
      | some z => if fits z.length then .ok (.d (.str (cutS z lo hi))) h else .stuck
      | none => .stuck
noncomputable def eSl (b : Bool) (f : Ev) (lo hi : Eo) : Ev := fun env h => (f env h).bind fun u h1 => (lo env h1).bind fun l h2 => (hi env h2).bind fun r h3 => opSl b u l r h3
theorem gh_sl {X : Cx} {r : V → Option Int → Option Int → Hp → VK → Prop} {e : Expr} {te : TE} {tl th : TO} (h : PE X e (tSl r te tl th)) : PE X e (tSl (fun x lo hi H Q => r x lo hi H (gh Q)) te tl th) := pe_gh h
section
variable {X : Cx} {W : WX} {e : Expr} {lo hi : Option Expr} {f : Ev} {l r : Eo} {pos p2 : Pos}
theorem po_imp {e : Option Expr} {t t' : TO} (h : PO X e t) (i : ∀ σ H Q, t' σ H Q → t σ H Q) : PO X e t' := ⟨fun pins s σ H Q I q => h.run pins s σ H Q I (i σ H Q q)⟩
theorem so_no : SO X W none oNo := ⟨po_imp po_none fun σ H Q ⟨env, m, h, sta, sl, out⟩ => Out.here (b := (none : Option Int)) out sta rfl⟩
theorem so_so (h : SE X W e f) : SO X W (some e) (oSo f) := ⟨po_imp (po_some h.pe) fun σ H Q ⟨env, m, h, sta, sl, out⟩ => rd_of sta sl out fun u h1 x H1 m1 g1 s1 r1 out1 => by
  split at out1
  · rename_i i ei
    exact ⟨i, intOf_v ei r1, Out.here (b := some i) out1 s1 rfl⟩
  · exact out1.elim⟩
theorem RDs.cut {K : PySem.W.Frag} {H : Hp} {vs : List V} {ds : List D} (h : RDs K H vs ds) (lo hi : Option Int) : RDs K H (cutV vs lo hi) (cutD ds lo hi) := by
  unfold cutV cutD
  rw [h.len]
  exact (h.drop _).take _
theorem se_sl (b : Bool) (he : SE X W e f) (hl : SO X W lo l) (hu : SO X W hi r) : SE X W (.Subscript e (.Slice lo hi none p2) pos) (eSl b f l r) :=
  ⟨pe_imp (pe_gh (pe_slice (sl_tupA.or (sl_list.or sl_str)) he.pe hl.po hu.po)) fun σ H Q ⟨env, m, h, sta, sl, out⟩ => rd_of sta sl out fun u h1 x H1 m1 g1 s1 r1 out1 =>
    rd_of (rl2 := rlO) s1 (sl.gr g1) out1 fun i1 h2 i2 H2 m2 g2 s2 r2 out2 => rd_of (rl2 := rlO) s2 ((sl.gr g1).gr g2) out2 fun j1 h3 j2 H3 m3 g3 s3 r3 out3 => by
      cases r2
      cases r3
      have ru := RU.kp (g2.trans g3).kp (g2.trans g3).pre _ _ r1
      unfold opSl at out3
      split at out3
      · rename_i xs ex
        obtain ⟨p, vs, rfl, t1, d1⟩ := tupOf_v ex ru
        refine .inl ⟨p, vs, rfl, t1, fun hw => ?_, fun hw q nq => ?_⟩
        · have e1 : cutD xs i1 j1 = xs := by
            unfold cutD
            rw [← d1.len, hw.1, hw.2]
            simp [d1.len]
          rw [e1] at out3
          exact gh.no (Out.here (b := V.ref p) out3 s3 (.d (.tup t1 d1)))
        · have sm : Same H3 (upd H3 q (.tup (cutV vs i1 j1))) := Same.lay nq
          exact gh.no (Out.ok (b := V.ref q) out3 (Gr.of_same sm m3) (s3.same sm) (.d (.tup (.inl (.inl upd_same)) (RDs.kp (Kp.same sm) _ _ (d1.cut _ _)))))
      · split at out3
        · rename_i xs ex
          obtain ⟨p, vs, rfl, t1, d1⟩ := listOf_v s3 ex ru
          exact .inr (.inl ⟨p, vs, rfl, t1, fun q nq => mkL_ok s3 nq (d1.cut _ _) out3⟩)
        · split at out3
          · rename_i z ez
            split at out3
            · rename_i hz
              exact .inr (.inr ⟨z, strOf_v ez ru, ask_iff.mp hz, gh.no (Out.here (b := V.str _) out3 s3 (.d (.str _)))⟩)
            · exact out3.elim
          · exact out3.elim⟩
end

/-! ### comprehensions -/
def wipeE (env : Env') : List Nat → Env'
  | [] => env
  | v :: vs => (wipeE env vs).set v none
noncomputable def lcGo (t : Tg) (c : Eb) (e : Ev) (env : Env') : List U → List D → Sto → Res (List D)
  | [], acc, h => .ok acc h
  | u :: us, acc, h => match t u env h with
    | some env1 => (c env1 h).bind fun k h1 => (match k with
      | true => (e env1 h1).bind fun w h2 => (match w with
        | .d x => if fits (acc.length + 1) then lcGo t c e env us (acc ++ [x]) h2 else .stuck
        | _ => .stuck)
      | false => lcGo t c e env us acc h1)
    | none => .stuck
def Res.noExc {α : Type} (r : Res α) : Res α := match r with
  | .ok x h => .ok x h
  | _ => .stuck
noncomputable def eLc (b : Bool) (vs : List Nat) (it : Ea) (t : Tg) (c : Eb) (e : Ev) : Ev := fun env h => (it env h).bind fun us h1 => (lcGo t c e (wipeE env vs) us [] h1).noExc.bind fun xs h2 => mkL b xs h2
def cYes : Eb := fun _ h => .ok true h
abbrev W0 : WX := fun _ _ _ _ => False
structure STs (X : Cx) (W : WX) (ifs : List Expr) (c : Eb) : Prop where
  pt : PTs X ifs (rd X W rlB c)
section
variable {K : PySem.W.Frag} {mg : Str → Option Value} {H H' : Hp} {m : List Addr} {h : Sto} {σ : L2.St} {env : Env'}
theorem Sl.wipe (s : Sl K H m σ env) : ∀ vs : List Nat, Sl K H m (wipe σ vs) (wipeE env vs)
  | [] => s
  | v :: vs => by
    have ih := Sl.wipe s vs
    unfold L2.wipe wipeE
    refine ⟨by simp [ih.1], fun j w e => ?_⟩
    by_cases hj : v = j
    · subst hj
      by_cases hv : v < (wipeE env vs).length
      · rw [List.getElem?_set_self hv] at e; cases e
      · rw [List.getElem?_eq_none (by simpa using hv)] at e; cases e
    · rw [List.getElem?_set_ne hj] at e
      obtain ⟨x, h1, h2⟩ := ih.2 j w e
      exact ⟨x, by rw [List.getElem?_set_ne hj]; exact h1, h2⟩
theorem wipe_at (σ : L2.St) : ∀ (vs : List Nat) (j : Nat), j ∈ vs → j < σ.length → (wipe σ vs)[j]? = some none
  | v :: vs, j, hj, hl => by
    unfold wipe
    by_cases e : v = j
    · subst e
      rw [List.getElem?_set_self (by rw [wipe_length]; exact hl)]
    · rw [List.getElem?_set_ne e]
      rcases List.mem_cons.mp hj with z | z
      · exact absurd z.symm e
      · exact wipe_at σ vs j z hl
theorem wipe_only {ix vs : List Nat} {σ σ' : L2.St} (o : Only' ix (wipe σ vs) σ') (sub : ∀ j ∈ ix, j ∈ vs) : wipe σ' vs = wipe σ vs := by
  have hl : σ'.length = σ.length := by rw [o.1, wipe_length]
  refine List.ext_getElem? fun j => ?_
  by_cases hj : j ∈ vs
  · by_cases hlt : j < σ.length
    · rw [wipe_at σ' vs j hj (by rw [hl]; exact hlt), wipe_at σ vs j hj hlt]
    · rw [List.getElem?_eq_none (by rw [wipe_length, hl]; omega), List.getElem?_eq_none (by rw [wipe_length]; omega)]
  · rw [wipe_out hj, o.2 j fun z => hj (sub j z)]
/-- a list that was made meanwhile -/
theorem mkL_ok2 {X : Cx} {W : WX} {σ : L2.St} {H0 H : Hp} {m0 m : List Addr} {h : Sto} {b : Bool} {xs : List D} {vs : List V} {p : Addr} {Q : VK} (g : Gr H0 m0 H m) (s : Sta X.K X.mg H m h) (n0 : H0 p = none) (n : p ∉ m) (hp : H p = some (.lst vs)) (r : RDs X.K H vs xs) (out : Out X W (rlU X.K) σ H0 m0 (mkL b xs h) Q) :
    gh Q (.ref p) H := by
  cases b with
  | true =>
    refine gh.no (Out.ok (b := V.ref p) (m' := m ++ [p]) out ⟨?_, fun a o e na => g.keep a o e na, fun a ha na => ?_, g.kp⟩ ⟨List.nodup_append.mpr ⟨s.nd, by simp, fun b hb c hc z => by rw [List.mem_singleton.mp hc] at z; rw [z] at hb; exact n hb⟩, by simp [s.len], fun j b ob h1 h2 => ?_⟩ ?_)
    · obtain ⟨e, rfl⟩ := g.pre
      exact ⟨e ++ [p], by rw [List.append_assoc]⟩
    · rcases List.mem_append.mp ha with z | z
      · exact g.fresh a z na
      · rw [List.mem_singleton.mp z]; exact n0
    · by_cases hj : j < m.length
      · rw [List.getElem?_append_left hj] at h1
        rw [List.getElem?_append_left (by rw [← s.len]; exact hj)] at h2
        exact (s.obj j b ob h1 h2).mono rfl (Kp.refl _) ⟨[p], rfl⟩
      · rw [List.getElem?_append_right (by omega)] at h1
        rw [List.getElem?_append_right (by rw [← s.len]; omega)] at h2
        have e1 : j - m.length = 0 := by
          have := (List.getElem?_eq_some_iff.mp h1).1
          simpa using this
        have e2 : j - h.length = 0 := by rw [← s.len]; exact e1
        rw [e1] at h1
        rw [e2] at h2
        simp at h1 h2
        rw [← h1, ← h2]
        exact ⟨vs, hp, r⟩
    · exact .ref (by rw [← s.len]; simp)
  | false =>
    refine ⟨[p], fun H2 f => ?_⟩
    have hm : ∀ a, a ≠ p → H2 a = H a := fun a na => by
      rcases f.alt a with z | ⟨z, _⟩
      · exact z
      · exact absurd (List.mem_singleton.mp z) na
    obtain ⟨o, ho⟩ := f.did p List.mem_cons_self vs hp
    refine Out.ok (b := V.ref p) (m' := m) out ⟨g.pre, fun a x q na => ?_, g.fresh, g.kp.trans f.kp⟩ ⟨s.nd, s.len, fun i a ob h1 h2 => ?_⟩ (.d (.lst (.inl ⟨o, ho⟩) (RDs.kp f.kp _ _ r)))
    · rw [hm a (ne_of_none q n0)]
      exact g.keep a x q na
    · exact (s.obj i a ob h1 h2).mono (hm a fun z => n (z ▸ List.mem_of_getElem? h1)) f.kp ⟨[], by simp⟩
end
section
variable {X : Cx} {W : WX} {elt tg iter : Expr} {ifs : List Expr} {scope : Scope} {own : List (Str × Nat)} {pos : Pos} {it : Ea} {ix : List Nat} {t : Tg} {c : Eb} {e : Ev}
theorem sts_nil : STs X W [] cYes := ⟨by
  refine ⟨fun pins s σ H Q I q => pts_nil.run pins s σ H Q I ?_⟩
  obtain ⟨env, m, h, sta, sl, out⟩ := q
  exact Out.here (b := true) out sta rfl⟩
theorem sts_one {a : Expr} (h : ST X W a c) : STs X W [a] c := ⟨pts_one h.pt⟩
theorem lc_rd {σ : L2.St} {H : Hp} {Q : VK} {b : Bool} (sub : ∀ j ∈ ix, j ∈ own.map (·.2)) (q : rd X W (rlU X.K) (eLc b (own.map (·.2)) it t c e) σ H Q) :
    tLc (rd X W (rlJ X.K) it) (rdG X ix t) (rd X W0 rlB c) (rd X W0 (rlU X.K) e) (own.map (·.2)) σ H (gh Q) := by
  obtain ⟨env, m, h, sta, sl, out⟩ := q
  refine rd_of sta sl out fun us h1 J H1 m1 g1 s1 w1 out1 => fun D nD => ?_
  refine ⟨fun i k H' => k = us.length - i ∧ i ≤ us.length ∧ ∃ m' h' acc vacc, Gr H1 m1 H' m' ∧ Sta X.K X.mg H' m' h' ∧ H' D = some (.lst vacc) ∧ D ∉ m' ∧ RDs X.K H' vacc acc ∧
    Out X W (rlU X.K) σ H1 m1 ((lcGo t c e (wipeE env (own.map (·.2))) (us.drop i) acc h').noExc.bind fun xs h2 => mkL b xs h2) Q,
    ⟨us.length, by simp, Nat.zero_le _, m1, h1, [], [], Gr.of_same (Same.lay nD) m1, s1.same (Same.lay nD), upd_same, s1.new nD, .nil, by simpa using out1⟩, ?_⟩
  rintro i k H2 ⟨rfl, hi2, m2, h2, acc, vacc, g2, s2, hD, nDm, racc, o2⟩
  obtain ⟨wst, wgo⟩ := w1 H2 m2 g2.kp g2.pre
  by_cases hlt : i < us.length
  · have eu : us[i]? = some us[i] := List.getElem?_eq_getElem hlt
    have ed : us.drop i = us[i] :: us.drop (i + 1) := List.drop_eq_getElem_cons hlt
    obtain ⟨go, gy⟩ := wgo i _ eu
    rw [ed] at o2
    unfold lcGo at o2
    cases et : t us[i] (wipeE env (own.map (·.2))) h2 with
    | none => rw [et] at o2; exact o2.elim
    | some env3 =>
      rw [et] at o2
      dsimp only at o2
      refine .inr ⟨go, fun H' => us.length - (i + 1) < us.length - i ∧ i + 1 ≤ us.length ∧ ∃ m' h' acc vacc, Gr H1 m1 H' m' ∧ Sta X.K X.mg H' m' h' ∧ H' D = some (.lst vacc) ∧ D ∉ m' ∧ RDs X.K H' vacc acc ∧
        Out X W (rlU X.K) σ H1 m1 ((lcGo t c e (wipeE env (own.map (·.2))) (us.drop (i + 1)) acc h').noExc.bind fun xs h2 => mkL b xs h2) Q, fun H' ⟨n1, n2, n3⟩ => ⟨us.length - (i + 1), n1, rfl, n2, n3⟩, fun x H3 y => ?_⟩
      obtain ⟨sm, rx⟩ := gy x H3 y
      have gg := Gr.of_same sm m2
      have g3 := g2.trans gg
      have s3 := s2.same sm
      have hD3 : H3 D = some (.lst vacc) := sm _ _ hD
      have racc3 := RDs.kp gg.kp _ _ racc
      refine ⟨us[i], wipeE env (own.map (·.2)), m2, h2, s3, ((sl.gr g1).gr g3).wipe _, rx, env3, et, fun σ3 l3 only => ⟨wipe_only only sub, ?_⟩⟩
      refine ⟨env3, m2, h2, s3, l3, ?_⟩
      -- the test
      generalize hc : c env3 h2 = q at o2
      cases q with
      | stuck => exact o2.elim
      | exc c1 h4 => exact o2.elim
      | ok kb h4 =>
        intro b4 H4 m4 g4 s4 r4
        cases r4
        have keepD : ∀ {Ha : Hp} {ma : List Addr} {Hb : Hp} {mb : List Addr}, Gr Ha ma Hb mb → Ha D = some (.lst vacc) → D ∉ ma → Hb D = some (.lst vacc) ∧ D ∉ mb := fun {Ha ma Hb mb} g hd nd => ⟨g.keep _ _ hd nd, fun z => by
          have q := g.fresh D z nd
          rw [hd] at q
          cases q⟩
        obtain ⟨hD4, nD4⟩ := keepD g4 hD3 nDm
        cases kb with
        | false =>
          rw [if_neg Bool.false_ne_true]
          exact ⟨by omega, hlt, m4, h4, acc, vacc, g3.trans g4, s4, hD4, nD4, RDs.kp g4.kp _ _ racc3, o2⟩
        | true =>
          rw [if_pos rfl]
          refine ⟨env3, m4, h4, s4, l3.gr g4, ?_⟩
          have o3 : Out X W (rlU X.K) σ H1 m1 (Res.bind (Res.noExc ((e env3 h4).bind fun w h2 => match w with | .d x => if fits (acc.length + 1) then lcGo t c e (wipeE env (own.map (·.2))) (us.drop (i + 1)) (acc ++ [x]) h2 else .stuck | _ => .stuck)) fun xs h2 => mkL b xs h2) Q := o2
          generalize he : e env3 h4 = q at o3
          cases q with
          | stuck => exact o3.elim
          | exc c1 h5 => exact o3.elim
          | ok w h5 =>
            intro y H5 m5 g5 s5 r5
            obtain ⟨hD5, nD5⟩ := keepD g5 hD4 nD4
            rw [Res.bind_ok] at o3
            cases w with
            | ref n => exact o3.elim
            | tup us => exact o3.elim
            | exn a => exact o3.elim
            | d dx =>
              dsimp only at o3
              split at o3
              · rename_i hz
                have racc5 := RDs.kp (g4.trans g5).kp _ _ racc3
                refine ⟨vacc, hD5, by rw [racc5.len]; exact ask_iff.mp hz, by omega, hlt, m5, h5, acc ++ [dx], vacc ++ [y], ?_, ?_, upd_same, nD5, ?_, o3⟩
                · have gA := (g3.trans g4).trans g5
                  refine ⟨gA.pre, fun a o q na => ?_, gA.fresh, ⟨fun a xs q => ?_, fun a o u q => ?_⟩⟩
                  · rw [upd_ne (ne_of_none q nD)]; exact gA.keep a o q na
                  · rw [upd_ne (ne_of_none q nD)]; exact gA.kp.tup a xs q
                  · rw [upd_ne (ne_of_none q nD)]; exact gA.kp.frz a o u q
                · exact ⟨s5.nd, s5.len, fun j a ob k1 k2 => (s5.obj j a ob k1 k2).mono (upd_ne fun z => nD5 (z ▸ List.mem_of_getElem? k1)) (mut_kp hD5 trivial) ⟨[], by simp⟩⟩
                · have kp := mut_kp (y := HO.lst (vacc ++ [y])) hD5 trivial
                  exact (RDs.kp kp _ _ racc5).app (.one (RD.kp kp _ _ r5.rd))
              · exact o3.elim
  · have e' : i = us.length := by omega
    subst e'
    rw [List.drop_length] at o2
    exact .inl ⟨wst _ (Nat.le_refl _), mkL_ok2 g2 s2 nD nDm hD racc o2⟩
theorem se_lc (b : Bool) {vs : List Nat} (own : List (Str × Nat)) (hc : X.calm = true) (hN : X.N.Nodup) (hv : own.map (·.2) = vs) (sub : ∀ j ∈ ix, j ∈ vs) (hi : SI X W tg iter it) (ok : BlkOk X.N X.env.scope scope own)
    (hg : ∀ (s : Shared) (H : Hp) (C : Addr) (cl : List (Str × Addr)) (fp : List Addr), SG (X.blk s H scope (compEnvC scope cl C X.env) fp) tg ix t)
    (ht : ∀ (s : Shared) (H : Hp) (C : Addr) (cl : List (Str × Addr)) (fp : List Addr), STs (X.blk s H scope (compEnvC scope cl C X.env) fp) W0 ifs c)
    (he : ∀ (s : Shared) (H : Hp) (C : Addr) (cl : List (Str × Addr)) (fp : List Addr), SE (X.blk s H scope (compEnvC scope cl C X.env) fp) W0 elt e) (hs : ∀ x, foldedSetIterable iter X.env x = pure x := by intro _; rfl) :
    SE X W (.ListComp elt [⟨tg, iter, ifs, 0⟩] scope pos) (eLc b vs it t c e) := by
  subst hv
  exact ⟨pe_imp (pe_gh (pe_lc hc hN hi.pi ok (fun s H C cl fp => (hg s H C cl fp).pg) (fun s H C cl fp => (ht s H C cl fp).pt) (fun s H C cl fp => (he s H C cl fp).pe) hs)) fun σ H Q q => lc_rd sub q⟩
theorem ps_gh {X : Cx} {st : Stmt} {t : TS} (h : PS X st t) : PS X st (fun D σ H => t { D with nx := fun σ' H1 => ∃ S, ∀ H2, Fz S H1 H2 → D.nx σ' H2 } σ H) := by
  refine ⟨fun pins s σ H D I q => thn (h.run pins s σ H _ I q) fun fl s1 z => ?_⟩
  cases fl with
  | next =>
    obtain ⟨σ', H1, I1, S, q1⟩ := z
    obtain ⟨H2, f, I2⟩ := inv_fz S I1
    exact ⟨σ', H2, I2, q1 H2 f⟩
  | brk => exact z
  | cont => exact z
  | ret u => exact z
/-- name = [..] -/
theorem ss_setLc (b : Bool) (i : Nat) {vs : List Nat} {y : Str} {py spos : Pos} (hsw : swapsWith (.ListComp elt [⟨tg, iter, ifs, 0⟩] scope pos) (some (.Name y py)) spos.line X.env = pure true) (own : List (Str × Nat)) (hc : X.calm = true) (hN : X.N.Nodup) (hv : own.map (·.2) = vs) (sub : ∀ j ∈ ix, j ∈ vs) (hi : SI X W tg iter it) (ok : BlkOk X.N X.env.scope scope own)
    (hg : ∀ (s : Shared) (H : Hp) (C : Addr) (cl : List (Str × Addr)) (fp : List Addr), SG (X.blk s H scope (compEnvC scope cl C X.env) fp) tg ix t)
    (ht : ∀ (s : Shared) (H : Hp) (C : Addr) (cl : List (Str × Addr)) (fp : List Addr), STs (X.blk s H scope (compEnvC scope cl C X.env) fp) W0 ifs c)
    (he : ∀ (s : Shared) (H : Hp) (C : Addr) (cl : List (Str × Addr)) (fp : List Addr), SE (X.blk s H scope (compEnvC scope cl C X.env) fp) W0 elt e)
    (hy : X.N[i]? = some y := by rfl) (hyl : X.env.scope.names.lookup y = some .local := by rfl) (hs : ∀ x, foldedSetIterable iter X.env x = pure x := by intro _; rfl) :
    SS X W (.Assign [.Name y py] (.ListComp elt [⟨tg, iter, ifs, 0⟩] scope pos) spos) (sSet i (eLc b vs it t c e)) := by
  subst hv
  exact ⟨ps_imp (ps_gh (ps_setLc hc hN hy hyl hsw hi.pi ok (fun s H C cl fp => (hg s H C cl fp).pg) (fun s H C cl fp => (ht s H C cl fp).pt) (fun s H C cl fp => (he s H C cl fp).pe) hs)) fun D σ H ⟨env, m, h, sta, sl, out⟩ => by
    have q : rd X W (rlU X.K) (eLc b (own.map (·.2)) it t c e) σ H (fun v H1 => D.nx (σ.set i (some v)) H1) := rd_then sta sl out fun u h1 v H1 m1 g1 s1 r1 out1 =>
      (show ∀ σ' H' m', Gr H1 m1 H' m' → Sta X.K X.mg H' m' h1 → Sl X.K H' m' σ' (env.set i (some u)) → D.nx σ' H' from out1) _ H1 m1 (Gr.refl _ _) s1 ((sl.gr g1).set r1 i)
    exact lc_rd sub q⟩
end
end Wk

/-! T6: defs, the end. -/
namespace Wk
open PySem PySem.Spec PyProof.Rows L2

def fuel : Nat := 100000000000000000000000
theorem bt_len : bootBuiltins "len" = some (.builtin "len") := by decide +kernel
theorem bt_abs : bootBuiltins "abs" = some (.builtin "abs") := by decide +kernel
theorem bt_max : bootBuiltins "max" = some (.builtin "max") := by decide +kernel
theorem bt_min : bootBuiltins "min" = some (.builtin "min") := by decide +kernel
theorem bt_int : bootBuiltins "int" = some (.type "int") := by decide +kernel
theorem bt_bool : bootBuiltins "bool" = some (.type "bool") := by decide +kernel
theorem bt_str : bootBuiltins "str" = some (.type "str") := by decide +kernel
theorem bt_tuple : bootBuiltins "tuple" = some (.type "tuple") := by decide +kernel
theorem bt_list : bootBuiltins "list" = some (.type "list") := by decide +kernel

structure Has (K : PySem.W.Frag) (mg : Str → Option Value) (name : Str) (st : Stmt) (ps : List Str) : Prop where
  ex : ∃ f fd, mg name = some (.ref f) ∧ Fun K name name st f fd ∧ ∀ us : List Value, us.length = ps.length → bindArgs fd ⟨us, []⟩ = pure (ps.zip us)
theorem has_mk {K : PySem.W.Frag} {h : Heap} {mg : Str → Option Value} {x : Str} {st : Stmt} {ps : List Str} {f : Addr} {oc : Value} {od an : Option Addr} {osl : Array (Option Value)} {kV doc pm cdv ct : Value} (X : K.In h) (G : h.Ns mainGlobals mg)
    (hb : ∀ (kV doc pm : Value) (an : Option Addr) (cdv ct : Value) (us : List Value), us.length = ps.length → bindArgs (PySem.W.fnOf x x (defArgs st) (defBody st) (defScope st) .none kV doc pm an cdv ct) ⟨us, []⟩ = pure (ps.zip us))
    (a : PySem.W.nsIn K mainGlobals x = some (some (.ref f))) (l : K.lookup f = some ⟨oc, od, .func (PySem.W.fnOf x x (defArgs st) (defBody st) (defScope st) .none kV doc pm an cdv ct), osl⟩) (c : PySem.W.codeIn K cdv x = true) (k : PySem.W.keepIn K (.ref f) = true) : Has K mg x st ps :=
  ⟨f, _, PySem.W.mg_of X G a, fun_mk l c k, hb _ _ _ _ _ _⟩
/-! a constant of the module, looked up in the written part -/
mutual
def rdB (K : PySem.W.Frag) : Nat → Value → D → Bool
  | 0, _, _ => false
  | _ + 1, .none, .none => true
  | _ + 1, .bool b, .bool c => b == c
  | _ + 1, .int i _, .int j => decide (i = j)
  | _ + 1, .str x _, .str y => decide (x = y)
  | n + 1, .ref a, .tuple ds => match K.lookup a with
    | some o => (match o.data with
      | .seq its _ => decide (o.cls = .type "tuple") && decide (its.size ≤ 1000) && rdBs K n its.toList ds
      | _ => false)
    | none => false
  | _ + 1, _, _ => false
def rdBs (K : PySem.W.Frag) : Nat → List Value → List D → Bool
  | 0, _, _ => false
  | _ + 1, [], [] => true
  | n + 1, u :: us, d :: ds => rdB K n u d && rdBs K n us ds
  | _ + 1, _, _ => false
end
mutual
theorem rdB_ok {K : PySem.W.Frag} : ∀ (n : Nat) (u : Value) (d : D), rdB K n u d = true → ∃ v, RelV v u ∧ ∀ H, RD K H v d
  | 0, _, _, e => by rw [rdB] at e; cases e
  | n + 1, u, d, e => by
    unfold rdB at e
    split at e
    · rename_i h; cases h
    · exact ⟨.non, rfl, fun _ => .non⟩
    · have z := beq_iff_eq.mp e
      subst z
      exact ⟨.bl _, rfl, fun _ => .bl _⟩
    · have z := of_decide_eq_true e
      subst z
      exact ⟨.int _, ⟨_, rfl⟩, fun _ => .int _⟩
    · have z := of_decide_eq_true e
      subst z
      exact ⟨.str _, ⟨_, rfl⟩, fun _ => .str _⟩
    · rename_i m a ds hm
      cases hm
      split at e
      · rename_i o ho
        split at e
        · rename_i its k hd
          simp only [Bool.and_eq_true, decide_eq_true_eq] at e
          obtain ⟨vs, rv, rd⟩ := rdBs_ok n its.toList ds e.2
          exact ⟨.ref a, rfl, fun H => .tup (.inr ⟨o, its, k, ho, e.1.1, hd, line1000 e.1.2, rv⟩) (rd H)⟩
        · cases e
      · cases e
    · cases e
theorem rdBs_ok {K : PySem.W.Frag} : ∀ (n : Nat) (us : List Value) (ds : List D), rdBs K n us ds = true → ∃ vs, Vals vs us ∧ ∀ H, RDs K H vs ds
  | 0, _, _, e => by rw [rdBs] at e; cases e
  | n + 1, us, ds, e => by
    unfold rdBs at e
    split at e
    · rename_i h; cases h
    · exact ⟨[], .nil, fun _ => .nil⟩
    · rename_i m u us d ds hm
      cases hm
      rw [Bool.and_eq_true] at e
      obtain ⟨v, r1, d1⟩ := rdB_ok n u d e.1
      obtain ⟨vs, r2, d2⟩ := rdBs_ok n us ds e.2
      exact ⟨v :: vs, .cons r1 r2, fun H => .cons (d1 H) (d2 H)⟩
    · cases e
end
theorem const_mk {K : PySem.W.Frag} {h : Heap} {mg : Str → Option Value} {x : Str} {u : Value} {d : D} (KX : K.In h) (G : h.Ns mainGlobals mg) (a : PySem.W.nsIn K mainGlobals x = some (some u)) (b : rdB K 30 u d = true)
    (hx : (x == ("__debug__" : Str)) = false := by decide) : ∀ {X : Cx} {W : WX} {pos : Pos}, X.K = K → X.mg = mg → Gl X x → SE X W (.Name x pos) (eC d) := by
  intro X W pos eK em hg
  subst eK em
  obtain ⟨v, r, rd⟩ := rdB_ok _ _ _ b
  exact se_glob hg (PySem.W.mg_of KX G a) r rd hx
/-- the def keeps its data function, wherever it stands -/
def FnA (P : Program) (w : World) (K : PySem.W.Frag) (mg : Str → Option Value) (base : Heap) (k : Nat) (x : Str) (st : Stmt) (ps : List Str) (F : PF) : Prop :=
  ∀ f fd, Fun K x x st f fd → FnOk P w K mg base (L2.CX P w) k f fd ps (spP K mg ps.length F)
theorem FnA.p {P : Program} {w : World} {K : PySem.W.Frag} {mg : Str → Option Value} {base : Heap} {k : Nat} {x : Str} {st : Stmt} {ps : List Str} {F : PF} (h : FnA P w K mg base k x st ps F) (hs : Has K mg x st ps) : FnP P w K mg base k x ps F := by
  obtain ⟨f, fd, h1, h2, h3⟩ := hs.ex
  exact ⟨f, fd, h1, h2.kp, Binds.all h3, h f fd h2⟩

/-- a def's data function, by its body -/
def pfOf (n : Nat) (B : Es) : PF := fun ds => match B (ds.map (fun d => some (.d d)) ++ List.replicate (n - ds.length) none) [] with
  | .ret (.d d) _ => .ok d
  | .next _ _ => .ok .none
  | .exc c _ _ => .exc c
  | _ => .stuck
theorem sl_start {K : PySem.W.Frag} {H : Hp} {N : List Str} {vs : List V} {ds : List D} (r : RDs K H vs ds) : Sl K H [] (L2.start N vs) (ds.map (fun d => some (.d d)) ++ List.replicate (N.length - ds.length) none) := by
  unfold L2.start
  refine ⟨by simp [r.len], fun i u e => ?_⟩
  by_cases hi : i < ds.length
  · rw [List.getElem?_append_left (by simpa using hi), List.getElem?_map, List.getElem?_eq_getElem hi] at e
    cases e
    obtain ⟨v, h1, h2⟩ := r.get (List.getElem?_eq_getElem hi)
    exact ⟨v, by rw [List.getElem?_append_left (by rw [List.length_map, r.len]; exact hi), List.getElem?_map, h1]; rfl, .d h2⟩
  · rw [List.getElem?_append_right (by simpa using hi), List.getElem?_replicate] at e
    split at e <;> cases e
section
variable {P : Program} {w : World} {K : PySem.W.Frag} {mg : Str → Option Value} {base : Heap}
abbrev WD (E : XK) : WX := fun cls d _ H => E cls d H
/-- THE RULE for a def that takes data and gives data -/
theorem fn_priv {x : Str} {st : Stmt} {N ps : List Str} {k : Nat} {B : Es} (S : FnScope N ps (defScope st))
    (body : ∀ (f : Addr) (cdv : Value) (A : Around) (outer : List Env) (s : Shared) (H : Hp) (E : XK), Room k (A.deeper (envOfC x (defScope st) s.heap.objs.size f cdv)) →
      Takes (cxOf (L2.CX P w) P w K mg base N x (defScope st) f cdv A outer s H E) (WD E) →
      PassesOwn (model P w) (A.deeper (envOfC x (defScope st) s.heap.objs.size f cdv)) (envOfC x (defScope st) s.heap.objs.size f cdv) (cxOf (L2.CX P w) P w K mg base N x (defScope st) f cdv A outer s H E).xe →
      SSs (cxOf (L2.CX P w) P w K mg base N x (defScope st) f cdv A outer s H E) (WD E) (defBody st) B) :
    FnA P w K mg base (k + 1) x st ps (pfOf N.length B) := by
  intro f fd h2
  refine h2.okX S (fun vs H Q E h => ?_) fun cdv A outer s H vs Q E hr h => ?_
  · obtain ⟨ds, _, e, _⟩ := h
    exact e
  · obtain ⟨ds, r, e, q⟩ := h
    refine ⟨_, (body f cdv A outer s H E hr (takes_of rfl rfl rfl rfl) (passes_of rfl)).ps, _, [], [], Sta.nil, sl_start r, ?_⟩
    unfold pfOf at q
    generalize B (ds.map (fun d => some (.d d)) ++ List.replicate (N.length - ds.length) none) [] = z at q
    cases z with
    | next env' h' => exact fun σ' H' m' g s' l => (show ∀ v H', Same H H' → RD K H' v .none → Q v H' from q) .non H' g.same .non
    | ret u h' =>
      cases u with
      | d d => exact fun v H' m' g s' r' => (show ∀ v H', Same H H' → RD K H' v d → Q v H' from q) v H' g.same r'.rd
      | ref n => exact q.elim
      | tup us => exact q.elim
      | exn a => exact q.elim
    | exc c env' h' => exact fun σ' H' m' g s' l C hC => (show ∀ H', Same H H' → ∀ C, mg c = some (.ref C) → E (.ref C) none H' from q) H' g.same C hC
    | stuck => exact q
end

theorem only_frz {K : PySem.W.Frag} {H : Hp} {a : Addr} {vs : List V} (o : Only H) (h : SqL K H a vs) : FzL K H a vs := by
  rcases h with (h | ⟨ob, h⟩) | h
  · rcases o a with z | ⟨ob, xs, z⟩
    · rw [h] at z; cases z
    · rw [h] at z; cases z
  · exact .inl ⟨ob, h⟩
  · exact .inr h
theorem end_of {l : PySem.W.OpenLaw} {n k : Nat} {q : Program} {loose : List Str} {XP : (Str → Option Value) → Heap → Prop} {YP : World → Heap → Prop} {d : DefRec} {K : Params → PySem.W.Frag} {x : Str} {st : Stmt} {F : PF}
    (hn : l.most = some n) (hn2 : n ≤ sizeLine) (hdf : d.params.defaults = []) (hr : Room k callerA)
    (hY : ∀ (w : World) (h : Heap), YP w h → (K w.params).In h)
    (hF : ∀ (w : World) (mg : Str → Option Value) (h : Heap), (K w.params).In h → h.Ns mainGlobals mg → Has (K w.params) mg d.name st [x] ∧ ∀ base : Heap, FnA l.prog w (K w.params) mg base k d.name st [x] F)
    (law : ∀ ns : List Int, ns.length ≤ n → (∀ z ∈ ns, Builtin.Int.intBits z ≤ 1048576) → F [.list (ns.map .int)] = .ok (.bool true)) :
    PySem.W.WalkO q loose XP YP l.row.toRowW d [] (fun f vs => PySem.call f vs) := by
  have tk : ∀ (w : World) (H : Hp) (s : Shared) (e : Value) (s' : Shared), L2.CX l.prog w [] H s (fun _ _ _ => False) e s' → False := fun w H s e s' z => by
    obtain ⟨_, _, _, _, _, _, _, _, _, _, _, _, z⟩ := z
    exact z
  refine Att.attach_callB hn hdf fun w s₀ s₁ mg mb fa o pm cd doc a vs ns G Y ho hd hcd hmg hobj hints hlen hbits hg => ?_
  have KX := hY w _ Y
  obtain ⟨hs, hA⟩ := hF w mg _ KX G.T.g
  obtain ⟨f, fd, h1, h2, h3⟩ := hs.ex
  rw [hmg] at h1
  cases h1
  exact law_call KX G.T.g G.T.b G.T.builtins G.T.nolimit hg hobj hints (Nat.le_trans hlen hn2) hr (sp := spP (K w.params) mg 1 F) (fun base _ _ => hA base fa fd h2) (fun s u => .of_eq (h3 [u] rfl))
    (fun H hO hS => ⟨[.list (ns.map .int)], .cons (.lst (only_frz hO hS) RDs.ints) .nil, rfl, by
      rw [law ns hlen hbits]
      intro v H' _ r
      cases r
      rfl⟩) fun H e s' => tk w H s₁ e s'
end Wk

/-! T7: how the functions come out. -/
namespace Wk
open PySem L2

section
variable {α : Type} {f g k : Ev} {fa : Ea} {p q : Eb} {s t : Es} {env : Env'} {h : Sto} {u w : U}
@[simp] theorem ev_C (d : D) : eC d env h = .ok (.d d) h := (rfl)
@[simp] theorem ev_V (i : Nat) : eV i env h = match env[i]? with | some (some u) => .ok u h | _ => .stuck := (rfl)
@[simp] theorem ev_Bin (F : U → U → Sto → Res U) : eBin F f g env h = (f env h).bind fun u h1 => (g env h1).bind fun w h2 => F u w h2 := (rfl)
@[simp] theorem ev_Un (F : U → Sto → Res U) : eUn F f env h = (f env h).bind F := (rfl)
@[simp] theorem ev_B (F : List U → Sto → Res U) : eB F fa env h = (fa env h).bind F := (rfl)
@[simp] theorem ev_aNil : aNil env h = .ok [] h := (rfl)
@[simp] theorem ev_aCons : aCons f fa env h = (f env h).bind fun u h1 => (fa env h1).bind fun us h2 => .ok (u :: us) h2 := (rfl)
@[simp] theorem ev_tBin (F : U → U → Sto → Res U) : tBin F f g env h = tB (eBin F f g env h) := (rfl)
@[simp] theorem ev_tBb (b : Bool) : tB (.ok (.d (.bool b)) h) = .ok b h := (rfl)
@[simp] theorem ev_tBs : tB .stuck = .stuck := (rfl)
@[simp] theorem ev_tBe (c : Str) : tB (.exc c h) = .exc c h := (rfl)
@[simp] theorem ev_tTru : tTru f env h = (f env h).bind fun u h1 => match truthOf h1 u with | some b => .ok b h1 | none => .stuck := (rfl)
@[simp] theorem ev_truB (b : Bool) : truthOf h (.d (.bool b)) = some b := (rfl)
@[simp] theorem ev_bAnd : bAnd p q env h = (p env h).bind fun b h1 => match b with | true => q env h1 | false => .ok false h1 := (rfl)
@[simp] theorem ev_bOr : bOr p q env h = (p env h).bind fun b h1 => match b with | true => .ok true h1 | false => q env h1 := (rfl)
@[simp] theorem ev_bNot : bNot p env h = (p env h).bind fun b h1 => .ok (!b) h1 := (rfl)
@[simp] theorem ev_eAnd : eAnd f g env h = (tB (f env h)).bind fun b h1 => match b with | true => g env h1 | false => .ok (.d (.bool false)) h1 := (rfl)
@[simp] theorem ev_eOr : eOr f g env h = (tB (f env h)).bind fun b h1 => match b with | true => .ok (.d (.bool true)) h1 | false => g env h1 := (rfl)
@[simp] theorem ev_eNot : eNot f env h = (tB (f env h)).bind fun b h1 => .ok (.d (.bool (!b))) h1 := (rfl)
@[simp] theorem ev_Fz : eFz f env h = (f env h).bind fzR := (rfl)
@[simp] theorem ev_fzd (d : D) : fzR (.d d) h = .ok (.d d) h := (rfl)
@[simp] theorem ev_Tup : eTup fa env h = (fa env h).bind fun us h1 => if us.length ≤ 1000 then (match allD us with | some ds => .ok (.d (.tuple ds)) h1 | none => .ok (.tup us) h1) else .stuck := (rfl)
@[simp] theorem ev_Lst (b : Bool) : eLst b fa env h = (fa env h).bind fun us h1 => if us.length ≤ 1000 then (match allD us with | some ds => mkL b ds h1 | none => .stuck) else .stuck := (rfl)
@[simp] theorem ev_mkT (xs : List D) : mkL true xs h = .ok (.ref h.length) (h ++ [.lst xs]) := (rfl)
@[simp] theorem ev_mkF (xs : List D) : mkL false xs h = .ok (.d (.list xs)) h := (rfl)
@[simp] theorem ev_allN : allD [] = some [] := (rfl)
@[simp] theorem ev_allC (x : D) (r : List U) : allD (.d x :: r) = match allD r with | some xs => some (x :: xs) | none => none := (rfl)
@[simp] theorem ev_Call (F : PF) : eCall F fa env h = (fa env h).bind fun us h1 => match allD us with | some ds => (F ds).res h1 | none => .stuck := (rfl)
@[simp] theorem ev_resK (d : D) : (PR.ok d).res h = .ok (.d d) h := (rfl)
@[simp] theorem ev_resE (c : Str) : (PR.exc c).res h = .exc c h := (rfl)
@[simp] theorem ev_resS : (PR.stuck).res h = .stuck := (rfl)
-- statements
@[simp] theorem ev_Nil : sNil env h = .next env h := (rfl)
@[simp] theorem ev_Seq : sSeq s t env h = (s env h).seq t := (rfl)
@[simp] theorem ev_If : sIf p s t env h = (p env h).then_ env fun b h1 => match b with | true => s env h1 | false => t env h1 := (rfl)
@[simp] theorem ev_Set (i : Nat) : sSet i f env h = (f env h).then_ env fun u h1 => .next (env.set i (some u)) h1 := (rfl)
@[simp] theorem ev_Ret : sRet f env h = (f env h).then_ env fun u h1 => .ret u h1 := (rfl)
@[simp] theorem ev_Expr : sExpr f env h = (f env h).then_ env fun _ h1 => .next env h1 := (rfl)
@[simp] theorem ev_Asg (g : Tg) : sAsg g f env h = (f env h).then_ env fun u h1 => match g u env h1 with | some env' => .next env' h1 | none => .stuck := (rfl)
@[simp] theorem ev_gN (i : Nat) : gN i u env h = some (env.set i (some u)) := (rfl)
@[simp] theorem ev_gT (n : Nat) (r : Tgs) : gTup' n r u env h = match itemsOf h u with | some us => if us.length = n then r us env h else none | none => none := (rfl)
@[simp] theorem ev_gNil : gNil' [] env h = some env := (rfl)
@[simp] theorem ev_gCons (g : Tg) (r : Tgs) (us : List U) : gCons' g r (u :: us) env h = match g u env h with | some env1 => r us env1 h | none => none := (rfl)
@[simp] theorem ev_itT (xs : List D) : itemsOf h (.d (.tuple xs)) = some (xs.map .d) := (rfl)
@[simp] theorem ev_itL (xs : List D) : itemsOf h (.d (.list xs)) = some (xs.map .d) := (rfl)
-- operators
@[simp] theorem ev_add (b : Bool) (i j : Int) : opAdd b (.d (.int i)) (.d (.int j)) h = .ok (.d (.int (i + j))) h := (rfl)
@[simp] theorem ev_sub (i j : Int) : opSub (.d (.int i)) (.d (.int j)) h = .ok (.d (.int (i - j))) h := (rfl)
@[simp] theorem ev_mul (i j : Int) : opMul (.d (.int i)) (.d (.int j)) h = if mulOk i j then .ok (.d (.int (i * j))) h else .stuck := (rfl)
@[simp] theorem ev_fdiv (i j : Int) : opFdiv (.d (.int i)) (.d (.int j)) h = if divOk j then .ok (.d (.int (i / j))) h else .stuck := (rfl)
@[simp] theorem ev_mod (i j : Int) : opMod (.d (.int i)) (.d (.int j)) h = if 0 < j then .ok (.d (.int (i % j))) h else .stuck := (rfl)
theorem ev_pow (i j : Int) (h0 : 0 ≤ j) (h1 : j ≤ 1000000) (h2 : i.natAbs < 2 ^ 64) : opPow (.d (.int i)) (.d (.int j)) h = .ok (.d (.int (i ^ j.toNat))) h := if_pos (ask_t ⟨h0, h1, h2⟩)
@[simp] theorem ev_neg (i : Int) : opNeg (.d (.int i)) h = .ok (.d (.int (-i))) h := (rfl)
@[simp] theorem ev_cmp (c : Int → Int → Bool) (i j : Int) : opI c (.d (.int i)) (.d (.int j)) h = .ok (.d (.bool (c i j))) h := (rfl)
@[simp] theorem ev_int (i : Int) : fInt [.d (.int i)] h = .ok (.d (.int i)) h := (rfl)
@[simp] theorem ev_intB (b : Bool) : fInt [.d (.bool b)] h = .ok (.d (.int (if b then 1 else 0))) h := (rfl)
@[simp] theorem ev_i1 (g : Int → Int) (i : Int) : fI1 g [.d (.int i)] h = .ok (.d (.int (g i))) h := (rfl)
@[simp] theorem ev_i2 (g : Int → Int → Int) (i j : Int) : fI2 g [.d (.int i), .d (.int j)] h = .ok (.d (.int (g i j))) h := (rfl)
@[simp] theorem ev_lenL (xs : List D) : fLen [.d (.list xs)] h = .ok (.d (.int xs.length)) h := (rfl)
@[simp] theorem ev_lenT (xs : List D) : fLen [.d (.tuple xs)] h = .ok (.d (.int xs.length)) h := (rfl)
@[simp] theorem ev_ixT (xs : List D) (i : Int) : opIx (.d (.tuple xs)) (.d (.int i)) h = match atI xs i with | some x => .ok (.d x) h | none => .stuck := (rfl)
@[simp] theorem ev_ixL (xs : List D) (i : Int) : opIx (.d (.list xs)) (.d (.int i)) h = match atI xs i with | some x => .ok (.d x) h | none => .stuck := (rfl)
@[simp] theorem ev_isi (T : Ty) (d : D) : opIsi T (.d d) h = .ok (.d (.bool (isTy T d))) h := (rfl)
end
theorem mulOk_of {i j : Int} (h : i.natAbs < 2 ^ 64 ∨ j.natAbs < 2 ^ 64) : mulOk i j = true := ask_t (h.elim .inl fun z => .inr (.inl z))
theorem mulOk_big {i j : Int} (h1 : i.natAbs < 2 ^ 400000) (h2 : j.natAbs < 2 ^ 400000) : mulOk i j = true := ask_t (.inr (.inr ⟨h1, h2⟩))
theorem divOk_of {j : Int} (h1 : 0 < j) (h2 : j.natAbs < 2 ^ 8000) : divOk j = true := ask_t ⟨h1, h2⟩
theorem fits_of {n : Nat} (h : n ≤ 16777216) : fits n = true := ask_t (by rw [sizeLine_eq]; exact h)
theorem pfOf_ap (n : Nat) (B : Es) (ds : List D) : pfOf n B ds = match B (ds.map (fun d => some (.d d)) ++ List.replicate (n - ds.length) none) [] with
  | .ret (.d d) _ => .ok d
  | .next _ _ => .ok .none
  | .exc c _ _ => .exc c
  | _ => .stuck := (rfl)
@[simp] theorem mulOk_r {i j : Int} (h : j.natAbs < 2 ^ 64) : mulOk i j = true := mulOk_of (.inr h)
@[simp] theorem mulOk_l {i j : Int} (h : i.natAbs < 2 ^ 64) : mulOk i j = true := mulOk_of (.inl h)
theorem natAbs_mod {x m : Int} (h : 0 < m) (h' : m ≤ 2 ^ 64) : (x % m).natAbs < 2 ^ 64 := by
  have h1 := Int.emod_nonneg x (show m ≠ 0 by omega)
  have h2 := Int.emod_lt_of_pos x h
  omega
@[simp] theorem mulOk_ml {x m j : Int} (h : 0 < m) (h' : m ≤ 2 ^ 64) : mulOk (x % m) j = true := mulOk_of (.inl (natAbs_mod h h'))
@[simp] theorem mulOk_mr {x m j : Int} (h : 0 < m) (h' : m ≤ 2 ^ 64) : mulOk j (x % m) = true := mulOk_of (.inr (natAbs_mod h h'))
@[simp] theorem divOk_s {j : Int} (h : 0 < j) (h' : j.natAbs < 2 ^ 64) : divOk j = true := divOk_of h (Nat.lt_of_lt_of_le h' (Nat.pow_le_pow_right (by decide) (by decide)))

/-! ### loops -/
theorem forGo_nil (t : Tg) (b : Es) (env : Env') (h : Sto) : forGo t b [] env h = .next env h := rfl
theorem forGo_cons (t : Tg) (b : Es) (u : U) (us : List U) (env : Env') (h : Sto) : forGo t b (u :: us) env h = match t u env h with | some env1 => (b env1 h).seq (forGo t b us) | none => .stuck := rfl
/-- each turn goes on, and keeps I -/
theorem forGo_inv {t : Tg} {b : Es} : ∀ {us : List U} (I : Nat → Env' → Sto → Prop) (k : Nat) {env : Env'} {h : Sto}, I k env h →
    (∀ (i : Nat) u env h, us[i]? = some u → I (k + i) env h → ∃ env1 env2 h2, t u env h = some env1 ∧ b env1 h = .next env2 h2 ∧ I (k + i + 1) env2 h2) → ∃ env' h', forGo t b us env h = .next env' h' ∧ I (k + us.length) env' h'
  | [], I, k, env, h, h0, _ => ⟨env, h, rfl, h0⟩
  | u :: us, I, k, env, h, h0, st => by
    obtain ⟨env1, env2, h2, e1, e2, h3⟩ := st 0 u env h rfl h0
    obtain ⟨env', h', e3, h4⟩ := forGo_inv (us := us) I (k + 1) h3 (fun i v env h e hi => by
      have q := st (i + 1) v env h (by simpa using e) (by rw [← Nat.add_assoc, Nat.add_right_comm]; exact hi)
      rw [← Nat.add_assoc, Nat.add_right_comm k i 1] at q
      exact q)
    refine ⟨env', h', ?_, ?_⟩
    · rw [forGo_cons, e1]
      show (b env1 h).seq (forGo t b us) = _
      rw [e2]
      exact e3
    · rw [List.length_cons, Nat.add_comm us.length 1, ← Nat.add_assoc]
      exact h4
theorem iRange_get {n : Nat} {lo : Int} {i : Nat} {u : U} (e : (iRange n lo)[i]? = some u) : i < n ∧ u = .d (.int (lo + i)) := by
  unfold iRange at e
  rw [List.getElem?_map] at e
  cases q : (List.range n)[i]? with
  | none => rw [q] at e; cases e
  | some j =>
    rw [q] at e
    have hi := (List.getElem?_eq_some_iff.mp q).1
    rw [List.length_range] at hi
    rw [List.getElem?_range hi] at q
    cases q
    cases e
    exact ⟨hi, rfl⟩
theorem iRange_len (n : Nat) (lo : Int) : (iRange n lo).length = n := by unfold iRange; simp
/-- a while by a number that falls -/
theorem whileGo_ix {c : Eb} {b : Es} (I : Nat → Env' → Sto → Prop) (st : ∀ m env h, I m env h → ∃ k h1, c env h = .ok k h1 ∧ (k = true → ∃ m' env2 h2, m' < m ∧ b env h1 = .next env2 h2 ∧ I m' env2 h2)) :
    ∀ (n m : Nat) (env : Env') (h : Sto), I m env h → m < n → ∃ m' env' h' h1, whileGo c b n env h = .next env' h1 ∧ I m' env' h' ∧ c env' h' = .ok false h1
  | 0, _, _, _, _, hm => absurd hm (Nat.not_lt_zero _)
  | n + 1, m, env, h, hi, hm => by
    obtain ⟨k, h1, e1, hk⟩ := st m env h hi
    cases k with
    | false => exact ⟨m, env, h, h1, by unfold whileGo; rw [e1]; rfl, hi, e1⟩
    | true =>
      obtain ⟨m2, env2, h2, lt, e2, i2⟩ := hk rfl
      obtain ⟨m', env', h', h3, e3, i3, e4⟩ := whileGo_ix I st n m2 env2 h2 i2 (by omega)
      exact ⟨m', env', h', h3, by unfold whileGo; rw [e1]; simp only [Res.then_ok]; rw [e2]; exact e3, i3, e4⟩
@[simp] theorem ev_While (n : Nat) (c : Eb) (b : Es) (env : Env') (h : Sto) : sWhile n c b env h = whileGo c b n env h := (rfl)
theorem lcGo_nil (t : Tg) (c : Eb) (e : Ev) (env : Env') (acc : List D) (h : Sto) : lcGo t c e env [] acc h = .ok acc h := rfl
/-- a comprehension without a test, whose items are f of the place -/
theorem lcGo_map {t : Tg} {e : Ev} {env : Env'} {h : Sto} : ∀ {us : List U} (f : U → D) (acc : List D), (∀ u ∈ us, ∃ env1, t u env h = some env1 ∧ e env1 h = .ok (.d (f u)) h) → acc.length + us.length ≤ 16777216 → lcGo t cYes e env us acc h = .ok (acc ++ us.map f) h
  | [], f, acc, _, _ => by rw [lcGo_nil, List.map_nil, List.append_nil]
  | u :: us, f, acc, H, hl => by
    obtain ⟨env1, e1, e2⟩ := H u List.mem_cons_self
    rw [List.length_cons] at hl
    have ih := lcGo_map (t := t) (e := e) (env := env) (h := h) (us := us) f (acc ++ [f u]) (fun v hv => H v (List.mem_cons_of_mem _ hv)) (by rw [List.length_append, List.length_singleton]; omega)
    unfold lcGo
    simp only [e1, cYes, Res.bind_ok, e2]
    rw [if_pos (fits_of (by omega)), ih]
    simp
end Wk

/-! LB: the helpers that every law has: a cell of the script, mixed numbers, a row of digits. -/
namespace Wk
open PySem L2
@[simp] theorem ev_For (it : Ea) (t : Tg) (b : Es) (env : Env') (h : Sto) : sFor it t b env h = (it env h).then_ env fun us h1 => forGo t b us env h1 := (rfl)
@[simp] theorem ev_iR1 (fa : Ea) (env : Env') (h : Sto) : iR1 fa env h = (fa env h).bind fun us h1 => match us with | [u] => (match intOf u with | some j => if rngOk j then .ok (iRange j.toNat 0) h1 else .stuck | none => .stuck) | _ => .stuck := (rfl)
@[simp] theorem ev_iR2 (fa : Ea) (env : Env') (h : Sto) : iR2 fa env h = (fa env h).bind fun us h1 => match us with | [u, w] => (match intOf u, intOf w with | some i, some j => if rngOk i && rngOk j then .ok (iRange (j - i).toNat i) h1 else .stuck | _, _ => .stuck) | _ => .stuck := (rfl)
@[simp] theorem ev_intOf (i : Int) : intOf (.d (.int i)) = some i := (rfl)
@[simp] theorem ev_Lc (b : Bool) (vs : List Nat) (it : Ea) (t : Tg) (c : Eb) (e : Ev) (env : Env') (h : Sto) : eLc b vs it t c e env h = (it env h).bind fun us h1 => (lcGo t c e (wipeE env vs) us [] h1).noExc.bind fun xs h2 => mkL b xs h2 := (rfl)
@[simp] theorem ev_noExc {α : Type} (x : α) (h : Sto) : (Res.ok x h).noExc = .ok x h := (rfl)
@[simp] theorem ev_Ml (F : U → List U → Sto → Res U) (f : Ev) (fa : Ea) (env : Env') (h : Sto) : eMl F f fa env h = (f env h).bind fun u h1 => match listOf h1 u with | some _ => (fa env h1).bind fun us h2 => F u us h2 | none => .stuck := (rfl)
@[simp] theorem ev_fzr (n : Nat) (h : Sto) : fzR (.ref n) h = match dataOf h (.ref n) with | some x => .ok (.d x) (fzH (refsOf (.ref n)) h) | none => .stuck := (rfl)
@[simp] theorem ev_dat (n : Nat) (h : Sto) : dataOf h (.ref n) = (listOf h (.ref n)).map .list := by rw [dataOf]
@[simp] theorem ev_lstR (n : Nat) (h : Sto) : listOf h (.ref n) = match h[n]? with | some (.lst xs) => some xs | some (.frz xs) => some xs | _ => none := (rfl)
@[simp] theorem ev_lstD (xs : List D) (h : Sto) : listOf h (.d (.list xs)) = some xs := (rfl)
@[simp] theorem ev_app (n : Nat) (x : D) (h : Sto) : fApp (.ref n) [.d x] h = match h[n]? with | some (.lst xs) => if fits (xs.length + 1) then .ok (.d .none) (h.set n (.lst (xs ++ [x]))) else .stuck | _ => .stuck := (rfl)
theorem shaped_int (i : Int) : SeqAt.shaped (.int i) = true := (rfl)
theorem eqv_int (i j : Int) : PyData.eqv (.int i) (.int j) = decide (i = j) := by
  rw [PyData.eqv]
  exact (Bool.beq_eq_decide_eq i j)
@[simp] theorem ev_eqI (n : Bool) (i j : Int) (h : Sto) : opEqB n (.d (.int i)) (.d (.int j)) h = .ok (.d (.bool (xor n (decide (i = j))))) h := by
  unfold opEqB
  simp only [strOf, dataOf, shaped_int, Bool.and_self, if_true, eqv_int]
theorem rng_of {i : Int} (h1 : -1000000000000 ≤ i) (h2 : i ≤ 1000000000000) : rngOk i = true := ask_t ⟨by omega, by omega⟩
theorem atI_map {α β : Type} (f : α → β) (xs : List α) (i : Int) : atI (xs.map f) i = (atI xs i).map f := by
  unfold atI
  rw [List.length_map]
  cases ixN xs.length i with
  | none => rfl
  | some j => simp
theorem atI_in {α : Type} {xs : List α} {i : Int} (h0 : 0 ≤ i) (h1 : i < xs.length) : ∃ x, atI xs i = some x ∧ x ∈ xs := by
  have hj : i.toNat < xs.length := by omega
  refine ⟨xs[i.toNat], ?_, List.getElem_mem hj⟩
  have q : atI xs ((i.toNat : Nat) : Int) = some xs[i.toNat] := atI_nat (List.getElem?_eq_getElem hj)
  have e : ((i.toNat : Nat) : Int) = i := by omega
  rw [e] at q
  exact q

noncomputable def B_cell : Es := (sSeq (sIf (tBin opLt (eV 1) (eB fLen (aCons (eV 0) aNil)))
    (sRet (eBin opIx (eV 0) (eV 1)))
    sNil)
    (sSeq (sSet 2 (eBin (opAdd false) (eBin opMul (eBin opMul (eV 1) (eV 1)) (eC (.int 7919))) (eC (.int 104729))))
    (sSeq (sIf (tBin opGt (eB fLen (aCons (eV 0) aNil)) (eC (.int 0)))
    (sSet 2 (eBin (opAdd false) (eV 2) (eBin opMul (eBin opMod (eBin opIx (eV 0) (eBin opMod (eBin opMul (eV 1) (eC (.int 7))) (eB fLen (aCons (eV 0) aNil)))) (eBin opPow (eC (.int 10)) (eC (.int 40)))) (eBin (opAdd false) (eC (.int 48271)) (eV 1)))))
    sNil)
    (sRet (eBin opMod (eBin opMul (eV 2) (eV 2)) (eC (.int 2305843009213693951)))))))
noncomputable def B_mixed : Es := (sSeq (sSet 2 (eBin opMod (eBin (opAdd false) (eBin (opAdd false) (eV 0) (eBin opMul (eBin opMul (eV 1) (eV 1)) (eC (.int 40503)))) (eC (.int 12345))) (eC (.int 2305843009213693951))))
    (sSeq (sSet 2 (eBin opMod (eBin opMul (eV 2) (eV 2)) (eC (.int 2305843009213693951))))
    (sSeq (sSet 2 (eBin opMod (eBin opMul (eBin (opAdd false) (eBin (opAdd false) (eV 2) (eBin opMul (eV 1) (eC (.int 7919)))) (eC (.int 1))) (eC (.int 48271))) (eC (.int 2305843009213693951))))
    (sRet (eBin opFdiv (eBin opMod (eBin opMul (eV 2) (eV 2)) (eC (.int 2305843009213693951))) (eC (.int 1024)))))))
noncomputable def B_row : Es := (sSeq (sSet 3 (eLst true aNil))
    (sSeq (sSet 4 (eV 0))
    (sSeq (sFor (iR1 (aCons (eV 2) aNil)) (gN 5)
    (sSeq (sExpr (eMl fApp (eV 3) (aCons (eBin opMod (eV 4) (eV 1)) aNil)))
    (sSet 4 (eBin opFdiv (eV 4) (eV 1)))))
    (sSeq (sIf (tBin opGt (eV 4) (eC (.int 0)))
    (sRet (eFz (eV 3)))
    sNil)
    (sRet (eLc false [5] (iR1 (aCons (eV 2) aNil)) (gN 5) cYes (eBin opMod (eCall (pfOf 3 B_mixed) (aCons (eV 0) (aCons (eV 5) aNil))) (eV 1))))))))

theorem mixed_ev (c k : Int) (h0 : 0 ≤ k) (h1 : k < 1000000) : ∃ r, pfOf 3 B_mixed [.int c, .int k] = .ok (.int r) ∧ 0 ≤ r := by
  have m1 : mulOk k k = true := mulOk_of (.inl (by omega))
  simp [pfOf_ap, B_mixed, m1]
  exact Int.ediv_nonneg (Int.emod_nonneg _ (by decide)) (by decide)
theorem ev_pow40 (h : Sto) : opPow (.d (.int 10)) (.d (.int 40)) h = .ok (.d (.int 10000000000000000000000000000000000000000)) h := by
  rw [ev_pow _ _ (by decide) (by decide) (by decide)]
  rfl
theorem cell_ev (ns : List Int) (k : Int) (h0 : 0 ≤ k) (h1 : k < 1000000) (hl : ns.length < 1000000) : ∃ r, pfOf 3 B_cell [.list (ns.map .int), .int k] = .ok (.int r) := by
  have m1 : mulOk k k = true := mulOk_of (.inl (by omega))
  have m3 : mulOk (k * k * 7919 + 104729) (k * k * 7919 + 104729) = true := by
    have hk : k * k ≤ 1000000 * 1000000 := Int.mul_le_mul (by omega) (by omega) h0 (by decide)
    have hk0 : 0 ≤ k * k := Int.mul_nonneg h0 h0
    exact mulOk_of (.inl (by omega))
  by_cases hk : k < ns.length
  · obtain ⟨x, e, _⟩ := atI_in h0 hk
    simp [pfOf_ap, B_cell, hk, atI_map, e]
  · by_cases hz : ns.length = 0
    · simp [pfOf_ap, B_cell, hz, m1, m3, show ¬ k < 0 by omega]
    · have hp : (0 : Int) < ns.length := by omega
      obtain ⟨x, e, _⟩ := atI_in (xs := ns) (i := k * 7 % ns.length) (Int.emod_nonneg _ (by omega)) (Int.emod_lt_of_pos _ hp)
      have hp' : 0 < ns.length := by omega
      have m4 : mulOk (x % 10000000000000000000000000000000000000000) (48271 + k) = true := mulOk_of (.inr (by omega))
      have m5 : mulOk (k * k * 7919 + 104729 + x % 10000000000000000000000000000000000000000 * (48271 + k)) (k * k * 7919 + 104729 + x % 10000000000000000000000000000000000000000 * (48271 + k)) = true := by
        have hk : k * k ≤ 1000000 * 1000000 := Int.mul_le_mul (by omega) (by omega) h0 (by decide)
        have hk0 : 0 ≤ k * k := Int.mul_nonneg h0 h0
        have hy := Int.emod_nonneg x (show (10000000000000000000000000000000000000000 : Int) ≠ 0 by decide)
        have hy2 := Int.emod_lt_of_pos x (show (0 : Int) < 10000000000000000000000000000000000000000 by decide)
        have hp2 : x % 10000000000000000000000000000000000000000 * (48271 + k) ≤ 10000000000000000000000000000000000000000 * 2000000 := Int.mul_le_mul (by omega) (by omega) (by omega) (by decide)
        have hp0 : 0 ≤ x % 10000000000000000000000000000000000000000 * (48271 + k) := Int.mul_nonneg hy (by omega)
        have hb : (k * k * 7919 + 104729 + x % 10000000000000000000000000000000000000000 * (48271 + k)).natAbs < 2 ^ 200 := by omega
        have hc : (2 : Nat) ^ 200 ≤ 2 ^ 400000 := Nat.pow_le_pow_right (by decide) (by decide)
        exact mulOk_big (Nat.lt_of_lt_of_le hb hc) (Nat.lt_of_lt_of_le hb hc)
      simp [pfOf_ap, B_cell, hk, hp', m1, ev_pow40, atI_map, e, m4, m5]
theorem row_ev (c most : Int) (n : Nat) (hm : 0 < most) (hm2 : most < 2 ^ 64) (hn : n ≤ 1000) : ∃ l : List Int, pfOf 6 B_row [.int c, .int most, .int n] = .ok (.list (l.map .int)) ∧ l.length = n ∧ ∀ x ∈ l, 0 ≤ x ∧ x < most := by
  have hr : rngOk (n : Int) = true := rng_of (by omega) (by omega)
  have hd : divOk most = true := divOk_s hm (by omega)
  obtain ⟨env', h', e, l, rest, k5, e1, e2, e3, e4⟩ := forGo_inv (t := gN 5) (b := sSeq (sExpr (eMl fApp (eV 3) (aCons (eBin opMod (eV 4) (eV 1)) aNil))) (sSet 4 (eBin opFdiv (eV 4) (eV 1)))) (us := iRange n 0)
    (fun i env h => ∃ (l : List Int) (rest : Int) (k5 : Option U), env = [some (.d (.int c)), some (.d (.int most)), some (.d (.int n)), some (.ref 0), some (.d (.int rest)), k5] ∧ h = [.lst (l.map .int)] ∧ l.length = i ∧ ∀ x ∈ l, 0 ≤ x ∧ x < most) 0
    (env := [some (.d (.int c)), some (.d (.int most)), some (.d (.int n)), some (.ref 0), some (.d (.int c)), none]) (h := [.lst []]) ⟨[], c, none, rfl, rfl, rfl, by simp⟩ (fun i u env h eu hI => by
      obtain ⟨l, rest, k5, rfl, rfl, e3, e4⟩ := hI
      obtain ⟨hi, rfl⟩ := iRange_get eu
      refine ⟨_, [some (.d (.int c)), some (.d (.int most)), some (.d (.int n)), some (.ref 0), some (.d (.int (rest / most))), some (.d (.int (0 + i)))], [.lst ((l ++ [rest % most]).map .int)], rfl, ?_, l ++ [rest % most], rest / most, _, rfl, rfl, by simp [e3], fun x hx => ?_⟩
      · simp [hm, hd, fits_of (show l.length + 1 ≤ 16777216 by omega)]
      · rcases List.mem_append.mp hx with z | z
        · exact e4 x z
        · rw [List.mem_singleton.mp z]
          exact ⟨Int.emod_nonneg _ (by omega), Int.emod_lt_of_pos _ hm⟩)
  subst e1 e2
  rw [iRange_len] at e3
  by_cases hrest : 0 < rest
  · refine ⟨l, ?_, by omega, e4⟩
    simp [pfOf_ap, B_row, hr, e, hrest]
  · have hmix : ∀ k : Nat, ∃ r, k < 1000000 → pfOf 3 B_mixed [.int c, .int k] = .ok (.int r) := fun k => by
      by_cases hk : k < 1000000
      · obtain ⟨r, h1, _⟩ := mixed_ev c k (by omega) (by omega)
        exact ⟨r, fun _ => h1⟩
      · exact ⟨0, fun z => absurd z hk⟩
    obtain ⟨mx, hmx⟩ := Classical.axiomOfChoice hmix
    refine ⟨(List.range n).map fun k => mx k % most, ?_, by simp, fun x hx => ?_⟩
    · have lc := lcGo_map (t := gN 5) (e := eBin opMod (eCall (pfOf 3 B_mixed) (aCons (eV 0) (aCons (eV 5) aNil))) (eV 1)) (env := [some (.d (.int c)), some (.d (.int most)), some (.d (.int n)), some (.ref 0), some (.d (.int rest)), none]) (h := [.lst (l.map .int)])
        (us := iRange n 0) (fun u => .int (mx ((intOf u).getD 0).toNat % most)) [] (fun u hu => by
          obtain ⟨i, hi⟩ := List.mem_iff_getElem?.mp hu
          obtain ⟨hi, rfl⟩ := iRange_get hi
          have hq : pfOf 3 B_mixed [.int c, .int (i : Int)] = .ok (.int (mx i)) := hmx i (by omega)
          refine ⟨_, rfl, ?_⟩
          simp [hq, hm]) (by rw [iRange_len]; simp; omega)
      have em : (iRange n 0).map (fun u => PyData.int (mx ((intOf u).getD 0).toNat % most)) = ((List.range n).map fun k => mx k % most).map .int := by
        unfold iRange
        rw [List.map_map, List.map_map]
        refine List.map_congr_left fun k _ => ?_
        simp
      rw [List.nil_append, em] at lc
      simp only [List.map_map] at lc
      simp [pfOf_ap, B_row, hr, e, hrest, wipeE, lc]
    · obtain ⟨k, _, rfl⟩ := List.mem_map.mp hx
      exact ⟨Int.emod_nonneg _ (by omega), Int.emod_lt_of_pos _ hm⟩
@[simp] theorem ev_Sl (b : Bool) (f : Ev) (lo hi : Eo) (env : Env') (h : Sto) : eSl b f lo hi env h = (f env h).bind fun u h1 => (lo env h1).bind fun l h2 => (hi env h2).bind fun r h3 => opSl b u l r h3 := (rfl)
@[simp] theorem ev_oNo (env : Env') (h : Sto) : oNo env h = .ok none h := (rfl)
@[simp] theorem ev_oSo (f : Ev) (env : Env') (h : Sto) : oSo f env h = (f env h).bind fun u h1 => match intOf u with | some i => .ok (some i) h1 | none => .stuck := (rfl)
@[simp] theorem ev_slL (b : Bool) (xs : List D) (lo hi : Option Int) (h : Sto) : opSl b (.d (.list xs)) lo hi h = mkL b (cutD xs lo hi) h := (rfl)
@[simp] theorem ev_slT (b : Bool) (xs : List D) (lo hi : Option Int) (h : Sto) : opSl b (.d (.tuple xs)) lo hi h = .ok (.d (.tuple (cutD xs lo hi))) h := (rfl)
end Wk

/-! T8: zip, reversed, in. -/
namespace RT
open PySem PySem.Spec PyProof.Rows
section
variable {prog : Program} {w : World} {A : Around} {E : Value → Shared → Prop} {s : Shared}
theorem call_list_rev {it l : Addr} {items : Array Value} {Q : Value → Shared → Prop} (hh : A.handled = none) (hit : s.heap.IsRevIter it l ((items.size : Int) - 1)) (hl : s.heap.IsList l items) (hne : l ≠ it) (hn : items.size ≤ sizeLine)
    (hQ : ∀ (h' : Heap) (tk : Nat) (acc : Array Value) (c' : Nat), (∀ b o, b ≠ it → s.heap.get? b = some o → h'.get? b = some o) → h'.get? s.heap.objs.size = some { cls := .type "list", dict := none, data := .seq acc c', slots := #[] } →
      ItemsOf (fun i v => items[items.size - 1 - i]? = some v) acc items.size → Q (.ref s.heap.objs.size) { s with heap := h', toks := tk }) :
    wpAny (model prog w) A (call (.type "list") [.ref it]) Q E s := by
  have W := (Walks.listRev (prog := prog) (w := w) (A := A.in1.in1) hh it l hne items).toS
  obtain ⟨oi, hoi, _⟩ := id hit
  obtain ⟨ol, hol, _⟩ := id hl
  have hSi : s.heap.objs.size ≠ it := Nat.ne_of_gt (Heap.lt_size hoi)
  have hSl : s.heap.objs.size ≠ l := Nat.ne_of_gt (Heap.lt_size hol)
  have hSf : s.heap.objs.size ∉ [it, l] := by simp only [List.mem_cons, List.not_mem_nil, or_false, not_or]; exact ⟨hSi, hSl⟩
  refine callType_codes (Q₁ := fun obj s₁ => obj = .ref s.heap.objs.size ∧ s₁ = { s with heap := s.heap.push { cls := .type "list", data := .seq #[] } }) F.called_list (F.typeCall_list_1 _) F.entry_list_init
    (code_list_new _ ⟨rfl, rfl⟩) fun obj s₁ h₁ => ?_
  obtain ⟨rfl, rfl⟩ := h₁
  have hS : (s.heap.push { cls := .type "list", data := .seq #[] }).get? s.heap.objs.size = some { cls := .type "list", data := .seq #[] } := Heap.get?_push_size _ rfl
  refine ⟨⟨_, hS, rfl⟩, F.args_list_init_2 _ _, ?_⟩
  show wpAny _ A.in1.in1 (do let old ← Builtin.List.listItems (.ref s.heap.objs.size); Builtin.List.listUpdate (.ref s.heap.objs.size) (fun _ => #[]); letGo old.toList.reverse; Builtin.List.listExtendWith (.ref s.heap.objs.size) (.ref it) .none) _ _ _
  refine wpAny_bind ?_
  unfold Builtin.List.listItems
  refine wpAny_bind (wpAny_seqItems hS rfl (wpAny_pure ?_))
  show wpAny _ A.in1.in1 (updateSeq s.heap.objs.size (fun _ => #[]) >>= fun _ => letGo (#[] : Array Value).toList.reverse >>= fun _ => Builtin.List.listExtendWith (.ref s.heap.objs.size) (.ref it) .none) _ _ _
  refine wpAny_bind (wpAny_updateSeq hS rfl ?_)
  have hS₂ := Heap.get?_update_self (Obj.mapSeq (fun _ => (#[] : Array Value))) hS rfl
  have oth : ∀ b o, s.heap.get? b = some o → ((s.heap.push { cls := .type "list", data := .seq #[] }).update s.heap.objs.size (Obj.mapSeq (fun _ => (#[] : Array Value)))).get? b = some o :=
    fun b o e => (Heap.get?_update_other _ _ (Nat.ne_of_gt (Heap.lt_size e))).trans (Heap.get?_push_of_some _ e)
  refine wpAny_bind (wpAny_letGo ?_)
  generalize ((s.heap.push { cls := .type "list", data := .seq #[] }).update s.heap.objs.size (Obj.mapSeq (fun _ => (#[] : Array Value)))) = h2 at hS₂ oth
  have hit1 : h2.IsRevIter it l ((items.size : Int) - 1) := hit.at fun o e => oth _ _ e
  have hl1 : h2.IsList l items := hl.at fun o e => oth _ _ e
  have hT : ({ s with heap := h2 } : Shared).TypeIs (.ref it) "list_reverseiterator" := Heap.IsRevIter.typeIs (s := { s with heap := h2 }) hit1
  have h1 : Builtin.List.listSameRef (.ref s.heap.objs.size) (.ref it) = false := by simp [Builtin.List.listSameRef, hSi]
  unfold Builtin.List.listExtendWith
  refine wpAny_bind (wpAny_typeOf hT ?_)
  rw [if_neg (by rw [h1]; decide)]
  refine wpAny_bind (wpAny_pyIter_revIter (s := { s with heap := h2 }) hit1 ?_)
  refine wpAny_bind (wpAny_holding ?_)
  unfold Builtin.List.listLengthHint
  refine wpAny_bind (wpAny_specialOf hT nolen_lri ?_)
  show wpAny _ A.in1.in1 (specialOf (Value.ref it) (Str.ofString "__length_hint__") >>= _) _ _ _
  refine wpAny_bind (wpAny_specialOf hT hint_lri ?_)
  generalize hid : ("list_reverseiterator.__length_hint__" : String) = id0
  wp_delta
  rw [show splitId id0 = some ("list_reverseiterator", "__length_hint__") from by subst hid; decide +kernel]
  subst hid
  refine wpAny_bind (wpAny_isInstance (b := true) hT (by rw [isSubtype_type]; kernel_rfl) ?_)
  refine wpAny_pure ?_
  rw [if_neg (by decide)]
  have e0 : ((items.size : Nat) : Int) - 1 - ((0 : Nat) : Int) = (items.size : Int) - 1 := by omega
  refine wpAny_pure ⟨plainId_quiet F.plain_extend_loop _, codeAny_extend_loopS W hn _ hSf _ items.size 0 _ _ _ rfl (Nat.zero_le _) ⟨Nat.zero_le _, by rw [e0]; exact hit1, hl1⟩ hS₂ (ItemsOf.nil _) fun s' acc' c' hm hS' hacc => ?_⟩
  refine ⟨rfl, ?_⟩
  rw [Moved.eq_with hm]
  refine hQ s'.heap s'.toks acc' c' (fun b o hb e => hm.heap b o (fun hmem => ?_) (oth b o e)) hS' hacc
  rcases List.mem_cons.mp hmem with e' | hmem
  · exact absurd (Heap.lt_size e) (by rw [e']; exact Nat.lt_irrefl _)
  · exact hb (List.mem_singleton.mp hmem)
end
end RT
namespace L2
open PySem PySem.Spec PyProof.Rows
section
variable {X : Cx}
/-- list(reversed(x)), x a list -/
def tListRev (K : PySem.W.Frag) (te : TE) : TE := fun σ H Q => te σ H fun v H1 => ∃ (a : Addr) (xs : List V), v = .ref a ∧ SqL K H1 a xs ∧ ∀ q, H1 q = none → Q (.ref q) (upd H1 q (.lst xs.reverse))
theorem pe_listRev {e : Expr} {te : TE} {p p2 pos pos2 : Pos} (hc : X.calm = true) (hg : Gl X "list") (hm : X.mg "list" = none) (hg2 : Gl X "reversed") (hm2 : X.mg "reversed" = none) (he : PE X e te)
    (hs : starEach [e] X.env = (false, eval e X.env) :: starEach [] X.env := by rfl)
    (hs2 : starEach [.Call (.Name "reversed" p2) [e] [] pos2] X.env = (false, eval (.Call (.Name "reversed" p2) [e] [] pos2) X.env) :: starEach [] X.env := by rfl) :
    PE X (.Call (.Name "list" p) [.Call (.Name "reversed" p2) [e] [] pos2] [] pos) (tListRev X.K te) := by
  refine ⟨fun pins s σ H Q I h => ?_⟩
  refine Call_ (ld_blt I hg hm boot_list (PyProof.Rows.callWith_type1 (args_cons (Call_ (ld_blt I hg2 hm2 PyProof.Rows.boot_reversed (PyProof.Rows.callWith_type1 (args_cons (thn (he.run pins s σ H _ I h) fun u s1 ⟨v, H1, I1, r1, q1⟩ => args_nil ?_) hs) hs rfl))) hs2) hs2 rfl))
  obtain ⟨a, xs, ev, hq, q⟩ := q1
  subst ev
  obtain rfl : u = Value.ref a := r1
  obtain ⟨its, rv, p', hz⟩ := I1.list hq
  refine call_reversed_list p'.isList (args_nil ?_)
  have k0 : ∀ b o, s1.heap.get? b = some o → (s1.heap.push (revObj a ((its.toArray.size : Int) - 1))).get? b = some o := fun b o e => Heap.get?_push_of_some _ e
  have I2 : Inv X pins σ H1 { s1 with heap := s1.heap.push (revObj a ((its.toArray.size : Int) - 1)) } := I1.kept (t' := s1.toks) k0
  obtain ⟨f0, f1, f2, f3, f4, f5⟩ := I1.fpOk (H' := H1) (b := s1.heap.objs.size) (Nat.le_refl _) (I1.hok.fresh (Nat.le_refl _))
  have hl := p'.isList
  obtain ⟨ol, hol, _⟩ := id hl
  have hne : a ≠ s1.heap.objs.size := Nat.ne_of_lt (Heap.lt_size hol)
  have hn : its.toArray.size ≤ sizeLine := by rw [List.size_toArray, ← rv.length]; exact hz
  refine RT.call_list_rev (s := { s1 with heap := s1.heap.push (revObj a ((its.toArray.size : Int) - 1)) }) (I1.ok.hd hc) ⟨_, Heap.get?_push_size _ rfl, rfl, rfl⟩ (hl.push _) hne hn fun h' tk acc c' hk hS hi => ?_
  have hL : s1.heap.objs.size ≠ (s1.heap.push (revObj a ((its.toArray.size : Int) - 1))).objs.size := by simp [Heap.push]
  have nL := I2.hok.fresh (Nat.le_refl (s1.heap.push (revObj a ((its.toArray.size : Int) - 1))).objs.size)
  have I3 := I2.laid (t' := tk) (o := .lst xs.reverse) (h' := (s1.heap.push (revObj a ((its.toArray.size : Int) - 1))).push { cls := .type "list", data := .seq acc c' }) (fun c o e => Heap.get?_push_of_some _ e) (Nat.le_refl _) (show ObjOk X.prog X.w _ _ _ (.lst xs.reverse) from ⟨by rw [List.length_reverse]; exact hz, acc.toList, c', RT.vals_rev rv hi, by rw [Array.toArray_toList]; exact Heap.get?_push_size _ rfl⟩)
  have I4 := I3.turned (t' := tk) (h' := h') (it := s1.heap.objs.size) (fun b o hb e => ?_) (by rw [upd_ne hL]; exact f0) f1 f3 f4 f5
  · exact ⟨.ref _, _, I4, rfl, q _ nL⟩
  · rcases Heap.get?_push_cases e with ⟨rfl, rfl⟩ | e
    · exact hS
    · exact hk b o hb e
end
end L2
namespace Wk
open PySem PySem.Spec PyProof.Rows L2
/-! ### list(reversed(x)), tuple(reversed(x)) -/
def opRevL (b : Bool) (u : U) (h : Sto) : Res U := match listOf h u with
  | some xs => mkL b xs.reverse h
  | none => .stuck
def opRevT (u : U) (h : Sto) : Res U := match listOf h u with
  | some xs => .ok (.d (.tuple xs.reverse)) h
  | none => .stuck
section
variable {X : Cx} {W : WX} {a : Expr} {f : Ev} {p p2 pos pos2 : Pos}
theorem se_revL (b : Bool) (hc : X.calm = true) (hg : Gl X "list") (hm : X.mg "list" = none) (hg2 : Gl X "reversed") (hm2 : X.mg "reversed" = none) (he : SE X W a f)
    (hs : starEach [a] X.env = (false, eval a X.env) :: starEach [] X.env := by rfl)
    (hs2 : starEach [.Call (.Name "reversed" p2) [a] [] pos2] X.env = (false, eval (.Call (.Name "reversed" p2) [a] [] pos2) X.env) :: starEach [] X.env := by rfl) :
    SE X W (.Call (.Name "list" p) [.Call (.Name "reversed" p2) [a] [] pos2] [] pos) (eUn (opRevL b) f) :=
  ⟨pe_imp (pe_gh (pe_listRev hc hg hm hg2 hm2 he.pe hs hs2)) fun σ H Q ⟨env, m, h, sta, sl, out⟩ => rd_of sta sl out fun u h1 x H1 m1 g1 s1 r1 out1 => by
    unfold opRevL at out1
    split at out1
    · rename_i ys e
      obtain ⟨q, vs, rfl, t1, d1⟩ := listOf_v s1 e r1
      exact ⟨q, vs, rfl, t1, fun l nl => mkL_ok s1 nl d1.rev out1⟩
    · exact out1.elim⟩
theorem se_revT (hc : X.calm = true) (hg : Gl X "tuple") (hm : X.mg "tuple" = none) (hg2 : Gl X "reversed") (hm2 : X.mg "reversed" = none) (he : SE X W a f)
    (hs : starEach [a] X.env = (false, eval a X.env) :: starEach [] X.env := by rfl)
    (hs2 : starEach [.Call (.Name "reversed" p2) [a] [] pos2] X.env = (false, eval (.Call (.Name "reversed" p2) [a] [] pos2) X.env) :: starEach [] X.env := by rfl) :
    SE X W (.Call (.Name "tuple" p) [.Call (.Name "reversed" p2) [a] [] pos2] [] pos) (eUn opRevT f) :=
  ⟨pe_imp (RT.pe_tupRev hc hg hm hg2 hm2 he.pe hs hs2) fun σ H Q ⟨env, m, h, sta, sl, out⟩ => rd_of sta sl out fun u h1 x H1 m1 g1 s1 r1 out1 => by
    unfold opRevT at out1
    split at out1
    · rename_i ys e
      obtain ⟨q, vs, rfl, t1, d1⟩ := listOf_v s1 e r1
      refine ⟨q, vs, rfl, t1, fun l nl => ?_⟩
      have sm : Same H1 (upd H1 l (.tup vs.reverse)) := Same.lay nl
      exact Out.ok (b := V.ref l) out1 (Gr.of_same sm m1) (s1.same sm) (.d (.tup (.inl (.inl upd_same)) (RDs.kp (Kp.same sm) _ _ d1.rev)))
    · exact out1.elim⟩
end
/-! ### zip -/
def zipD (xs ys : List D) : List U := List.zipWith (fun x y => U.d (.tuple [x, y])) xs ys
def iZip (fa : Ea) : Ea := fun env h => (fa env h).bind fun us h1 => match us with
  | [.d (.list xs), .d (.list ys)] => .ok (zipD xs ys) h1
  | [.d (.tuple xs), .d (.tuple ys)] => .ok (zipD xs ys) h1
  | _ => .stuck
section
variable {X : Cx} {W : WX} {a b : Expr} {fa : Ea} {p pos tpos : Pos} {elts : List Expr} {kk : Nat}
theorem zipD_get {xs ys : List D} {i : Nat} {u : U} (e : (zipD xs ys)[i]? = some u) : ∃ x y, xs[i]? = some x ∧ ys[i]? = some y ∧ u = .d (.tuple [x, y]) := by
  unfold zipD at e
  rw [List.getElem?_zipWith] at e
  split at e
  · rename_i x y h1 h2
    cases e
    exact ⟨x, y, h1, h2, rfl⟩
  · cases e
theorem si_zip (hg : Gl X "zip") (hm : X.mg "zip" = none) (ha : SA X W [a, b] fa)
    (hs : starEach [a, b] X.env = (false, eval a X.env) :: starEach [b] X.env := by rfl) (hpl : (backTo pos (starEach [b] X.env)).any (·.1) = false := by rfl) :
    SI X W (.Tuple elts kk tpos) (.Call (.Name "zip" p) [a, b] [] pos) (iZip fa) :=
  ⟨pi_imp (RZ.pi_zipA hg hm ha.pa hs hpl) fun σ H R ⟨env, m, h, sta, sl, out⟩ => rd_of sta sl out fun us h1 vs H1 m1 g1 s1 r1 out1 => by
    split at out1
    · cases r1 with
      | cons ra rb =>
        cases rb with
        | cons rb rc =>
          cases rc
          cases ra.rd with
          | lst t d =>
            cases rb.rd with
            | lst t' d' =>
              refine ⟨_, _, _, _, rfl, .inl ⟨t.sq, t'.sq, Out.here (b := Itz X.K _ _) out1 s1 fun H' m' k pre => ?_⟩⟩
              have q1 := (k.fzL t).sq
              have q2 := (k.fzL t').sq
              refine ⟨fun i hi => ⟨_, _, q1, q2, ?_⟩, fun i u e => ?_⟩
              · unfold zipD at hi
                rw [List.length_zipWith] at hi
                have := d.len
                have := d'.len
                omega
              · obtain ⟨x, y, e1, e2, rfl⟩ := zipD_get e
                obtain ⟨v, f1, w1⟩ := d.get e1
                obtain ⟨v', f2, w2⟩ := d'.get e2
                refine ⟨⟨_, _, _, _, q1, q2, f1, f2⟩, fun z H'' yy => ?_⟩
                obtain ⟨T, x', y', rfl, hT, rfl, g1, g2⟩ := yy
                have g1 := g1 _ q1
                have g2 := g2 _ q2
                rw [f1] at g1
                rw [f2] at g2
                cases g1
                cases g2
                have sm : Same H' (upd H' T (.tup [v, v'])) := Same.lay hT
                have kk := k.trans (Kp.same sm)
                exact ⟨sm, .d (.tup (.inl (.inl upd_same)) (.cons (RD.kp kk _ _ w1) (.cons (RD.kp kk _ _ w2) .nil)))⟩
    · cases r1 with
      | cons ra rb =>
        cases rb with
        | cons rb rc =>
          cases rc
          cases ra.rd with
          | tup t d =>
            cases rb.rd with
            | tup t' d' =>
              refine ⟨_, _, _, _, rfl, .inr ⟨t, t', Out.here (b := RZ.ItzT X.K _ _) out1 s1 fun H' m' k pre => ?_⟩⟩
              have q1 := k.sqT t
              have q2 := k.sqT t'
              refine ⟨fun i hi => ⟨_, _, q1, q2, ?_⟩, fun i u e => ?_⟩
              · unfold zipD at hi
                rw [List.length_zipWith] at hi
                have := d.len
                have := d'.len
                omega
              · obtain ⟨x, y, e1, e2, rfl⟩ := zipD_get e
                obtain ⟨v, f1, w1⟩ := d.get e1
                obtain ⟨v', f2, w2⟩ := d'.get e2
                refine ⟨⟨_, _, _, _, q1, q2, f1, f2⟩, fun z H'' yy => ?_⟩
                obtain ⟨T, x', y', rfl, hT, rfl, g1, g2⟩ := yy
                have g1 := g1 _ q1
                have g2 := g2 _ q2
                rw [f1] at g1
                rw [f2] at g2
                cases g1
                cases g2
                have sm : Same H' (upd H' T (.tup [v, v'])) := Same.lay hT
                have kk := k.trans (Kp.same sm)
                exact ⟨sm, .d (.tup (.inl (.inl upd_same)) (.cons (RD.kp kk _ _ w1) (.cons (RD.kp kk _ _ w2) .nil)))⟩
    · exact out1.elim⟩
end
end Wk
/-! ### in, not in -/
namespace Wk
open PySem PySem.Spec PyProof.Rows L2
def keyOf : U → Option Key
  | .d (.int i) => some (.inl i)
  | .d (.str x) => some (.inr x)
  | _ => none
def dictOf (h : Sto) : U → Option (List (Key × U))
  | .ref n => match h[n]? with
    | some (.dct kvs) => some kvs
    | _ => none
  | _ => none
def valU (kvs : List (Key × U)) (k : Key) : Option U := (kvs.find? fun kv => decide (kv.1 = k)).map (·.2)
def putU (kvs : List (Key × U)) (k : Key) (v : U) : List (Key × U) := if kvs.any fun kv => decide (kv.1 = k) then kvs.map fun kv => if kv.1 = k then (kv.1, v) else kv else kvs ++ [(k, v)]
theorem RK.val {K : PySem.W.Frag} {H : Hp} {m : List Addr} {gs : List (Key × V)} {kvs : List (Key × U)} (r : RK K H m gs kvs) (k : Key) : (valV gs k = none ∧ valU kvs k = none) ∨ ∃ v u, valV gs k = some v ∧ valU kvs k = some u ∧ RU K H m v u := by
  unfold RK at r
  induction r with
  | nil => exact .inl ⟨rfl, rfl⟩
  | @cons p q l l' h _ ih =>
    by_cases e : p.1 = k
    · exact .inr ⟨p.2, q.2, valV_pos e, by simp [valU, List.find?_cons, ← h.1, e], h.2⟩
    · have e' : ¬ q.1 = k := fun z => e (h.1.trans z)
      rw [valV_neg e]
      have : valU (q :: l') k = valU l' k := by simp [valU, List.find?_cons, e']
      rw [this]
      exact ih
theorem RK.any {K : PySem.W.Frag} {H : Hp} {m : List Addr} {gs : List (Key × V)} {kvs : List (Key × U)} (r : RK K H m gs kvs) (k : Key) : (gs.any fun kv => decide (kv.1 = k)) = kvs.any fun kv => decide (kv.1 = k) := by
  unfold RK at r
  induction r with
  | nil => rfl
  | cons h _ ih => rw [List.any_cons, List.any_cons, ih, h.1]
theorem RK.put {K : PySem.W.Frag} {H : Hp} {m : List Addr} {gs : List (Key × V)} {kvs : List (Key × U)} (r : RK K H m gs kvs) (k : Key) {v : V} {u : U} (ru : RU K H m v u) : RK K H m (putK gs k v) (putU kvs k u) := by
  unfold putK putU
  rw [← r.any k]
  split
  · unfold RK at r ⊢
    rename_i hh; clear hh
    induction r with
    | nil => exact .nil
    | @cons p q l l' h _ ih =>
      rw [List.map_cons, List.map_cons]
      refine .cons ?_ ih
      by_cases e : p.1 = k
      · rw [if_pos e, if_pos (h.1 ▸ e)]
        exact ⟨h.1, ru⟩
      · rw [if_neg e, if_neg (h.1 ▸ e)]
        exact h
  · unfold RK at r ⊢
    rename_i hh; clear hh
    induction r with
    | nil => exact .cons ⟨rfl, ru⟩ .nil
    | cons h _ ih => exact .cons h ih
theorem RK.len {K : PySem.W.Frag} {H : Hp} {m : List Addr} {gs : List (Key × V)} {kvs : List (Key × U)} (r : RK K H m gs kvs) : gs.length = kvs.length := Paired.length r
theorem keyOf_v {K : PySem.W.Frag} {H : Hp} {m : List Addr} {v : V} {u : U} {k : Key} (e : keyOf u = some k) (r : RU K H m v u) : v = kV k := by
  unfold keyOf at e
  split at e
  · cases e; cases r.rd; rfl
  · cases e; cases r.rd; rfl
  · cases e
theorem dictOf_v {K : PySem.W.Frag} {mg : Str → Option Value} {H : Hp} {m : List Addr} {h : Sto} {v : V} {u : U} {kvs : List (Key × U)} (s : Sta K mg H m h) (e : dictOf h u = some kvs) (r : RU K H m v u) : ∃ a n gs, u = .ref n ∧ m[n]? = some a ∧ h[n]? = some (.dct kvs) ∧ v = .ref a ∧ H a = some (.dK gs) ∧ RK K H m gs kvs := by
  unfold dictOf at e
  split at e
  · split at e
    · rename_i n ob ho
      cases e
      cases r with
      | ref hm =>
        obtain ⟨gs, h1, h2⟩ := s.obj _ _ _ hm ho
        exact ⟨_, _, gs, rfl, hm, ho, rfl, h1, h2⟩
    · cases e
  · cases e
def signIn (x z : Str) : Option Bool := match x.cps.toList with
  | [c] => some (decide (c ∈ z.cps.toList))
  | _ => none
def inOf (u w : U) (h : Sto) : Option Bool := match strOf u, strOf w with
  | some x, some z => signIn x z
  | _, _ => match dictOf h w, keyOf u with
    | some kvs, some k => some (valU kvs k).isSome
    | _, _ => match dataOf h u, dataOf h w with
      | some d, some (.list ds) => if SeqAt.shaped d && SeqAt.shaped (.list ds) then some (ds.any fun z => PyData.eqv z d) else none
      | some d, some (.tuple ds) => if SeqAt.shaped d && SeqAt.shaped (.tuple ds) then some (ds.any fun z => PyData.eqv z d) else none
      | _, _ => none
def opIn (n : Bool) (u w : U) (h : Sto) : Res U := match inOf u w h with
  | some b => .ok (.d (.bool (xor n b))) h
  | none => .stuck
section
variable {X : Cx} {W : WX}
def rInX (K : PySem.W.Frag) (n : Bool) : R2 := fun x y H Q =>
  (∃ (c : Nat) (z : Str), x = .str ⟨#[c]⟩ ∧ y = .str z ∧ Q (.bl (xor n (decide (c ∈ z.cps.toList)))) H) ∨
  (∃ a o, y = .ref a ∧ DGet H a x o ∧ Q (.bl (xor n o.isSome)) H) ∨
  (∃ d ds, Dp K H x d ∧ (Dp K H y (.list ds) ∧ SeqAt.shaped (.list ds) = true ∨ Dp K H y (.tuple ds) ∧ SeqAt.shaped (.tuple ds) = true) ∧ SeqAt.shaped d = true ∧ Q (.bl (xor n (ds.any fun z => PyData.eqv z d))) H)
theorem shaped_tup {ds : List PyData} (h : SeqAt.shaped (.tuple ds) = true) : PyData.canLayAll0 ds = true := SeqAt.canLay_of_shaped h
theorem op_inX (hu : X.A.units + 65 < cLine) : OpR X (compareOp .In) (rInX X.K false) := by
  intro pins s σ H x y v u Q I rx ry h
  rcases h with ⟨c, z, rfl, rfl, q⟩ | ⟨a, o, rfl, g, q⟩ | ⟨d, ds, hd, he | he, sd, q⟩
  · rw [Bool.false_xor] at q
    exact op_in_sign pins s σ H _ _ v u Q I rx ry ⟨c, z, rfl, rfl, q⟩
  · cases ry
    rw [Bool.false_xor] at q
    exact d_in (by omega) I g rx fun s' I' => ⟨.bl _, H, I', rfl, q⟩
  · rw [Bool.false_xor] at q
    exact op_inD hu pins s σ H x y v u Q I rx ry ⟨d, ds, hd, he.1, sd, he.2, q⟩
  · rw [Bool.false_xor] at q
    obtain ⟨as, r1⟩ := Dp.reads I d x v hd rx
    obtain ⟨bs, r2⟩ := Dp.reads I (.tuple ds) y u he.1 ry
    exact SeqAt.in_tuple_reads r2 r1 (shaped_tup he.2) (SeqAt.canLay_of_shaped sd) (room_in_shaped sd hu) ⟨.bl _, H, I, rfl, q⟩
theorem op_notInX (hu : X.A.units + 65 < cLine) : OpR X (compareOp .NotIn) (rInX X.K true) := by
  intro pins s σ H x y v u Q I rx ry h
  rcases h with ⟨c, z, rfl, rfl, q⟩ | ⟨a, o, rfl, g, q⟩ | ⟨d, ds, hd, he | he, sd, q⟩
  · rw [Bool.true_xor] at q
    exact op_notIn_sign pins s σ H _ _ v u Q I rx ry ⟨c, z, rfl, rfl, q⟩
  · cases ry
    rw [Bool.true_xor] at q
    exact d_notIn (by omega) I g rx fun s' I' => ⟨.bl _, H, I', rfl, q⟩
  · rw [Bool.true_xor] at q
    exact op_notInD hu pins s σ H x y v u Q I rx ry ⟨d, ds, hd, he.1, sd, he.2, q⟩
  · rw [Bool.true_xor] at q
    obtain ⟨as, r1⟩ := Dp.reads I d x v hd rx
    obtain ⟨bs, r2⟩ := Dp.reads I (.tuple ds) y u he.1 ry
    exact SeqAt.notIn_tuple_reads r2 r1 (shaped_tup he.2) (SeqAt.canLay_of_shaped sd) (room_in_shaped sd hu) ⟨.bl _, H, I, rfl, q⟩
theorem ab_in (n : Bool) : Ab2 X W (opIn n) (rInX X.K n) := by
  intro σ H m h x y u w Q s ru rw out
  unfold opIn at out
  split at out
  · rename_i b e
    have fin : ∀ H' m', H' = H → m' = m → Q (.bl (xor n b)) H := fun _ _ _ _ => Out.here (b := V.bl _) out s (.d (.bl _))
    have q := fin H m rfl rfl
    unfold inOf at e
    split at e
    · rename_i x' z' e1 e2
      unfold signIn at e
      split at e
      · rename_i c ec
        cases e
        refine .inl ⟨c, z', ?_, strOf_v e2 rw, q⟩
        rw [strOf_v e1 ru]
        obtain ⟨cps⟩ := x'
        obtain ⟨l⟩ := cps
        simp at ec
        rw [ec]
      · cases e
    · split at e
      · rename_i kvs k e1 e2
        cases e
        obtain ⟨a, i, gs, rfl, hm, hi, rfl, hH, rk⟩ := dictOf_v s e1 rw
        refine .inr (.inl ⟨a, valV gs k, rfl, ?_, ?_⟩)
        · rw [keyOf_v e2 ru]
          exact .inl ⟨gs, k, .inl hH, rfl, rfl⟩
        · rcases rk.val k with ⟨h1, h2⟩ | ⟨v, u', h1, h2, _⟩
          · rw [h1]; rw [h2] at q; exact q
          · rw [h1]; rw [h2] at q; exact q
      · split at e
        · rename_i d ds e1 e2
          split at e
          · rename_i hs
            rw [Bool.and_eq_true] at hs
            cases e
            exact .inr (.inr ⟨d, ds, dataOf_v s _ _ _ e1 ru, .inl ⟨dataOf_v s _ _ _ e2 rw, hs.2⟩, hs.1, q⟩)
          · cases e
        · rename_i d ds e1 e2
          split at e
          · rename_i hs
            rw [Bool.and_eq_true] at hs
            cases e
            exact .inr (.inr ⟨d, ds, dataOf_v s _ _ _ e1 ru, .inr ⟨dataOf_v s _ _ _ e2 rw, hs.2⟩, hs.1, q⟩)
          · cases e
        · cases e
  · exact out.elim
end
end Wk
namespace Wk
open PySem L2
theorem units65 {k : Nat} {A : Around} (r : Room k A) : A.units + 65 < cLine := by have := r.un; omega
section
variable {fa : Ea} {env : Env'} {h : Sto} {u w : U}
@[simp] theorem ev_Zip : iZip fa env h = (fa env h).bind fun us h1 => match us with | [.d (.list xs), .d (.list ys)] => .ok (zipD xs ys) h1 | [.d (.tuple xs), .d (.tuple ys)] => .ok (zipD xs ys) h1 | _ => .stuck := (rfl)
@[simp] theorem ev_revL (b : Bool) (xs : List D) : opRevL b (.d (.list xs)) h = mkL b xs.reverse h := (rfl)
@[simp] theorem ev_revT (xs : List D) : opRevT (.d (.list xs)) h = .ok (.d (.tuple xs.reverse)) h := (rfl)
@[simp] theorem ev_in (n : Bool) : opIn n u w h = match inOf u w h with | some b => .ok (.d (.bool (xor n b))) h | none => .stuck := (rfl)
end
end Wk

/-! T9: functions over the caller's store, instances, methods, raise, try. -/
namespace Wk
open PySem PySem.Spec PyProof.Rows L2

/-! ### functions over the store -/
abbrev SF := List U → Sto → Res U
def OutF (K : PySem.W.Frag) (mg : Str → Option Value) (H : Hp) (m : List Addr) (Q : VK) (E : XK) : Res U → Prop
  | .ok u h' => ∀ v H' m', Gr H m H' m' → Sta K mg H' m' h' → RU K H' m' v u → Q v H'
  | .exc c h' => ∀ H' m', Gr H m H' m' → Sta K mg H' m' h' → ∀ C, mg c = some (.ref C) → E (.ref C) none H'
  | .stuck => False
def spS (K : PySem.W.Frag) (mg : Str → Option Value) (n : Nat) (F : SF) : Sp := fun vs H Q E => ∃ us m h, Sta K mg H m h ∧ RUs K H m vs us ∧ vs.length = n ∧ OutF K mg H m Q E (F us h)
def sfOf (n : Nat) (B : Es) : SF := fun us h => match B (us.map some ++ List.replicate (n - us.length) none) h with
  | .ret u h' => .ok u h'
  | .next _ h' => .ok (.d .none) h'
  | .exc c _ h' => .exc c h'
  | .stuck => .stuck
theorem sl_startU {K : PySem.W.Frag} {H : Hp} {m : List Addr} {N : List Str} {vs : List V} {us : List U} (r : RUs K H m vs us) : Sl K H m (L2.start N vs) (us.map some ++ List.replicate (N.length - us.length) none) := by
  unfold L2.start
  refine ⟨by simp [RUs.len r], fun i u e => ?_⟩
  by_cases hi : i < us.length
  · rw [List.getElem?_append_left (by simpa using hi), List.getElem?_map, List.getElem?_eq_getElem hi] at e
    cases e
    obtain ⟨v, h1, h2⟩ := RUs.get r (List.getElem?_eq_getElem hi)
    exact ⟨v, by rw [List.getElem?_append_left (by rw [List.length_map, RUs.len r]; exact hi), List.getElem?_map, h1]; rfl, h2⟩
  · rw [List.getElem?_append_right (by simpa using hi), List.getElem?_replicate] at e
    split at e <;> cases e
section
variable {P : Program} {w : World} {K : PySem.W.Frag} {mg : Str → Option Value} {base : Heap}
/-- the def keeps its function, wherever it stands -/
def FnB (P : Program) (w : World) (K : PySem.W.Frag) (mg : Str → Option Value) (base : Heap) (k : Nat) (x q : Str) (st : Stmt) (ps : List Str) (F : SF) : Prop :=
  ∀ f fd, Fun K x q st f fd → FnOk P w K mg base (L2.CX P w) k f fd ps (spS K mg ps.length F)
theorem FnB.mono {j k : Nat} {x q : Str} {st : Stmt} {ps : List Str} {F : SF} (h : FnB P w K mg base j x q st ps F) (l : j ≤ k) : FnB P w K mg base k x q st ps F := fun f fd z => (h f fd z).mono l
theorem FnB.stuck {k : Nat} {x q : Str} {st : Stmt} {ps : List Str} : FnB P w K mg base k x q st ps (fun _ _ => .stuck) := fun f fd _ =>
  ⟨fun vs H Q E ⟨_, _, _, _, _, _, z⟩ => z.elim, fun A outer s H args us vs Q E _ _ _ _ ⟨_, _, _, _, _, _, z⟩ => z.elim⟩
/-- THE RULE for a def over the caller's store -/
theorem fn_shared {x q : Str} {st : Stmt} {N ps : List Str} {k : Nat} {B : Es} (S : FnScope N ps (defScope st))
    (body : ∀ (f : Addr) (cdv : Value) (A : Around) (outer : List Env) (s : Shared) (H : Hp) (E : XK), Room k (A.deeper (envOfC q (defScope st) s.heap.objs.size f cdv)) →
      Takes (cxOf (L2.CX P w) P w K mg base N q (defScope st) f cdv A outer s H E) (WD E) →
      PassesOwn (model P w) (A.deeper (envOfC q (defScope st) s.heap.objs.size f cdv)) (envOfC q (defScope st) s.heap.objs.size f cdv) (cxOf (L2.CX P w) P w K mg base N q (defScope st) f cdv A outer s H E).xe →
      SSs (cxOf (L2.CX P w) P w K mg base N q (defScope st) f cdv A outer s H E) (WD E) (defBody st) B) :
    FnB P w K mg base (k + 1) x q st ps (sfOf N.length B) := by
  intro f fd h2
  refine h2.okX S (fun vs H Q E h => ?_) fun cdv A outer s H vs Q E hr h => ?_
  · obtain ⟨us, m, hh, _, _, e, _⟩ := h
    exact e
  · obtain ⟨us, m, hh, sta, r, e, q⟩ := h
    refine ⟨_, (body f cdv A outer s H E hr (takes_of rfl rfl rfl rfl) (passes_of rfl)).ps, _, m, hh, sta, sl_startU r, ?_⟩
    unfold sfOf at q
    generalize B (us.map some ++ List.replicate (N.length - us.length) none) hh = z at q
    cases z with
    | next env' h' => exact fun σ' H' m' g s' l => (show ∀ v H' m', Gr H m H' m' → Sta K mg H' m' h' → RU K H' m' v (.d .none) → Q v H' from q) .non H' m' g s' (.d .non)
    | ret u h' => exact q
    | exc c env' h' => exact fun σ' H' m' g s' l C hC => (show ∀ H' m', Gr H m H' m' → Sta K mg H' m' h' → ∀ C, mg c = some (.ref C) → E (.ref C) none H' from q) H' m' g s' C hC
    | stuck => exact q
/-- the data function of such a def -/
def pfS (F : SF) : PF := fun ds => match F (ds.map .d) [] with
  | .ok (.d d) _ => .ok d
  | .exc c _ => .exc c
  | _ => .stuck
theorem FnB.a {k : Nat} {x : Str} {st : Stmt} {ps : List Str} {F : SF} (h : FnB P w K mg base k x x st ps F) : FnA P w K mg base k x st ps (pfS F) := by
  intro f fd z
  refine (h f fd z).imp fun vs H Q E ⟨ds, r, e, q⟩ => ⟨ds.map .d, [], [], Sta.nil, r.rus, e, ?_⟩
  unfold pfS at q
  generalize F (ds.map .d) [] = y at q
  cases y with
  | ok u h' =>
    cases u with
    | d d => exact fun v H' m' g s' r' => (show ∀ v H', Same H H' → RD K H' v d → Q v H' from q) v H' g.same r'.rd
    | ref n => exact q.elim
    | tup us => exact q.elim
    | exn a => exact q.elim
  | exc c h' => exact fun H' m' g s' C hC => (show ∀ H', Same H H' → ∀ C, mg c = some (.ref C) → E (.ref C) none H' from q) H' g.same C hC
  | stuck => exact q
end
structure FnS (P : Program) (w : World) (K : PySem.W.Frag) (mg : Str → Option Value) (base : Heap) (k : Nat) (x : Str) (ps : List Str) (F : SF) : Prop where
  ex : ∃ f fd, mg x = some (.ref f) ∧ PySem.W.keepIn K (.ref f) = true ∧ Binds K fd ps [] ∧ FnOk P w K mg base (L2.CX P w) k f fd ps (spS K mg ps.length F)
theorem FnB.s {P : Program} {w : World} {K : PySem.W.Frag} {mg : Str → Option Value} {base : Heap} {k : Nat} {x : Str} {st : Stmt} {ps : List Str} {F : SF} (h : FnB P w K mg base k x x st ps F) (hs : Has K mg x st ps) : FnS P w K mg base k x ps F := by
  obtain ⟨f, fd, h1, h2, h3⟩ := hs.ex
  exact ⟨f, fd, h1, h2.kp, Binds.all h3, h f fd h2⟩
section
variable {X : Cx} {W : WX} {k : Nat} {x : Str} {p pos : Pos} {e : Expr} {es : List Expr} {ps : List Str} {F : SF} {fa : Ea}
theorem spS_of {σ : L2.St} {H : Hp} {m : List Addr} {h : Sto} {us : List U} {vs : List V} {Q : VK} {n : Nat} (s : Sta X.K X.mg H m h) (r : RUs X.K H m vs us) (hn : us.length = n) (out : Out X W (rlU X.K) σ H m (F us h) Q) :
    spS X.K X.mg n F vs H Q (WE W σ) := by
  refine ⟨us, m, h, s, r, (RUs.len r).trans hn, ?_⟩
  generalize F us h = q at out
  cases q with
  | ok d h' => exact out
  | exc c h' => exact out
  | stuck => exact out
theorem se_callS (tk : TakesC X W) (f : FnS X.prog X.w X.K X.mg X.base k x ps F) (hr : Room k X.A) (hg : Gl X x) (ha : SA X W (e :: es) fa) (hn : aLen fa ps.length)
    (hdb : (x == ("__debug__" : Str)) = false := by decide) (he : starEach (e :: es) X.env = (false, eval e X.env) :: starEach es X.env := by rfl) (hpl : (backTo pos (starEach es X.env)).any (·.1) = false := by rfl) :
    SE X W (.Call (.Name x p) (e :: es) [] pos) (eB F fa) := by
  obtain ⟨fa', fd, h1, h2, h3, h4⟩ := f.ex
  refine ⟨pe_imp (pe_callS h4 hr hg h1 h2 h3 tk ha.pa hdb he hpl) fun σ H Q ⟨env, m, h, sta, sl, out⟩ => ?_⟩
  have hl := fun us => hn us env h
  refine ⟨env, m, h, sta, sl, ?_⟩
  unfold eB at out
  generalize hq : fa env h = q at out
  cases q with
  | stuck => exact out
  | exc c h1 => exact out
  | ok us h1 => exact fun vs H1 m1 g1 s1 r1 => spS_of s1 r1 (hl us h1 hq) (Out.gr out g1)
end

/-! ### instances -/
def insOf (h : Sto) : U → Option (Str × List (Str × U))
  | .ref n => match h[n]? with
    | some (.ins c fs) => some (c, fs)
    | _ => none
  | _ => none
theorem insOf_v {K : PySem.W.Frag} {mg : Str → Option Value} {H : Hp} {m : List Addr} {h : Sto} {v : V} {u : U} {c : Str} {fs : List (Str × U)} (s : Sta K mg H m h) (e : insOf h u = some (c, fs)) (r : RU K H m v u) :
    ∃ n a C dx gs, u = .ref n ∧ m[n]? = some a ∧ h[n]? = some (.ins c fs) ∧ v = .ref a ∧ mg c = some (.ref C) ∧ H a = some (.ins C dx gs) ∧ RF K H m gs fs := by
  unfold insOf at e
  split at e
  · split at e
    · rename_i n c' fs' ho
      cases e
      cases r with
      | ref hm =>
        obtain ⟨C, dx, gs, h0, h1, h2⟩ := s.obj _ _ _ hm ho
        exact ⟨_, _, C, dx, gs, rfl, hm, ho, rfl, h0, h1, h2⟩
    · cases e
  · cases e
theorem RF.look {K : PySem.W.Frag} {H : Hp} {m : List Addr} {gs : List (Str × V)} {fs : List (Str × U)} (r : RF K H m gs fs) (f : Str) : (gs.lookup f = none ∧ fs.lookup f = none) ∨ ∃ v u, gs.lookup f = some v ∧ fs.lookup f = some u ∧ RU K H m v u := by
  unfold RF at r
  induction r with
  | nil => exact .inl ⟨rfl, rfl⟩
  | @cons p q l l' h _ ih =>
    obtain ⟨a, x⟩ := p
    obtain ⟨b, y⟩ := q
    obtain ⟨rfl, h2⟩ := h
    by_cases e : f = a
    · subst e
      exact .inr ⟨x, y, by simp [List.lookup], by simp [List.lookup], h2⟩
    · have e' : (f == a) = false := by simpa using e
      simp only [List.lookup, e']
      exact ih
def putG (f : Str) (v : U) : List (Str × U) → List (Str × U)
  | [] => [(f, v)]
  | (g, x) :: r => if g = f then (g, v) :: r else (g, x) :: putG f v r
theorem RF.put {K : PySem.W.Frag} {H : Hp} {m : List Addr} {gs : List (Str × V)} {fs : List (Str × U)} (r : RF K H m gs fs) (f : Str) {v : V} {u : U} (ru : RU K H m v u) : RF K H m (putF f v gs) (putG f u fs) := by
  unfold RF at r ⊢
  induction r with
  | nil => exact .cons ⟨rfl, ru⟩ .nil
  | @cons p q l l' h t ih =>
    obtain ⟨a, x⟩ := p
    obtain ⟨b, y⟩ := q
    obtain ⟨rfl, h2⟩ := h
    show Paired _ (if a = f then (a, v) :: l else (a, x) :: putF f v l) (if a = f then (a, u) :: l' else (a, y) :: putG f u l')
    by_cases e : a = f
    · rw [if_pos e, if_pos e]
      exact .cons ⟨rfl, ru⟩ t
    · rw [if_neg e, if_neg e]
      exact .cons ⟨rfl, h2⟩ ih
theorem RF.len {K : PySem.W.Frag} {H : Hp} {m : List Addr} {gs : List (Str × V)} {fs : List (Str × U)} (r : RF K H m gs fs) : gs.length = fs.length := Paired.length r
theorem RF.kp {K : PySem.W.Frag} {H H' : Hp} {m m' : List Addr} {gs : List (Str × V)} {fs : List (Str × U)} (r : RF K H m gs fs) (k : Kp H H') (pre : ∃ e, m' = m ++ e) : RF K H' m' gs fs := paired_imp (fun p q z => ⟨z.1, RU.kp k pre _ _ z.2⟩) r
/-- what a class must be for its fields -/
structure ClsF (K : PySem.W.Frag) (mg : Str → Option Value) (c : Str) : Prop where
  cls : ∀ C, mg c = some (.ref C) → Cls K C
def FldF (K : PySem.W.Frag) (mg : Str → Option Value) (c f : Str) : Prop := ∀ C, mg c = some (.ref C) → NoAttr K C f
/-- e.f -/
def eFld (c f : Str) (fo : Ev) : Ev := fun env h => (fo env h).bind fun u h1 => match insOf h1 u with
  | some (c', fs) => if c' = c then (match fs.lookup f with
    | some w => .ok w h1
    | none => .stuck) else .stuck
  | none => .stuck
/-- e.f = value -/
def sFldS (c f : Str) (fv fo : Ev) : Es := fun env h => (fv env h).then_ env fun w h1 => (fo env h1).then_ env fun u h2 => match u with
  | .ref n => (match h2[n]? with
    | some (.ins c' fs) => if c' = c ∧ fs.length < 1000 then .next env (h2.set n (.ins c' (putG f w fs))) else .stuck
    | _ => .stuck)
  | _ => .stuck
section
variable {X : Cx} {W : WX} {o e value : Expr} {f c : Str} {pos pos' : Pos} {fo fv : Ev}
theorem se_fld (kc : ClsF X.K X.mg c) (kf : FldF X.K X.mg c f) (he : SE X W e fo) (hb : attributeBase e f X.env (eval e X.env) = eval e X.env := by rfl) : SE X W (.Attribute e f pos) (eFld c f fo) :=
  ⟨pe_imp (pe_fld he.pe hb) fun σ H Q ⟨env, m, h, sta, sl, out⟩ => rd_of sta sl out fun u h1 x H1 m1 g1 s1 r1 out1 => by
    split at out1
    · rename_i c' fs ei
      obtain ⟨n, a, C, dx, gs, rfl, hm, hn, rfl, hC, hH, rf⟩ := insOf_v s1 ei r1
      split at out1
      · rename_i hc
        subst hc
        rcases rf.look f with ⟨l1, l2⟩ | ⟨v, u', l1, l2, ru⟩
        · rw [l2] at out1; exact out1.elim
        · rw [l2] at out1
          exact ⟨a, C, dx, gs, v, rfl, hH, kc.cls C hC, kf C hC, l1, Out.here (b := v) out1 s1 ru⟩
      · exact out1.elim
    · exact out1.elim⟩
theorem ss_fld (kc : ClsF X.K X.mg c) (kf : FldF X.K X.mg c f) (hv : SE X W value fv) (ho : SE X W o fo) (hs : swapsWith value (some (.Attribute o f pos')) pos.line X.env = pure false := by rfl) : SS X W (.Assign [.Attribute o f pos'] value pos) (sFldS c f fv fo) :=
  ⟨ps_imp (ps_fld ho.pe hv.pe hs) fun D σ H ⟨env, m, h, sta, sl, out⟩ => rd_then sta sl out fun w h1 y H1 m1 g1 s1 ry out1 => rd_then s1 (sl.gr g1) out1 fun u h2 x H2 m2 g2 s2 rx out2 => by
    split at out2
    · split at out2
      · rename_i n c' fs hn
        split at out2
        · rename_i hc
          obtain ⟨hc, hl⟩ := hc
          subst hc
          cases rx with
          | ref hm =>
            rename_i a
            obtain ⟨C, dx, gs, h0, hH, rf⟩ := s2.obj _ _ _ hm hn
            have kp := mut_kp (y := HO.ins C dx (putF f y gs)) hH trivial
            refine ⟨a, C, dx, gs, rfl, hH, kc.cls C h0, kf C h0, by rw [rf.len]; exact hl, ?_⟩
            have gw := Gr.write (y := HO.ins C dx (putF f y gs)) (List.mem_of_getElem? hm) hH trivial
            have ry2 := RU.kp g2.kp g2.pre _ _ ry
            exact (show ∀ σ' H' m', Gr H2 m2 H' m' → Sta X.K X.mg H' m' _ → Sl X.K H' m' σ' env → D.nx σ' H' from out2) σ _ m2 gw
              (s2.write hm hH trivial ⟨C, dx, _, h0, upd_same, (rf.kp kp ⟨[], by simp⟩).put f (RU.kp kp ⟨[], by simp⟩ _ _ ry2)⟩) (((sl.gr g1).gr g2).gr gw)
        · exact out2.elim
      · exact out2.elim
    · exact out2.elim⟩
end

/-! ### methods -/
structure MetS (P : Program) (w : World) (K : PySem.W.Frag) (mg : Str → Option Value) (base : Heap) (k : Nat) (c m : Str) (ps : List Str) (F : SF) : Prop where
  ex : ∀ C, mg c = some (.ref C) → ∃ f fd, Meth K C m f ∧ Binds K fd ps [] ∧ FnOk P w K mg base (L2.CX P w) k f fd ps (spS K mg ps.length F)
def eMth (c m : Str) (F : SF) (fo : Ev) (fa : Ea) : Ev := fun env h => (fo env h).bind fun u h1 => match insOf h1 u with
  | some (c', fs) => if c' = c ∧ fs.lookup m = none then (fa env h1).bind fun us h2 => F (u :: us) h2 else .stuck
  | none => .stuck
section
variable {X : Cx} {CX : CXT} {k : Nat} {f C : Addr} {fd : FuncData} {ps : List Str} {sp : Sp} {E : L2.St → XK} {x m : Str} {p pos apos : Pos} {e o : Expr} {es : List Expr} {ta : TE} {t : TA}
def tMethS (C : Addr) (m : Str) (sp : Sp) (E : L2.St → XK) (ta : TE) (t : TA) : TE := fun σ H Q => ta σ H fun x H1 => ∃ a dx fs, x = .ref a ∧ H1 a = some (.ins C dx fs) ∧ fs.lookup m = none ∧ t σ H1 fun vs H2 => sp (x :: vs) H2 Q (E σ)
theorem pe_methE {pl : Sem Bool} (he : PE X o ta) (c : Cls X.K C) (hm : Meth X.K C m f) (F : FnOk X.prog X.w X.K X.mg X.base CX k f fd ps sp) (hr : Room k X.A) (hb : Binds X.K fd ps []) (hx : ∀ σ, PassesAt CX X σ (E σ)) (ha : PA X (e :: es) t)
    (hst : starEach (e :: es) X.env = (false, eval e X.env) :: starEach es X.env) (hpl : (backTo pos (starEach es X.env)).any (·.1) = false)
    (ht : eval (.Call (.Attribute o m apos) (e :: es) [] pos) X.env = (do
      let ov ← eval o X.env
      standAt apos.atName
      let (f, first) ← holding [ov] (getMethod ov m pl)
      callWith pos f first (backTo pos (starEach (e :: es) X.env)) (backToKw pos (keywordEach [] X.env)))) :
    PE X (.Call (.Attribute o m apos) (e :: es) [] pos) (tMethS C m sp E ta t) := by
  refine ⟨fun pins s σ H Q I h => ?_⟩
  refine PySem.W.methodCall_KW (pl := pl) (thn (he.run pins s σ H _ I h) fun u s1 ⟨x, H1, I1, rx, a, dx, fs, ex, ea, l, q⟩ => ?_) ht
  subst ex
  obtain rfl : u = Value.ref a := rx
  refine getmeth_ok I1 ea c hm l ?_
  refine PySem.W.callWith_K (first := [.ref a]) (h₀ := X.base) I.ok.mod.kin hm.kp (thn (ha.run pos pins s1 σ H1 _ I1 q) fun us s2 ⟨vs, H2, I2, r, q2⟩ => ⟨I2.kIn, ?_⟩) hst hpl
  exact run_fnS (us := .ref a :: us) (vs := .ref a :: vs) F hr hb (hx σ) I2 (.cons rfl r) q2
theorem pe_methE0 {pl : Sem Bool} (he : PE X o ta) (c : Cls X.K C) (hm : Meth X.K C m f) (F : FnOk X.prog X.w X.K X.mg X.base CX k f fd ps sp) (hr : Room k X.A) (hb : Binds X.K fd ps []) (hx : ∀ σ, PassesAt CX X σ (E σ))
    (ht : eval (.Call (.Attribute o m apos) [] [] pos) X.env = (do
      let ov ← eval o X.env
      standAt apos.atName
      let (f, first) ← holding [ov] (getMethod ov m pl)
      callWith pos f first (backTo pos (starEach [] X.env)) (backToKw pos (keywordEach [] X.env)))) :
    PE X (.Call (.Attribute o m apos) [] [] pos) (tMethS C m sp E ta tNil) := by
  refine ⟨fun pins s σ H Q I h => ?_⟩
  refine PySem.W.methodCall_KW (pl := pl) (thn (he.run pins s σ H _ I h) fun u s1 ⟨x, H1, I1, rx, a, dx, fs, ex, ea, l, q⟩ => ?_) ht
  subst ex
  obtain rfl : u = Value.ref a := rx
  refine getmeth_ok I1 ea c hm l ?_
  exact PySem.W.callWith_K0 (first := [.ref a]) I1.kIn hm.kp (run_fnS (us := [.ref a]) (vs := [.ref a]) F hr hb (hx σ) I1 (.cons rfl .nil) q)
end
section
variable {X : Cx} {W : WX} {k : Nat} {c m : Str} {apos pos : Pos} {e o : Expr} {es : List Expr} {ps : List Str} {F : SF} {fa : Ea} {fo : Ev}
theorem mth_rd {C : Addr} {H : Hp} {Q : VK} {σ : L2.St} {t : TA} (hC : X.mg c = some (.ref C)) (hn : aLen fa ps.length) (hps : ∀ (env : Env') (h : Sto), True)
    (ht : ∀ σ H R, rd X W (rlA X.K) fa σ H R → t σ H R) (q : rd X W (rlU X.K) (eMth c m F fo fa) σ H Q) :
    rd X W (rlU X.K) fo σ H fun x H1 => ∃ a dx fs, x = .ref a ∧ H1 a = some (.ins C dx fs) ∧ fs.lookup m = none ∧ t σ H1 fun vs H2 => spS X.K X.mg (ps.length + 1) F (x :: vs) H2 Q (WE W σ) := by
  obtain ⟨env, mm, h, sta, sl, out⟩ := q
  refine rd_of sta sl out fun u h1 x H1 m1 g1 s1 r1 out1 => ?_
  split at out1
  · rename_i c' fs ei
    obtain ⟨n, a, C', dx, gs, rfl, hm, hnn, rfl, hC', hH, rf⟩ := insOf_v s1 ei r1
    split at out1
    · rename_i hc
      obtain ⟨hc, hl⟩ := hc
      subst hc
      rw [hC] at hC'
      cases hC'
      refine ⟨a, dx, gs, rfl, hH, ?_, ht _ _ _ ?_⟩
      · rcases rf.look m with ⟨l1, _⟩ | ⟨v, u', _, l2, _⟩
        · exact l1
        · rw [hl] at l2; cases l2
      · refine ⟨env, m1, h1, s1, sl.gr g1, ?_⟩
        have hla := fun us h2 => hn us env h1 h2
        generalize hq : fa env h1 = z at out1
        cases z with
        | stuck => exact out1
        | exc c h2 => exact out1
        | ok us h2 =>
          intro vs H2 m2 g2 s2 r2
          exact spS_of s2 (.cons (RU.kp g2.kp g2.pre _ _ r1) r2) (by rw [List.length_cons, hla us h2 hq]) (Out.gr out1 g2)
    · exact out1.elim
  · exact out1.elim
theorem se_mth {pl : Sem Bool} {p0 : Str} (tk : TakesC X W) (kc : ClsF X.K X.mg c) (hC : ∃ C, X.mg c = some (.ref C)) (f : MetS X.prog X.w X.K X.mg X.base k c m (p0 :: ps) F) (hr : Room k X.A) (ho : SE X W o fo) (ha : SA X W (e :: es) fa) (hn : aLen fa ps.length)
    (hst : starEach (e :: es) X.env = (false, eval e X.env) :: starEach es X.env := by rfl) (hpl : (backTo pos (starEach es X.env)).any (·.1) = false := by rfl)
    (ht : eval (.Call (.Attribute o m apos) (e :: es) [] pos) X.env = (do
      let ov ← eval o X.env
      standAt apos.atName
      let (f, first) ← holding [ov] (getMethod ov m pl)
      callWith pos f first (backTo pos (starEach (e :: es) X.env)) (backToKw pos (keywordEach [] X.env))) := by rfl) :
    SE X W (.Call (.Attribute o m apos) (e :: es) [] pos) (eMth c m F fo fa) := by
  obtain ⟨C, hC⟩ := hC
  obtain ⟨f', fd, h1, h3, h4⟩ := f.ex C hC
  exact ⟨pe_imp (pe_methE ho.pe (kc.cls C hC) h1 h4 hr h3 tk ha.pa hst hpl ht) fun σ H Q q => mth_rd hC hn (fun _ _ => trivial) (fun _ _ _ z => z) q⟩
theorem se_mth0 {pl : Sem Bool} {p0 : Str} (tk : TakesC X W) (kc : ClsF X.K X.mg c) (hC : ∃ C, X.mg c = some (.ref C)) (f : MetS X.prog X.w X.K X.mg X.base k c m [p0] F) (hr : Room k X.A) (ho : SE X W o fo)
    (ht : eval (.Call (.Attribute o m apos) [] [] pos) X.env = (do
      let ov ← eval o X.env
      standAt apos.atName
      let (f, first) ← holding [ov] (getMethod ov m pl)
      callWith pos f first (backTo pos (starEach [] X.env)) (backToKw pos (keywordEach [] X.env))) := by rfl) :
    SE X W (.Call (.Attribute o m apos) [] [] pos) (eMth c m F fo aNil) := by
  obtain ⟨C, hC⟩ := hC
  obtain ⟨f', fd, h1, h3, h4⟩ := f.ex C hC
  refine ⟨pe_imp (pe_methE0 ho.pe (kc.cls C hC) h1 h4 hr h3 tk ht) fun σ H Q q => mth_rd (ps := []) (t := tNil) hC aLen_nil (fun _ _ => trivial) (fun σ H R ⟨env, m, h, sta, sl, out⟩ => ?_) q⟩
  exact Out.here (b := []) out sta .nil
end

/-! ### making an instance -/
structure MkS (P : Program) (w : World) (K : PySem.W.Frag) (mg : Str → Option Value) (base : Heap) (k : Nat) (c : Str) (ps : List Str) (F : SF) : Prop where
  ex : ∃ C f fd, mg c = some (.ref C) ∧ Mk K C f ∧ Binds K fd ps [] ∧ FnOk P w K mg base (L2.CX P w) k f fd ps (spS K mg ps.length F)
def retN (n : Nat) (r : U) (h : Sto) : Res U := match r with
  | .d .none => .ok (.ref n) h
  | _ => .stuck
def eMk (c : Str) (F : SF) (fa : Ea) : Ev := fun env h => (fa env h).bind fun us h1 => (F (.ref h1.length :: us) (h1 ++ [.ins c []])).bind (retN h1.length)
section
variable {X : Cx} {CX : CXT} {k : Nat} {f C : Addr} {fd : FuncData} {ps : List Str} {sp : Sp} {E : L2.St → XK} {x : Str} {p pos : Pos} {e : Expr} {es : List Expr} {t : TA}
def tMakeS (C : Addr) (sp : Sp) (E : L2.St → XK) (t : TA) : TE := fun σ H Q => t σ H fun vs H1 => ∀ x dx, H1 x = none → H1 dx = none → dx ≠ x →
  sp (.ref x :: vs) (upd (upd H1 dx (.own x)) x (.ins C dx [])) (fun v H2 => v = .non ∧ Q (.ref x) H2) (E σ)
theorem run_makeS {pins : List (Addr × Obj)} {σ : L2.St} {H : Hp} {s : Shared} {Q : VK} {us : List Value} {vs : List V} {E : XK} (M : Mk X.K C f) (F : FnOk X.prog X.w X.K X.mg X.base CX k f fd ps sp) (hr : Room (k + 1) X.A) (hb : Binds X.K fd ps [])
    (hx : PassesAt CX X σ E) (I : Inv X pins σ H s) (r : Vals vs us)
    (h : ∀ x dx, H x = none → H dx = none → dx ≠ x → sp (.ref x :: vs) (upd (upd H dx (.own x)) x (.ins C dx [])) (fun v H2 => v = .non ∧ Q (.ref x) H2) E) :
    wpAny (model X.prog X.w) X.A (call (.ref C) us) (EP X pins σ Q) X.xe s := by
  have hq := h (s.heap.objs.size + 1) s.heap.objs.size (I.hok.fresh (Nat.le_succ _)) (I.hok.fresh (Nat.le_refl _)) (Nat.ne_of_lt (Nat.lt_succ_self _))
  have I2 := Inv.made (C := C) I
  have r2 : Vals (V.ref (s.heap.objs.size + 1) :: vs) (Value.ref (s.heap.objs.size + 1) :: us) := .cons rfl r
  have hl : (Value.ref (s.heap.objs.size + 1) :: us).length = ps.length := by
    have e := r2.length
    rw [F.len _ _ _ _ hq] at e
    exact e.symm
  have b := hb { s with heap := (s.heap.push PySem.W.emptyDict).push (PySem.W.instObj C s.heap.objs.size) } (Value.ref (s.heap.objs.size + 1) :: us) I2.kIn (by rw [List.append_nil]; exact hl)
  rw [List.append_nil] at b
  refine wpAny_call (make_map (f := f) I.kIn M.makes M.init (beq_iff_eq.mp M.fn) (codeAny_mono (F.run _ X.stack _ _ ⟨Value.ref (s.heap.objs.size + 1) :: us, []⟩ (Value.ref (s.heap.objs.size + 1) :: us) _ _ E (hr.make C us [])
    (I2.env0.make C us []) b r2 hq) fun r s' hq' => ?_))
  cases r with
  | error e => exact hx pins _ _ e s' I2 hq'
  | ok fl =>
    cases fl with
    | ret u =>
      obtain ⟨v, H', I3, rv, ev, q3⟩ := I2.after hq'
      subst ev
      exact ⟨rv, ⟨V.ref (s.heap.objs.size + 1), H', I3, rfl, q3⟩⟩
    | next => exact False.elim hq'
    | brk => exact False.elim hq'
    | cont => exact False.elim hq'
theorem pe_makeS (M : Mk X.K C f) (F : FnOk X.prog X.w X.K X.mg X.base CX k f fd ps sp) (hr : Room (k + 1) X.A) (hg : Gl X x) (hm : X.mg x = some (.ref C)) (hb : Binds X.K fd ps []) (hx : ∀ σ, PassesAt CX X σ (E σ))
    (ha : PA X (e :: es) t) (hdb : (x == ("__debug__" : Str)) = false) (he : starEach (e :: es) X.env = (false, eval e X.env) :: starEach es X.env) (hpl : (backTo pos (starEach es X.env)).any (·.1) = false) :
    PE X (.Call (.Name x p) (e :: es) [] pos) (tMakeS C sp E t) := by
  refine ⟨fun pins s σ H Q I h => ?_⟩
  refine wpAny_Call_Name_kw (ld_glob I hg hm ?_ hdb)
  refine PySem.W.callWith_K (h₀ := X.base) I.ok.mod.kin M.kp (thn (ha.run pos pins s σ H _ I h) fun us s1 ⟨vs, H1, I1, r, q⟩ => ⟨I1.kIn, ?_⟩) he hpl
  exact run_makeS M F hr hb (hx σ) I1 r q
theorem pe_makeS0 (M : Mk X.K C f) (F : FnOk X.prog X.w X.K X.mg X.base CX k f fd ps sp) (hr : Room (k + 1) X.A) (hg : Gl X x) (hm : X.mg x = some (.ref C)) (hb : Binds X.K fd ps []) (hx : ∀ σ, PassesAt CX X σ (E σ))
    (hdb : (x == ("__debug__" : Str)) = false) : PE X (.Call (.Name x p) [] [] pos) (tMakeS C sp E tNil) := by
  refine ⟨fun pins s σ H Q I h => ?_⟩
  refine wpAny_Call_Name_kw (ld_glob I hg hm ?_ hdb)
  exact PySem.W.callWith_K0 I.kIn M.kp (run_makeS (us := []) M F hr hb (hx σ) I .nil h)
end
section
variable {X : Cx} {W : WX} {k : Nat} {c : Str} {p pos : Pos} {e : Expr} {es : List Expr} {ps : List Str} {F : SF} {fa : Ea}
theorem mk_rd {C : Addr} {H : Hp} {Q : VK} {σ : L2.St} {t : TA} (hC : X.mg c = some (.ref C)) (hn : aLen fa ps.length)
    (ht : ∀ σ H R, rd X W (rlA X.K) fa σ H R → t σ H R) (q : rd X W (rlU X.K) (eMk c F fa) σ H Q) :
    t σ H fun vs H1 => ∀ x dx, H1 x = none → H1 dx = none → dx ≠ x → spS X.K X.mg (ps.length + 1) F (.ref x :: vs) (upd (upd H1 dx (.own x)) x (.ins C dx [])) (fun v H2 => v = .non ∧ Q (.ref x) H2) (WE W σ) := by
  obtain ⟨env, m, h, sta, sl, out⟩ := q
  refine ht _ _ _ ⟨env, m, h, sta, sl, ?_⟩
  have hla := fun us h2 => hn us env h h2
  unfold eMk at out
  generalize hq : fa env h = z at out
  cases z with
  | stuck => exact out
  | exc c h2 => exact out
  | ok us h1 =>
    intro vs H1 m1 g1 s1 r1 x dx nx nd ne
    have out1 := Out.gr out g1
    have nx2 : upd H1 dx (.own x) x = none := by rw [upd_ne ne.symm]; exact nx
    have sm1 : Same H1 (upd H1 dx (.own x)) := Same.lay nd
    have sm2 : Same (upd H1 dx (.own x)) (upd (upd H1 dx (.own x)) x (.ins C dx [])) := Same.lay nx2
    have s2 := (s1.same sm1).push (x := .ins C dx []) (o' := .ins c []) nx2 ⟨C, dx, [], hC, upd_same, .nil⟩
    have g2 : Gr H1 m1 (upd (upd H1 dx (.own x)) x (.ins C dx [])) (m1 ++ [x]) := (Gr.of_same sm1 m1).trans (Gr.push nx2)
    have rx : RU X.K (upd (upd H1 dx (.own x)) x (.ins C dx [])) (m1 ++ [x]) (.ref x) (.ref h1.length) := .ref (by rw [← s1.len]; simp)
    refine spS_of s2 (.cons rx (RUs.kp g2.kp g2.pre _ _ r1)) (by rw [List.length_cons, hla us h1 hq]) ?_
    have out2 : Out X W (rlU X.K) σ H1 m1 ((F (.ref h1.length :: us) (h1 ++ [.ins c []])).bind (retN h1.length)) Q := out1
    have out3 := Out.gr out2 g2
    clear out2 out1 out
    generalize F (.ref h1.length :: us) (h1 ++ [.ins c []]) = y at out3
    cases y with
    | stuck => exact out3
    | exc c h2 => exact out3
    | ok u h2 =>
      intro v H3 m3 g3 s3 r3
      have o4 : Out X W (rlU X.K) σ (upd (upd H1 dx (.own x)) x (.ins C dx [])) (m1 ++ [x]) (retN h1.length u h2) Q := out3
      unfold retN at o4
      split at o4
      · cases r3.rd
        exact ⟨rfl, Out.ok (b := V.ref x) o4 g3 s3 (RU.kp g3.kp g3.pre _ _ rx)⟩
      · exact o4.elim
theorem se_make {p0 : Str} (tk : TakesC X W) (f : MkS X.prog X.w X.K X.mg X.base k c (p0 :: ps) F) (hr : Room (k + 1) X.A) (hg : Gl X c) (ha : SA X W (e :: es) fa) (hn : aLen fa ps.length) (hdb : (c == ("__debug__" : Str)) = false := by decide)
    (he : starEach (e :: es) X.env = (false, eval e X.env) :: starEach es X.env := by rfl) (hpl : (backTo pos (starEach es X.env)).any (·.1) = false := by rfl) : SE X W (.Call (.Name c p) (e :: es) [] pos) (eMk c F fa) := by
  obtain ⟨C, f', fd, hC, h1, h3, h4⟩ := f.ex
  exact ⟨pe_imp (pe_makeS h1 h4 hr hg hC h3 tk ha.pa hdb he hpl) fun σ H Q q => mk_rd hC hn (fun _ _ _ z => z) q⟩
theorem se_make0 {p0 : Str} (tk : TakesC X W) (f : MkS X.prog X.w X.K X.mg X.base k c [p0] F) (hr : Room (k + 1) X.A) (hg : Gl X c) (hdb : (c == ("__debug__" : Str)) = false := by decide) : SE X W (.Call (.Name c p) [] [] pos) (eMk c F aNil) := by
  obtain ⟨C, f', fd, hC, h1, h3, h4⟩ := f.ex
  refine ⟨pe_imp (pe_makeS0 h1 h4 hr hg hC h3 tk hdb) fun σ H Q q => mk_rd (ps := []) (t := tNil) hC aLen_nil (fun σ H R ⟨env, m, h, sta, sl, out⟩ => ?_) q⟩
  exact Out.here (b := []) out sta .nil
end
end Wk

/-! T10: is, raise, try, dicts, pairs of stores. -/
namespace Wk
open PySem PySem.Spec PyProof.Rows L2
/-! ### x is None, x is True -/
def isB (b : Bool) : U → Bool
  | .d (.bool a) => decide (a = b)
  | _ => false
def opIs (n : Bool) (u w : U) (h : Sto) : Res U := match w with
  | .d .none => .ok (.d (.bool (xor n (isN u)))) h
  | .d (.bool b) => .ok (.d (.bool (xor n (isB b u)))) h
  | _ => .stuck
section
variable {X : Cx} {W : WX}
def smV : V → Prop
  | .non => True
  | .bl _ => True
  | .int _ => True
  | .str _ => True
  | .ref _ => True
  | _ => False
theorem smV_of {K : PySem.W.Frag} {H : Hp} {m : List Addr} {v : V} {u : U} (r : RU K H m v u) : smV v := by
  cases r with
  | d p => cases p <;> trivial
  | ref p => trivial
  | tup p q => trivial
  | exn a => trivial
def rIsX (n : Bool) : R2 := fun x y H Q => (y = .non ∧ Q (.bl (xor n (decide (x = .non)))) H) ∨ ∃ b, y = .bl b ∧ smV x ∧ Q (.bl (xor n (decide (x = .bl b)))) H
theorem op_isX : OpR X (compareOp .Is) (rIsX false) := by
  intro pins s σ H x y v u Q I rx ry h
  rcases h with ⟨rfl, q⟩ | ⟨b, rfl, sx, q⟩
  · rw [Bool.false_xor] at q
    exact op_isN pins s σ H x _ v u Q I rx ry ⟨rfl, q⟩
  · rw [Bool.false_xor] at q
    cases (show u = Value.bool b from ry)
    have fin : ∀ (z : Value), RelV x z → plainIs z (.bool b) = true → (decide (x = .bl b)) = decide (z = .bool b) → wpAny (model X.prog X.w) X.A (compareOp .Is z (.bool b)) (EP X pins σ Q) X.xe s := fun z rz hp e => by
      rw [e] at q
      by_cases hz : z = .bool b
      · subst hz
        exact wpAny_is_self rfl ⟨.bl true, H, I, rfl, by simpa using q⟩
      · exact wpAny_is_other hp hz ⟨.bl false, H, I, rfl, by simpa [hz] using q⟩
    cases x with
    | non => cases rx; exact fin _ rfl rfl (by simp)
    | bl a => cases rx; exact fin _ rfl rfl (by by_cases h : a = b <;> simp [h])
    | int i => obtain ⟨t, rfl⟩ := rx; exact fin _ ⟨t, rfl⟩ rfl (by simp)
    | str i => obtain ⟨t, rfl⟩ := rx; exact fin _ ⟨t, rfl⟩ rfl (by simp)
    | ref i => cases rx; exact fin _ rfl rfl (by simp)
    | _ => exact sx.elim
theorem op_isNotX : OpR X (compareOp .IsNot) (rIsX true) := by
  intro pins s σ H x y v u Q I rx ry h
  rcases h with ⟨rfl, q⟩ | ⟨b, rfl, sx, q⟩
  · rw [Bool.true_xor] at q
    exact op_notN pins s σ H x _ v u Q I rx ry ⟨rfl, q⟩
  · rw [Bool.true_xor] at q
    cases (show u = Value.bool b from ry)
    have fin : ∀ (z : Value), RelV x z → plainIs z (.bool b) = true → (decide (x = .bl b)) = decide (z = .bool b) → wpAny (model X.prog X.w) X.A (compareOp .IsNot z (.bool b)) (EP X pins σ Q) X.xe s := fun z rz hp e => by
      rw [e] at q
      by_cases hz : z = .bool b
      · subst hz
        exact wpAny_isNot_self rfl ⟨.bl false, H, I, rfl, by simpa using q⟩
      · exact wpAny_isNot_other hp hz ⟨.bl true, H, I, rfl, by simpa [hz] using q⟩
    cases x with
    | non => cases rx; exact fin _ rfl rfl (by simp)
    | bl a => cases rx; exact fin _ rfl rfl (by by_cases h : a = b <;> simp [h])
    | int i => obtain ⟨t, rfl⟩ := rx; exact fin _ ⟨t, rfl⟩ rfl (by simp)
    | str i => obtain ⟨t, rfl⟩ := rx; exact fin _ ⟨t, rfl⟩ rfl (by simp)
    | ref i => cases rx; exact fin _ rfl rfl (by simp)
    | _ => exact sx.elim
theorem ab_is (n : Bool) : Ab2 X W (opIs n) (rIsX n) := by
  intro σ H m h x y u w Q s ru rw out
  unfold opIs at out
  split at out
  · cases rw.rd
    refine .inl ⟨rfl, ?_⟩
    rw [isN_v ru]
    exact Out.here (b := V.bl _) out s (.d (.bl _))
  · rename_i b
    cases rw.rd
    refine .inr ⟨b, rfl, smV_of ru, ?_⟩
    have e : decide (x = .bl b) = isB b u := by
      cases ru with
      | d p => cases p <;> simp [isB]
      | ref p => simp [isB]
      | tup p q => simp [isB]
      | exn a => simp [isB]
    rw [e]
    exact Out.here (b := V.bl _) out s (.d (.bl _))
  · exact out.elim
end

/-! ### raise -/
structure ExcC (K : PySem.W.Frag) (mg : Str → Option Value) (c : Str) : Prop where
  ex : ∃ C, mg c = some (.ref C) ∧ PySem.W.excIn K C [.type "ValueError", .type "Exception", .type "BaseException", .type "object"] "ValueError.__new__" = true ∧ PySem.W.keepIn K (.ref C) = true ∧
    PySem.W.subIn K (.ref C) (.type "BaseException") = some true ∧ PySem.W.typeIn K (.ref C) = some (.type "type")
def sRaise (c : Str) : Es := fun env h => .exc c env h
section
variable {X : Cx} {W : WX} {c m : Str} {j : Nat} {p p2 pos pos' : Pos}
theorem ss_raise (hc : X.calm = true) (tk : Takes X W) (kc : ExcC X.K X.mg c) (hg : Gl X c) (hdb : (c == ("__debug__" : Str)) = false := by decide) :
    SS X W (.Raise (some (.Call (.Name c p) [.Constant (.str m) j p2] [] pos)) none pos') (sRaise c) := by
  obtain ⟨C, h1, h2, h3, h4, h5⟩ := kc.ex
  refine ⟨ps_imp (ps_raise hc tk (pmk_own PySem.F.excBase_ValueError h2 h1 h3 (raises_own h4 h5) hg hdb)) fun D σ H ⟨env, mm, h, sta, sl, out⟩ => ?_⟩
  exact (show ∀ σ' H' m', Gr H mm H' m' → Sta X.K X.mg H' m' h → Sl X.K H' m' σ' env → ExW X W c σ' H' from out) σ H mm (Gr.refl _ _) sta sl C h1
end

/-! ### try -/
def SRes.noEx : SRes → SRes
  | .exc _ _ _ => .stuck
  | r => r
/-- the handlers by the name of the class; mt: whether an exception of the class c is one of the class d -/
def tryGo (mt : Str → Str → Option Bool) (c : Str) (env' : Env') (h' : Sto) : List (Str × Es) → SRes
  | [] => .exc c env' h'
  | (d, g) :: r => match mt c d with
    | some true => (g env' h').noEx
    | some false => tryGo mt c env' h' r
    | none => .stuck
def sTry (mt : Str → Str → Option Bool) (b : Es) (hs : List (Str × Es)) : Es := fun env h => match b env h with
  | .exc c env' h' => tryGo mt c env' h' hs
  | .next env' h' => .next env' h'
  | .ret u h' => .ret u h'
  | .stuck => .stuck
def MtOk (K : PySem.W.Frag) (mg : Str → Option Value) (mt : Str → Str → Option Bool) : Prop := ∀ c d b, mt c d = some b → ∀ C D, mg c = some (.ref C) → mg d = some (.ref D) → PySem.W.exmOne K (.ref C) (.ref D) = some b
inductive HsOk (X : Cx) : List ExceptHandler → List (Str × Es) → Prop
  | nil : HsOk X [] []
  | cons {d : Str} {g : Es} {b₀ : Stmt} {suite : List Stmt} {np pos' : Pos} {hds : List ExceptHandler} {hs : List (Str × Es)} (hg : Gl X d) (hdb : (d == ("__debug__" : Str)) = false) (hD : ∃ D, X.mg d = some (.ref D))
      (hsu : ∀ (a : Addr) (pn : List (Addr × Obj)), SSs (X.suite a pn) W0 (b₀ :: suite) g) (r : HsOk X hds hs) :
      HsOk X (.ExceptHandler (some (.Name d np)) none (b₀ :: suite) pos' :: hds) ((d, g) :: hs)
section
variable {X : Cx} {W : WX} {mt : Str → Str → Option Bool} {body : List Stmt} {h₀ : ExceptHandler} {hds : List ExceptHandler} {hs' : List (Str × Es)} {b : Es} {pos : Pos}
inductive LOk (X : Cx) : List (Str × Es) → List (Value × (Addr → Value → Option Addr → TS)) → Prop
  | nil : LOk X [] []
  | cons {d : Str} {D : Addr} {g : Es} {hs : List (Str × Es)} {l : List (Value × (Addr → Value → Option Addr → TS))} (hD : X.mg d = some (.ref D)) (r : LOk X hs l) : LOk X ((d, g) :: hs) ((.ref D, fun _ _ _ => rdS X W0 g) :: l)
theorem HsOk.l {hds : List ExceptHandler} {hs : List (Str × Es)} (h : HsOk X hds hs) : ∃ l, HdsOk X hds l ∧ LOk X hs l := by
  induction h with
  | nil => exact ⟨[], .nil, .nil⟩
  | cons hg hdb hD hsu r ih =>
    obtain ⟨l, h1, h2⟩ := ih
    obtain ⟨D, hD⟩ := hD
    exact ⟨_, .cons (c := .ref D) ⟨hg, hdb, .inl hD⟩ (fun a oe cls d pn _ _ => (hsu a ((a, oe) :: pn)).ps) h1, .cons hD h2⟩
theorem tryGo_out {D : Ends} {c : Str} {C : Addr} {env' : Env'} {h' : Sto} (mtok : MtOk X.K X.mg mt) (hC : X.mg c = some (.ref C)) : ∀ {hs : List (Str × Es)} {l : List (Value × (Addr → Value → Option Addr → TS))}, LOk X hs l → ∀ {σ' : L2.St} {H' : Hp} {m' : List Addr},
    Sta X.K X.mg H' m' h' → Sl X.K H' m' σ' env' → OutS X W D H' m' (tryGo mt c env' h' hs) → wMany X.K W D l (.ref C) none σ' H'
  | _, _, .nil, σ', H', m', s, sl, out => (show ∀ σ2 H2 m2, Gr H' m' H2 m2 → Sta X.K X.mg H2 m2 h' → Sl X.K H2 m2 σ2 env' → ExW X W c σ2 H2 from out) σ' H' m' (Gr.refl _ _) s sl C hC
  | _, _, .cons (d := d) (D := DD) (g := g) (hs := hs) hD r, σ', H', m', s, sl, out => by
    unfold tryGo at out
    split at out
    · rename_i e
      refine ⟨true, mtok c d true e C DD hC hD, fun _ a _ => ⟨env', m', h', s, sl, ?_⟩, fun z => nomatch z⟩
      generalize g env' h' = y at out
      cases y with
      | next e2 h2 => exact out
      | ret u h2 => exact out
      | exc c2 e2 h2 => exact out.elim
      | stuck => exact out
    · rename_i e
      exact ⟨false, mtok c d false e C DD hC hD, fun z => (nomatch z), fun _ => tryGo_out mtok hC r s sl out⟩
    · exact out.elim
theorem ss_try (hs : X.stack = X.env :: X.outer) (hf : X.env.frame = some X.env.locals) (tk : Takes X W) (mtok : MtOk X.K X.mg mt)
    (hb : ∀ (W' : WX) (pn : List (Addr × Obj)) (xe : Value → Shared → Prop), Takes (X.tr pn xe) W' → PassesOwn (model X.prog X.w) X.A X.env xe → SSs (X.tr pn xe) W' body b)
    (hh : HsOk X (h₀ :: hds) hs') : SS X W (.Try body (h₀ :: hds) [] [] pos) (sTry mt b hs') := by
  obtain ⟨l, h1, h2⟩ := hh.l
  refine ⟨ps_imp (ps_try_many (tb := fun W' => rdS X W' b) hs hf tk (fun W' pn xe t p => (hb W' pn xe t p).ps) h1) fun D σ H ⟨env, m, h, sta, sl, out⟩ => ⟨env, m, h, sta, sl, ?_⟩⟩
  unfold sTry at out
  generalize b env h = y at out
  cases y with
  | next e2 h2 => exact out
  | ret u h2 => exact out
  | exc c e' h' => exact fun σ' H' m' g s' sl' C hC => tryGo_out mtok hC h2 s' sl' (OutS.gr out g)
  | stuck => exact out
end
end Wk

/-! T11: dicts by ints and texts, pairs of stores. -/
namespace Wk
open PySem PySem.Spec PyProof.Rows L2
def eDNew : Ev := fun _ h => .ok (.ref h.length) (h ++ [.dct []])
def opDGet (u w : U) (h : Sto) : Res U := match dictOf h u, keyOf w with
  | some kvs, some k => (match valU kvs k with
    | some x => .ok x h
    | none => .stuck)
  | _, _ => .stuck
def eDGet2 (fo fk fx : Ev) : Ev := fun env h => (fo env h).bind fun u h1 => match dictOf h1 u with
  | some _ => (fk env h1).bind fun w h2 => (fx env h2).bind fun x h3 => (match dictOf h3 u, keyOf w with
    | some kvs, some k => .ok ((valU kvs k).getD x) h3
    | _, _ => .stuck)
  | none => .stuck
noncomputable def dPut (u w x : U) (h : Sto) : Option Sto := match u with
  | .ref n => (match h[n]?, keyOf w with
    | some (.dct kvs), some k => if ask (kvs.length < sizeLine) then some (h.set n (.dct (putU kvs k x))) else none
    | _, _ => none)
  | _ => none
noncomputable def sDPutS (fv fo fk : Ev) : Es := fun env h => (fv env h).then_ env fun x h1 => (fo env h1).then_ env fun u h2 => (fk env h2).then_ env fun w h3 => match dPut u w x h3 with
  | some h4 => .next env h4
  | none => .stuck
section
variable {X : Cx} {W : WX} {o i e value : Expr} {pos pos' apos cpos : Pos} {fo fi fv fx : Ev}
theorem se_dnew : SE X W (.Dict [] [] pos) eDNew :=
  ⟨pe_imp pe_dnewK fun σ H Q ⟨env, m, h, sta, sl, out⟩ p np => Out.ok (b := V.ref p) out (Gr.push np) (sta.push np ⟨[], upd_same, .nil⟩) (.ref (by rw [← sta.len]; simp))⟩
theorem dget_of {H : Hp} {m : List Addr} {h : Sto} {a : Addr} {gs : List (Key × V)} {kvs : List (Key × U)} {k : Key} {y : V} {w : U} (hH : H a = some (.dK gs)) (ek : keyOf w = some k) (ry : RU X.K H m y w) : DGet H a y (valV gs k) := by
  rw [keyOf_v ek ry]
  exact .inl ⟨gs, k, .inl hH, rfl, rfl⟩
theorem se_dget (hu : X.A.units + 1 < cLine) (ho : SE X W o fo) (hi : SE X W i fi) (hs : NoSl i := by intro _ _; rfl) : SE X W (.Subscript o i pos) (eBin opDGet fo fi) :=
  ⟨pe_imp (pe_dget hu ho.pe hi.pe hs) fun σ H Q ⟨env, m, h, sta, sl, out⟩ => rd_of sta sl out fun u h1 x H1 m1 g1 s1 r1 out1 => rd_of s1 (sl.gr g1) out1 fun w h2 y H2 m2 g2 s2 r2 out2 => by
    have ru := RU.kp g2.kp g2.pre _ _ r1
    unfold opDGet at out2
    split at out2
    · rename_i kvs k ed ek
      obtain ⟨a, n, gs, rfl, hm, hn, rfl, hH, rk⟩ := dictOf_v s2 ed ru
      split at out2
      · rename_i z ez
        rcases rk.val k with ⟨_, h2⟩ | ⟨v, u', h1, h2, rv⟩
        · rw [ez] at h2; cases h2
        · rw [ez] at h2
          cases h2
          refine ⟨a, v, rfl, ?_, Out.here (b := v) out2 s2 rv⟩
          rw [← h1]
          exact .inl ⟨gs, k, .inl hH, keyOf_v ek r2, rfl⟩
      · exact out2.elim
    · exact out2.elim⟩
theorem dictOf_stay {h : Sto} {u : U} {kvs : List (Key × U)} (e : dictOf h u = some kvs) : ∃ n, u = .ref n ∧ h[n]? = some (.dct kvs) := by
  unfold dictOf at e
  split at e
  · split at e
    · rename_i n kvs' ho
      cases e
      exact ⟨_, rfl, ho⟩
    · cases e
  · cases e
theorem se_dget2 (hu : X.A.units + 1 < cLine) (ho : SE X W o fo) (hi : SE X W i fi) (hx : SE X W e fx) (m : M2 X o "get" apos i e cpos) : SE X W (.Call (.Attribute o "get" apos) [i, e] [] cpos) (eDGet2 fo fi fx) :=
  ⟨pe_imp (pe_dget2 hu ho.pe hi.pe hx.pe m) fun σ H Q ⟨env, m, h, sta, sl, out⟩ => rd_of sta sl out fun u h1 x H1 m1 g1 s1 r1 out1 => by
    split at out1
    · rename_i kvs ed
      obtain ⟨a, n, gs, rfl, hm, hn, rfl, hH, rk⟩ := dictOf_v s1 ed r1
      refine ⟨a, rfl, .inl ⟨gs, .inl hH⟩, rd_of s1 (sl.gr g1) out1 fun w h2 y H2 m2 g2 s2 r2 out2 => rd_of s2 ((sl.gr g1).gr g2) out2 fun z h3 zv H3 m3 g3 s3 r3 out3 => ?_⟩
      have ru := RU.kp (g2.trans g3).kp (g2.trans g3).pre _ _ r1
      have ry := RU.kp g3.kp g3.pre _ _ r2
      split at out3
      · rename_i kvs' k ed' ek
        obtain ⟨a', n', gs', e1, hm', hn', e2, hH', rk'⟩ := dictOf_v s3 ed' ru
        cases e1
        cases e2
        refine ⟨valV gs' k, .inl ⟨gs', k, .inl hH', keyOf_v ek ry, rfl⟩, ?_⟩
        rcases rk'.val k with ⟨l1, l2⟩ | ⟨v, u', l1, l2, rv⟩
        · rw [l1]; rw [l2] at out3
          exact Out.here (b := zv) out3 s3 r3
        · rw [l1]; rw [l2] at out3
          exact Out.here (b := v) out3 s3 rv
      · exact out3.elim
    · exact out1.elim⟩
theorem ss_dput (hu : X.A.units + 1 < cLine) (hv : SE X W value fv) (ho : SE X W o fo) (hi : SE X W i fi) (hs : swapsWith value (some (.Subscript o i pos')) pos.line X.env = pure false := by rfl) : SS X W (.Assign [.Subscript o i pos'] value pos) (sDPutS fv fo fi) :=
  ⟨ps_imp (ps_dput hu ho.pe hi.pe hv.pe hs) fun D σ H ⟨env, m, h, sta, sl, out⟩ => rd_then sta sl out fun x h1 xv H1 m1 g1 s1 rx out1 => rd_then s1 (sl.gr g1) out1 fun u h2 uv H2 m2 g2 s2 ru out2 => rd_then s2 ((sl.gr g1).gr g2) out2 fun w h3 wv H3 m3 g3 s3 rw out3 => by
    have ru3 := RU.kp g3.kp g3.pre _ _ ru
    have rx3 := RU.kp (g2.trans g3).kp (g2.trans g3).pre _ _ rx
    split at out3
    · rename_i h4 e4
      unfold dPut at e4
      split at e4
      · rename_i n
        split at e4
        · rename_i kvs k hn ek
          split at e4
          · rename_i hl
            cases e4
            cases ru3 with
            | ref hm =>
              rename_i a
              obtain ⟨gs, hH, rk⟩ := s3.obj _ _ _ hm hn
              have kp := mut_kp (y := HO.dK (putK gs k xv)) hH trivial
              have gw := Gr.write (y := HO.dK (putK gs k xv)) (List.mem_of_getElem? hm) hH trivial
              refine ⟨a, _, rfl, .inl ⟨gs, k, hH, keyOf_v ek rw, by rw [rk.len]; exact ask_iff.mp hl, rfl⟩, ?_⟩
              exact (show ∀ σ' H' m', Gr H3 m3 H' m' → Sta X.K X.mg H' m' _ → Sl X.K H' m' σ' env → D.nx σ' H' from out3) σ _ m3 gw
                (s3.write hm hH trivial ⟨_, upd_same, (RK.put (paired_imp (fun p q z => ⟨z.1, RU.kp kp ⟨[], by simp⟩ _ _ z.2⟩) rk) k (RU.kp kp ⟨[], by simp⟩ _ _ rx3))⟩) ((((sl.gr g1).gr g2).gr g3).gr gw)
          · cases e4
        · cases e4
      · cases e4
    · exact out3.elim⟩
end

/-! ### a, b = x, y -/
def sPar (i j : Nat) (fa : Ea) : Es := fun env h => (fa env h).then_ env fun us h1 => match us with
  | [u, w] => .next ((env.set i (some u)).set j (some w)) h1
  | _ => .stuck
section
variable {X : Cx} {W : WX} {a b o : Expr} {pos px py pt : Pos} {kt k2 : Nat} {pt2 : Pos} {fa : Ea} {f fo : Ev}
theorem ss_par (i j : Nat) {x y : Str} (hc : X.calm = true) (hN : X.N.Nodup) (ha : SA X W [a, b] fa) (hi : X.N[i]? = some x := by rfl) (hj : X.N[j]? = some y := by rfl) (hij : i ≠ j := by decide)
    (hx : X.env.scope.names.lookup x = some .local := by rfl) (hy : X.env.scope.names.lookup y = some .local := by rfl)
    (hw : swappedStores [.Tuple [.Name x px, .Name y py] kt pt] (.Tuple [a, b] k2 pt2) X.env = pure (some [x, y]) := by rfl)
    (hs : swapsWithSole [.Tuple [.Name x px, .Name y py] kt pt] (.Tuple [a, b] k2 pt2) pos.line X.env = pure false := by rfl) :
    SS X W (.Assign [.Tuple [.Name x px, .Name y py] kt pt] (.Tuple [a, b] k2 pt2) pos) (sPar i j fa) :=
  ⟨ps_imp (ps_par hc hN hi hj hij hx hy ha.pa hw hs) fun D σ H ⟨env, m, h, sta, sl, out⟩ => rd_then sta sl out fun us h1 vs H1 m1 g1 s1 r1 out1 => by
    split at out1
    · cases r1 with
      | cons ra rb =>
        cases rb with
        | cons rb rc =>
          cases rc
          refine ⟨_, _, rfl, ?_⟩
          exact (show ∀ σ' H' m', Gr H1 m1 H' m' → Sta X.K X.mg H' m' h1 → Sl X.K H' m' σ' _ → D.nx σ' H' from out1) _ H1 m1 (Gr.refl _ _) s1 (((sl.gr g1).set ra i).set rb j)
    · exact out1.elim⟩
/-! ### o.f, o.g = e, o a name -/
def gAttr (K : PySem.W.Frag) (ta : TE) (f : Str) : TG := fun v σ H Q => ta σ H fun x H1 => ∃ a C dx fs, x = .ref a ∧ H1 a = some (.ins C dx fs) ∧ Cls K C ∧ NoAttr K C f ∧ fs.length < 1000 ∧ Q σ (upd H1 a (.ins C dx (putF f v fs)))
theorem pg_attr {f : Str} {ta : TE} (ho : PE X o ta) : PG X (.Attribute o f pos) (gAttr X.K ta f) := by
  refine ⟨fun pins s σ H v u Q I r h => PySem.W.kas_attr (thn (ho.run pins s σ H _ I h) fun ov s1 ⟨x, H1, I1, rx, a, C, dx, fs, ex, ea, c, n, l, q⟩ => ?_)⟩
  subst ex
  obtain rfl : ov = Value.ref a := rx
  exact setattr_ok I1 ea c n l r fun s3 I3 => ⟨σ, _, I3, q⟩
def setFld (c f : Str) (w u : U) (h : Sto) : Option Sto := match u with
  | .ref n => (match h[n]? with
    | some (.ins c' fs) => if c' = c ∧ fs.length < 1000 then some (h.set n (.ins c' (putG f w fs))) else none
    | _ => none)
  | _ => none
/-- name.f, name.g = e -/
def sAsg2 (c f g : Str) (i : Nat) (fe : Ev) : Es := fun env h => (fe env h).then_ env fun u h1 => match itemsOf h1 u, env[i]? with
  | some [a, b], some (some o) => (match setFld c f a o h1 with
    | some h2 => (match setFld c g b o h2 with
      | some h3 => .next env h3
      | none => .stuck)
    | none => .stuck)
  | _, _ => .stuck
theorem setFld_v {c f : Str} {K : PySem.W.Frag} {mg : Str → Option Value} {H : Hp} {m : List Addr} {h h' : Sto} {v ov : V} {u w : U} (s : Sta K mg H m h) (e : setFld c f w u h = some h') (ru : RU K H m ov u) (rw : RU K H m v w) :
    ∃ a C dx fs, ov = .ref a ∧ mg c = some (.ref C) ∧ H a = some (.ins C dx fs) ∧ fs.length < 1000 ∧ Gr H m (upd H a (.ins C dx (putF f v fs))) m ∧ Sta K mg (upd H a (.ins C dx (putF f v fs))) m h' := by
  unfold setFld at e
  split at e
  · split at e
    · rename_i n c' fs hn
      split at e
      · rename_i hc
        obtain ⟨hc, hl⟩ := hc
        subst hc
        cases e
        cases ru with
        | ref hm =>
          rename_i a
          obtain ⟨C, dx, gs, h0, hH, rf⟩ := s.obj _ _ _ hm hn
          have kp := mut_kp (y := HO.ins C dx (putF f v gs)) hH trivial
          exact ⟨a, C, dx, gs, rfl, h0, hH, by rw [rf.len]; exact hl, Gr.write (List.mem_of_getElem? hm) hH trivial, s.write hm hH trivial ⟨C, dx, _, h0, upd_same, (rf.kp kp ⟨[], by simp⟩).put f (RU.kp kp ⟨[], by simp⟩ _ _ rw)⟩⟩
      · cases e
    · cases e
  · cases e
theorem ss_asg2 {c f g x : Str} {p1 p2 p3 p4 : Pos} (i : Nat) {fe : Ev} {value : Expr} (hc : X.calm = true) (kc : ClsF X.K X.mg c) (kf : FldF X.K X.mg c f) (kg : FldF X.K X.mg c g) (he : SE X W value fe) (hN : X.N[i]? = some x := by rfl)
    (hv : Vis X.env.scope x := by first | exact Or.inl rfl | exact Or.inr (Or.inl rfl) | exact Or.inr (Or.inr rfl)) (hd : (x == ("__debug__" : Str)) = false := by decide) (hcd : (x == ("__classdict__" : Str)) = false := by decide)
    (hs : swapsWithSole [.Tuple [.Attribute (.Name x p1) f p2, .Attribute (.Name x p3) g p4] kt pt] value pos.line X.env = pure false := by rfl) (hw : swappedStores [.Tuple [.Attribute (.Name x p1) f p2, .Attribute (.Name x p3) g p4] kt pt] value X.env = pure none := by rfl)
    (h1 : (assignEach [.Tuple [.Attribute (.Name x p1) f p2, .Attribute (.Name x p3) g p4] kt pt] X.env).map (·.2) = [assign (.Tuple [.Attribute (.Name x p1) f p2, .Attribute (.Name x p3) g p4] kt pt) X.env] := by rfl)
    (hn : (assignEach [.Attribute (.Name x p1) f p2, .Attribute (.Name x p3) g p4] X.env).length = 2 := by rfl) (hst : (assignEach [.Attribute (.Name x p1) f p2, .Attribute (.Name x p3) g p4] X.env).findIdx? (·.1) = none := by rfl)
    (ha1 : (assignEach [.Attribute (.Name x p1) f p2, .Attribute (.Name x p3) g p4] X.env).map (·.2) = assign (.Attribute (.Name x p1) f p2) X.env :: (assignEach [.Attribute (.Name x p3) g p4] X.env).map (·.2) := by rfl)
    (ha2 : (assignEach [.Attribute (.Name x p3) g p4] X.env).map (·.2) = assign (.Attribute (.Name x p3) g p4) X.env :: (assignEach [] X.env).map (·.2) := by rfl) :
    SS X W (.Assign [.Tuple [.Attribute (.Name x p1) f p2, .Attribute (.Name x p3) g p4] kt pt] value pos) (sAsg2 c f g i fe) :=
  have pgs := pgs_cons (pg_attr (f := f) (pos := p2) (pv (pos := p1) i hN hv hd hcd)) (pgs_cons (pg_attr (f := g) (pos := p4) (pv (pos := p3) i hN hv hd hcd)) pgs_nil ha2) ha1
  ⟨ps_imp (ps_asg he.pe (pg_or (pg_tup hc pgs hn hst) (pg_unl hc pgs hn hst)) hs hw h1) fun D σ H ⟨env, m, h, sta, sl, out⟩ => rd_then sta sl out fun u h1 v H1 m1 g1 s1 r1 out1 => by
    split at out1
    · rename_i a b o ei eo
      split at out1
      · rename_i h2 e2
        split at out1
        · rename_i h3 e3
          obtain ⟨p, vs, rfl, t1, rr⟩ := itemsOf_v s1 ei r1
          cases rr with
          | cons ra rb =>
            cases rb with
            | cons rb rc =>
              cases rc
              rename_i av bv
              obtain ⟨ov, eov, ro⟩ := (sl.gr g1).2 i o eo
              obtain ⟨ad, C, dx, fs, rfl, hC, hH, hl, gr2, sta2⟩ := setFld_v s1 e2 ro ra
              have ro2 := RU.kp gr2.kp gr2.pre _ _ ro
              have rb2 := RU.kp gr2.kp gr2.pre _ _ rb
              obtain ⟨ad', C', dx', fs', z, hC', hH', hl', gr3, sta3⟩ := setFld_v sta2 e3 ro2 rb2
              cases z
              have key : ∀ Q : L2.St → Hp → Prop, Q σ (upd (upd H1 ad (.ins C dx (putF f av fs))) ad (.ins C' dx' (putF g bv fs'))) → gCons (gAttr X.K (tVar i) f) (gCons (gAttr X.K (tVar i) g) gNil) [av, bv] σ H1 Q := fun Q q =>
                ⟨av, [bv], rfl, ⟨.ref ad, eov, ad, C, dx, fs, rfl, hH, kc.cls C hC, kf C hC, hl, bv, [], rfl, ⟨.ref ad, eov, ad, C', dx', fs', rfl, hH', kc.cls C' hC', kg C' hC', hl', rfl, q⟩⟩⟩
              have fin := (show ∀ σ' H' m', Gr H1 m1 H' m' → Sta X.K X.mg H' m' h3 → Sl X.K H' m' σ' env → D.nx σ' H' from out1) σ _ m1 (gr2.trans gr3) sta3 ((sl.gr g1).gr (gr2.trans gr3))
              rcases t1 with t1 | t1
              · exact .inl ⟨p, [av, bv], rfl, t1, rfl, key _ fin⟩
              · exact .inr ⟨p, [av, bv], rfl, t1, rfl, key _ fin⟩
        · exact out1.elim
      · exact out1.elim
    · exact out1.elim⟩
end
end Wk

/-! T12: what a class has, looked up in the written part; int(text). -/
namespace Wk
open PySem PySem.Spec PyProof.Rows L2
def clsBody : Stmt → List Stmt
  | .ClassDef _ _ _ body _ _ _ _ _ _ _ => body
  | _ => []
structure HasM (K : PySem.W.Frag) (mg : Str → Option Value) (c m q : Str) (st : Stmt) (ps : List Str) : Prop where
  ex : ∀ C, mg c = some (.ref C) → ∃ f fd, Meth K C m f ∧ Fun K m q st f fd ∧ ∀ us : List Value, us.length = ps.length → bindArgs fd ⟨us, []⟩ = pure (ps.zip us)
structure HasI (K : PySem.W.Frag) (mg : Str → Option Value) (c q : Str) (st : Stmt) (ps : List Str) : Prop where
  ex : ∃ C f fd, mg c = some (.ref C) ∧ Mk K C f ∧ Fun K "__init__" q st f fd ∧ ∀ us : List Value, us.length = ps.length → bindArgs fd ⟨us, []⟩ = pure (ps.zip us)
section
variable {P : Program} {w : World} {K : PySem.W.Frag} {mg : Str → Option Value} {base : Heap} {h : Heap}
theorem FnB.m {k : Nat} {c m q : Str} {st : Stmt} {ps : List Str} {F : SF} (z : FnB P w K mg base k m q st ps F) (hs : HasM K mg c m q st ps) : MetS P w K mg base k c m ps F := ⟨fun C hC => by
  obtain ⟨f, fd, h1, h2, h3⟩ := hs.ex C hC
  exact ⟨f, fd, h1, Binds.all h3, z f fd h2⟩⟩
theorem FnB.i {k : Nat} {c q : Str} {st : Stmt} {ps : List Str} {F : SF} (z : FnB P w K mg base k "__init__" q st ps F) (hs : HasI K mg c q st ps) : MkS P w K mg base k c ps F := by
  obtain ⟨C, f, fd, h0, h1, h2, h3⟩ := hs.ex
  exact ⟨C, f, fd, h0, h1, Binds.all h3, z f fd h2⟩
theorem hasM_mk {c m q : Str} {st : Stmt} {ps : List Str} {C f : Addr} {oc : Value} {od an : Option Addr} {osl : Array (Option Value)} {kV doc pm cdv ct : Value} (X : K.In h) (G : h.Ns mainGlobals mg)
    (hb : ∀ (kV doc pm : Value) (an : Option Addr) (cdv ct : Value) (us : List Value), us.length = ps.length → bindArgs (PySem.W.fnOf m q (defArgs st) (defBody st) (defScope st) .none kV doc pm an cdv ct) ⟨us, []⟩ = pure (ps.zip us))
    (a : PySem.W.nsIn K mainGlobals c = some (some (.ref C))) (at_ : PySem.W.findIn K (.ref C) m = some (some (.ref f))) (fn : PySem.W.isFn K (.ref f) = true)
    (l : K.lookup f = some ⟨oc, od, .func (PySem.W.fnOf m q (defArgs st) (defBody st) (defScope st) .none kV doc pm an cdv ct), osl⟩) (cd : PySem.W.codeIn K cdv q = true) (k : PySem.W.keepIn K (.ref f) = true) : HasM K mg c m q st ps :=
  ⟨fun C' hC' => by
    rw [PySem.W.mg_of X G a] at hC'
    cases hC'
    exact ⟨f, _, ⟨at_, fn, k⟩, fun_mk l cd k, hb _ _ _ _ _ _⟩⟩
theorem hasI_mk {c q : Str} {st : Stmt} {ps : List Str} {C f : Addr} {oc : Value} {od an : Option Addr} {osl : Array (Option Value)} {kV doc pm cdv ct : Value} (X : K.In h) (G : h.Ns mainGlobals mg)
    (hb : ∀ (kV doc pm : Value) (an : Option Addr) (cdv ct : Value) (us : List Value), us.length = ps.length → bindArgs (PySem.W.fnOf "__init__" q (defArgs st) (defBody st) (defScope st) .none kV doc pm an cdv ct) ⟨us, []⟩ = pure (ps.zip us))
    (a : PySem.W.nsIn K mainGlobals c = some (some (.ref C))) (at_ : PySem.W.findIn K (.ref C) "__init__" = some (some (.ref f))) (fn : PySem.W.isFn K (.ref f) = true)
    (l : K.lookup f = some ⟨oc, od, .func (PySem.W.fnOf "__init__" q (defArgs st) (defBody st) (defScope st) .none kV doc pm an cdv ct), osl⟩) (cd : PySem.W.codeIn K cdv q = true) (k : PySem.W.keepIn K (.ref f) = true)
    (mk : PySem.W.makesIn K C = true) (kc : PySem.W.keepIn K (.ref C) = true) : HasI K mg c q st ps :=
  ⟨C, f, _, PySem.W.mg_of X G a, ⟨mk, at_, fn, kc⟩, fun_mk l cd k, hb _ _ _ _ _ _⟩
theorem clsF_mk {c : Str} {C : Addr} (X : K.In h) (G : h.Ns mainGlobals mg) (a : PySem.W.nsIn K mainGlobals c = some (some (.ref C))) (p1 : PySem.W.plainGet K C Str.empty = true) (p2 : PySem.W.hasDictIn K C = true) (p3 : PySem.W.plainOver K C = true)
    (p4 : PySem.W.findIn K (.ref C) "__setattr__" = some (some (.builtin "object.__setattr__"))) : ClsF K mg c := ⟨fun C' hC' => by
  rw [PySem.W.mg_of X G a] at hC'
  cases hC'
  exact ⟨p1, p2, p3, p4⟩⟩
theorem clsX_mk {c : Str} {C : Addr} (X : K.In h) (G : h.Ns mainGlobals mg) (a : PySem.W.nsIn K mainGlobals c = some (some (.ref C))) : ∃ C, mg c = some (.ref C) := ⟨C, PySem.W.mg_of X G a⟩
theorem fldF_mk {c f : Str} {C : Addr} (X : K.In h) (G : h.Ns mainGlobals mg) (a : PySem.W.nsIn K mainGlobals c = some (some (.ref C))) (n : PySem.W.findIn K (.ref C) f = some none) : FldF K mg c f := fun C' hC' => by
  rw [PySem.W.mg_of X G a] at hC'
  cases hC'
  exact n
theorem excC_mk {c : Str} {C : Addr} (X : K.In h) (G : h.Ns mainGlobals mg) (a : PySem.W.nsIn K mainGlobals c = some (some (.ref C)))
    (p1 : PySem.W.excIn K C [.type "ValueError", .type "Exception", .type "BaseException", .type "object"] "ValueError.__new__" = true) (p2 : PySem.W.keepIn K (.ref C) = true) (p3 : PySem.W.subIn K (.ref C) (.type "BaseException") = some true)
    (p4 : PySem.W.typeIn K (.ref C) = some (.type "type")) : ExcC K mg c := ⟨C, PySem.W.mg_of X G a, p1, p2, p3, p4⟩
/-- a table of whether an exception of the first class is one of the second -/
def mtOf (l : List (Str × Str × Bool)) : Str → Str → Option Bool := fun c d => (l.find? fun z => z.1 == c && z.2.1 == d).map fun z => z.2.2
def MtOne (K : PySem.W.Frag) (mg : Str → Option Value) (c d : Str) (b : Bool) : Prop := ∀ C D, mg c = some (.ref C) → mg d = some (.ref D) → PySem.W.exmOne K (.ref C) (.ref D) = some b
theorem mtOne_mk {c d : Str} {b : Bool} {C D : Addr} (X : K.In h) (G : h.Ns mainGlobals mg) (a : PySem.W.nsIn K mainGlobals c = some (some (.ref C))) (a' : PySem.W.nsIn K mainGlobals d = some (some (.ref D))) (e : PySem.W.exmOne K (.ref C) (.ref D) = some b) : MtOne K mg c d b := fun C' D' h1 h2 => by
  rw [PySem.W.mg_of X G a] at h1
  rw [PySem.W.mg_of X G a'] at h2
  cases h1
  cases h2
  exact e
theorem mtOk_mk {l : List (Str × Str × Bool)} (z : ∀ x ∈ l, MtOne K mg x.1 x.2.1 x.2.2) : MtOk K mg (mtOf l) := fun c d b e C D h1 h2 => by
  unfold mtOf at e
  cases q : l.find? fun z => z.1 == c && z.2.1 == d with
  | none => rw [q] at e; cases e
  | some y =>
    rw [q] at e
    cases e
    have hy := List.find?_some q
    rw [Bool.and_eq_true] at hy
    have e1 : y.1 = c := eq_of_beq hy.1
    have e2 : y.2.1 = d := eq_of_beq hy.2
    have := z y (List.mem_of_find?_eq_some q) C D
    rw [e1, e2] at this
    exact this h1 h2
end
/-! ### int(text) -/
noncomputable def fIntX (us : List U) (h : Sto) : Res U := match us with
  | [u] => (match strOf u with
    | some x => (match PySem.intText? x with
      | some n => if x.length ≤ 640 then .ok (.d (.int n)) h else .stuck
      | none => .stuck)
    | none => fInt [u] h)
  | _ => .stuck
section
variable {X : Cx} {W : WX}
theorem call_intX : CallR X (.type "int") (fun xs H Q => ((∃ i, xs = [.int i] ∧ Q (.int i) H) ∨ ∃ k, xs = [.bl k] ∧ Q (.int (if k then 1 else 0)) H) ∨ ∃ a n, xs = [.str a] ∧ PySem.intText? a = some n ∧ a.length ≤ 640 ∧ Q (.int n) H) := call_int1.or call_int_str
theorem ab_intX : AbC X W fIntX (fun xs H Q => ((∃ i, xs = [.int i] ∧ Q (.int i) H) ∨ ∃ k, xs = [.bl k] ∧ Q (.int (if k then 1 else 0)) H) ∨ ∃ a n, xs = [.str a] ∧ PySem.intText? a = some n ∧ a.length ≤ 640 ∧ Q (.int n) H) := by
  intro σ H m h xs us Q s r out
  unfold fIntX at out
  split at out
  · rename_i u
    split at out
    · rename_i x ex
      cases r with
      | cons ru rn =>
        cases rn
        split at out
        · rename_i n en
          split at out
          · rename_i hl
            exact .inr ⟨x, n, by rw [strOf_v ex ru], en, hl, Out.here (b := V.int _) out s (.d (.int _))⟩
          · exact out.elim
        · exact out.elim
    · exact .inl (ab_intOf σ H m h xs [u] Q s r out)
  · exact out.elim
end
end Wk

/-! T13: comprehensions whose element raises (out of a call). -/
namespace Wk
open PySem PySem.Spec PyProof.Rows L2
/-- an exception that came out of a call, in the air of X -/
def XF (X : Cx) (W : WX) (u : Value) (t : Shared) : Prop :=
  ∃ (a : Addr) (G : Heap) (tI : Shared) (pp : List (Addr × Obj)) (ρ : L2.St) (J : Hp) (cls : Value) (d : Option Addr),
    u = .ref a ∧ Inv X pp ρ J tI ∧ (∀ b o, tI.heap.get? b = some o → b ∉ frs X.stack → G.get? b = some o) ∧ tI.heap.UpToSlots t.heap ∧
      HandSPX.FlyingZ G X.stack a (Zc cls d) t.heap ∧ J a = none ∧ t.os = tI.os ∧ AllBare t.gens ∧ W cls d ρ J
theorem sky_flying {G G0 : Heap} {l : List Env} {a L : Addr} {Z Z0 : Obj → Prop} {h : Heap} (x : Sky G l a Z L h) (y : HandSPX.FlyingZ G0 l a Z0 h) : HandSPX.FlyingZ G l a Z h := by
  obtain ⟨_, _, _, oe, vs, T, oT, ts, he, hz, hd, h1, hnT, hTe, hT, hdT, h3⟩ := y
  rcases x with ⟨_, _, _, oe', vs', he', _, hd', h1'⟩ | x | ⟨_, _, _, oe', vs', T', oT', ts', he', _, hd', h1', _, _, hT', hdT', h3'⟩
  · rw [he] at he'; cases he'
    rw [hd] at hd'; cases hd'
    rw [h1] at h1'; cases h1'
  · exact x
  · rw [he] at he'; cases he'
    rw [hd] at hd'; cases hd'
    rw [h1] at h1'; cases h1'
    rw [hT] at hT'; cases hT'
    rw [hdT] at hdT'; cases hdT'
    rw [h3] at h3'; cases h3'
theorem XF.of_call {X : Cx} {W : WX} {pp : List (Addr × Obj)} {ρ : L2.St} {J : Hp} {t t' : Shared} {E : XK} {u : Value} (I : Inv X pp ρ J t) (hW : ∀ cls d J', E cls d J' → W cls d ρ J') (c : CX X.prog X.w X.stack J t E u t') : XF X W u t' := by
  obtain ⟨a, G, tI, pp', ρ', J', cls, d, ea, I', nb, up, sky, na, os, ag, w⟩ := XE.of_call I hW c
  obtain ⟨a0, G0, _, _, _, ea0, fl, _⟩ := c
  rw [ea] at ea0
  cases ea0
  exact ⟨a, G, tI, pp', ρ', J', cls, d, ea, I', nb, up, sky_flying sky fl, na, os, ag, w⟩
/-- out of the comprehension's block into the def -/
theorem comp_fails {X : Cx} {W : WX} {pp : List (Addr × Obj)} {ρ : L2.St} {J3 : Hp} {t3 t' : Shared} {scope : Scope} {cl : List (Str × Addr)} {C : Addr} {fp : List Addr} {u : Value} (hs : X.stack = X.env :: X.outer) (hf : X.env.frame = some X.env.locals) (tk : Takes X W)
    (I3 : Inv X pp ρ J3 t3) (hC : t3.heap.objs.size ≤ C) (f3 : ∀ b ∈ fp, FpOk X pp J3 b) (x : XF (X.blk t3 J3 scope (compEnvC scope cl C X.env) fp) (fun cls d _ J => W cls d ρ J) u t') :
    notedBy (model X.prog X.w) X.A (compEnvC scope cl C X.env) (CompFails (model X.prog X.w) X.A X.xe (compEnvC scope cl C X.env)) u t' := by
  obtain ⟨a, G, tI, pp', ρ', J, cls, d, rfl, I, nb, up, fl, na, os, ag, w⟩ := x
  have st : (X.blk t3 J3 scope (compEnvC scope cl C X.env) fp).stack = X.stack := rfl
  rw [st] at nb fl
  have hfr : X.A.frames = some (X.env :: X.outer) := by rw [I3.ok.frames, hs]
  have IX : Inv X pp ρ J tI := I3.call' (ch := fp) I.os I.base I.hok I.bare fun b hb => ⟨(f3 b hb).2.2.2.1, (f3 b hb).2.1, (f3 b hb).2.2.2.2.1, (f3 b hb).2.2.2.2.2⟩
  have nC : J C = none := I.free
  have fC : FpOk X pp J C := I3.fpOk hC nC
  obtain ⟨mm, hn, _⟩ := I.loc
  have hn : tI.heap.Ns C mm := hn
  show wpAny _ _ (noteFrame (.ref a) _) _ _ t'
  rw [noteFrame_env (.ref a) (show (compEnvC scope cl C X.env).frame = X.env.frame from rfl)]
  rw [hs] at fl
  refine HandSPX.looks_onZ Zc.steady hfr hf fl fun h1 held up1 => ?_
  have up' : tI.heap.UpToSlots h1 := up.trans up1
  have hn1 : h1.Ns C mm := hn.upToSlots fun b o e nf => up' b o e nf
  refine ⟨mm, hn1, fun h2 m2 hn2 sb => ?_⟩
  obtain ⟨g1, g2, g3, oe, vs, T, oT, ts, he, hz, hd, e1, hnT, hTe, hT, hdT, e3⟩ := held
  have aC : a ≠ C := fun z => by
    obtain ⟨oL, es, ep, hoL, hdL, _⟩ := hn1
    rw [← z, he] at hoL
    cases hoL
    rw [hd] at hdL
    cases hdL
  have TC : T ≠ C := fun z => by
    obtain ⟨oL, es, ep, hoL, hdL, _⟩ := hn1
    rw [← z, hT] at hoL
    cases hoL
    rw [hdT] at hdL
    cases hdL
  have he2 : h2.get? a = some oe := (sb.2 a aC).trans he
  have hT2 : h2.get? T = some oT := (sb.2 T TC).trans hT
  unfold PySem.passOn
  refine wpAny_bind (wpAny_field he2 hd e1 ?_)
  rw [if_neg (show ¬ ((Value.ref T == Value.none) = true) from by simp)]
  have hfc : (compEnvC scope cl C X.env).frame = some X.env.locals := hf
  rw [hfc]
  have sz3 : 3 < ts.size := (Array.getElem?_eq_some_iff.mp e3).1
  have goal : X.xe (.ref a) { t' with heap := h2 } := by
    refine tk _ _ ⟨a, PySem.W.hideAll G [C], { tI with heap := PySem.W.hideAll tI.heap [C] }, pp, ρ, J, cls, d, rfl, ?_, fun b o e hb => ?_, fun b o e nf => ?_, .inr (.inr ⟨fun b o e => ?_, ?_, ?_, oe, vs, T, oT, ts, he2, hz, hd, e1, ?_, hTe, hT2, hdT, e3⟩), na, os, ag, w⟩
    · obtain ⟨f0, f1, f2, f4, f5, f6⟩ := fC
      exact IX.turned (t' := tI.toks) (fun b o hb e => PySem.W.hideAll_get _ e (by simpa using hb)) f0 f1 f4 f5 f6
    · have e' := PySem.W.of_hideAll _ e
      have bC : b ∉ [C] := fun z => by
        rw [PySem.W.hideAll_none _ z] at e
        cases e
      exact PySem.W.hideAll_get _ (nb b o e' hb) bC
    · have e' := PySem.W.of_hideAll _ e
      have bC : b ≠ C := fun z => by
        have e : (PySem.W.hideAll tI.heap [C]).get? b = some o := e
        rw [PySem.W.hideAll_none _ (by simp [z])] at e
        cases e
      obtain ⟨sl, q⟩ := up' b o e' nf
      exact ⟨sl, (sb.2 b bC).trans q⟩
    · have e' := PySem.W.of_hideAll _ e
      have bC : b ≠ C := fun z => by
        rw [PySem.W.hideAll_none _ (by simp [z])] at e
        cases e
      exact (sb.2 b bC).trans (g1 b o e')
    · cases q : (PySem.W.hideAll G [C]).get? a with
      | none => rfl
      | some o =>
        have z := PySem.W.of_hideAll _ q
        rw [g2] at z
        cases z
    · rw [hs]
      refine funFrames_none (Heap.FunFrames.sameBut sb hn2 g3) fun b hb => ?_
      cases q : (PySem.W.hideAll G [C]).get? b with
      | none => rfl
      | some o =>
        have z := PySem.W.of_hideAll _ q
        rw [(g3.mem hb).1] at z
        cases z
    · cases q : (PySem.W.hideAll G [C]).get? T with
      | none => rfl
      | some o =>
        have z := PySem.W.of_hideAll _ q
        rw [hnT] at z
        cases z
  refine wpAny_bind ?_
  unfold setFlight
  refine wpAny_bind (wpAny_field he2 hd e1 ?_)
  rw [if_pos (show (Value.ref T != Value.none) = true from by simp)]
  show wpAny _ _ (setField (.ref T) 3 (rawInt X.env.locals)) _ _ _
  refine wpAny_setField hT2 hdT sz3 ?_
  have same : h2.update T (Obj.mapFields (·.setIfInBounds 3 (rawInt X.env.locals))) = h2 := Heap.update_setField_same h2 T oT ts 3 (rawInt X.env.locals) hT2 hdT e3
  dsimp only
  rw [same]
  exact wpAny_throw goal
section
variable {X : Cx}
/-- like the kit's reading of a comprehension; te by the wish about exceptions -/
def tLcX (wi : TI) (g : TG) (tt : TT) (te : WX → TE) (vs : List Nat) (W : WX) : TE := fun ρ H0 Q => wi ρ H0 fun J H1 => ∀ A, H1 A = none → ∃ M : Nat → Nat → Hp → Prop, (∃ k, M 0 k (upd H1 A (.lst []))) ∧ ∀ i k Ha, M i k Ha →
  (J.stop i Ha ∧ Q (.ref A) Ha) ∨ (J.go i Ha ∧ ∃ Y : Hp → Prop, (∀ Hb, Y Hb → ∃ k', k' < k ∧ M (i + 1) k' Hb) ∧ ∀ x Hb, J.yld i Ha x Hb → g x (wipe ρ vs) Hb fun ρ2 H2 => wipe ρ2 vs = wipe ρ vs ∧ tt ρ2 H2 fun b H3 =>
    if b = true then te (fun cls d _ Hc => W cls d ρ Hc) ρ2 H3 fun y H4 => ∃ acc, H4 A = some (.lst acc) ∧ acc.length < sizeLine ∧ Y (upd H4 A (.lst (acc ++ [y]))) else Y H3)
theorem lc_coreX {pp : List (Addr × Obj)} {s0 : Shared} {ρ : L2.St} {H0 : Hp} {Q : VK} {W : WX} {elt tg iter : Expr} {ifs : List Expr} {scope : Scope} {own : List (Str × Nat)} {pos pos' : Pos} {wi : TI} {g : TG} {tt : TT} {te : WX → TE} {use : Option (Value → Sem Unit)} {Qf : Value → Shared → Prop}
    (hs : X.stack = X.env :: X.outer) (hf : X.env.frame = some X.env.locals) (tk : Takes X W) (hc : X.calm = true) (hN : X.N.Nodup) (I : Inv X pp ρ H0 s0) (hi : PI X tg iter wi) (ok : BlkOk X.N X.env.scope scope own)
    (hg : ∀ (s : Shared) (H : Hp) (B : Addr) (cl : List (Str × Addr)) (fp : List Addr), PG (X.blk s H scope (compEnvC scope cl B X.env) fp) tg g)
    (ht : ∀ (s : Shared) (H : Hp) (B : Addr) (cl : List (Str × Addr)) (fp : List Addr), PTs (X.blk s H scope (compEnvC scope cl B X.env) fp) ifs tt)
    (he : ∀ (s : Shared) (H : Hp) (B : Addr) (cl : List (Str × Addr)) (fp : List Addr) (Wb : WX) (pn : List (Addr × Obj)) (xe : Value → Shared → Prop), TakesC ((X.blk s H scope (compEnvC scope cl B X.env) fp).tr pn xe) Wb → PE ((X.blk s H scope (compEnvC scope cl B X.env) fp).tr pn xe) elt (te Wb))
    (hfs : ∀ x, foldedSetIterable iter X.env x = pure x) (h : tLcX wi g tt te (own.map (·.2)) W ρ H0 Q)
    (hE : ∀ (A : Addr) (cenv : Env) (s' : Addr × Shared) (mm : Str → Option Value) (H' : Hp), cenv.locals = s'.1 → Inv X pp ρ H' s'.2 → Q (.ref A) H' → s'.2.heap.Ns s'.1 mm → FpOk X pp H' s'.1 → compEnds (model X.prog X.w) X.A X.xe use Qf (.ref A) cenv (.ok .next) s'.2) :
    wpAny (model X.prog X.w) X.A (comprehension (.ListComp elt [⟨tg, iter, ifs, 0⟩] scope pos) scope X.env pos' (newList []) false (eval iter X.env) use) Qf X.xe s0 := by
  have capt : ∀ y ∈ scope.names, y.2 = .free → ∃ c, X.env.cells.lookup y.1 = some c := fun y hy e => (ok.free y hy e).elim (fun k => I.ok.has _ (.inl k)) fun k => I.ok.has _ (.inr k)
  refine comprehension_at (use := use) rfl hfs (closure_ok capt) ok.kind (fun y hy e => by rw [ok.uniq y hy, e]) (thn (hi.run pp s0 ρ H0 _ I h) fun xv s1 hx => thn hx fun itv s2 h2 => ?_)
  obtain ⟨it, fp, tn, J, H2, rfl, I2, T, st2, f2, q⟩ := h2
  refine wpAny_newObj_type (newEnv_comp ?_) (by show 0 ≤ sizeLine; decide)
  generalize hA : s2.heap.objs.size = A
  have nA : H2 A = none := I2.hok.fresh (Nat.le_of_eq hA)
  obtain ⟨M, ⟨k0, w0⟩, turn⟩ := q A nA
  generalize hs3 : ({ s2 with heap := s2.heap.push { cls := .type "list", data := .seq ([] : List Value).toArray } } : Shared) = s3
  have e3 : s3.heap = s2.heap.push { cls := .type "list", data := .seq ([] : List Value).toArray } := by rw [← hs3]
  have I3 : Inv X pp ρ (upd H2 A (.lst [])) s3 := by
    rw [← hs3]
    refine I2.laid (t' := s2.toks) (fun b o z => Heap.get?_push_of_some _ z) (Nat.le_of_eq hA) ⟨Nat.zero_le _, [], 0, .nil, ?_⟩
    rw [← hA]
    exact Heap.get?_push_size _ rfl
  have below : ∀ b ∈ fp, b < s2.heap.objs.size := fun b hb => by
    obtain ⟨o, z, _⟩ := T.obj _ _ st2 b hb
    exact Heap.lt_size z
  have f3 : ∀ b ∈ fp, FpOk X pp (upd H2 A (.lst [])) b ∧ b < s3.heap.objs.size := fun b hb => ⟨⟨by rw [upd_ne (by rw [← hA]; exact Nat.ne_of_lt (below b hb))]; exact (f2 b hb).1, (f2 b hb).2⟩, by rw [e3, Heap.size_push]; exact Nat.lt_succ_of_lt (below b hb)⟩
  have st3 : tn 0 s3.heap := T.keep _ _ _ st2 fun b _ o z => by rw [e3]; exact Heap.get?_push_of_some _ z
  have I4 := block_start I3 ok hN f3
  generalize hcl : cellsFrom (s3.heap.objs.size + 1) scope.names (cloFrom X.env.cells scope.names []) = cl at I4
  have pg := hg s3 (upd H2 A (.lst [])) s3.heap.objs.size cl fp
  have pt := ht s3 (upd H2 A (.lst [])) s3.heap.objs.size cl fp
  have pe := he s3 (upd H2 A (.lst [])) s3.heap.objs.size cl fp
  have fails := fun (u : Value) (t' : Shared) => comp_fails (u := u) (t' := t') (scope := scope) (cl := cl) hs hf tk I3 (Nat.le_refl _) (fun b hb => (f3 b hb).1)
  have nfp : ∀ b ∈ fp, (upd H2 A (.lst [])) b = none := fun b hb => (f3 b hb).1.1
  show codeAny _ _ (.compStart (.ListComp elt [⟨tg, iter, ifs, 0⟩] scope pos) 0 (.ref it) (.ref A) (compEnvC scope cl s3.heap.objs.size X.env)) (compEnds (model X.prog X.w) X.A X.xe use Qf (.ref A) (compEnvC scope cl s3.heap.objs.size X.env)) { s3 with heap := pushCells (s3.heap.push { cls := .type "dict", data := .dict #[] }) scope.names }
  generalize hce : compEnvC scope cl s3.heap.objs.size X.env = ce at I4 pg pt pe fails ⊢
  have cL : ce.locals = s3.heap.objs.size := by subst hce; rfl
  generalize hH3 : upd H2 A (.lst []) = H3 at I3 I4 pg pt pe w0 nfp f3 fails
  generalize hs4 : ({ s3 with heap := pushCells (s3.heap.push { cls := .type "dict", data := .dict #[] }) scope.names } : Shared) = s4 at I4 ⊢
  have st4 : tn 0 s4.heap := T.keep _ _ _ st3 fun b _ o z => by rw [← hs4]; exact pushCells_keeps _ _ _ _ (Heap.get?_push_of_some _ z)
  have stat : ∀ {ρ' : L2.St} {H' : Hp} {s' : Shared}, Inv (X.blk s3 H3 scope ce fp) [] ρ' H' s' → (∀ b ∈ fp, H' b = none) → ∀ b ∈ fp, FpOk (X.blk s3 H3 scope ce fp) [] H' b := fun {ρ' H' s'} Z hn b hb =>
    ⟨hn b hb, (Z.ok.exf b hb).1, Z.ok.exfs b hb, .inl hb, fun x c z => (Z.ok.exf b hb).2 x c z, fun p hp => absurd (show p ∈ ([] : List (Addr × Obj)) ++ [] from hp) (by simp)⟩
  have loop : codeAny (model X.prog X.w) X.A (.compLoop (.ListComp elt [⟨tg, iter, ifs, 0⟩] scope pos) 0 (.ref it) (.ref A) ce) (compEnds (model X.prog X.w) X.A X.xe use Qf (.ref A) ce) s4 := by
    refine compLoop_any (fun k s' => ∃ i H', Inv (X.blk s3 H3 scope ce fp) [] (wipe ρ (own.map (·.2))) H' s' ∧ tn i s'.heap ∧ (∀ b ∈ fp, H' b = none) ∧ M i k H') ?_ k0 ⟨0, H3, I4, st4, nfp, w0⟩
    rintro k s5 ⟨i, H5, I5, st5, n5, w5⟩
    rcases turn i k H5 w5 with ⟨stop, qq⟩ | ⟨go, Y, hY, step⟩
    · refine thnF (T.done (X.blk s3 H3 scope ce fp) rfl rfl rfl hc i [] s5 _ H5 (fun _ _ => False) I5 (stat I5 n5) st5 stop) fun r s6 ⟨hr, I6⟩ => ?_
      subst hr
      have I7 : Inv X pp ρ H5 s6 := I3.call' (ch := fp) I6.os I6.base I6.hok I6.bare fun b hb => ⟨(f3 b hb).1.2.2.2.1, (f3 b hb).1.2.1, (f3 b hb).1.2.2.2.2.1, (f3 b hb).1.2.2.2.2.2⟩
      have nC : H5 ce.locals = none := I6.free
      rw [cL] at nC
      obtain ⟨mm, hn, _⟩ := I6.loc
      have hn : s6.heap.Ns ce.locals mm := hn
      rw [cL] at hn
      exact hE A ce (s3.heap.objs.size, s6) mm H5 cL I7 qq hn (I3.fpOk (Nat.le_refl _) nC)
    · refine thnF (T.item (X.blk s3 H3 scope ce fp) rfl rfl rfl hc i [] s5 _ H5 (fun _ _ => False) I5 (stat I5 n5) st5 go) fun r s6 ⟨u, hr, h6⟩ => ?_
      subst hr
      refine thnF h6 fun _ s7 ⟨x, H7, I7, r7, y7, st7, n7⟩ => ?_
      refine thnF (pg.run _ s7 _ H7 x u _ (I7.pinned (stat I7 n7) (T.obj _ _ st7)) r7 (step x H7 y7)) fun _ s8 ⟨ρ8, H8, I8, hw8, q8⟩ => ?_
      refine thnF (pt.run _ s8 ρ8 H8 _ I8 q8) fun b s9 ⟨H9, I9, q9⟩ => ?_
      have fin : ∀ {s' : Shared} {H' : Hp}, Inv (X.blk s3 H3 scope ce fp) ([] ++ pinsAt fp s7.heap) ρ8 H' s' → Y H' → ∃ k', k' < k ∧ ∃ i H', Inv (X.blk s3 H3 scope ce fp) [] (wipe ρ (own.map (·.2))) H' s' ∧ tn i s'.heap ∧ (∀ b ∈ fp, H' b = none) ∧ M i k' H' := fun {s' H'} Z yy => by
        obtain ⟨k', hk, w'⟩ := hY H' yy
        have there : ∀ b ∈ fp, ∀ o, s7.heap.get? b = some o → s'.heap.get? b = some o ∧ H' b = none := fun b hb o z =>
          have y := Z.pin (b, o) (List.mem_append_right _ (List.mem_append_right _ (mem_pinsAt hb z)))
          ⟨y.1, y.2.1⟩
        refine ⟨k', hk, i + 1, H', (Z.unpinned (pins := [])).weak (by rw [← hw8, wipe_length]) (fun j v z => ?_), T.keep _ _ _ st7 fun b hb o z => (there b hb o z).1, fun b hb => ?_, w'⟩
        · rw [← hw8] at z
          exact (wipe_some z).1
        · obtain ⟨o, z, _⟩ := T.obj _ _ st7 b hb
          exact (there b hb o z).2
      cases b with
      | false =>
        simp only [Bool.false_eq_true, if_false] at q9 ⊢
        exact fin I9 q9
      | true =>
        simp only [if_true] at q9 ⊢
        generalize hpn : (X.blk s3 H3 scope ce fp).pn ++ ([] ++ pinsAt fp s7.heap) = pn9
        have I9' : Inv ((X.blk s3 H3 scope ce fp).tr pn9 (XF (X.blk s3 H3 scope ce fp) (fun cls d _ Hc => W cls d ρ Hc))) [] ρ8 H9 s9 := by
          rw [← hpn]
          exact I9.toTry _
        have back : ∀ {pn' : List (Addr × Obj)} {ρ' : L2.St} {H' : Hp} {s' : Shared}, Inv ((X.blk s3 H3 scope ce fp).tr pn9 (XF (X.blk s3 H3 scope ce fp) (fun cls d _ Hc => W cls d ρ Hc))) pn' ρ' H' s' → Inv (X.blk s3 H3 scope ce fp) ([] ++ pinsAt fp s7.heap) ρ' H' s' := fun {pn' ρ' H' s'} Z => by
          rw [← hpn] at Z
          exact Z.ofTry I9.ok
        have tkc : TakesC ((X.blk s3 H3 scope ce fp).tr pn9 (XF (X.blk s3 H3 scope ce fp) (fun cls d _ Hc => W cls d ρ Hc))) (fun cls d _ Hc => W cls d ρ Hc) := fun ρ' pp' Ha sa ev sb Ia c => XF.of_call (back Ia) (fun _ _ _ z => z) c
        have run := (pe (fun cls d _ Hc => W cls d ρ Hc) pn9 _ tkc).run [] s9 ρ8 H9 _ I9' q9
        refine wpAny_mono run (fun z s10 ⟨yv, H10, I10, r10, acc, hA10, hz10, yy⟩ => ?_) fun u t' x => fails u t' x
        exact app_ok (X := X.blk s3 H3 scope ce fp) (back I10) hA10 hz10 r10 fun s11 I11 => fin I11 yy
  exact codeAny_compStart_list loop (T.self X.A 0 _ _ _ st4 loop)
/-- the comprehension as a value -/
theorem pe_lcX {W : WX} {elt tg iter : Expr} {ifs : List Expr} {scope : Scope} {own : List (Str × Nat)} {pos : Pos} {wi : TI} {g : TG} {tt : TT} {te : WX → TE} (hs : X.stack = X.env :: X.outer) (hf : X.env.frame = some X.env.locals) (tk : Takes X W) (hc : X.calm = true) (hN : X.N.Nodup) (hi : PI X tg iter wi) (ok : BlkOk X.N X.env.scope scope own)
    (hg : ∀ (s : Shared) (H : Hp) (B : Addr) (cl : List (Str × Addr)) (fp : List Addr), PG (X.blk s H scope (compEnvC scope cl B X.env) fp) tg g)
    (ht : ∀ (s : Shared) (H : Hp) (B : Addr) (cl : List (Str × Addr)) (fp : List Addr), PTs (X.blk s H scope (compEnvC scope cl B X.env) fp) ifs tt)
    (he : ∀ (s : Shared) (H : Hp) (B : Addr) (cl : List (Str × Addr)) (fp : List Addr) (Wb : WX) (pn : List (Addr × Obj)) (xe : Value → Shared → Prop), TakesC ((X.blk s H scope (compEnvC scope cl B X.env) fp).tr pn xe) Wb → PE ((X.blk s H scope (compEnvC scope cl B X.env) fp).tr pn xe) elt (te Wb))
    (hfs : ∀ x, foldedSetIterable iter X.env x = pure x := by intro _; rfl) : PE X (.ListComp elt [⟨tg, iter, ifs, 0⟩] scope pos) (tLcX wi g tt te (own.map (·.2)) W) := by
  refine ⟨fun pp s0 ρ H0 Q I h => ?_⟩
  rw [eval_ListComp]
  refine lc_coreX hs hf tk hc hN I hi ok hg ht he hfs h fun A cenv ⟨C, s'⟩ mm H' hC I' q hn f => ⟨mm, by rw [hC]; exact hn, fun h'' sb => ?_⟩
  obtain ⟨f0, f1, f2, f3, f4, f5⟩ := f
  rw [hC] at sb
  exact ⟨.ref A, H', I'.turned (t' := s'.toks) (fun b o hb e => (sb.2 b hb).trans e) f0 f1 f3 f4 f5, rfl, q⟩
/-- y = [..] -/
theorem ps_setLcX {W : WX} {i : Nat} {y : Str} {py spos : Pos} {elt tg iter : Expr} {ifs : List Expr} {scope : Scope} {own : List (Str × Nat)} {pos : Pos} {wi : TI} {g : TG} {tt : TT} {te : WX → TE} (hs : X.stack = X.env :: X.outer) (hf : X.env.frame = some X.env.locals) (tk : Takes X W) (hc : X.calm = true) (hN : X.N.Nodup)
    (hy : X.N[i]? = some y) (hyl : X.env.scope.names.lookup y = some .local) (hsw : swapsWith (.ListComp elt [⟨tg, iter, ifs, 0⟩] scope pos) (some (.Name y py)) spos.line X.env = pure true) (hi : PI X tg iter wi) (ok : BlkOk X.N X.env.scope scope own)
    (hg : ∀ (s : Shared) (H : Hp) (B : Addr) (cl : List (Str × Addr)) (fp : List Addr), PG (X.blk s H scope (compEnvC scope cl B X.env) fp) tg g)
    (ht : ∀ (s : Shared) (H : Hp) (B : Addr) (cl : List (Str × Addr)) (fp : List Addr), PTs (X.blk s H scope (compEnvC scope cl B X.env) fp) ifs tt)
    (he : ∀ (s : Shared) (H : Hp) (B : Addr) (cl : List (Str × Addr)) (fp : List Addr) (Wb : WX) (pn : List (Addr × Obj)) (xe : Value → Shared → Prop), TakesC ((X.blk s H scope (compEnvC scope cl B X.env) fp).tr pn xe) Wb → PE ((X.blk s H scope (compEnvC scope cl B X.env) fp).tr pn xe) elt (te Wb))
    (hfs : ∀ x, foldedSetIterable iter X.env x = pure x := by intro _; rfl) : PS X (.Assign [.Name y py] (.ListComp elt [⟨tg, iter, ifs, 0⟩] scope pos) spos) (tAsg (tLcX wi g tt te (own.map (·.2)) W) (gName i)) := by
  refine ⟨fun pp s0 ρ H0 D I h => ?_⟩
  rw [exec_Assign_Name_used _ _ _ _ hsw]
  refine wpAny_bind (wpAny_standAt (wpAny_bind ?_))
  show wpAny _ X.A (do let _ ← comprehension (.ListComp elt [⟨tg, iter, ifs, 0⟩] scope pos) scope X.env _ (newList []) false (eval iter X.env) (some (assign (.Name y py) X.env))) _ _ s0
  have h' : tLcX wi g tt te (own.map (·.2)) W ρ H0 (fun x H1 => gName i x ρ H1 D.nx) := h
  refine wpAny_bind (thn (lc_coreX (Qf := fun _ t => SP X pp D .next t) hs hf tk hc hN I hi ok hg ht he hfs h' fun A cenv ⟨C, t⟩ mm H' hC I' q hn f => ?_) fun _ t hq => wpAny_pure (wpAny_pure hq))
  show wpAny _ _ (assign (.Name y py) X.env (.ref A)) _ _ _
  refine wpAny_assign_Name (store_ok2 (v := V.ref A) I' hN hy (.inl hyl) rfl (fun s2 I2 ⟨a, sb, ha⟩ => ?_) (.inr hyl))
  obtain ⟨f0, f1, f2, f3, f4, f5⟩ := f
  have nCa : C ≠ a := by
    rcases ha with z | z
    · rw [z]; exact f1
    · exact fun e => f4 y a z e.symm
  refine ⟨mm, by rw [hC]; exact hn.sameBut sb nCa, fun h3 sb3 => ?_⟩
  rw [hC] at sb3
  exact ⟨_, H', I2.turned (t' := s2.toks) (fun b o hb e => (sb3.2 b hb).trans e) f0 f1 f3 f4 f5, q⟩
end
/-! ### its function -/
noncomputable def lcGoX (t : Tg) (c : Eb) (e : Ev) (env : Env') : List U → List D → Sto → Res (List D)
  | [], acc, h => .ok acc h
  | u :: us, acc, h => match t u env h with
    | some env1 => (c env1 h).noExc.bind fun k h1 => (match k with
      | true => (e env1 h1).bind fun w h2 => (match w with
        | .d x => if fits (acc.length + 1) then lcGoX t c e env us (acc ++ [x]) h2 else .stuck
        | _ => .stuck)
      | false => lcGoX t c e env us acc h1)
    | none => .stuck
noncomputable def eLcX (b : Bool) (vs : List Nat) (it : Ea) (t : Tg) (c : Eb) (e : Ev) : Ev := fun env h => (it env h).bind fun us h1 => (lcGoX t c e (wipeE env vs) us [] h1).bind fun xs h2 => mkL b xs h2
section
variable {X : Cx} {W : WX} {elt tg iter : Expr} {ifs : List Expr} {scope : Scope} {own : List (Str × Nat)} {pos : Pos} {it : Ea} {ix : List Nat} {t : Tg} {c : Eb} {e : Ev}
theorem lc_rdX {σ : L2.St} {H : Hp} {Q : VK} {b : Bool} (sub : ∀ j ∈ ix, j ∈ own.map (·.2)) (q : rd X W (rlU X.K) (eLcX b (own.map (·.2)) it t c e) σ H Q) :
    tLcX (rd X W (rlJ X.K) it) (rdG X ix t) (rd X W0 rlB c) (fun Wb => rd X Wb (rlU X.K) e) (own.map (·.2)) W σ H (gh Q) := by
  obtain ⟨env, m, h, sta, sl, out⟩ := q
  refine rd_of sta sl out fun us h1 J H1 m1 g1 s1 w1 out1 => fun D nD => ?_
  refine ⟨fun i k H' => k = us.length - i ∧ i ≤ us.length ∧ ∃ m' h' acc vacc, Gr H1 m1 H' m' ∧ Sta X.K X.mg H' m' h' ∧ H' D = some (.lst vacc) ∧ D ∉ m' ∧ RDs X.K H' vacc acc ∧
    Out X W (rlU X.K) σ H1 m1 ((lcGoX t c e (wipeE env (own.map (·.2))) (us.drop i) acc h').bind fun xs h2 => mkL b xs h2) Q,
    ⟨us.length, by simp, Nat.zero_le _, m1, h1, [], [], Gr.of_same (Same.lay nD) m1, s1.same (Same.lay nD), upd_same, s1.new nD, .nil, by simpa using out1⟩, ?_⟩
  rintro i k H2 ⟨rfl, hi2, m2, h2, acc, vacc, g2, s2, hD, nDm, racc, o2⟩
  obtain ⟨wst, wgo⟩ := w1 H2 m2 g2.kp g2.pre
  by_cases hlt : i < us.length
  · have eu : us[i]? = some us[i] := List.getElem?_eq_getElem hlt
    have ed : us.drop i = us[i] :: us.drop (i + 1) := List.drop_eq_getElem_cons hlt
    obtain ⟨go, gy⟩ := wgo i _ eu
    rw [ed] at o2
    unfold lcGoX at o2
    cases et : t us[i] (wipeE env (own.map (·.2))) h2 with
    | none => rw [et] at o2; exact o2.elim
    | some env3 =>
      rw [et] at o2
      dsimp only at o2
      refine .inr ⟨go, fun H' => us.length - (i + 1) < us.length - i ∧ i + 1 ≤ us.length ∧ ∃ m' h' acc vacc, Gr H1 m1 H' m' ∧ Sta X.K X.mg H' m' h' ∧ H' D = some (.lst vacc) ∧ D ∉ m' ∧ RDs X.K H' vacc acc ∧
        Out X W (rlU X.K) σ H1 m1 ((lcGoX t c e (wipeE env (own.map (·.2))) (us.drop (i + 1)) acc h').bind fun xs h2 => mkL b xs h2) Q, fun H' ⟨n1, n2, n3⟩ => ⟨us.length - (i + 1), n1, rfl, n2, n3⟩, fun x H3 y => ?_⟩
      obtain ⟨sm, rx⟩ := gy x H3 y
      have gg := Gr.of_same sm m2
      have g3 := g2.trans gg
      have s3 := s2.same sm
      have hD3 : H3 D = some (.lst vacc) := sm _ _ hD
      have racc3 := RDs.kp gg.kp _ _ racc
      refine ⟨us[i], wipeE env (own.map (·.2)), m2, h2, s3, ((sl.gr g1).gr g3).wipe _, rx, env3, et, fun σ3 l3 only => ⟨wipe_only only sub, ?_⟩⟩
      refine ⟨env3, m2, h2, s3, l3, ?_⟩
      generalize hc : c env3 h2 = q at o2
      cases q with
      | stuck => exact o2.elim
      | exc c1 h4 => exact o2.elim
      | ok kb h4 =>
        intro b4 H4 m4 g4 s4 r4
        cases r4
        have keepD : ∀ {Ha : Hp} {ma : List Addr} {Hb : Hp} {mb : List Addr}, Gr Ha ma Hb mb → Ha D = some (.lst vacc) → D ∉ ma → Hb D = some (.lst vacc) ∧ D ∉ mb := fun {Ha ma Hb mb} g hd nd => ⟨g.keep _ _ hd nd, fun z => by
          have q := g.fresh D z nd
          rw [hd] at q
          cases q⟩
        obtain ⟨hD4, nD4⟩ := keepD g4 hD3 nDm
        cases kb with
        | false =>
          rw [if_neg Bool.false_ne_true]
          exact ⟨by omega, hlt, m4, h4, acc, vacc, g3.trans g4, s4, hD4, nD4, RDs.kp g4.kp _ _ racc3, o2⟩
        | true =>
          rw [if_pos rfl]
          refine ⟨env3, m4, h4, s4, l3.gr g4, ?_⟩
          have o3 : Out X W (rlU X.K) σ H1 m1 (Res.bind ((e env3 h4).bind fun w h2 => match w with | .d x => if fits (acc.length + 1) then lcGoX t c e (wipeE env (own.map (·.2))) (us.drop (i + 1)) (acc ++ [x]) h2 else .stuck | _ => .stuck) fun xs h2 => mkL b xs h2) Q := o2
          generalize he : e env3 h4 = q at o3
          cases q with
          | stuck => exact o3.elim
          | exc c1 h5 =>
            intro H5 m5 g5 s5 C hC
            exact (show ∀ H' m', Gr H1 m1 H' m' → Sta X.K X.mg H' m' h5 → ExW X W c1 σ H' from o3) H5 m5 ((g3.trans g4).trans g5) s5 C hC
          | ok w h5 =>
            intro y H5 m5 g5 s5 r5
            obtain ⟨hD5, nD5⟩ := keepD g5 hD4 nD4
            rw [Res.bind_ok] at o3
            cases w with
            | ref n => exact o3.elim
            | tup us => exact o3.elim
            | exn a => exact o3.elim
            | d dx =>
              dsimp only at o3
              split at o3
              · rename_i hz
                have racc5 := RDs.kp (g4.trans g5).kp _ _ racc3
                refine ⟨vacc, hD5, by rw [racc5.len]; exact ask_iff.mp hz, by omega, hlt, m5, h5, acc ++ [dx], vacc ++ [y], ?_, ?_, upd_same, nD5, ?_, o3⟩
                · have gA := (g3.trans g4).trans g5
                  refine ⟨gA.pre, fun a o q na => ?_, gA.fresh, ⟨fun a xs q => ?_, fun a o u q => ?_⟩⟩
                  · rw [upd_ne (ne_of_none q nD)]; exact gA.keep a o q na
                  · rw [upd_ne (ne_of_none q nD)]; exact gA.kp.tup a xs q
                  · rw [upd_ne (ne_of_none q nD)]; exact gA.kp.frz a o u q
                · exact ⟨s5.nd, s5.len, fun j a ob k1 k2 => (s5.obj j a ob k1 k2).mono (upd_ne fun z => nD5 (z ▸ List.mem_of_getElem? k1)) (mut_kp hD5 trivial) ⟨[], by simp⟩⟩
                · have kp := mut_kp (y := HO.lst (vacc ++ [y])) hD5 trivial
                  exact (RDs.kp kp _ _ racc5).app (.one (RD.kp kp _ _ r5.rd))
              · exact o3.elim
  · have e' : i = us.length := by omega
    subst e'
    rw [List.drop_length] at o2
    exact .inl ⟨wst _ (Nat.le_refl _), mkL_ok2 g2 s2 nD nDm hD racc o2⟩
theorem se_lcX (b : Bool) {vs : List Nat} (own : List (Str × Nat)) (hst : X.stack = X.env :: X.outer) (hf : X.env.frame = some X.env.locals) (tk : Takes X W) (hc : X.calm = true) (hN : X.N.Nodup) (hv : own.map (·.2) = vs) (sub : ∀ j ∈ ix, j ∈ vs) (hi : SI X W tg iter it) (ok : BlkOk X.N X.env.scope scope own)
    (hg : ∀ (s : Shared) (H : Hp) (C : Addr) (cl : List (Str × Addr)) (fp : List Addr), SG (X.blk s H scope (compEnvC scope cl C X.env) fp) tg ix t)
    (ht : ∀ (s : Shared) (H : Hp) (C : Addr) (cl : List (Str × Addr)) (fp : List Addr), STs (X.blk s H scope (compEnvC scope cl C X.env) fp) W0 ifs c)
    (he : ∀ (s : Shared) (H : Hp) (C : Addr) (cl : List (Str × Addr)) (fp : List Addr) (Wb : WX) (pn : List (Addr × Obj)) (xe : Value → Shared → Prop), TakesC ((X.blk s H scope (compEnvC scope cl C X.env) fp).tr pn xe) Wb → SE ((X.blk s H scope (compEnvC scope cl C X.env) fp).tr pn xe) Wb elt e) (hs : ∀ x, foldedSetIterable iter X.env x = pure x := by intro _; rfl) :
    SE X W (.ListComp elt [⟨tg, iter, ifs, 0⟩] scope pos) (eLcX b vs it t c e) := by
  subst hv
  exact ⟨pe_imp (pe_gh (pe_lcX (te := fun Wb => rd X Wb (rlU X.K) e) hst hf tk hc hN hi.pi ok (fun s H C cl fp => (hg s H C cl fp).pg) (fun s H C cl fp => (ht s H C cl fp).pt) (fun s H C cl fp Wb pn xe t => (he s H C cl fp Wb pn xe t).pe) hs)) fun σ H Q q => lc_rdX sub q⟩
theorem ss_setLcX (b : Bool) (i : Nat) {vs : List Nat} {y : Str} {py spos : Pos} (hsw : swapsWith (.ListComp elt [⟨tg, iter, ifs, 0⟩] scope pos) (some (.Name y py)) spos.line X.env = pure true) (own : List (Str × Nat)) (hst : X.stack = X.env :: X.outer) (hf : X.env.frame = some X.env.locals) (tk : Takes X W) (hc : X.calm = true) (hN : X.N.Nodup) (hv : own.map (·.2) = vs) (sub : ∀ j ∈ ix, j ∈ vs) (hi : SI X W tg iter it) (ok : BlkOk X.N X.env.scope scope own)
    (hg : ∀ (s : Shared) (H : Hp) (C : Addr) (cl : List (Str × Addr)) (fp : List Addr), SG (X.blk s H scope (compEnvC scope cl C X.env) fp) tg ix t)
    (ht : ∀ (s : Shared) (H : Hp) (C : Addr) (cl : List (Str × Addr)) (fp : List Addr), STs (X.blk s H scope (compEnvC scope cl C X.env) fp) W0 ifs c)
    (he : ∀ (s : Shared) (H : Hp) (C : Addr) (cl : List (Str × Addr)) (fp : List Addr) (Wb : WX) (pn : List (Addr × Obj)) (xe : Value → Shared → Prop), TakesC ((X.blk s H scope (compEnvC scope cl C X.env) fp).tr pn xe) Wb → SE ((X.blk s H scope (compEnvC scope cl C X.env) fp).tr pn xe) Wb elt e)
    (hy : X.N[i]? = some y := by rfl) (hyl : X.env.scope.names.lookup y = some .local := by rfl) (hs : ∀ x, foldedSetIterable iter X.env x = pure x := by intro _; rfl) :
    SS X W (.Assign [.Name y py] (.ListComp elt [⟨tg, iter, ifs, 0⟩] scope pos) spos) (sSet i (eLcX b vs it t c e)) := by
  subst hv
  exact ⟨ps_imp (ps_gh (ps_setLcX (te := fun Wb => rd X Wb (rlU X.K) e) hst hf tk hc hN hy hyl hsw hi.pi ok (fun s H C cl fp => (hg s H C cl fp).pg) (fun s H C cl fp => (ht s H C cl fp).pt) (fun s H C cl fp Wb pn xe t => (he s H C cl fp Wb pn xe t).pe) hs)) fun D σ H ⟨env, m, h, sta, sl, out⟩ => by
    have q : rd X W (rlU X.K) (eLcX b (own.map (·.2)) it t c e) σ H (fun v H1 => D.nx (σ.set i (some v)) H1) := rd_then sta sl out fun u h1 v H1 m1 g1 s1 r1 out1 =>
      (show ∀ σ' H' m', Gr H1 m1 H' m' → Sta X.K X.mg H' m' h1 → Sl X.K H' m' σ' (env.set i (some u)) → D.nx σ' H' from out1) _ H1 m1 (Gr.refl _ _) s1 ((sl.gr g1).set r1 i)
    exact lc_rdX sub q⟩
end
end Wk

/-! T14: reversed walked, tuple * int, str(int), max of three. -/
namespace Wk
open PySem PySem.Spec PyProof.Rows L2
/-! ### for x in reversed(..) -/
def iRev (f : Ev) : Ea := fun env h => (f env h).bind fun u h1 => match u with
  | .d (.tuple xs) => .ok (xs.reverse.map .d) h1
  | .d (.list xs) => .ok (xs.reverse.map .d) h1
  | _ => .stuck
section
variable {X : Cx} {W : WX} {tg a : Expr} {f : Ev} {p pos : Pos}
theorem rev_get {α : Type} {xs : List α} {i : Nat} {x : α} (e : xs.reverse[i]? = some x) : i < xs.length ∧ xs[xs.length - 1 - i]? = some x := by
  have hi : i < xs.reverse.length := (List.getElem?_eq_some_iff.mp e).1
  rw [List.length_reverse] at hi
  rw [List.getElem?_reverse hi] at e
  exact ⟨hi, e⟩
theorem si_rev (hg : Gl X "reversed") (hm : X.mg "reversed" = none) (ha : SE X W a f) (hs : starEach [a] X.env = (false, eval a X.env) :: starEach [] X.env := by rfl) : SI X W tg (.Call (.Name "reversed" p) [a] [] pos) (iRev f) :=
  ⟨pi_imp (RT.pi_revA hg hm ha.pe hs) fun σ H R ⟨env, m, h, sta, sl, out⟩ => rd_of sta sl out fun u h1 v H1 m1 g1 s1 r1 out1 => by
    split at out1
    · rename_i ds
      cases r1.rd with
      | @tup q vs _ t d =>
        have hl := d.len
        refine ⟨q, vs, rfl, .inr ⟨t, Out.here (b := RT.ItvT X.K q vs.length) out1 s1 fun H' m' k pre => ?_⟩⟩
        have t' := k.sqT t
        refine ⟨fun i hi => ?_, fun i w e => ?_⟩
        · simp at hi
          show vs.length ≤ i
          omega
        · rw [List.getElem?_map] at e
          cases e2 : ds.reverse[i]? with
          | none => rw [e2] at e; cases e
          | some x =>
            rw [e2] at e
            cases e
            obtain ⟨hi, e3⟩ := rev_get e2
            obtain ⟨y, f1, w1⟩ := d.get e3
            rw [← hl] at f1 hi
            refine ⟨⟨hi, vs, y, t', f1⟩, fun z H'' yy => ?_⟩
            obtain ⟨rfl, yy⟩ := yy
            have g := yy vs t'
            rw [f1] at g
            cases g
            exact ⟨Same.refl _, .d (RD.kp k _ _ w1)⟩
    · rename_i ds
      cases r1.rd with
      | @lst q vs _ t d =>
        have hl := d.len
        refine ⟨q, vs, rfl, .inl ⟨t.sq, Out.here (b := Itv X.K q vs.length) out1 s1 fun H' m' k pre => ?_⟩⟩
        have t' := (k.fzL t).sq
        refine ⟨fun i hi => ?_, fun i w e => ?_⟩
        · simp at hi
          show vs.length ≤ i
          omega
        · rw [List.getElem?_map] at e
          cases e2 : ds.reverse[i]? with
          | none => rw [e2] at e; cases e
          | some x =>
            rw [e2] at e
            cases e
            obtain ⟨hi, e3⟩ := rev_get e2
            obtain ⟨y, f1, w1⟩ := d.get e3
            rw [← hl] at f1 hi
            refine ⟨⟨hi, vs, y, t', f1⟩, fun z H'' yy => ?_⟩
            obtain ⟨rfl, yy⟩ := yy
            have g := yy vs t'
            rw [f1] at g
            cases g
            exact ⟨Same.refl _, .d (RD.kp k _ _ w1)⟩
    · exact out1.elim⟩
@[simp] theorem ev_iRev (env : Env') (h : Sto) : iRev f env h = (f env h).bind fun u h1 => match u with | .d (.tuple xs) => .ok (xs.reverse.map .d) h1 | .d (.list xs) => .ok (xs.reverse.map .d) h1 | _ => .stuck := (rfl)
end
/-! ### tuple * int -/
noncomputable def opMulX (u w : U) (h : Sto) : Res U := match tupOf u, intOf w with
  | some xs, some k => if ask (xs ≠ [] ∧ 2 ≤ k ∧ k ≤ 1000 ∧ xs.length ≤ 1000) then .ok (.d (.tuple (List.replicate k.toNat xs).flatten)) h else .stuck
  | _, _ => opMul u w h
section
variable {X : Cx} {W : WX}
theorem op_mulX : OpR X (binaryOp .Mult) (fun x y H Q => rI (fun i j => mulOk i j = true) (fun i j => .int (i * j)) x y H Q ∨ rRepT X.K x y H Q) := op_mulA.or op_repT
theorem RDs.flat {K : PySem.W.Frag} {H : Hp} {vs : List V} {ds : List D} (r : RDs K H vs ds) : ∀ n : Nat, RDs K H (List.replicate n vs).flatten (List.replicate n ds).flatten
  | 0 => .nil
  | n + 1 => by
    rw [List.replicate_succ, List.replicate_succ, List.flatten_cons, List.flatten_cons]
    exact r.app (RDs.flat r n)
theorem ab_mulX : Ab2 X W opMulX (fun x y H Q => rI (fun i j => mulOk i j = true) (fun i j => .int (i * j)) x y H Q ∨ rRepT X.K x y H Q) := by
  intro σ H m h x y u w Q s ru rw out
  unfold opMulX at out
  split at out
  · rename_i xs k e1 e2
    split at out
    · rename_i hz
      obtain ⟨h0, h1, h2, h3⟩ := ask_iff.mp hz
      obtain ⟨p, vs, rfl, t1, d1⟩ := tupOf_v e1 ru
      refine .inr ⟨p, k, vs, rfl, intOf_v e2 rw, t1, fun z => h0 ?_, h1, h2, by rw [d1.len]; exact h3, fun q nq => ?_⟩
      · have := d1.len
        rw [z] at this
        exact List.eq_nil_of_length_eq_zero this.symm
      · have sm : Same H (upd H q (.tup (List.replicate k.toNat vs).flatten)) := Same.lay nq
        exact Out.ok (b := V.ref q) out (Gr.of_same sm m) (s.same sm) (.d (.tup (.inl (.inl upd_same)) (RDs.kp (Kp.same sm) _ _ (d1.flat _))))
    · exact out.elim
  · exact .inl (ab_mul σ H m h x y u w Q s ru rw out)
@[simp] theorem ev_mulXi (h : Sto) (i j : Int) : opMulX (.d (.int i)) (.d (.int j)) h = if mulOk i j then .ok (.d (.int (i * j))) h else .stuck := (rfl)
theorem ev_mulXt (h : Sto) (xs : List D) (k : Int) (h0 : xs ≠ []) (h1 : 2 ≤ k) (h2 : k ≤ 1000) (h3 : xs.length ≤ 1000) : opMulX (.d (.tuple xs)) (.d (.int k)) h = .ok (.d (.tuple (List.replicate k.toNat xs).flatten)) h := if_pos (ask_t ⟨h0, h1, h2, h3⟩)
end
/-! ### str(int) -/
noncomputable def fStr (us : List U) (h : Sto) : Res U := match us with
  | [u] => (match intOf u with
    | some i => if ask (i.natAbs.log2 < 1920) then .ok (.d (.str (toString i))) h else .stuck
    | none => .stuck)
  | _ => .stuck
/-- max of three -/
def fMax3 (us : List U) (h : Sto) : Res U := match us with
  | [u, w, z] => (match intOf u, intOf w, intOf z with
    | some i, some j, some k => .ok (.d (.int (max (max i j) k))) h
    | _, _, _ => .stuck)
  | _ => .stuck
section
variable {X : Cx} {W : WX}
theorem ab_str : AbC X W fStr (fun xs H Q => ∃ i : Int, xs = [.int i] ∧ i.natAbs.log2 < 1920 ∧ Q (.str (toString i)) H) := by
  intro σ H m h xs us Q s r out
  unfold fStr at out
  split at out
  · cases r with
    | cons ru rn =>
      cases rn
      split at out
      · rename_i i e
        split at out
        · rename_i hz
          exact ⟨i, by rw [intOf_v e ru], ask_iff.mp hz, Out.here (b := V.str _) out s (.d (.str _))⟩
        · exact out.elim
      · exact out.elim
  · exact out.elim
theorem nuMax2_int (i j : Int) : nuMax2 (.int i) (.int j) = some (.int (max i j)) := by
  show (Option.map _ (some (decide (i < j)))) = _
  by_cases h : i < j
  · simp [h, Int.max_eq_right (Int.le_of_lt h)]
  · simp [h, Int.max_eq_left (Int.not_lt.mp h)]
theorem ab_max3 : AbC X W fMax3 (rNuC3 nuMax3) := by
  intro σ H m h xs us Q s r out
  unfold fMax3 at out
  split at out
  · cases r with
    | cons ra rb =>
      cases rb with
      | cons rb rc =>
        cases rc with
        | cons rc rn =>
          cases rn
          split at out
          · rename_i i j k e1 e2 e3
            refine ⟨_, _, _, .int (max (max i j) k), rfl, ?_, Out.here (b := V.int _) out s (.d (.int _))⟩
            rw [intOf_v e1 ra, intOf_v e2 rb, intOf_v e3 rc]
            unfold nuMax3
            rw [nuMax2_int, Option.bind_some, nuMax2_int]
          · exact out.elim
  · exact out.elim
theorem ev_str (h : Sto) (i : Int) (hz : i.natAbs.log2 < 1920) : fStr [.d (.int i)] h = .ok (.d (.str (toString i))) h := if_pos (ask_t hz)
@[simp] theorem ev_max3 (h : Sto) (i j k : Int) : fMax3 [.d (.int i), .d (.int j), .d (.int k)] h = .ok (.d (.int (max (max i j) k))) h := (rfl)
end
/-! ### a op b op' c as a test -/
section
variable {X : Cx} {W : WX} {a b c : Expr} {pos : Pos} {f g k : Ev} {F G : U → U → Sto → Res U} {r r' : R2}
theorem chain_rd (ab : Ab2 X W F r) (ab' : Ab2 X W G r') {σ : L2.St} {H : Hp} {Q : VK} (z : rd X W (rlU X.K) (eChain F G f g k) σ H Q) : L2.tChain r r' (rd X W (rlU X.K) f) (rd X W (rlU X.K) g) (rd X W (rlU X.K) k) σ H Q := by
  obtain ⟨env, m, h, sta, sl, out⟩ := z
  refine rd_of sta sl out fun u h1 x H1 m1 g1 s1 r1 out1 => rd_of s1 (sl.gr g1) out1 fun w h2 y H2 m2 g2 s2 r2 out2 => ?_
  have rx := RU.kp g2.kp g2.pre _ _ r1
  refine ab σ H2 m2 h2 x y u w _ s2 rx r2 ?_
  revert out2
  generalize F u w h2 = q
  intro out2
  cases q with
  | stuck => exact out2
  | exc c h3 => exact out2
  | ok z h3 =>
    intro zv H3 m3 g3 s3 rz
    have out3 : Out X W (rlU X.K) σ H2 m2 ((match boolOf z with | some b => Res.ok b h3 | none => Res.stuck).bind fun b h3 => match b with | true => (k env h3).bind fun z h4 => G w z h4 | false => .ok (.d (.bool false)) h3) Q := out2
    cases e : boolOf z with
    | none => rw [e] at out3; exact out3.elim
    | some b =>
      rw [e] at out3
      refine ⟨b, boolOf_v e rz, ?_⟩
      have out4 := Out.gr out3 g3
      cases b with
      | false =>
        rw [if_neg Bool.false_ne_true]
        exact Out.here (b := V.bl false) out4 s3 (.d (.bl false))
      | true =>
        rw [if_pos rfl]
        refine rd_of s3 (((sl.gr g1).gr g2).gr g3) out4 fun z2 h4 y2 H4 m4 g4 s4 r4 out5 => ?_
        exact ab' σ H4 m4 h4 y y2 w z2 Q s4 (RU.kp (g3.trans g4).kp (g3.trans g4).pre _ _ r2) r4 out5
theorem st_chain {op op' : CmpOp} (ho : OpR X (compareOp op) r) (ho' : OpR X (compareOp op') r') (ab : Ab2 X W F r) (ab' : Ab2 X W G r') (ha : SE X W a f) (hb : SE X W b g) (hc : SE X W c k)
    (hm : lastMarks [op, op'] [b, c] = false := by with_unfolding_all rfl) : ST X W (.Compare a [op, op'] [b, c] pos) (Wk.tChain F G f g k) :=
  ⟨pt_imp (pt_chain ho ho' ha.pe hb.pe hc.pe hm) fun σ H Q ⟨env, m, h, sta, sl, out⟩ => chain_rd ab ab' ⟨env, m, h, sta, sl, out_bool out⟩⟩
@[simp] theorem ev_Chain (env : Env') (h : Sto) : eChain F G f g k env h = (f env h).bind fun u h1 => (g env h1).bind fun w h2 => (tB (F u w h2)).bind fun b h3 => match b with
  | true => (k env h3).bind fun z h4 => G w z h4
  | false => .ok (.d (.bool false)) h3 := (rfl)
@[simp] theorem ev_tChain (env : Env') (h : Sto) : Wk.tChain F G f g k env h = tB (eChain F G f g k env h) := (rfl)
end
/-! ### for x in text -/
def chars (x : Str) : List U := x.cps.toList.map fun c => .d (.str ⟨#[c]⟩)
def iStrE (f : Ev) : Ea := fun env h => (f env h).bind fun u h1 => match strOf u with
  | some x => .ok (chars x) h1
  | none => .stuck
section
variable {X : Cx} {W : WX} {tg a : Expr} {f : Ev}
theorem si_str (ha : SE X W a f) : SI X W tg a (iStrE f) :=
  ⟨pi_imp (pi_str ha.pe) fun σ H R ⟨env, m, h, sta, sl, out⟩ => rd_of sta sl out fun u h1 v H1 m1 g1 s1 r1 out1 => by
    split at out1
    · rename_i x ex
      refine ⟨x, strOf_v ex r1, Out.here (b := Its x) out1 s1 fun H' m' k pre => ⟨fun i hi => ?_, fun i w e => ?_⟩⟩
      · unfold chars at hi
        rw [List.length_map, Array.length_toList] at hi
        exact hi
      · unfold chars at e
        rw [List.getElem?_map] at e
        cases e2 : x.cps.toList[i]? with
        | none => rw [e2] at e; cases e
        | some c =>
          rw [e2] at e
          cases e
          have hi := (List.getElem?_eq_some_iff.mp e2).1
          rw [Array.length_toList] at hi
          refine ⟨hi, fun z H'' y => ?_⟩
          obtain ⟨rfl, c', h1, rfl⟩ := y
          rw [← Array.getElem?_toList, e2] at h1
          cases h1
          exact ⟨Same.refl _, .d (.str _)⟩
    · exact out1.elim⟩
@[simp] theorem ev_iStrE (env : Env') (h : Sto) : iStrE f env h = (f env h).bind fun u h1 => match strOf u with
  | some x => .ok (chars x) h1
  | none => .stuck := (rfl)
end
end Wk

/-! T15: except X as e, isinstance(e, Y), isinstance(e, (Y, Z)). -/
namespace Wk
open PySem PySem.Spec PyProof.Rows L2
/-- isinstance(e, (c1, ..)), e the exception that the suite holds -/
def rIsET (K : PySem.W.Frag) (D a : Addr) : List V → Hp → VK → Prop := fun xs H Q => ∃ (tp : Addr) (cs : List V) (us : List Value) (b : Bool), xs = [.ref a, .ref tp] ∧ H tp = some (.tup cs) ∧ Paired ClsV cs us ∧ PySem.W.kitAny K (.ref D) us = some b ∧ Q (.bl b) H
theorem call_isET {X : Cx} {a D : Addr} {oe : Obj} {pn : List (Addr × Obj)} (C : L2.ExcC X.K D) (hz : Zc (.ref D) none oe) (hf : ∃ vs, oe.data = .fields vs) : CallR (X.suite a ((a, oe) :: pn)) (.builtin "isinstance") (rIsET X.K D a) := by
  intro pins s σ H xs us Q I r h
  obtain ⟨tp, cs, ws, b, rfl, hT, k, e, q⟩ := h
  obtain ⟨u1, u2, rfl, r1, r2⟩ := vals2 r
  cases (show u1 = Value.ref a from r1)
  cases (show u2 = Value.ref tp from r2)
  obtain ⟨hget, _⟩ := I.pin (a, oe) (List.mem_append.mpr (.inl List.mem_cons_self))
  obtain ⟨vs, hv⟩ := hf
  have J : PySem.W.InstAt s.heap a oe D none := by
    obtain ⟨oc, od, oda, osl⟩ := oe
    obtain ⟨h1, h2⟩ := hz
    dsimp only at h1 h2 hv
    subst h1 h2 hv
    exact ⟨hget, rfl, rfl, trivial⟩
  obtain ⟨_, its, rv, o, h1, h2, n, h3⟩ := (show ObjOk X.prog X.w H s.heap tp (.tup cs) from I.hok tp _ hT)
  have e3 := ClsV.all k rv
  subst e3
  obtain ⟨oc, od, dt, sl⟩ := o
  simp only at h2 h3
  subst h2 h3
  exact PySem.W.kia_tup (PySem.W.handS_kitx_exc C.hg C.hk C.hs C.hd C.ha C.hn C.ht C.hm) I.kIn J h1 e (fun z => nomatch z) fun tk => ⟨.bl b, H, I.kept (t' := tk) fun _ _ z => z, rfl, q⟩
/-- what a suite knows of the exception at a: it is of the class c -/
structure ExA (Y : Cx) (a : Addr) (c : Str) : Prop where
  ex : ∃ C, Y.mg c = some (.ref C) ∧ CallR Y (.builtin "isinstance") (rIsE Y.K C a) ∧ CallR Y (.builtin "isinstance") (rIsET Y.K C a)
/-- a class by its name -/
inductive CN (mg : Str → Option Value) : Str → V → Value → Prop
  | own {y : Str} {D : Addr} (h : mg y = some (.ref D)) (d : (y == ("__debug__" : Str)) = false) : CN mg y (.ref D) (.ref D)
  | blt {y : Str} {n : String} (h : mg y = none) (b : bootBuiltins y = some (.type n)) (hn : y ≠ "__name__") (d : (y == ("__debug__" : Str)) = false) : CN mg y (.ty n) (.type n)
theorem CN.cls {mg : Str → Option Value} {y : Str} {v : V} {u : Value} (c : CN mg y v u) : ClsV v u := by
  cases c with
  | own h d => exact .own _
  | blt h b hn d => exact .ty _
theorem CN.pe {Y : Cx} {y : Str} {v : V} {u : Value} {pos : Pos} (c : CN Y.mg y v u) (hg : Gl Y y) : PE Y (.Name y pos) (tC v) := by
  cases c with
  | own h d => exact pe_glob hg h rfl d
  | blt h b hn d => exact pe_bltn hg h b rfl hn d
def KiOk (K : PySem.W.Frag) (mg : Str → Option Value) (ki : Str → Str → Option Bool) : Prop := ∀ c y b, ki c y = some b → ∀ C v u, mg c = some (.ref C) → CN mg y v u → PySem.W.kitOne K (.ref C) u = some b
def kiAny (ki : Str → Str → Option Bool) (c : Str) : List Str → Option Bool
  | [] => some false
  | y :: r => match ki c y with
    | some true => some true
    | some false => kiAny ki c r
    | none => none
def eIsE (i : Nat) (a : Addr) (b : Option Bool) : Ev := fun env h => match env[i]? with
  | some (some (.exn a')) => if a' = a then (match b with | some b => .ok (.d (.bool b)) h | none => .stuck) else .stuck
  | _ => .stuck
inductive CNs (mg : Str → Option Value) (N : Cx) : List Str → List Expr → List V → List Value → Prop
  | nil : CNs mg N [] [] [] []
  | cons {y : Str} {p : Pos} {v : V} {u : Value} {ys : List Str} {es : List Expr} {vs : List V} {us : List Value} (hg : Gl N y) (c : CN mg y v u) (he : starEach (.Name y p :: es) N.env = (false, eval (.Name y p) N.env) :: starEach es N.env) (r : CNs mg N ys es vs us) : CNs mg N (y :: ys) (.Name y p :: es) (v :: vs) (u :: us)
def tCs : List V → TA
  | [] => tNil
  | v :: vs => tCons (tC v) (tCs vs)
theorem tCs_of : ∀ {vs : List V} {σ : L2.St} {H : Hp} {Q : List V → Hp → Prop}, Q vs H → tCs vs σ H Q
  | [], _, _, _, q => q
  | v :: vs, σ, H, Q, q => tCs_of (vs := vs) (Q := fun xs H2 => Q (v :: xs) H2) q
section
variable {X : Cx} {W : WX} {a : Addr} {c n : Str} {ki : Str → Str → Option Bool} {p p1 p2 p3 pos : Pos} {y : Str} {i : Nat}
theorem CNs.pa {ys : List Str} {es : List Expr} {vs : List V} {us : List Value} (h : CNs X.mg X ys es vs us) : PA X es (tCs vs) := by
  induction h with
  | nil => exact pa_nil
  | cons hg c he r ih => exact pa_cons (c.pe hg) ih he
theorem CNs.cls {ys : List Str} {es : List Expr} {vs : List V} {us : List Value} (h : CNs X.mg X ys es vs us) : Paired ClsV vs us := by
  induction h with
  | nil => exact .nil
  | cons hg c he r ih => exact .cons c.cls ih
theorem CNs.any {C : Addr} {ys : List Str} {es : List Expr} {vs : List V} {us : List Value} (h : CNs X.mg X ys es vs us) (kio : KiOk X.K X.mg ki) (hc : X.mg c = some (.ref C)) : ∀ {b : Bool}, kiAny ki c ys = some b → PySem.W.kitAny X.K (.ref C) us = some b := by
  induction h with
  | nil => exact fun e => e
  | cons hg d he r ih =>
    intro b e
    unfold kiAny at e
    unfold PySem.W.kitAny
    split at e
    · rename_i q
      rw [kio c _ true q C _ _ hc d]
      exact e
    · rename_i q
      rw [kio c _ false q C _ _ hc d]
      exact ih e
    · cases e
theorem CNs.len {ys : List Str} {es : List Expr} {vs : List V} {us : List Value} (h : CNs X.mg X ys es vs us) : vs.length = ys.length := by
  induction h with
  | nil => rfl
  | cons hg c he r ih => simp [ih]
theorem eIsE_out {σ : L2.St} {H : Hp} {m : List Addr} {h : Sto} {env : Env'} {Q : VK} {b : Option Bool} (sl : Sl X.K H m σ env) (out : Out X W (rlU X.K) σ H m (eIsE i a b env h) Q) : σ[i]? = some (some (.ref a)) ∧ ∃ b', b = some b' ∧ Out X W (rlU X.K) σ H m (.ok (.d (.bool b')) h) Q := by
  unfold eIsE at out
  split at out
  · rename_i a' e
    split at out
    · rename_i ea
      subst ea
      split at out
      · rename_i b'
        obtain ⟨v, h1, h2⟩ := sl.2 i _ e
        cases h2
        exact ⟨h1, b', rfl, out⟩
      · exact out.elim
    · exact out.elim
  · exact out.elim
theorem se_isE (x : ExA X a c) (kio : KiOk X.K X.mg ki) (hg : Gl X "isinstance") (hm : X.mg "isinstance" = none) (hg2 : Gl X y) (hy : ∃ v u, CN X.mg y v u) (hN : X.N[i]? = some n := by rfl) (hv : Vis X.env.scope n := by first | exact Or.inl rfl | exact Or.inr (Or.inl rfl) | exact Or.inr (Or.inr rfl))
    (hd : (n == ("__debug__" : Str)) = false := by decide) (hcd : (n == ("__classdict__" : Str)) = false := by decide)
    (he : starEach [.Name n p1, .Name y p2] X.env = (false, eval (.Name n p1) X.env) :: starEach [.Name y p2] X.env := by rfl) (he2 : starEach [.Name y p2] X.env = (false, eval (.Name y p2) X.env) :: starEach [] X.env := by rfl)
    (hpl : (backTo pos (starEach [.Name y p2] X.env)).any (·.1) = false := by rfl) :
    SE X W (.Call (.Name "isinstance" p) [.Name n p1, .Name y p2] [] pos) (eIsE i a (ki c y)) := by
  obtain ⟨C, hC, k1, k2⟩ := x.ex
  obtain ⟨v, u, cn⟩ := hy
  refine ⟨pe_imp (pe_callB k1 hg hm (by decide +kernel) (pa_cons (pv i hN hv hd hcd) (pa_cons (cn.pe hg2) pa_nil he2) he) (by decide) (by decide) he hpl) fun σ H Q ⟨env, m, h, sta, sl, out⟩ => ?_⟩
  obtain ⟨h1, b, e, o⟩ := eIsE_out sl out
  exact ⟨.ref a, h1, v, u, b, rfl, fun w r => cn.cls.eq r, kio c y b e C v u hC cn, Out.here (b := V.bl b) o sta (.d (.bl b))⟩
theorem se_isET {ys : List Str} {es : List Expr} {ctx : _} (x : ExA X a c) (kio : KiOk X.K X.mg ki) (hg : Gl X "isinstance") (hm : X.mg "isinstance" = none) (hy : ∃ vs us, CNs X.mg X ys es vs us) (hl : ys.length ≤ sizeLine := by decide) (hN : X.N[i]? = some n := by rfl) (hv : Vis X.env.scope n := by first | exact Or.inl rfl | exact Or.inr (Or.inl rfl) | exact Or.inr (Or.inr rfl))
    (hd : (n == ("__debug__" : Str)) = false := by decide) (hcd : (n == ("__classdict__" : Str)) = false := by decide)
    (he : starEach [.Name n p1, .Tuple es ctx p2] X.env = (false, eval (.Name n p1) X.env) :: starEach [.Tuple es ctx p2] X.env := by rfl) (he2 : starEach [.Tuple es ctx p2] X.env = (false, eval (.Tuple es ctx p2) X.env) :: starEach [] X.env := by rfl)
    (hpl : (backTo pos (starEach [.Tuple es ctx p2] X.env)).any (·.1) = false := by rfl) :
    SE X W (.Call (.Name "isinstance" p) [.Name n p1, .Tuple es ctx p2] [] pos) (eIsE i a (kiAny ki c ys)) := by
  obtain ⟨C, hC, k1, k2⟩ := x.ex
  obtain ⟨vs, us, cn⟩ := hy
  refine ⟨pe_imp (pe_callB k2 hg hm (by decide +kernel) (pa_cons (pv i hN hv hd hcd) (pa_cons (pe_tup cn.pa) pa_nil he2) he) (by decide) (by decide) he hpl) fun σ H Q ⟨env, m, h, sta, sl, out⟩ => ?_⟩
  obtain ⟨h1, b, e, o⟩ := eIsE_out sl out
  refine ⟨.ref a, h1, tCs_of ⟨by rw [cn.len]; exact hl, fun tp ht => ?_⟩⟩
  exact ⟨tp, vs, us, b, rfl, upd_same, cn.cls, cn.any kio hC e, Out.ok (b := V.bl b) o (Gr.of_same (Same.lay ht) m) (sta.same (Same.lay ht)) (.d (.bl b))⟩
end
/-! ### try .. except X as e -/
noncomputable def allA (f : Addr → SRes) : SRes := open Classical in if h : ∃ r, ∀ a, f a = r then Classical.choose h else .stuck
theorem allA_of {f : Addr → SRes} {r : SRes} (h : ∀ a, f a = r) : allA f = r := by
  unfold allA
  have q : ∃ r, ∀ a, f a = r := ⟨r, h⟩
  rw [dif_pos q]
  exact (Classical.choose_spec q 0).symm.trans (h 0)
@[simp] theorem allA_const (r : SRes) : allA (fun _ => r) = r := allA_of fun _ => rfl
theorem allA_out {X : Cx} {W : WX} {D : Ends} {H : Hp} {m : List Addr} {f : Addr → SRes} (o : OutS X W D H m (allA f)) (a : Addr) : OutS X W D H m (f a) := by
  unfold allA at o
  split at o
  · rename_i h
    rw [Classical.choose_spec h a]
    exact o
  · exact o.elim
def SRes.wipe (i : Nat) : SRes → SRes
  | .next env h => .next (env.set i none) h
  | r => r
structure ExI (K : PySem.W.Frag) (mg : Str → Option Value) (c : Str) : Prop where
  ex : ∃ C, mg c = some (.ref C) ∧ L2.ExcC K C
noncomputable def sTryAs (mt : Str → Str → Option Bool) (cs : List Str) (b : Es) (d : Str) (i : Nat) (g : Addr → Str → Es) : Es := fun env h => match b env h with
  | .exc c env' h' => match mt c d with
    | some true => if cs.contains c then allA fun a => ((g a c (env'.set i (some (.exn a))) h').noEx).wipe i else .stuck
    | some false => .exc c env' h'
    | none => .stuck
  | .next env' h' => .next env' h'
  | .ret u h' => .ret u h'
  | .stuck => .stuck
theorem Sl.wipe1 {K : PySem.W.Frag} {H : Hp} {m : List Addr} {σ : L2.St} {env : Env'} (s : Sl K H m σ env) (i : Nat) : Sl K H m (σ.set i none) (env.set i none) := by
  refine ⟨by simp [s.1], fun j w e => ?_⟩
  by_cases hj : i = j
  · subst hj
    by_cases hi : i < env.length
    · rw [List.getElem?_set_self hi] at e
      cases e
    · rw [List.getElem?_eq_none (by simp; omega)] at e
      cases e
  · rw [List.getElem?_set_ne hj] at e ⊢
    exact s.2 j w e
section
variable {X : Cx} {W : WX} {mt : Str → Str → Option Bool} {body suite : List Stmt} {b₀ : Stmt} {b : Es} {d n : Str} {i : Nat} {g : Addr → Str → Es} {np pos pos' : Pos} {cs : List Str}
theorem ss_tryAs (i : Nat) (hs : X.stack = X.env :: X.outer) (hf : X.env.frame = some X.env.locals) (hN : X.N.Nodup) (tk : Takes X W) (mtok : MtOk X.K X.mg mt) (hcs : ∀ c ∈ cs, ExI X.K X.mg c) (hg : Gl X d) (hD : ∃ D, X.mg d = some (.ref D))
    (hb : ∀ (W' : WX) (pn : List (Addr × Obj)) (xe : Value → Shared → Prop), Takes (X.tr pn xe) W' → PassesOwn (model X.prog X.w) X.A X.env xe → SSs (X.tr pn xe) W' body b)
    (hsu : ∀ (a : Addr) (c : Str) (oe : Obj) (pn : List (Addr × Obj)), ExA (X.suite a ((a, oe) :: pn)) a c → SSs (X.suite a ((a, oe) :: pn)) W0 (b₀ :: suite) (g a c))
    (hi : X.N[i]? = some n := by rfl) (hln : X.env.kindOf n = some .local := by rfl) (hdb : (d == ("__debug__" : Str)) = false := by decide) :
    SS X W (.Try body [.ExceptHandler (some (.Name d np)) (some n) (b₀ :: suite) pos'] [] [] pos) (sTryAs mt cs b d i g) := by
  obtain ⟨DD, hD⟩ := hD
  refine ⟨ps_imp (ps_try_as (tb := fun W' => rdS X W' b) (ts := fun a cls dd D σ H => ∃ c C, cls = .ref C ∧ dd = none ∧ X.mg c = some (.ref C) ∧ c ∈ cs ∧ rdS X W0 (g a c) D σ H) hs hf hN hi hln ⟨hg, hdb, .inl hD⟩ tk (fun W' pn xe t p => (hb W' pn xe t p).ps) ?_) ?_⟩
  · intro a oe cls dd pn hz hf2
    refine ⟨fun pins s σ H D I q => ?_⟩
    obtain ⟨c, C, rfl, rfl, hc, hm, q⟩ := q
    obtain ⟨C', hC', ec⟩ := (hcs c hm).ex
    cases hC'.symm.trans hc
    exact (hsu a c oe pn ⟨C, hc, call_isE ec hz hf2, call_isET ec hz hf2⟩).ps.run pins s σ H D I q
  · intro D σ H ⟨env, m, h, sta, sl, out⟩
    refine ⟨env, m, h, sta, sl, ?_⟩
    unfold sTryAs at out
    generalize b env h = y at out
    cases y with
    | next e2 h2 => exact out
    | ret u h2 => exact out
    | stuck => exact out
    | exc c e' h' =>
      intro σ' H' m' gr s' sl' C hC
      dsimp only at out
      split at out
      · rename_i e
        refine ⟨true, mtok c d true e C DD hC hD, fun _ a ha => ?_, fun z => nomatch z⟩
        split at out
        · rename_i hm
          refine ⟨c, C, rfl, rfl, hC, by simpa using hm, e'.set i (some (.exn a)), m', h', s', sl'.set (.exn a) i, ?_⟩
          have o := OutS.gr (allA_out out a) gr
          generalize g a c (e'.set i (some (.exn a))) h' = z at o
          cases z with
          | next e2 h2 => exact fun σ2 H2 m2 g2 s2 l2 => o (σ2.set i none) H2 m2 g2 s2 (l2.wipe1 i)
          | ret u h2 => exact o
          | exc c2 e2 h2 => exact o.elim
          | stuck => exact o
        · exact out.elim
      · rename_i e
        exact ⟨false, mtok c d false e C DD hC hD, fun z => (nomatch z), fun _ => (show ∀ σ2 H2 m2, Gr H m H2 m2 → Sta X.K X.mg H2 m2 h' → Sl X.K H2 m2 σ2 e' → ExW X W c σ2 H2 from out) σ' H' m' gr s' sl' C hC⟩
      · exact out.elim
end
/-! ### looked up -/
theorem cns_nil {mg : Str → Option Value} {N : Cx} : ∃ vs us, CNs mg N [] [] vs us := ⟨_, _, .nil⟩
theorem cns_cons {mg : Str → Option Value} {N : Cx} {y : Str} {p : Pos} {ys : List Str} {es : List Expr} (c : ∃ v u, CN mg y v u) (r : ∃ vs us, CNs mg N ys es vs us) (hg : Gl N y := by rfl) (he : starEach (.Name y p :: es) N.env = (false, eval (.Name y p) N.env) :: starEach es N.env := by rfl) : ∃ vs us, CNs mg N (y :: ys) (.Name y p :: es) vs us := by
  obtain ⟨v, u, c⟩ := c
  obtain ⟨vs, us, r⟩ := r
  exact ⟨_, _, .cons hg c he r⟩
section
variable {K : PySem.W.Frag} {mg : Str → Option Value} {h : Heap}
theorem cn_own {y : Str} {C : Addr} (X : K.In h) (G : h.Ns mainGlobals mg) (a : PySem.W.nsIn K mainGlobals y = some (some (.ref C))) (d : (y == ("__debug__" : Str)) = false := by decide) : ∃ v u, CN mg y v u := ⟨_, _, .own (PySem.W.mg_of X G a) d⟩
theorem cn_blt {y : Str} (n : String) (a : mg y = none) (b : bootBuiltins y = some (.type n)) (hn : y ≠ "__name__" := by decide) (d : (y == ("__debug__" : Str)) = false := by decide) : ∃ v u, CN mg y v u := ⟨_, _, .blt a b hn d⟩
theorem exI_mk {c : Str} {C : Addr} (X : K.In h) (G : h.Ns mainGlobals mg) (a : PySem.W.nsIn K mainGlobals c = some (some (.ref C)))
    (p1 : PySem.W.findIn K (.ref C) "__getattribute__" = some (some (.builtin "BaseException.__getattribute__"))) (p2 : PySem.W.findIn K (.ref C) "__getattr__" = some none) (p3 : PySem.W.subIn K (.ref C) (.type "BaseException") = some true)
    (p4 : PySem.W.hasDictIn K C = true) (p5 : PySem.W.findIn K (.ref C) "__class__" = some (some (.builtin "object.__class__"))) (p6 : PySem.W.specialIn K (.builtin "object.__class__") "__get__" = some (some (.builtin "getset_descriptor.__get__")))
    (p7 : PySem.W.takesIn K (.builtin "object.__class__") = some true) (p8 : PySem.W.mroIn K C (.type "object") = some true) : ExI K mg c := ⟨C, PySem.W.mg_of X G a, p1, p2, p3, p4, p5, p6, p7, p8⟩
def KiOne (K : PySem.W.Frag) (mg : Str → Option Value) (c y : Str) (b : Bool) : Prop := ∀ C v u, mg c = some (.ref C) → CN mg y v u → PySem.W.kitOne K (.ref C) u = some b
theorem kit_exm {t c : Value} {b : Bool} (e : PySem.W.exmOne K t c = some b) (n : (t == c) = true → b = true) : PySem.W.kitOne K t c = some b := by
  unfold PySem.W.exmOne at e
  unfold PySem.W.kitOne
  split
  · rename_i q
    rw [n q]
  · split at e
    · exact e
    · cases e
theorem kiOne_mk {c y : Str} {b : Bool} {C D : Addr} (X : K.In h) (G : h.Ns mainGlobals mg) (a : PySem.W.nsIn K mainGlobals c = some (some (.ref C))) (a' : PySem.W.nsIn K mainGlobals y = some (some (.ref D))) (e : PySem.W.exmOne K (.ref C) (.ref D) = some b) (n : (Value.ref C == Value.ref D) = true → b = true) : KiOne K mg c y b := fun C' v u h1 h2 => by
  cases (PySem.W.mg_of X G a).symm.trans h1
  cases h2 with
  | own k d =>
    cases (PySem.W.mg_of X G a').symm.trans k
    exact kit_exm e n
  | blt k _ _ _ => cases (PySem.W.mg_of X G a').symm.trans k
theorem kiOneB_mk {c y : Str} {b : Bool} {C : Addr} {m : String} (X : K.In h) (G : h.Ns mainGlobals mg) (a : PySem.W.nsIn K mainGlobals c = some (some (.ref C))) (a' : mg y = none) (hb : bootBuiltins y = some (.type m)) (e : PySem.W.exmOne K (.ref C) (.type m) = some b) : KiOne K mg c y b := fun C' v u h1 h2 => by
  cases (PySem.W.mg_of X G a).symm.trans h1
  cases h2 with
  | own k d => cases a'.symm.trans k
  | blt k kb _ _ =>
    cases hb.symm.trans kb
    exact kit_exm e fun z => nomatch (eq_of_beq z)
theorem kiOk_mk {l : List (Str × Str × Bool)} (z : ∀ x ∈ l, KiOne K mg x.1 x.2.1 x.2.2) : KiOk K mg (mtOf l) := fun c d b e C v u h1 h2 => by
  unfold mtOf at e
  cases q : l.find? fun z => z.1 == c && z.2.1 == d with
  | none => rw [q] at e; cases e
  | some y =>
    rw [q] at e
    cases e
    have hy := List.find?_some q
    rw [Bool.and_eq_true] at hy
    have e1 : y.1 = c := eq_of_beq hy.1
    have e2 : y.2.1 = d := eq_of_beq hy.2
    have := z y (List.mem_of_find?_eq_some q) C v u
    rw [e1, e2] at this
    exact this h1 h2
end
end Wk

set_option maxHeartbeats 4000000
/-! T16: tuple * int, for any int. -/
namespace Wk
open PySem PySem.Spec PyProof.Rows L2
theorem tuple_mulS (l : Addr) (items : Array Value) (n : Nat) (sl : Array (Option Value)) (dd : Option Addr) (x : Int) (u : Tok) (c0 : (decide (x < -(2 ^ 63)) || decide (x ≥ 2 ^ 63)) = false) (c1 : (items.isEmpty || x == 1) = true) :
    Meets (Builtin.«tuple.__mul__» ⟨[.ref l, .int x u], []⟩) (fun _ R s => s.heap.get? l = some { cls := .type "tuple", dict := dd, data := .seq items n, slots := sl } ∧
      R (.ok (.ret (Value.ref l))) s) :=
  .of_wp fun prog w A R s h => by
    obtain ⟨hp, g, d, tk, os⟩ := s
    obtain ⟨hl, h⟩ := h
    have f1 := AutoSeq1.idx_int
    wp_walk using wpAny_loadPart' hl
    repeat (first
      | (refine wpAny_ite_false (decide_eq_false (by rw [c0]; exact Bool.false_ne_true)) ?_; wp_walk using wpAny_loadPart' hl)
      | (refine wpAny_ite_true (decide_eq_true (by rw [c1])) ?_; wp_walk using wpAny_loadPart' hl))
    exact ⟨_, rfl, h⟩
theorem tuple_mulZ (l : Addr) (items : Array Value) (n : Nat) (sl : Array (Option Value)) (dd : Option Addr) (x : Int) (u : Tok) (c0 : (decide (x < -(2 ^ 63)) || decide (x ≥ 2 ^ 63)) = false) (c1 : (items.isEmpty || x == 1) = false) (c2 : (decide (x ≤ 0) || items.isEmpty) = true) :
    Meets (Builtin.«tuple.__mul__» ⟨[.ref l, .int x u], []⟩) (fun _ R s => s.heap.get? l = some { cls := .type "tuple", dict := dd, data := .seq items n, slots := sl } ∧
      R (.ok (.ret (Value.ref s.heap.objs.size))) { s with heap := s.heap.push { cls := Value.type "tuple", data := Data.seq #[] }, toks := s.toks }) :=
  .of_wp fun prog w A R s h => by
    obtain ⟨hp, g, d, tk, os⟩ := s
    obtain ⟨hl, h⟩ := h
    have f1 := AutoSeq1.idx_int
    wp_walk using wpAny_loadPart' hl
    repeat (first
      | (refine wpAny_ite_false (decide_eq_false (by rw [c0]; exact Bool.false_ne_true)) ?_; wp_walk using wpAny_loadPart' hl)
      | (refine wpAny_ite_false (decide_eq_false (by rw [c1]; exact Bool.false_ne_true)) ?_; wp_walk using wpAny_loadPart' hl)
      | (refine wpAny_ite_true (decide_eq_true (by rw [c2])) ?_; wp_walk using wpAny_loadPart' hl)
      | (refine wpAny_ite_false (decide_eq_false (Nat.not_lt.mpr (Nat.zero_le _))) ?_; wp_walk using wpAny_loadPart' hl))
    exact ⟨_, rfl, h⟩
def rRepY (K : PySem.W.Frag) : R2 := fun x y H Q => ∃ l k xs, x = .ref l ∧ y = .int k ∧ SqT K H l xs ∧ -1000000 ≤ k ∧ k ≤ 1000000 ∧ xs.length * k.toNat ≤ 1000000 ∧
  (xs = [] ∨ k = 1 → Q (.ref l) H) ∧ (¬ (xs = [] ∨ k = 1) → ∀ p, H p = none → Q (.ref p) (upd H p (.tup (List.replicate k.toNat xs).flatten)))
section
variable {X : Cx}
theorem op_repY : OpR X (binaryOp .Mult) (rRepY X.K) := by
  intro pins s σ H x y v u Q I rx ry h
  obtain ⟨l, k, xs, rfl, rfl, hT, h1, h2, hz, q1, q2⟩ := h
  cases rx
  obtain ⟨t, rfl⟩ := ry
  obtain ⟨its, r, ⟨⟨cls, dd, data, sl⟩, ho, hc, n, hd⟩, hs⟩ := I.tuple hT
  simp only at hc hd
  subst hc hd
  have hle : its.length = xs.length := r.length.symm
  have c0 : (decide (k < -(2 ^ 63)) || decide (k ≥ 2 ^ 63)) = false := by
    rw [decide_eq_false (by omega), decide_eq_false (by omega)] <;> rfl
  have hie : its.toArray.isEmpty = decide (xs = []) := by
    cases its with
    | nil =>
      have : xs = [] := List.eq_nil_of_length_eq_zero hle.symm
      rw [this]; rfl
    | cons a b =>
      have : xs ≠ [] := fun e => by rw [e] at hle; simp at hle
      rw [decide_eq_false this]; rfl
  by_cases hc : xs = [] ∨ k = 1
  · have c1 : (its.toArray.isEmpty || k == 1) = true := by
      rw [hie]
      rcases hc with e | e
      · rw [decide_eq_true e]; rfl
      · rw [e]; simp
    refine wpAny_binaryOp_repeat_ref (T := "tuple") (U := "int") (by decide) ⟨_, ho, rfl⟩ (fun s' => typeIs_int s' k t) noFill_tuple_mul F.fills_int_mul F.slot_int_rmul repeat_tuple F.slot_int_index.lookup
      (call_meets F.slot_int_rmul (typeIs_int s k t) F.entry_int_rmul (F.args_int_rmul_2 _ _) (int_rmul_tuple k t l its.toArray n dd sl)
        ⟨ho, rfl, ⟨_, ho, rfl⟩, call_meets F.slot_tuple_mul ⟨_, ho, rfl⟩ F.entry_tuple_mul (F.args_tuple_mul_2 _ _) (tuple_mulS l its.toArray n sl dd k t c0 c1) ⟨ho, ?_⟩⟩)
    exact ⟨.ref l, H, I, rfl, q1 hc⟩
  · have hx : xs ≠ [] := fun e => hc (.inl e)
    have hk : k ≠ 1 := fun e => hc (.inr e)
    have hi : its.toArray.isEmpty = false := by rw [hie]; exact decide_eq_false hx
    have c1 : (its.toArray.isEmpty || k == 1) = false := by
      rw [hi, Bool.false_or]
      exact beq_eq_false_iff_ne.mpr hk
    by_cases h0 : k ≤ 0
    · have c2 : (decide (k ≤ 0) || its.toArray.isEmpty) = true := by rw [decide_eq_true h0]; rfl
      have e0 : (List.replicate k.toNat xs).flatten = [] := by rw [show k.toNat = 0 by omega]; rfl
      rw [e0] at q2
      refine wpAny_binaryOp_repeat_ref (T := "tuple") (U := "int") (by decide) ⟨_, ho, rfl⟩ (fun s' => typeIs_int s' k t) noFill_tuple_mul F.fills_int_mul F.slot_int_rmul repeat_tuple F.slot_int_index.lookup
        (call_meets F.slot_int_rmul (typeIs_int s k t) F.entry_int_rmul (F.args_int_rmul_2 _ _) (int_rmul_tuple k t l its.toArray n dd sl)
          ⟨ho, rfl, ⟨_, ho, rfl⟩, call_meets F.slot_tuple_mul ⟨_, ho, rfl⟩ F.entry_tuple_mul (F.args_tuple_mul_2 _ _) (tuple_mulZ l its.toArray n sl dd k t c0 c1 c2) ⟨ho, ?_⟩⟩)
      refine ⟨.ref s.heap.objs.size, _, I.laid (t' := s.toks) (o := .tup []) (fun b ob q => Heap.get?_push_of_some _ q) (Nat.le_refl _) ?_, rfl, q2 hc _ (I.hok.fresh (Nat.le_refl _))⟩
      exact ⟨by simp, _, .nil, IsTup.new _ _⟩
    · have hsz0 : its.toArray.size = xs.length := by rw [List.size_toArray, hle]
      have hkn : (k.toNat : Int) = k := by omega
      have hm : ((its.toArray.size : Nat) : Int) * k ≤ 1000000 := by
        have e : ((xs.length : Nat) : Int) * ((k.toNat : Nat) : Int) ≤ 1000000 := by
          rw [← Int.natCast_mul]
          exact Int.ofNat_le.mpr hz
        rw [hkn] at e
        rw [hsz0]
        exact e
      have flen : (List.replicate k.toNat its).flatten.length ≤ sizeLine := by
        rw [PyProof.Rows.lm_len_rep_flat, hle, sizeLine_eq, Nat.mul_comm]
        omega
      have c2 : (decide (k ≤ 0) || its.toArray.isEmpty) = false := by
        rw [hi, Bool.or_false]
        exact decide_eq_false h0
      have c4 : Builtin.Tuple.tupleTooMany (((its.toArray.size : Nat) : Int) * k) = false := by
        unfold Builtin.Tuple.tupleTooMany
        rw [sizeLine_eq]
        exact decide_eq_false (by omega)
      refine wpAny_binaryOp_repeat_ref (T := "tuple") (U := "int") (by decide) ⟨_, ho, rfl⟩ (fun s' => typeIs_int s' k t) noFill_tuple_mul F.fills_int_mul F.slot_int_rmul repeat_tuple F.slot_int_index.lookup
        (call_meets F.slot_int_rmul (typeIs_int s k t) F.entry_int_rmul (F.args_int_rmul_2 _ _) (int_rmul_tuple k t l its.toArray n dd sl)
          ⟨ho, rfl, ⟨_, ho, rfl⟩, call_meets F.slot_tuple_mul ⟨_, ho, rfl⟩ F.entry_tuple_mul (F.args_tuple_mul_2 _ _) (tuple_mulW l its.toArray n dd sl k t c0 c1 c2 (by omega) c4 (by rw [size_rep, List.size_toArray]; exact flen)) ⟨ho, ?_⟩⟩)
      rw [size_rep]
      refine ⟨.ref s.heap.objs.size, _, I.laid (t' := s.toks) (o := .tup (List.replicate k.toNat xs).flatten) (fun b ob q => Heap.get?_push_of_some _ q) (Nat.le_refl _) ?_, rfl, q2 hc _ (I.hok.fresh (Nat.le_refl _))⟩
      exact ⟨by rw [PyProof.Rows.lm_len_rep_flat, sizeLine_eq, Nat.mul_comm]; omega, _, r.rep k.toNat, IsTup.new _ _⟩
end
/-- tuple * int -/
noncomputable def opMulY (u w : U) (h : Sto) : Res U := match tupOf u, intOf w with
  | some xs, some k => if ask (-1000000 ≤ k ∧ k ≤ 1000000 ∧ xs.length * k.toNat ≤ 1000000) then .ok (.d (.tuple (List.replicate k.toNat xs).flatten)) h else .stuck
  | _, _ => opMul u w h
section
variable {X : Cx} {W : WX}
theorem op_mulY : OpR X (binaryOp .Mult) (fun x y H Q => rI (fun i j => mulOk i j = true) (fun i j => .int (i * j)) x y H Q ∨ rRepY X.K x y H Q) := op_mulA.or op_repY
theorem ab_mulY : Ab2 X W opMulY (fun x y H Q => rI (fun i j => mulOk i j = true) (fun i j => .int (i * j)) x y H Q ∨ rRepY X.K x y H Q) := by
  intro σ H m h x y u w Q s ru rw out
  unfold opMulY at out
  split at out
  · rename_i xs k e1 e2
    split at out
    · rename_i hz
      obtain ⟨h1, h2, h3⟩ := ask_iff.mp hz
      obtain ⟨p, vs, rfl, t1, d1⟩ := tupOf_v e1 ru
      refine .inr ⟨p, k, vs, rfl, intOf_v e2 rw, t1, h1, h2, by rw [d1.len]; exact h3, fun z => ?_, fun _ q nq => ?_⟩
      · have e : (List.replicate k.toNat xs).flatten = xs := by
          rcases z with z | z
          · have : xs = [] := by
              have := d1.len
              rw [z] at this
              exact List.eq_nil_of_length_eq_zero this.symm
            rw [this]
            simp
          · rw [z]; simp
        rw [e] at out
        exact Out.here (b := V.ref p) out s (.d (.tup t1 d1))
      · have sm : Same H (upd H q (.tup (List.replicate k.toNat vs).flatten)) := Same.lay nq
        exact Out.ok (b := V.ref q) out (Gr.of_same sm m) (s.same sm) (.d (.tup (.inl (.inl upd_same)) (RDs.kp (Kp.same sm) _ _ (d1.flat _))))
    · exact out.elim
  · exact .inl (ab_mul σ H m h x y u w Q s ru rw out)
@[simp] theorem ev_mulYi (h : Sto) (i j : Int) : opMulY (.d (.int i)) (.d (.int j)) h = if mulOk i j then .ok (.d (.int (i * j))) h else .stuck := (rfl)
theorem ev_mulYt (h : Sto) (xs : List D) (k : Int) (h1 : -1000000 ≤ k) (h2 : k ≤ 1000000) (h3 : xs.length * k.toNat ≤ 1000000) : opMulY (.d (.tuple xs)) (.d (.int k)) h = .ok (.d (.tuple (List.replicate k.toNat xs).flatten)) h := if_pos (ask_t ⟨h1, h2, h3⟩)
end
end Wk

/-! T17: lists of things, extend, dict displays by texts. -/
namespace Wk
open PySem PySem.Spec PyProof.Rows L2
def eLsu (r : Ea) : Ev := fun env h => (r env h).bind fun us h1 => if us.length ≤ 1000 then .ok (.ref h1.length) (h1 ++ [.lsu us]) else .stuck
def lsOf (h : Sto) (u : U) : Option (List U) := match u with
  | .ref n => (match h[n]? with
    | some (.lsu us) => some us
    | _ => none)
  | _ => none
theorem lsOf_v {K : PySem.W.Frag} {mg : Str → Option Value} {H : Hp} {m : List Addr} {h : Sto} {v : V} {u : U} {us : List U} (s : Sta K mg H m h) (e : lsOf h u = some us) (r : RU K H m v u) : ∃ a vs, v = .ref a ∧ SqL K H a vs ∧ RUs K H m vs us := by
  unfold lsOf at e
  split at e
  · split at e
    · rename_i n us' hn
      cases e
      cases r with
      | ref hm =>
        obtain ⟨vs, h1, h2⟩ := s.obj _ _ _ hm hn
        exact ⟨_, vs, rfl, .inl (.inl h1), h2⟩
    · cases e
  · cases e
def opIxL (u w : U) (h : Sto) : Res U := match lsOf h u with
  | some us => (match intOf w with
    | some i => (match atI us i with | some x => .ok x h | none => .stuck)
    | none => .stuck)
  | none => match u with
    | .d (.str z) => (match intOf w with
      | some i => if z.length ≤ 1000 then (match atI z.cps.toList i with | some c => .ok (.d (.str ⟨#[c]⟩)) h | none => .stuck) else .stuck
      | none => .stuck)
    | u => opIx u w h
def gTupL (n : Nat) (r : Tgs) : Tg := fun u env h => match lsOf h u with
  | some us => if us.length = n then r us env h else none
  | none => none
noncomputable def fExt (u : U) (us : List U) (h : Sto) : Res U := match u, us with
  | .ref n, [.ref k] => (match h[n]?, h[k]? with
    | some (.lst xs), some (.lst ys) => if fits (xs.length + ys.length) then .ok (.d .none) (h.set n (.lst (xs ++ ys))) else .stuck
    | _, _ => .stuck)
  | _, _ => .stuck
section
variable {X : Cx} {W : WX} {a b : Expr} {es : List Expr} {pos : Pos} {f g : Ev} {ix : List Nat} {ts : Tgs}
theorem se_lsu {r : Ea} (h : SA X W es r) : SE X W (.List es pos) (eLsu r) :=
  ⟨pe_imp (pe_lst h.pa) fun σ H Q ⟨env, m, h, sta, sl, out⟩ => rd_of sta sl out fun us h1 xs H1 m1 g1 s1 r1 out1 => by
    split at out1
    · rename_i hz
      refine ⟨by rw [RUs.len r1]; exact line1000 hz, fun p np => ?_⟩
      exact Out.ok (b := V.ref p) out1 (Gr.push np) (s1.push np ⟨xs, upd_same, RUs.kp (Kp.same (Same.lay np)) ⟨[p], rfl⟩ _ _ r1⟩) (.ref (by rw [← s1.len]; simp))
    · exact out1.elim⟩
theorem se_ixL (hs : PlainIx b) (ha : SE X W a f) (hb : SE X W b g) : SE X W (.Subscript a b pos) (eBin opIxL f g) :=
  ⟨pe_imp (pe_ix ix_seq ha.pe hb.pe hs) fun σ H Q ⟨env, m, h, sta, sl, out⟩ => rd_of sta sl out fun u h1 x H1 m1 g1 s1 r1 out1 => rd_of s1 (sl.gr g1) out1 fun w h2 y H2 m2 g2 s2 r2 out2 => by
    have ru := RU.kp g2.kp g2.pre _ _ r1
    unfold opIxL at out2
    split at out2
    · rename_i us eu
      split at out2
      · rename_i i ei
        have ey := intOf_v ei r2
        split at out2
        · rename_i d ed
          obtain ⟨p, vs, rfl, t1, d1⟩ := lsOf_v s2 eu ru
          obtain ⟨v, h3, h4⟩ := atI_rus d1 ed
          exact .inl ⟨p, vs, i, v, rfl, ey, t1, h3, Out.here out2 s2 h4⟩
        · exact out2.elim
      · exact out2.elim
    · split at out2
      · rename_i z eu
        split at out2
        · rename_i i ei
          have ey := intOf_v ei r2
          split at out2
          · rename_i hz
            split at out2
            · rename_i c ec
              cases ru.rd
              exact .inr (.inr ⟨z, i, c, rfl, ey, line1000 hz, ec, Out.here (b := V.str _) out2 s2 (.d (.str _))⟩)
            · exact out2.elim
          · exact out2.elim
        · exact out2.elim
      · unfold opIx at out2
        split at out2
        · exact out2.elim
        · rename_i i ei
          have ey := intOf_v ei r2
          split at out2
          · rename_i xs e
            obtain ⟨p, vs, rfl, t1, d1⟩ := tupOf_v e ru
            split at out2
            · rename_i d ed
              obtain ⟨v, h3, h4⟩ := atI_rds d1 ed
              exact .inr (.inl ⟨p, vs, i, v, rfl, ey, t1, h3, Out.here out2 s2 (.d h4)⟩)
            · exact out2.elim
          · split at out2
            · rename_i xs e
              obtain ⟨p, vs, rfl, t1, d1⟩ := listOf_v s2 e ru
              split at out2
              · rename_i d ed
                obtain ⟨v, h3, h4⟩ := atI_rds d1 ed
                exact .inl ⟨p, vs, i, v, rfl, ey, t1, h3, Out.here out2 s2 (.d h4)⟩
              · exact out2.elim
            · split at out2
              · split at out2
                · rename_i d ed
                  cases ru with
                  | tup t1 d1 =>
                    obtain ⟨v, h3, h4⟩ := atI_rus d1 ed
                    exact .inr (.inl ⟨_, _, i, v, rfl, ey, t1, h3, Out.here out2 s2 h4⟩)
                · exact out2.elim
              · exact out2.elim⟩
theorem sg_tupL {k n : Nat} (hc : X.calm = true) (h : SGs X es ix ts) (hn : (assignEach es X.env).length = n := by rfl) (hst : (assignEach es X.env).findIdx? (·.1) = none := by rfl) : SG X (.Tuple es k pos) ix (gTupL n ts) :=
  ⟨pg_imp (pg_unl hc h.pg hn hst) fun v σ H Q ⟨u, env, m, hh, sta, sl, r, env', e, q⟩ => by
    unfold gTupL at e
    split at e
    · rename_i us eu
      split at e
      · rename_i hl
        obtain ⟨p, vs, rfl, t1, r1⟩ := lsOf_v sta eu r
        have hvs : vs.length = n := (RUs.len r1).trans hl
        exact ⟨p, vs, rfl, t1, hvs, us, env, m, hh, sta, sl, r1, env', e, q⟩
      · cases e
    · cases e⟩
theorem ab_ext : AbM X W fExt rExtend := by
  intro σ H m h x xs u us Q s ru rus out
  unfold fExt at out
  split at out
  · rename_i n k
    split at out
    · rename_i ds es ed ee
      split at out
      · rename_i hz
        cases ru with
        | ref hm =>
          rename_i a
          cases rus with
          | cons rx rn =>
            cases rn
            cases rx with
            | ref hk =>
              rename_i b
              obtain ⟨vs, k1, k2⟩ := s.obj _ _ _ hm ed
              obtain ⟨ws, j1, j2⟩ := s.obj _ _ _ hk ee
              refine ⟨a, b, vs, ws, rfl, rfl, k1, j1, by rw [k2.len, j2.len]; exact ask_iff.mp hz, ?_⟩
              refine Out.ok (b := V.non) out (Gr.write (List.mem_of_getElem? hm) k1 trivial) (s.write hm k1 trivial ⟨_, upd_same, ?_⟩) (.d .non)
              exact (RDs.kp (mut_kp k1 trivial) _ _ k2).app (RDs.kp (mut_kp k1 trivial) _ _ j2)
      · exact out.elim
    · exact out.elim
  · exact out.elim
end
/-! ### a slice of a tuple with things -/
section
variable {K : PySem.W.Frag} {H : Hp} {m : List Addr}
theorem RUs.take : ∀ (n : Nat) {ds : List U} {vs : List V}, RUs K H m vs ds → RUs K H m (vs.take n) (ds.take n)
  | 0, _, _, _ => by simp; exact .nil
  | _ + 1, [], _, h => by cases h; exact .nil
  | n + 1, _ :: _, _, h => by cases h with | cons a b => exact .cons a (RUs.take n b)
theorem RUs.drop : ∀ (n : Nat) {ds : List U} {vs : List V}, RUs K H m vs ds → RUs K H m (vs.drop n) (ds.drop n)
  | 0, _, _, h => by simpa using h
  | _ + 1, [], _, h => by cases h; exact .nil
  | n + 1, _ :: _, _, h => by cases h with | cons a b => exact RUs.drop n b
theorem RUs.cut {us : List U} {vs : List V} (h : RUs K H m vs us) (lo hi : Option Int) : RUs K H m (cutV vs lo hi) (cutD us lo hi) := by
  unfold cutD cutV
  rw [RUs.len h]
  exact (h.drop _).take _
end
noncomputable def eSlU (f : Ev) (lo hi : Eo) : Ev := fun env h => (f env h).bind fun u h1 => (lo env h1).bind fun l h2 => (hi env h2).bind fun r h3 => match u with
  | .tup us => .ok (.tup (cutD us l r)) h3
  | _ => .stuck
theorem se_slU {X : Cx} {W : WX} {e : Expr} {lo hi : Option Expr} {f : Ev} {l r : Eo} {pos p2 : Pos} (he : SE X W e f) (hl : SO X W lo l) (hu : SO X W hi r) : SE X W (.Subscript e (.Slice lo hi none p2) pos) (eSlU f l r) :=
  ⟨pe_imp (pe_slice sl_tupA he.pe hl.po hu.po) fun σ H Q ⟨env, m, h, sta, sl, out⟩ => rd_of sta sl out fun u h1 x H1 m1 g1 s1 r1 out1 =>
    rd_of (rl2 := rlO) s1 (sl.gr g1) out1 fun i1 h2 i2 H2 m2 g2 s2 r2 out2 => rd_of (rl2 := rlO) s2 ((sl.gr g1).gr g2) out2 fun j1 h3 j2 H3 m3 g3 s3 r3 out3 => by
      cases r2
      cases r3
      have ru := RU.kp (g2.trans g3).kp (g2.trans g3).pre _ _ r1
      split at out3
      · rename_i us
        cases ru with
        | tup t1 d1 =>
          rename_i p vs
          refine ⟨p, vs, rfl, t1, fun hw => ?_, fun hw q nq => ?_⟩
          · have e1 : cutD us i1 j1 = us := by
              unfold cutD
              rw [← RUs.len d1, hw.1, hw.2]
              simp [RUs.len d1]
            rw [e1] at out3
            exact Out.here (b := V.ref p) out3 s3 (.tup t1 d1)
          · have sm : Same H3 (upd H3 q (.tup (cutV vs i1 j1))) := Same.lay nq
            exact Out.ok (b := V.ref q) out3 (Gr.of_same sm m3) (s3.same sm) (.tup (.inl (.inl upd_same)) (RUs.kp (Kp.same sm) ⟨[], by simp⟩ _ _ (d1.cut _ _)))
      · exact out3.elim⟩
@[simp] theorem ev_SlU (f : Ev) (lo hi : Eo) (env : Env') (h : Sto) : eSlU f lo hi env h = (f env h).bind fun u h1 => (lo env h1).bind fun l h2 => (hi env h2).bind fun r h3 => match u with | .tup us => .ok (.tup (cutD us l r)) h3 | _ => .stuck := (rfl)
/-! ### {text: e, ..} -/
def dspGo : List (Str × Ev) → Env' → Sto → Res (List (Key × U))
  | [], _, h => .ok [] h
  | (k, f) :: r, env, h => (f env h).bind fun u h1 => (dspGo r env h1).bind fun kvs h2 => .ok ((.inr k, u) :: kvs) h2
def mergeU (kvs more : List (Key × U)) : List (Key × U) := more.foldl (fun acc kv => putU acc kv.1 kv.2) kvs
def eDsp (ps : List (Str × Ev)) : Ev := fun env h => (dspGo ps env (h ++ [.dct []])).bind fun kvs h2 => match h2[h.length]? with
  | some (.dct []) => if kvs.length ≤ 15 then .ok (.ref h.length) (h2.set h.length (.dct (mergeU [] kvs))) else .stuck
  | _ => .stuck
def rlP (K : PySem.W.Frag) : Hp → List Addr → List (V × V) → List (Key × U) → Prop := fun H m ps kvs => ∃ gs : List (Key × V), ps = gs.map (fun kv => (kV kv.1, kv.2)) ∧ RK K H m gs kvs
theorem RK.merge {K : PySem.W.Frag} {H : Hp} {m : List Addr} {gs' : List (Key × V)} {kvs' : List (Key × U)} (r' : RK K H m gs' kvs') : ∀ {gs : List (Key × V)} {kvs : List (Key × U)}, RK K H m gs kvs → RK K H m (mergeK gs gs') (mergeU kvs kvs') := by
  unfold RK at r'
  induction r' with
  | nil => intro gs kvs r; exact r
  | @cons p q l l' h t ih =>
    intro gs kvs r
    show RK K H m (mergeK (putK gs p.1 p.2) l) (mergeU (putU kvs q.1 q.2) l')
    rw [← h.1]
    exact ih (r.put p.1 h.2)
section
variable {X : Cx} {W : WX} {pos : Pos}
def dspT (X : Cx) (W : WX) (ps : List (Str × Ev)) : List (TE × TE) := ps.map fun p => (tC (.str p.1), rd X W (rlU X.K) p.2)
theorem dsp_ok : ∀ (ps : List (Str × Ev)) {σ : L2.St} {H : Hp} {Q : List (V × V) → Hp → Prop}, rd X W (rlP X.K) (dspGo ps) σ H Q → tPairs (dspT X W ps) σ H Q
  | [], σ, H, Q, ⟨env, m, h, sta, sl, out⟩ => Out.here (b := ([] : List (V × V))) out sta ⟨[], rfl, .nil⟩
  | (k, f) :: r, σ, H, Q, ⟨env, m, h, sta, sl, out⟩ => by
    show tC (.str k) σ H fun x H1 => rd X W (rlU X.K) f σ H1 fun y H2 => tPairs (dspT X W r) σ H2 fun ps H3 => Q ((x, y) :: ps) H3
    show rd X W (rlU X.K) f σ H fun y H2 => tPairs (dspT X W r) σ H2 fun ps H3 => Q ((V.str k, y) :: ps) H3
    refine rd_of sta sl out fun u h1 x H1 m1 g1 s1 r1 out1 => dsp_ok r ?_
    refine rd_of s1 (sl.gr g1) out1 fun kvs h2 ps H2 m2 g2 s2 ⟨gs, e2, r2⟩ out2 => ?_
    subst e2
    exact Out.here (b := (V.str k, x) :: gs.map fun kv => (kV kv.1, kv.2)) out2 s2 ⟨(.inr k, x) :: gs, rfl, .cons ⟨rfl, RU.kp g2.kp g2.pre _ _ r1⟩ r2⟩
structure SPs (X : Cx) (W : WX) (pos : Pos) (keys : List (Option Expr)) (values : List Expr) (ps : List (Str × Ev)) : Prop where
  pp : PPs X pos keys values (dspT X W ps)
theorem sp_nil : SPs X W pos [] [] [] := ⟨pps_nil⟩
theorem sp_cons {k : Str} {j : Nat} {p2 : Pos} {e : Expr} {f : Ev} {ks : List (Option Expr)} {vs : List Expr} {ps : List (Str × Ev)} (he : SE X W e f) (hr : SPs X W pos ks vs ps) : SPs X W pos (some (.Constant (.str k) j p2) :: ks) (e :: vs) ((k, f) :: ps) := ⟨pps_cons pe_str he.pe hr.pp⟩
theorem se_dsp {keys : List (Option Expr)} {values : List Expr} {ps : List (Str × Ev)} (h : SPs X W pos keys values ps) (hall : keys.all (·.isSome) = true) (hl : keys.length = values.length) (h0 : keys ≠ []) (h15 : keys.length ≤ 15) : SE X W (.Dict keys values pos) (eDsp ps) :=
  ⟨pe_imp (pe_disp h.pp hall hl h0 h15) fun σ H Q ⟨env, m, h, sta, sl, out⟩ p np => dsp_ok ps (by
    have st1 : Sta X.K X.mg (upd H p (.dK [])) (m ++ [p]) (h ++ [.dct []]) := sta.push np ⟨[], upd_same, .nil⟩
    have gp := Gr.push (m := m) (x := .dK []) np
    refine rd_of st1 (sl.gr gp) (Out.gr out gp) fun kvs h2 qs H2 m2 g2 s2 ⟨gs, e2, r2⟩ out2 => ?_
    split at out2
    · rename_i hn
      split at out2
      · rename_i h15
        have hm : m2[h.length]? = some p := by
          obtain ⟨e, he⟩ := g2.pre
          rw [he, List.getElem?_append_left (by simp [sta.len]), ← sta.len]
          simp
        obtain ⟨gs0, hH, rk⟩ := s2.obj _ _ _ hm hn
        cases rk
        refine ⟨hH, gs, e2, by rw [r2.len]; exact h15, ?_⟩
        have kp := mut_kp (y := HO.dK (mergeK [] gs)) hH trivial
        have gw := Gr.write (y := HO.dK (mergeK [] gs)) (List.mem_of_getElem? hm) hH trivial
        exact Out.ok (b := V.ref p) out2 gw (s2.write hm hH trivial ⟨_, upd_same, RK.merge (paired_imp (fun p q z => ⟨z.1, RU.kp kp ⟨[], by simp⟩ _ _ z.2⟩) r2) .nil⟩) (.ref hm)
      · exact out2.elim
    · exact out2.elim)⟩
@[simp] theorem ev_Lsu (fa : Ea) (env : Env') (h : Sto) : eLsu fa env h = (fa env h).bind fun us h1 => if us.length ≤ 1000 then .ok (.ref h1.length) (h1 ++ [.lsu us]) else .stuck := (rfl)
@[simp] theorem ev_gTL (n : Nat) (r : Tgs) (u : U) (env : Env') (h : Sto) : gTupL n r u env h = match lsOf h u with | some us => if us.length = n then r us env h else none | none => none := (rfl)
@[simp] theorem ev_lsR (n : Nat) (h : Sto) : lsOf h (.ref n) = match h[n]? with | some (.lsu us) => some us | _ => none := (rfl)
@[simp] theorem ev_ixLT (d : List D) (w : U) (h : Sto) : opIxL (.d (.tuple d)) w h = opIx (.d (.tuple d)) w h := (rfl)
@[simp] theorem ev_ixLL (d : List D) (w : U) (h : Sto) : opIxL (.d (.list d)) w h = opIx (.d (.list d)) w h := (rfl)
@[simp] theorem ev_ixLS (z : Str) (i : Int) (h : Sto) : opIxL (.d (.str z)) (.d (.int i)) h = if z.length ≤ 1000 then (match atI z.cps.toList i with | some c => .ok (.d (.str ⟨#[c]⟩)) h | none => .stuck) else .stuck := (rfl)
@[simp] theorem ev_ixLR (n : Nat) (i : Int) (h : Sto) : opIxL (.ref n) (.d (.int i)) h = match lsOf h (.ref n) with | some us => (match atI us i with | some x => .ok x h | none => .stuck) | none => opIx (.ref n) (.d (.int i)) h := (rfl)
@[simp] theorem ev_ixLt (us : List U) (w : U) (h : Sto) : opIxL (.tup us) w h = opIx (.tup us) w h := (rfl)
end
end Wk

/-! T18: sum, max of a list of ints. -/
namespace Wk
open PySem PySem.Spec PyProof.Rows L2
def intsOf : List D → Option (List Int)
  | [] => some []
  | .int i :: r => (intsOf r).map (i :: ·)
  | _ :: _ => none
theorem intsOf_eq : ∀ {xs : List D} {ns : List Int}, intsOf xs = some ns → xs = ns.map .int
  | [], ns, e => by cases e; rfl
  | .int i :: r, ns, e => by
    rw [intsOf] at e
    cases q : intsOf r with
    | none => rw [q] at e; cases e
    | some m => rw [q] at e; cases e; rw [intsOf_eq q]; rfl
  | .none :: _, _, e => by cases e
  | .bool _ :: _, _, e => by cases e
  | .str _ :: _, _, e => by cases e
  | .list _ :: _, _, e => by cases e
  | .tuple _ :: _, _, e => by cases e
  | .dict _ :: _, _, e => by cases e
theorem intsOf_map : ∀ ns : List Int, intsOf (ns.map .int) = some ns
  | [] => rfl
  | n :: r => by rw [List.map_cons, intsOf, intsOf_map r]; rfl
theorem RDs.intsV {K : PySem.W.Frag} {H : Hp} : ∀ {ns : List Int} {vs : List V}, RDs K H vs (ns.map .int) → vs = ns.map V.int
  | [], _, h => by cases h; rfl
  | n :: r, _, h => by
    cases h with
    | cons a b => cases a; rw [RDs.intsV b]; rfl
def maxOf : Int → List Int → Int
  | m, [] => m
  | m, n :: r => maxOf (if m < n then n else m) r
theorem maxOf_ge : ∀ (r : List Int) (m : Int), m ≤ maxOf m r ∧ (∀ y ∈ r, y ≤ maxOf m r) ∧ (maxOf m r = m ∨ maxOf m r ∈ r)
  | [], m => ⟨Int.le_refl _, (fun _ h => by cases h), .inl rfl⟩
  | n :: r, m => by
    obtain ⟨h1, h2, h3⟩ := maxOf_ge r (if m < n then n else m)
    rw [maxOf]
    refine ⟨?_, fun y hy => ?_, ?_⟩
    · split at h1 <;> rename_i h <;> (try rw [if_pos h]) <;> (try rw [if_neg h]) <;> omega
    · rcases List.mem_cons.mp hy with z | z
      · rw [z]; split at h1 <;> rename_i h <;> (try rw [if_pos h]) <;> (try rw [if_neg h]) <;> omega
      · exact h2 y z
    · rcases h3 with z | z
      · rw [z]
        split
        · right; exact List.mem_cons_self
        · left; rfl
      · right; exact List.mem_cons_of_mem _ z
def fSum (us : List U) (h : Sto) : Res U := match us with
  | [u] => (match listOf h u with
    | some xs => (match intsOf xs with
      | some ns => .ok (.d (.int ns.sum)) h
      | none => .stuck)
    | none => .stuck)
  | _ => .stuck
def fMaxL (us : List U) (h : Sto) : Res U := match us with
  | [u] => (match listOf h u with
    | some xs => (match intsOf xs with
      | some (n :: ns) => .ok (.d (.int (maxOf n ns))) h
      | _ => .stuck)
    | none => .stuck)
  | _ => .stuck
section
variable {X : Cx} {W : WX}
theorem ab_sum : AbC X W fSum (rSum X.K) := by
  intro σ H m h xs us Q s r out
  unfold fSum at out
  split at out
  · rename_i u
    cases r with
    | cons ra rb =>
      cases rb
      split at out
      · rename_i ys ey
        split at out
        · rename_i ns en
          obtain ⟨a, vs, rfl, t1, d1⟩ := listOf_v s ey ra
          rw [intsOf_eq en] at d1
          rw [d1.intsV] at t1
          exact ⟨a, ns, rfl, t1, Out.here (b := V.int _) out s (.d (.int _))⟩
        · exact out.elim
      · exact out.elim
  · exact out.elim
theorem ab_maxL : AbC X W fMaxL (rMax X.K) := by
  intro σ H m h xs us Q s r out
  unfold fMaxL at out
  split at out
  · rename_i u
    cases r with
    | cons ra rb =>
      cases rb
      split at out
      · rename_i ys ey
        split at out
        · rename_i n ns en
          obtain ⟨a, vs, rfl, t1, d1⟩ := listOf_v s ey ra
          rw [intsOf_eq en] at d1
          rw [d1.intsV] at t1
          refine ⟨a, n :: ns, rfl, t1, by simp, fun k hk hle => ?_⟩
          obtain ⟨h1, h2, h3⟩ := maxOf_ge ns n
          have e : k = maxOf n ns := by
            have a1 : maxOf n ns ≤ k := hle _ (by
              rcases h3 with z | z
              · rw [z]; exact List.mem_cons_self
              · exact List.mem_cons_of_mem _ z)
            have a2 : k ≤ maxOf n ns := by
              rcases List.mem_cons.mp hk with z | z
              · rw [z]; exact h1
              · exact h2 k z
            omega
          rw [e]
          exact Out.here (b := V.int _) out s (.d (.int _))
        · exact out.elim
      · exact out.elim
  · exact out.elim
theorem bt_sum : bootBuiltins "sum" = some (.builtin "sum") := by decide +kernel
theorem ev_sum (ns : List Int) (h : Sto) : fSum [.d (.list (ns.map .int))] h = .ok (.d (.int ns.sum)) h := by
  unfold fSum
  have : Wk.listOf h (.d (.list (ns.map .int))) = some (ns.map .int) := rfl
  simp only [this, intsOf_map]
theorem ev_maxL (n : Int) (ns : List Int) (h : Sto) : fMaxL [.d (.list (.int n :: ns.map .int))] h = .ok (.d (.int (maxOf n ns))) h := by
  unfold fMaxL
  have : intsOf (PyData.int n :: ns.map .int) = some (n :: ns) := intsOf_map (n :: ns)
  have e : Wk.listOf h (.d (.list (.int n :: ns.map .int))) = some (.int n :: ns.map .int) := rfl
  simp only [e, this]
end
end Wk

/-! T19: dicts whose keys are tuples of ints and of such tuples. -/
namespace Wk
open PySem PySem.Spec PyProof.Rows L2
/-! ### data as keys -/
mutual
def nkD : D → Option NestedKey
  | .int i => some (.num i)
  | .tuple ds => (nkDs ds).map .tup
  | _ => none
def nkDs : List D → Option (List NestedKey)
  | [] => some []
  | d :: ds => match nkD d, nkDs ds with
    | some k, some ks => some (k :: ks)
    | _, _ => none
end
mutual
theorem nkD_ok : ∀ (d : D) (k : NestedKey), nkD d = some k → k.data = d ∧ pureK k = true
  | .int i, k, e => by rw [nkD] at e; cases e; exact ⟨by rw [NestedKey.data], by rw [pureK]⟩
  | .tuple ds, k, e => by
    rw [nkD] at e
    cases q : nkDs ds with
    | none => rw [q] at e; cases e
    | some ks =>
      rw [q] at e
      cases e
      obtain ⟨h1, h2⟩ := nkDs_ok ds ks q
      exact ⟨by rw [NestedKey.data, h1], by rw [pureK]; exact h2⟩
  | .none, k, e => by simp [nkD] at e
  | .bool _, k, e => by simp [nkD] at e
  | .str _, k, e => by simp [nkD] at e
  | .list _, k, e => by simp [nkD] at e
  | .dict _, k, e => by simp [nkD] at e
theorem nkDs_ok : ∀ (ds : List D) (ks : List NestedKey), nkDs ds = some ks → NestedKey.datas ks = ds ∧ pureKs ks = true
  | [], ks, e => by rw [nkDs] at e; cases e; exact ⟨by rw [NestedKey.datas], by rw [pureKs]⟩
  | d :: ds, ks, e => by
    rw [nkDs] at e
    cases q1 : nkD d with
    | none => rw [q1] at e; cases e
    | some k =>
      cases q2 : nkDs ds with
      | none => rw [q1, q2] at e; cases e
      | some ks' =>
        rw [q1, q2] at e
        cases e
        obtain ⟨a1, a2⟩ := nkD_ok d k q1
        obtain ⟨b1, b2⟩ := nkDs_ok ds ks' q2
        exact ⟨by rw [NestedKey.datas, a1, b1], by rw [pureKs, a2, b2]; rfl⟩
end
def keyN (u : U) : Option NestedKey := match u with
  | .d (.tuple ds) => (match nkD (.tuple ds) with
    | some k => if k.depth ≤ 8 then some k else none
    | none => none)
  | _ => none
structure KyA (K : PySem.W.Frag) (H : Hp) (b : Addr) (k : NestedKey) : Prop where
  pu : pureK k = true
  dp : k.depth ≤ 8
  rd : RD K H (.ref b) k.data
theorem keyN_v {K : PySem.W.Frag} {H : Hp} {m : List Addr} {v : V} {u : U} {k : NestedKey} (e : keyN u = some k) (r : RU K H m v u) : ∃ b, v = .ref b ∧ KyA K H b k := by
  unfold keyN at e
  split at e
  · rename_i ds
    split at e
    · rename_i k' ek
      split at e
      · rename_i hd
        cases e
        obtain ⟨h1, h2⟩ := nkD_ok _ _ ek
        have rr := r.rd
        cases rr with
        | tup a b => exact ⟨_, rfl, h2, hd, by rw [h1]; exact .tup a b⟩
      · cases e
    · cases e
  · cases e
mutual
theorem nest_of {X : Cx} {pins : List (Addr × Obj)} {σ : L2.St} {H : Hp} {s : Shared} (I : L2.Inv X pins σ H s) : ∀ (k : NestedKey) (v : V) (u : Value), pureK k = true → RD X.K H v k.data → RelV v u → NestedIs s.heap k u
  | .num i, v, u, hp, r, ru => by
    rw [NestedKey.data] at r
    cases r
    obtain ⟨t, rfl⟩ := ru
    exact .int i t
  | .tup ks, v, u, hp, r, ru => by
    rw [pureK] at hp
    rw [NestedKey.data] at r
    cases r with
    | tup a b =>
      cases (show u = Value.ref _ from ru)
      obtain ⟨its, rv, ⟨o, ho, hc, n, hd⟩, _⟩ := I.tuple a
      exact .tup ho hc hd (by rw [List.toList_toArray]; exact nests_of I ks _ its hp b rv)
  | .none, v, u, hp, r, ru => by rw [pureK] at hp; cases hp
  | .text _, v, u, hp, r, ru => by rw [pureK] at hp; cases hp
theorem nests_of {X : Cx} {pins : List (Addr × Obj)} {σ : L2.St} {H : Hp} {s : Shared} (I : L2.Inv X pins σ H s) : ∀ (ks : List NestedKey) (vs : List V) (us : List Value), pureKs ks = true → RDs X.K H vs (NestedKey.datas ks) → Vals vs us → NestedAll s.heap ks us
  | [], vs, us, hp, r, ru => by
    rw [NestedKey.datas] at r
    cases r
    cases ru
    exact .nil
  | k :: ks, vs, us, hp, r, ru => by
    rw [pureKs, Bool.and_eq_true] at hp
    rw [NestedKey.datas] at r
    cases r with
    | cons a b =>
      cases ru with
      | cons c d => exact .cons (nest_of I k _ _ hp.1 a c) (nests_of I ks _ _ hp.2 b d)
end
theorem key_isN {X : Cx} {pins : List (Addr × Obj)} {σ : L2.St} {H : Hp} {s : Shared} {b : Addr} {k : NestedKey} (I : L2.Inv X pins σ H s) (h : KyA X.K H b k) : (nestedKind X.prog X.w).is s.heap k b := ⟨nest_of I k _ _ h.pu h.rd rfl, h.dp⟩
/-! ### the dict in the heap -/
structure DX (K : PySem.W.Frag) (H : Hp) (a : Addr) (xs : XS) : Prop where
  sys : (a == sysModules) = false
  nd : (xs.map (·.1)).Nodup
  sz : xs.length ≤ sizeLine
  ks : ∀ x ∈ xs, KyA K H x.2.1 x.1
theorem paired_left {α β : Type} {F : α → β → Prop} : ∀ {l : List α} {r : List β}, Paired F l r → ∀ x ∈ l, ∃ y ∈ r, F x y
  | _, _, .nil, x, hx => nomatch hx
  | _, _, .cons p q, x, hx => by
    rcases List.mem_cons.mp hx with z | z
    · subst z; exact ⟨_, List.mem_cons_self, p⟩
    · obtain ⟨y, hy, hf⟩ := paired_left q x z
      exact ⟨y, List.mem_cons_of_mem _ hy, hf⟩
theorem DN.dx {K : PySem.W.Frag} {H : Hp} {m : List Addr} {a : Addr} {xs : XS} {kvs : List (NestedKey × U)} (d : DN K H m a xs kvs) : DX K H a xs :=
  ⟨d.sys, d.nd, d.sz, fun x hx => by
    obtain ⟨y, _, h1, h2, h3, _⟩ := paired_left d.p x hx
    exact ⟨h2.1, h2.2, h3⟩⟩
theorem eK_entry {P : Program} {w : World} {x : NestedKey × Addr × Value} (h : pureK x.1 = true) : eK x = entryOfKey (nestedKind P w) x := by
  unfold eK entryOfKey
  show _ = DictEntry.mk (x.1.hash w) _ _
  rw [hK_hash w x.1 h]
theorem dx_dict {X : Cx} {pins : List (Addr × Obj)} {σ : L2.St} {H : Hp} {s : Shared} {a : Addr} {xs : XS} (I : L2.Inv X pins σ H s) (e : Rd H a (DNo a xs)) (d : DX X.K H a xs) : s.heap.DictOfH (nestedKind X.prog X.w) a xs := by
  obtain ⟨⟨o, es, ep, h1, h2, h3, h4⟩, _, _⟩ := (show ObjOk X.prog X.w H s.heap a (DNo a xs) from e.ok I.hok)
  refine ⟨o, es, ep, h1, h2, h3, ?_, fun x hx => key_isN I (d.ks x hx), d.nd⟩
  rw [h4]
  exact List.map_congr_left fun x hx => eK_entry (d.ks x hx).pu
theorem dx_obj {P : Program} {w : World} {H' : Hp} {h' : Heap} {a : Addr} {xs : XS} (hk : ∀ x ∈ xs, pureK x.1 = true) (d : h'.DictOfH (nestedKind P w) a xs) : ObjOk P w H' h' a (DNo a xs) := by
  obtain ⟨o, es, ep, h1, h2, h3, h4, h5, h6⟩ := d
  refine ⟨⟨o, es, ep, h1, h2, h3, ?_⟩, ⟨o, h1⟩, fun g1 g2 ⟨o, es, ep, h1, h2, h3, h4⟩ k => ⟨o, es, ep, k o h1, h2, h3, h4⟩⟩
  rw [h4]
  exact List.map_congr_left fun x hx => (eK_entry (hk x hx)).symm
theorem roomN {X : Cx} (hu : X.A.units + 64 < cLine) : (nestedKind X.prog X.w).room X.A.in1 := by
  show X.A.in1.units + 8 < cLine
  have : X.A.in1.units = X.A.units + 1 := rfl
  omega
/-! ### readings -/
def valN (kvs : List (NestedKey × U)) (k : NestedKey) : Option U := (kvs.find? fun kv => decide (kv.1 = k)).map (·.2)
def putN (kvs : List (NestedKey × U)) (k : NestedKey) (v : U) : List (NestedKey × U) := if kvs.any fun kv => decide (kv.1 = k) then kvs.map fun kv => if kv.1 = k then (kv.1, v) else kv else kvs ++ [(k, v)]
def dnOf (h : Sto) : U → Option (List (NestedKey × U))
  | .ref n => match h[n]? with
    | some (.dtp kvs) => some kvs
    | some (.fdt kvs) => some kvs
    | _ => none
  | _ => none
theorem dnOf_v {K : PySem.W.Frag} {mg : Str → Option Value} {H : Hp} {m : List Addr} {h : Sto} {v : V} {u : U} {kvs : List (NestedKey × U)} (s : Sta K mg H m h) (e : dnOf h u = some kvs) (r : RU K H m v u) : ∃ a xs, v = .ref a ∧ Rd H a (DNo a xs) ∧ DN K H m a xs kvs := by
  unfold dnOf at e
  split at e
  · cases r with
    | ref hm =>
      split at e
      · rename_i n kvs' ho
        cases e
        obtain ⟨xs, h1, h2⟩ := s.obj _ _ _ hm ho
        exact ⟨_, xs, rfl, .inl h1, h2⟩
      · rename_i n kvs' ho
        cases e
        obtain ⟨o, xs, h1, h2⟩ := s.obj _ _ _ hm ho
        exact ⟨_, xs, rfl, .inr ⟨o, h1⟩, h2⟩
      · cases e
  · cases e
theorem DN.val {K : PySem.W.Frag} {H : Hp} {m : List Addr} {a : Addr} {xs : XS} {kvs : List (NestedKey × U)} (d : DN K H m a xs kvs) (k : NestedKey) : (atKey xs k = none ∧ valN kvs k = none) ∨ ∃ p u v, atKey xs k = some p ∧ valN kvs k = some u ∧ RU K H m v u ∧ RelV v p.2 := by
  have h := d.p
  clear d
  induction h with
  | nil => exact .inl ⟨rfl, rfl⟩
  | @cons x kv l r z _ ih =>
    obtain ⟨z1, z2, z3, v, z4, z5⟩ := z
    by_cases e : x.1 = k
    · refine .inr ⟨x.2, kv.2, v, ?_, ?_, z4, z5⟩
      · unfold atKey; simp [e]
      · unfold valN; simp [← z1, e]
    · have e1 : decide (x.1 = k) = false := decide_eq_false e
      have e2 : decide (kv.1 = k) = false := decide_eq_false (by rw [← z1]; exact e)
      have s1 : atKey (x :: l) k = atKey l k := by unfold atKey; simp [e]
      have s2 : valN (kv :: r) k = valN r k := by unfold valN; rw [List.find?_cons, e2]
      rw [s1, s2]
      exact ih
theorem DN.put {K : PySem.W.Frag} {H : Hp} {m : List Addr} {a b : Addr} {xs : XS} {kvs : List (NestedKey × U)} (d : DN K H m a xs kvs) {k : NestedKey} (hk : KyA K H b k) {v : V} {u : U} {r : Value} (ru : RU K H m v u) (rr : RelV v r) (hz : xs.length < sizeLine) : DN K H m a (storedH xs k b r) (putN kvs k u) := by
  have any : (kvs.any fun kv => decide (kv.1 = k)) = (atKey xs k).isSome := by
    have h := d.p
    clear d hz
    induction h with
    | nil => rfl
    | @cons x kv l r z _ ih =>
      obtain ⟨z1, _⟩ := z
      rw [List.any_cons, ih]
      by_cases e : x.1 = k
      · rw [← z1, e]; unfold atKey; simp [e]
      · have e1 : decide (kv.1 = k) = false := decide_eq_false (by rw [← z1]; exact e)
        have s1 : atKey (x :: l) k = atKey l k := by unfold atKey; simp [e]
        rw [e1, s1, Bool.false_or]
  have keys : (xs.map (putAt k r)).map (·.1) = xs.map (·.1) := by
    rw [List.map_map]
    refine List.map_congr_left fun x _ => ?_
    show (putAt k r x).1 = x.1
    unfold putAt
    split <;> rfl
  unfold storedH putN
  rw [any]
  by_cases hs : (atKey xs k).isSome = true
  · rw [if_pos hs, if_pos hs]
    refine ⟨d.sys, by rw [keys]; exact d.nd, by rw [List.length_map]; exact d.sz, ?_⟩
    have h := d.p
    clear d any keys hs hz
    induction h with
    | nil => exact .nil
    | @cons x kv l r' z _ ih =>
      rw [List.map_cons, List.map_cons]
      refine .cons ?_ ih
      obtain ⟨z1, z2, z3, v', z4, z5⟩ := z
      unfold putAt
      by_cases e : x.1 = k
      · rw [if_pos e, if_pos (by rw [← z1]; exact e)]
        exact ⟨z1, z2, z3, v, ru, rr⟩
      · rw [if_neg e, if_neg (by rw [← z1]; exact e)]
        exact ⟨z1, z2, z3, v', z4, z5⟩
  · rw [if_neg hs, if_neg hs]
    have hn : k ∉ xs.map (·.1) := fun hm => by
      obtain ⟨x, hx, ex⟩ := List.mem_map.mp hm
      apply hs
      unfold atKey
      rw [Option.isSome_map, List.find?_isSome]
      exact ⟨x, hx, decide_eq_true ex⟩
    refine ⟨d.sys, ?_, by rw [List.length_append, List.length_singleton]; omega, ?_⟩
    · rw [List.map_append, List.nodup_append]
      refine ⟨d.nd, by simp, fun x hx y hy => ?_⟩
      simp at hy
      rw [hy]
      exact fun z => hn (z ▸ hx)
    · exact Paired.snoc d.p ⟨rfl, ⟨hk.pu, hk.dp⟩, hk.rd, v, ru, rr⟩
/-! ### {} -/
def eNNew : Ev := fun _ h => .ok (.ref h.length) (h ++ [.dtp []])
section
variable {X : Cx} {W : WX} {o i e value : Expr} {pos pos' apos cpos : Pos} {fo fi fv fx : Ev} {td ty tv tx : TE}
theorem pe_nnew : PE X (.Dict [] [] pos) (fun _ H Q => ∀ p, H p = none → (p == sysModules) = false → Q (.ref p) (upd H p (DNo p []))) := ⟨fun pins s σ H Q I h => by
  have hb : (s.heap.objs.size == sysModules) = false := beq_eq_false_iff_ne.mpr (Ne.symm (Nat.ne_of_lt I.big))
  refine wpAny_Dict_empty ⟨.ref s.heap.objs.size, _, I.laid (a := s.heap.objs.size) (o := DNo s.heap.objs.size []) (t' := s.toks) (fun _ _ q => Heap.get?_push_of_some _ q) (Nat.le_refl _) ?_, rfl, h _ (I.hok.fresh (Nat.le_refl _)) hb⟩
  exact dx_obj (P := X.prog) (w := X.w) (fun x hx => by cases hx) (Heap.DictOfH.new s.heap)⟩
theorem se_nnew : SE X W (.Dict [] [] pos) eNNew :=
  ⟨pe_imp pe_nnew fun σ H Q ⟨env, m, h, sta, sl, out⟩ p np hs => Out.ok (b := V.ref p) out (Gr.push np) (sta.push np ⟨[], upd_same, hs, List.nodup_nil, Nat.zero_le _, .nil⟩) (.ref (by rw [← sta.len]; simp))⟩
/-! ### d[k] -/
def opNGet (u w : U) (h : Sto) : Res U := match dnOf h u, keyN w with
  | some kvs, some k => (match valN kvs k with
    | some x => .ok x h
    | none => .stuck)
  | _, _ => .stuck
def tNGet (K : PySem.W.Frag) (td ty : TE) : TE := fun σ H Q => td σ H fun x H1 => ty σ H1 fun y H2 => ∃ a b xs k p v, x = .ref a ∧ y = .ref b ∧ Rd H2 a (DNo a xs) ∧ DX K H2 a xs ∧ KyA K H2 b k ∧ atKey xs k = some p ∧ RelV v p.2 ∧ Q v H2
theorem pe_nget (hu : X.A.units + 64 < cLine) (ho : PE X o td) (hi : PE X i ty) (hs : NoSl i) : PE X (.Subscript o i pos) (tNGet X.K td ty) := by
  refine ⟨fun pins s σ H Q I h => ?_⟩
  refine subD_of PySem.F.slot_dict_getitem.lookup hs (thn (ho.run pins s σ H _ I h) fun u s1 ⟨x, H1, I1, rx, q1⟩ => thn (hi.run pins s1 σ H1 _ I1 q1) fun iv s2 ⟨y, H2, I2, ry, a, b, xs, k, p, v, ex, ey, hd, dx, hk, hp, rv, q2⟩ => ?_)
  subst ex ey
  obtain rfl : u = Value.ref a := rx
  obtain rfl : iv = Value.ref b := ry
  have dd := dx_dict I2 hd dx
  exact ⟨dd.typeIs, wpAny_getItem_heap (roomN hu) (key_isN I2 hk) dd hp ⟨v, H2, I2.tok _, rv, q2⟩⟩
theorem se_nget (hu : X.A.units + 64 < cLine) (ho : SE X W o fo) (hi : SE X W i fi) (hs : NoSl i := by intro _ _; rfl) : SE X W (.Subscript o i pos) (eBin opNGet fo fi) :=
  ⟨pe_imp (pe_nget hu ho.pe hi.pe hs) fun σ H Q ⟨env, m, h, sta, sl, out⟩ => rd_of sta sl out fun u h1 x H1 m1 g1 s1 r1 out1 => rd_of s1 (sl.gr g1) out1 fun w h2 y H2 m2 g2 s2 r2 out2 => by
    have ru := RU.kp g2.kp g2.pre _ _ r1
    unfold opNGet at out2
    split at out2
    · rename_i kvs k ed ek
      obtain ⟨a, xs, rfl, hd, dn⟩ := dnOf_v s2 ed ru
      obtain ⟨b, rfl, hk⟩ := keyN_v ek r2
      split at out2
      · rename_i z ez
        rcases dn.val k with ⟨_, h2⟩ | ⟨p, u', v, h1, h2, rv, rr⟩
        · rw [ez] at h2; cases h2
        · rw [ez] at h2
          cases h2
          exact ⟨a, b, xs, k, p, v, rfl, rfl, hd, dn.dx, hk, h1, rr, Out.here (b := v) out2 s2 rv⟩
      · exact out2.elim
    · exact out2.elim⟩
/-! ### d.get(k, x) -/
def eNGet2 (fo fk fx : Ev) : Ev := fun env h => (fo env h).bind fun u h1 => match dnOf h1 u with
  | some _ => (fk env h1).bind fun w h2 => (fx env h2).bind fun x h3 => (match dnOf h3 u, keyN w with
    | some kvs, some k => .ok ((valN kvs k).getD x) h3
    | _, _ => .stuck)
  | none => .stuck
def tNGet2 (K : PySem.W.Frag) (td ty tx : TE) : TE := fun σ H Q => td σ H fun x H1 => ∃ a xs0, x = .ref a ∧ Rd H1 a (DNo a xs0) ∧ DX K H1 a xs0 ∧ ty σ H1 fun y H2 => tx σ H2 fun z H3 => ∃ b xs k, y = .ref b ∧ Rd H3 a (DNo a xs) ∧ DX K H3 a xs ∧ KyA K H3 b k ∧
  (atKey xs k = none → Q z H3) ∧ (∀ p, atKey xs k = some p → ∃ v, RelV v p.2 ∧ Q v H3)
theorem dx_at {pins : List (Addr × Obj)} {σ : L2.St} {H : Hp} {s : Shared} {a : Addr} {xs : XS} (I : L2.Inv X pins σ H s) (e : Rd H a (DNo a xs)) (d : DX X.K H a xs) : s.TypeIs (.ref a) "dict" ∧ (∀ b, Value.ref a = .ref b → ∃ ob, s.heap.get? b = some ob ∧ ob.dict = none) := by
  have dd := dx_dict I e d
  refine ⟨dd.typeIs, fun b q => ?_⟩
  cases q
  obtain ⟨ob, _, _, h1, h2, _⟩ := dd
  exact ⟨ob, h1, h2.2.1⟩
theorem pe_nget2 (hu : X.A.units + 64 < cLine) (ho : PE X o td) (hi : PE X i ty) (he : PE X e tx) (m : M2 X o "get" apos i e cpos) : PE X (.Call (.Attribute o "get" apos) [i, e] [] cpos) (tNGet2 X.K td ty tx) := by
  refine ⟨fun pins s σ H Q I h => ?_⟩
  refine wpAny_Call_method m.base m.few m.line PySem.F.plainAttrs_dict PySem.F.slot_dict_get PySem.F.type_dict_get (thn (ho.run pins s σ H _ I h) fun u s1 ⟨x, H1, I1, rx, a, xs0, ex, hd, dx, q1⟩ => ?_)
  subst ex
  obtain rfl : u = Value.ref a := rx
  obtain ⟨t1, t2⟩ := dx_at I1 hd dx
  refine ⟨t1, t2, ?_⟩
  rw [m.trees]
  refine Calls.callWith_builtin rfl (Calls.evalArgs_plain (Calls.spliced_cons (thn (hi.run pins s1 σ H1 _ I1 q1) fun iv s2 ⟨y, H2, I2, ry, q2⟩ =>
    Calls.spliced_cons (thn (he.run pins s2 σ H2 _ I2 q2) fun fv s3 ⟨z, H3, I3, rz, b, xs, k, ey, hd3, dx3, hk, k1, k2⟩ => Calls.spliced_nil ?_))))
  subst ey
  obtain rfl : iv = Value.ref b := ry
  have dd := dx_dict I3 hd3 dx3
  refine call_meetsIn PySem.F.slot_dict_get dd.typeIs PySem.F.entry_dict_get (PySem.F.args_dict_get_3 _ _ _) (meetsH_dict_get_default (nestedKind X.prog X.w) a b dx3.sys fv) ⟨roomN hu, k, xs, key_isN I3 hk, dd, ?_⟩
  cases q : atKey xs k with
  | none => exact ⟨z, H3, I3.tok _, rz, k1 q⟩
  | some p =>
    obtain ⟨v, rv, q3⟩ := k2 p q
    exact ⟨v, H3, I3.tok _, rv, q3⟩
theorem se_nget2 (hu : X.A.units + 64 < cLine) (ho : SE X W o fo) (hi : SE X W i fi) (hx : SE X W e fx) (m : M2 X o "get" apos i e cpos) : SE X W (.Call (.Attribute o "get" apos) [i, e] [] cpos) (eNGet2 fo fi fx) :=
  ⟨pe_imp (pe_nget2 hu ho.pe hi.pe hx.pe m) fun σ H Q ⟨env, m, h, sta, sl, out⟩ => rd_of sta sl out fun u h1 x H1 m1 g1 s1 r1 out1 => by
    split at out1
    · rename_i kvs ed
      obtain ⟨a, xs0, rfl, hd, dn⟩ := dnOf_v s1 ed r1
      refine ⟨a, xs0, rfl, hd, dn.dx, rd_of s1 (sl.gr g1) out1 fun w h2 y H2 m2 g2 s2 r2 out2 => rd_of s2 ((sl.gr g1).gr g2) out2 fun z h3 zv H3 m3 g3 s3 r3 out3 => ?_⟩
      have ru := RU.kp (g2.trans g3).kp (g2.trans g3).pre _ _ r1
      have ry := RU.kp g3.kp g3.pre _ _ r2
      split at out3
      · rename_i kvs' k ed' ek
        obtain ⟨a', xs, e1, hd3, dn3⟩ := dnOf_v s3 ed' ru
        cases e1
        obtain ⟨b, rfl, hk⟩ := keyN_v ek ry
        refine ⟨b, xs, k, rfl, hd3, dn3.dx, hk, fun hn => ?_, fun p hp => ?_⟩
        · rcases dn3.val k with ⟨_, l2⟩ | ⟨p, u', v, l1, l2, rv, rr⟩
          · rw [l2] at out3
            exact Out.here (b := zv) out3 s3 r3
          · rw [hn] at l1; cases l1
        · rcases dn3.val k with ⟨l1, l2⟩ | ⟨p', u', v, l1, l2, rv, rr⟩
          · rw [hp] at l1; cases l1
          · rw [hp] at l1
            cases l1
            rw [l2] at out3
            exact ⟨v, rr, Out.here (b := v) out3 s3 rv⟩
      · exact out3.elim
    · exact out1.elim⟩
/-! ### d[k] = e -/
noncomputable def nPut (u w x : U) (h : Sto) : Option Sto := match u with
  | .ref n => (match h[n]?, keyN w with
    | some (.dtp kvs), some k => if ask (kvs.length < sizeLine) then some (h.set n (.dtp (putN kvs k x))) else none
    | _, _ => none)
  | _ => none
noncomputable def sNPutS (fv fo fk : Ev) : Es := fun env h => (fv env h).then_ env fun x h1 => (fo env h1).then_ env fun u h2 => (fk env h2).then_ env fun w h3 => match nPut u w x h3 with
  | some h4 => .next env h4
  | none => .stuck
def sNPut (K : PySem.W.Frag) (td ty tv : TE) : TS := fun D σ H => tv σ H fun v H1 => td σ H1 fun x H2 => ty σ H2 fun y H3 => ∃ a b xs k, x = .ref a ∧ y = .ref b ∧ H3 a = some (DNo a xs) ∧ DX K H3 a xs ∧ KyA K H3 b k ∧ ∀ r, RelV v r → D.nx σ (upd H3 a (DNo a (storedH xs k b r)))
theorem ps_nput (hu : X.A.units + 64 < cLine) (ho : PE X o td) (hi : PE X i ty) (hv : PE X value tv) (hs : swapsWith value (some (.Subscript o i pos')) pos.line X.env = pure false) :
    PS X (.Assign [.Subscript o i pos'] value pos) (sNPut X.K td ty tv) := by
  refine ⟨fun pins s σ H D I h => ?_⟩
  refine wpAny_Assign_Subscript (thn (hv.run pins s σ H _ I h) fun r s1 ⟨v, H1, I1, rv, q1⟩ => thn (ho.run pins s1 σ H1 _ I1 q1) fun u s2 ⟨x, H2, I2, rx, q2⟩ => thn (hi.run pins s2 σ H2 _ I2 q2) fun iv s3 ⟨y, H3, I3, ry, a, b, xs, k, ex, ey, hd, dx, hk, q3⟩ => ?_) hs
  subst ex ey
  obtain rfl : u = Value.ref a := rx
  obtain rfl : iv = Value.ref b := ry
  have dd := dx_dict I3 (.inl hd) dx
  refine wpAny_setItem_heap (hsz := dx.sz) (roomN hu) (key_isN I3 hk) dd fun h' dd' hs' => ?_
  have he : ∃ q, h'.get? a = some q := let ⟨q, _, _, hq, _⟩ := dd'; ⟨q, hq⟩
  refine ⟨σ, _, d_write I3 (by rw [hd]; exact True.intro) hs' he (dx_obj (fun x hx => ?_) dd'), q3 r rv⟩
  unfold storedH at hx
  split at hx
  · obtain ⟨z, hz, rfl⟩ := List.mem_map.mp hx
    have := (dx.ks z hz).pu
    unfold putAt
    split <;> exact this
  · rcases List.mem_append.mp hx with z | z
    · exact (dx.ks x z).pu
    · rw [List.mem_singleton.mp z]; exact hk.pu
theorem ss_nput (hu : X.A.units + 64 < cLine) (hv : SE X W value fv) (ho : SE X W o fo) (hi : SE X W i fi) (hs : swapsWith value (some (.Subscript o i pos')) pos.line X.env = pure false := by rfl) : SS X W (.Assign [.Subscript o i pos'] value pos) (sNPutS fv fo fi) :=
  ⟨ps_imp (ps_nput hu ho.pe hi.pe hv.pe hs) fun D σ H ⟨env, m, h, sta, sl, out⟩ => rd_then sta sl out fun x h1 xv H1 m1 g1 s1 rx out1 => rd_then s1 (sl.gr g1) out1 fun u h2 uv H2 m2 g2 s2 ru out2 => rd_then s2 ((sl.gr g1).gr g2) out2 fun w h3 wv H3 m3 g3 s3 rw out3 => by
    have ru3 := RU.kp g3.kp g3.pre _ _ ru
    have rx3 := RU.kp (g2.trans g3).kp (g2.trans g3).pre _ _ rx
    split at out3
    · rename_i h4 e4
      unfold nPut at e4
      split at e4
      · rename_i n
        split at e4
        · rename_i kvs k hn ek
          split at e4
          · rename_i hl
            cases e4
            cases ru3 with
            | ref hm =>
              rename_i a
              obtain ⟨xs, hH, dn⟩ := s3.obj _ _ _ hm hn
              obtain ⟨b, rfl, hk⟩ := keyN_v ek rw
              refine ⟨a, b, xs, k, rfl, rfl, hH, dn.dx, hk, fun r rr => ?_⟩
              have kp := mut_kp (y := DNo a (storedH xs k b r)) hH trivial
              have gw := Gr.write (y := DNo a (storedH xs k b r)) (List.mem_of_getElem? hm) hH trivial
              have hlen : xs.length < sizeLine := by rw [Paired.length dn.p]; exact ask_iff.mp hl
              exact (show ∀ σ' H' m', Gr H3 m3 H' m' → Sta X.K X.mg H' m' _ → Sl X.K H' m' σ' env → D.nx σ' H' from out3) σ _ m3 gw
                (s3.write hm hH trivial ⟨_, upd_same, (dn.put hk rx3 rr hlen).kp kp ⟨[], by simp⟩⟩) ((((sl.gr g1).gr g2).gr g3).gr gw)
          · cases e4
        · cases e4
      · cases e4
    · exact out3.elim⟩
/-! ### k in d, k not in d -/
def opNIn (n : Bool) (u w : U) (h : Sto) : Res U := match keyN u, dnOf h w with
  | some k, some kvs => .ok (.d (.bool (xor n (valN kvs k).isSome))) h
  | _, _ => .stuck
def rNIn (K : PySem.W.Frag) (n : Bool) : R2 := fun x y H Q => ∃ a b xs k, y = .ref a ∧ x = .ref b ∧ Rd H a (DNo a xs) ∧ DX K H a xs ∧ KyA K H b k ∧ Q (.bl (xor n (atKey xs k).isSome)) H
theorem op_nIn (hu : X.A.units + 64 < cLine) : OpR X (compareOp .In) (rNIn X.K false) := by
  intro pins s σ H x y v u Q I rx ry h
  obtain ⟨a, b, xs, k, rfl, rfl, hd, dx, hk, q⟩ := h
  obtain rfl : v = Value.ref b := rx
  obtain rfl : u = Value.ref a := ry
  refine wpAny_in_heap (roomN hu) (key_isN I hk) dx.sys (dx_dict I hd dx) ⟨.bl _, H, I.tok _, rfl, ?_⟩
  rw [Bool.false_xor] at q
  exact q
theorem op_nNotIn (hu : X.A.units + 64 < cLine) : OpR X (compareOp .NotIn) (rNIn X.K true) := by
  intro pins s σ H x y v u Q I rx ry h
  obtain ⟨a, b, xs, k, rfl, rfl, hd, dx, hk, q⟩ := h
  obtain rfl : v = Value.ref b := rx
  obtain rfl : u = Value.ref a := ry
  refine wpAny_notIn_heap (roomN hu) (key_isN I hk) dx.sys (dx_dict I hd dx) ⟨.bl _, H, I.tok _, rfl, ?_⟩
  rw [Bool.true_xor] at q
  exact q
theorem ab_nIn (n : Bool) : Ab2 X W (opNIn n) (rNIn X.K n) := by
  intro σ H m h x y u w Q s ru rw out
  unfold opNIn at out
  split at out
  · rename_i k kvs ek ed
    obtain ⟨a, xs, rfl, hd, dn⟩ := dnOf_v s ed rw
    obtain ⟨b, rfl, hk⟩ := keyN_v ek ru
    refine ⟨a, b, xs, k, rfl, rfl, hd, dn.dx, hk, ?_⟩
    have e : (valN kvs k).isSome = (atKey xs k).isSome := by
      rcases dn.val k with ⟨l1, l2⟩ | ⟨p, u', v, l1, l2, _, _⟩ <;> rw [l1, l2] <;> rfl
    rw [e] at out
    exact Out.here (b := V.bl _) out s (.d (.bl _))
  · exact out.elim
end
end Wk

/-! T20: dicts by nested keys, walked: for k, v in d.items(), for k in d. -/
namespace Wk
open PySem PySem.Spec PyProof.Rows L2
/-- the pairs of the locked dict at d, each a new tuple -/
def Itn (d : Addr) (o : Obj) (xs : XS) (vs : List V) : It :=
  ⟨fun i H => H d = some (.frz o (DNo d xs)) ∧ i < xs.length, fun i H x H' => ∃ T y v, xs[i]? = some y ∧ vs[i]? = some v ∧ x = .ref T ∧ H T = none ∧ H' = upd H T (.tup [.ref y.2.1, v]), fun i H => H d = some (.frz o (DNo d xs)) ∧ xs.length ≤ i⟩
/-- its keys -/
def Itkn (d : Addr) (o : Obj) (xs : XS) : It :=
  ⟨fun i H => H d = some (.frz o (DNo d xs)) ∧ i < xs.length, fun i H x H' => H' = H ∧ ∃ y, xs[i]? = some y ∧ x = .ref y.2.1, fun i H => H d = some (.frz o (DNo d xs)) ∧ xs.length ≤ i⟩
theorem frzN {X : Cx} {pins : List (Addr × Obj)} {σ : L2.St} {H : Hp} {s : Shared} {d : Addr} {o : Obj} {xs : XS} (I : L2.Inv X pins σ H s) (h : H d = some (.frz o (DNo d xs))) : s.heap.get? d = some o ∧ o.ExactDict ∧ ∃ es ep, o.data = .dict es ep ∧ es.toList = xs.map eK := by
  obtain ⟨h1, ⟨o', es, ep, k1, k2, k3, k4⟩, _, _⟩ := I.hok d _ h
  rw [h1] at k1
  cases k1
  exact ⟨h1, k2, es, ep, k3, k4⟩
theorem eK_at {es : Array DictEntry} {xs : XS} (he : es.toList = xs.map eK) (j : Nat) : es[j]? = (xs[j]?).map eK := by
  rw [← Array.getElem?_toList, he, List.getElem?_map]
theorem eK_size {es : Array DictEntry} {xs : XS} (he : es.toList = xs.map eK) : es.size = xs.length := by
  rw [← Array.length_toList, he, List.length_map]
theorem paired_at {α β : Type} {F : α → β → Prop} : ∀ {l : List α} {r : List β} {i : Nat} {y : β}, Paired F l r → r[i]? = some y → ∃ x, l[i]? = some x ∧ F x y
  | _, _, i, y, .nil, e => by simp at e
  | _, _, 0, y, .cons p q, e => by simp at e; subst e; exact ⟨_, rfl, p⟩
  | _, _, i + 1, y, .cons p q, e => by
    obtain ⟨x, h1, h2⟩ := paired_at (i := i) q (by simpa using e)
    exact ⟨x, by simpa using h1, h2⟩
section
variable {P : Program} {w : World} {K : PySem.W.Frag} {d : Addr} {o : Obj} {es : Array DictEntry} {ep : Nat} {xs : XS} {vs : List V}
theorem turn_itemsN {elts : List Expr} {kk : Nat} {tpos : Pos} (it : Addr) (hod : o.data = .dict es ep) (hv : Paired (fun v x => RelV v x.2.2) vs xs) :
    Turn P w K (.Tuple elts kk tpos) (Itn d o xs vs) [it] it (fun i h => ∃ ok ov, IsItemIter h it d i xs.length ep ok ov) where
  mem := by simp
  obj := fun i h st b hb => by
    have e : b = it := by simpa using hb
    subst e
    obtain ⟨ok, ov, e⟩ := st
    exact ⟨_, e, fun v z => nomatch z⟩
  keep := fun i h h' st k => let ⟨ok, ov, e⟩ := st; ⟨ok, ov, k it (by simp) _ e⟩
  item := by
    intro X hP hw hK hc i pins s σ H E I hf st hg
    subst hP hw hK
    obtain ⟨hd, hi⟩ := hg
    obtain ⟨hgd, hx, es', ep', hdt, he⟩ := frzN I hd
    obtain ⟨rfl, rfl⟩ := dict_ep hod hdt
    have hsz := eK_size he
    obtain ⟨y, hy⟩ : ∃ p, xs[i]? = some p := ⟨xs[i], List.getElem?_eq_getElem hi⟩
    obtain ⟨v, hv1, rv⟩ := paired_at hv hy
    obtain ⟨ok, ov, hit⟩ := st
    rw [← hsz] at hit
    have hlt : it < s.heap.objs.size := Heap.lt_size hit
    have hi' : i < es'.size := by omega
    have hen : es'[i] = eK y := by
      have := eK_at he i
      rw [hy, Array.getElem?_eq_getElem hi'] at this
      exact Option.some.inj this
    refine DT.nextI hit ⟨o, hgd, hx, hdt⟩ hi' fun h' ho hT hz hk => ?_
    rw [hen] at ho hT
    refine ⟨_, rfl, wpAny_letOwnedTupleGo_items (s := { s with heap := h' }) ho fun h'' he' sb => ?_⟩
    have hT2 : h''.get? s.heap.objs.size = some { cls := .type "tuple", data := .seq #[(eK y).key, (eK y).val] } := (sb.2 _ (Nat.ne_of_gt hlt)).trans hT
    have new : ObjOk X.prog X.w (upd H s.heap.objs.size (.tup [.ref y.2.1, v])) h'' s.heap.objs.size (.tup [.ref y.2.1, v]) :=
      ⟨by show 2 ≤ sizeLine; decide, [(eK y).key, (eK y).val], .cons (show RelV (.ref y.2.1) (.ref y.2.1) from rfl) (.cons rv .nil), ⟨_, hT2, rfl, _, rfl⟩⟩
    have I1 : L2.Inv X pins σ (upd H s.heap.objs.size (.tup [.ref y.2.1, v])) { s with heap := h'' } :=
      I.turnedNew (t' := s.toks) (ch := [it]) (fun b ob hb e => (sb.2 b (by simpa using hb)).trans (hk b ob (by simpa using hb) e)) hf (Nat.le_refl _) new
    refine ⟨.ref s.heap.objs.size, _, I1, rfl, ⟨_, y, v, hy, hv1, rfl, I.hok.fresh (Nat.le_refl _), rfl⟩, ⟨(eK y).key, (eK y).val, by rw [← hsz]; exact he'⟩, fun b hb => ?_⟩
    · have e : b = it := by simpa using hb
      rw [e, upd_ne (Nat.ne_of_lt hlt)]
      exact (hf it (by simp)).1
  done := by
    intro X hP hw hK hc i pins s σ H E I hf st hg
    subst hP hw hK
    obtain ⟨hd, hi⟩ := hg
    obtain ⟨f0, f1, f2, f3, f4, f5⟩ := hf it (by simp)
    obtain ⟨hgd, hx, es', ep', hdt, he⟩ := frzN I hd
    obtain ⟨rfl, rfl⟩ := dict_ep hod hdt
    have hsz := eK_size he
    obtain ⟨ok, ov, hit⟩ := st
    rw [← hsz] at hit
    exact DT.endI (I.ok.hd hc) hit ⟨o, hgd, hx, hdt⟩ (by omega) fun h' eb => ⟨rfl, I.turned (t' := s.toks) (fun b ob hb e => eb b ob hb e) f0 f1 f3 f4 f5⟩
  self := fun A i s Q E st h => let ⟨_, _, e⟩ := st; PySem.W.kcp_self e h
theorem turn_keysN {tg : Expr} (it : Addr) (hod : o.data = .dict es ep) : Turn P w K tg (Itkn d o xs) [it] it (fun i h => h.IsKeyIter it d i xs.length ep) where
  mem := by simp
  obj := fun i h st b hb => by
    have e : b = it := by simpa using hb
    subst e
    obtain ⟨oi, e, c, dd⟩ := st
    exact ⟨oi, e, fun v z => by rw [dd] at z; cases z⟩
  keep := fun i h h' st k => st.at fun oi e => k it (by simp) oi e
  item := by
    intro X hP hw hK hc i pins s σ H E I hf st hg
    subst hP hw hK
    obtain ⟨hd, hi⟩ := hg
    obtain ⟨f0, f1, f2, f3, f4, f5⟩ := hf it (by simp)
    obtain ⟨hgd, hx, es', ep', hdt, he⟩ := frzN I hd
    obtain ⟨rfl, rfl⟩ := dict_ep hod hdt
    have hsz := eK_size he
    obtain ⟨y, hy⟩ : ∃ p, xs[i]? = some p := ⟨xs[i], List.getElem?_eq_getElem hi⟩
    have hen : es'[i]? = some (eK y) := by rw [eK_at he i, hy]; rfl
    refine next_key_item st hgd hdt hsz hen fun h' st' sb => ?_
    have I1 : L2.Inv X pins σ H { s with heap := h' } := I.turned (t' := s.toks) (fun b ob hb e => (sb.2 b hb).trans e) f0 f1 f3 f4 f5
    obtain ⟨oi, e, c, dd⟩ := id st'
    exact ⟨_, rfl, go_of (s := { s with heap := h' }) e c dd (by decide) ⟨.ref y.2.1, H, I1, rfl, ⟨rfl, y, hy, rfl⟩, st', fun b hb => (hf b hb).1⟩⟩
  done := by
    intro X hP hw hK hc i pins s σ H E I hf st hg
    subst hP hw hK
    obtain ⟨hd, hi⟩ := hg
    obtain ⟨f0, f1, f2, f3, f4, f5⟩ := hf it (by simp)
    obtain ⟨hgd, hx, es', ep', hdt, he⟩ := frzN I hd
    obtain ⟨rfl, rfl⟩ := dict_ep hod hdt
    exact next_key_end (I.ok.hd hc) st hgd hdt (eK_size he) hi fun h' eb => ⟨rfl, I.turned (t' := s.toks) (fun b ob hb e => eb b ob hb e) f0 f1 f3 f4 f5⟩
  self := fun A i s Q E st h => by
    refine wpAny_pyIter_slot st.typeIs PySem.F.slot_dict_keyiterator_iter (wpAny_call_entry PySem.F.slot_dict_keyiterator_iter st.typeIs PySem.F.entry_dict_keyiterator_iter ?_ (PySem.F.args_dict_keyiterator_iter_1 _))
    show wpAny _ _ (ret (.ref it)) _ _ s
    exact wpAny_pure ⟨_, rfl, "dict_keyiterator", _, st.typeIs, PySem.F.slot_dict_keyiterator_next.lookup, h⟩
end
def iNItems (td : TE) : TI := fun σ H R => td σ H fun x H1 => ∃ d xs vs, x = .ref d ∧ (d == sysModules) = false ∧ Paired (fun v x => RelV v x.2.2) vs xs ∧
  ((H1 d = some (DNo d xs) ∧ ∀ o, R (Itn d o xs vs) (upd H1 d (.frz o (DNo d xs)))) ∨ ∃ o, H1 d = some (.frz o (DNo d xs)) ∧ R (Itn d o xs vs) H1)
def iNKeys (td : TE) : TI := fun σ H R => td σ H fun x H1 => ∃ d xs, x = .ref d ∧ (d == sysModules) = false ∧
  ((H1 d = some (DNo d xs) ∧ ∀ o, R (Itkn d o xs) (upd H1 d (.frz o (DNo d xs)))) ∨ ∃ o, H1 d = some (.frz o (DNo d xs)) ∧ R (Itkn d o xs) H1)
section
variable {X : Cx} {W : WX} {tg e : Expr} {td : TE} {apos cpos : Pos} {f : Ev}
theorem pi_nitems {elts : List Expr} {kk : Nat} {tpos : Pos} (he : PE X e td) (hbase : attributeBase e "items" X.env (eval e X.env) = eval e X.env := by rfl) (hline : (apos.endLine == cpos.line) = true := by rfl) :
    PI X (.Tuple elts kk tpos) (.Call (.Attribute e "items" apos) [] [] cpos) (iNItems td) := by
  refine ⟨fun pins s σ H R I h => ?_⟩
  refine wpAny_Call_method (T := "dict") (id := "dict.items") hbase rfl hline PySem.F.plainAttrs_dict PySem.F.slot_dict_items PySem.F.type_dict_items (thn (he.run pins s σ H _ I h) fun u s1 ⟨x, H0, I0, rx, d, xs, vs, ex, hs, hv, q0⟩ => ?_)
  subst ex
  obtain rfl : u = Value.ref d := rx
  obtain ⟨o, H1, I1, hd, q⟩ : ∃ o H1, L2.Inv X pins σ H1 s1 ∧ H1 d = some (.frz o (DNo d xs)) ∧ R (Itn d o xs vs) H1 := by
    rcases q0 with ⟨hd, q⟩ | ⟨o, hd, q⟩
    · obtain ⟨od, I2⟩ := I0.lock hd trivial
      exact ⟨od, _, I2, upd_same, q od⟩
    · exact ⟨o, H0, I0, hd, q⟩
  obtain ⟨hgd, hx, es, ep, hdt, hee⟩ := frzN I1 hd
  have hsz := eK_size hee
  have raw : DT.Raw s1.heap d es ep := ⟨o, hgd, hx, hdt⟩
  refine ⟨raw.typeIs, fun b z => (by cases z; exact ⟨o, hgd, hx.2.1⟩), ?_⟩
  have I2 : L2.Inv X pins σ H1 { s1 with heap := s1.heap.push { cls := .type "dict_items", data := .fields #[.ref d] } } := I1.kept (t' := s1.toks) fun b ob q => Heap.get?_push_of_some _ q
  have fin : wpAny (model X.prog X.w) X.A (pyIter (.ref s1.heap.objs.size)) (PIE X pins σ (.Tuple elts kk tpos) R) X.xe { s1 with heap := s1.heap.push { cls := .type "dict_items", data := .fields #[.ref d] } } := by
    refine DT.iterI (d := d) ⟨_, Heap.get?_push_size _ rfl, rfl, rfl⟩ (raw.push _) (pi_one (tk := s1.toks) I2 _ (turn_itemsN _ hdt hv) ⟨.none, .none, ?_⟩ q)
    rw [← hsz]
    exact Heap.get?_push_size _ rfl
  show wpAny _ _ (callWith cpos (.builtin "dict.items") [.ref d] [] []) _ X.xe s1
  exact method_meetsIn PySem.F.slot_dict_items PySem.F.entry_dict_items rfl (PySem.evalArgs_none ⟨rfl, raw.typeIs, PySem.F.args_dict_items_1 _, _, DT.meetsItems (es := es) (ep := ep) hs, raw, fin⟩)
theorem pi_nkeys (he : PE X e td) : PI X tg e (iNKeys td) := by
  refine ⟨fun pins s σ H R I h => ?_⟩
  refine thn (he.run pins s σ H _ I h) fun u s1 ⟨x, H0, I0, rx, d, xs, ex, hs, q0⟩ => ?_
  subst ex
  obtain rfl : u = Value.ref d := rx
  obtain ⟨o, H1, I1, hd, q⟩ : ∃ o H1, L2.Inv X pins σ H1 s1 ∧ H1 d = some (.frz o (DNo d xs)) ∧ R (Itkn d o xs) H1 := by
    rcases q0 with ⟨hd, q⟩ | ⟨o, hd, q⟩
    · obtain ⟨od, I2⟩ := I0.lock hd trivial
      exact ⟨od, _, I2, upd_same, q od⟩
    · exact ⟨o, H0, I0, hd, q⟩
  obtain ⟨hgd, hx, es, ep, hdt, hee⟩ := frzN I1 hd
  have hsz := eK_size hee
  refine iter_keys hs hgd hx hdt (pi_one (tk := s1.toks) I1 _ (turn_keysN _ hdt) ⟨_, Heap.get?_push_size _ rfl, rfl, ?_⟩ q)
  rw [hsz] <;> rfl
/-! ### over the store -/
def pairU (kv : NestedKey × U) : U := match kv.2 with
  | .d x => .d (.tuple [kv.1.data, x])
  | u => .tup [.d kv.1.data, u]
def iNIt (f : Ev) : Ea := fun env h => (f env h).bind fun u h1 => match u with
  | .ref n => (match h1[n]? with
    | some (.dtp kvs) => .ok (kvs.map pairU) (h1.set n (.fdt kvs))
    | some (.fdt kvs) => .ok (kvs.map pairU) h1
    | _ => .stuck)
  | _ => .stuck
def iNK (f : Ev) : Ea := fun env h => (f env h).bind fun u h1 => match u with
  | .ref n => (match h1[n]? with
    | some (.dtp kvs) => .ok (kvs.map fun kv => .d kv.1.data) (h1.set n (.fdt kvs))
    | some (.fdt kvs) => .ok (kvs.map fun kv => .d kv.1.data) h1
    | _ => .stuck)
  | _ => .stuck
theorem DN.vals {K : PySem.W.Frag} {H : Hp} {m : List Addr} {a : Addr} {xs : XS} {kvs : List (NestedKey × U)} (d : DN K H m a xs kvs) : ∃ vs, Paired (fun v x => RelV v x.2.2) vs xs ∧ RUs K H m vs (kvs.map (·.2)) := by
  have h := d.p
  clear d
  induction h with
  | nil => exact ⟨[], .nil, .nil⟩
  | @cons x kv l r z _ ih =>
    obtain ⟨vs, h1, h2⟩ := ih
    obtain ⟨_, _, _, v, z4, z5⟩ := z
    exact ⟨v :: vs, .cons z5 h1, .cons z4 h2⟩
theorem paired_at' {α β : Type} {F : α → β → Prop} : ∀ {l : List α} {r : List β} {i : Nat} {x : α}, Paired F l r → l[i]? = some x → ∃ y, r[i]? = some y ∧ F x y
  | _, _, i, y, .nil, e => by simp at e
  | _, _, 0, y, .cons p q, e => by simp at e; subst e; exact ⟨_, rfl, p⟩
  | _, _, i + 1, y, .cons p q, e => by
    obtain ⟨x, h1, h2⟩ := paired_at' (i := i) q (by simpa using e)
    exact ⟨x, by simpa using h1, h2⟩
theorem wlk_items {K : PySem.W.Frag} {H : Hp} {m : List Addr} {d : Addr} {o : Obj} {xs : XS} {vs : List V} {kvs : List (NestedKey × U)} (hd : H d = some (.frz o (DNo d xs))) (dn : DN K H m d xs kvs) (hv : RUs K H m vs (kvs.map (·.2))) : Wlk K (Itn d o xs vs) H m (kvs.map pairU) := fun H' m' k pre => by
  have hd' := k.frz _ _ _ hd
  have hl : xs.length = kvs.length := Paired.length dn.p
  refine ⟨fun i hi => ⟨hd', by rw [List.length_map] at hi; omega⟩, fun i u e => ?_⟩
  rw [List.getElem?_map] at e
  cases q : kvs[i]? with
  | none => rw [q] at e; cases e
  | some kv =>
    rw [q] at e
    cases e
    have hi := (List.getElem?_eq_some_iff.mp q).1
    refine ⟨⟨hd', by omega⟩, fun x H'' yy => ?_⟩
    obtain ⟨T, y, v, hy, hv1, rfl, hT, rfl⟩ := yy
    have sm : Same H' (upd H' T (.tup [.ref y.2.1, v])) := Same.lay hT
    refine ⟨sm, ?_⟩
    obtain ⟨kv', q1, z1, z2, z3, v', z4, z5⟩ := paired_at' (dn.kp k pre).p hy
    rw [q] at q1
    cases q1
    obtain ⟨v2, e2, r2⟩ := RUs.get (RUs.kp k pre _ _ hv) (show (kvs.map (·.2))[i]? = some kv.2 by rw [List.getElem?_map, q]; rfl)
    rw [hv1] at e2
    cases e2
    have rk : RD K (upd H' T (.tup [.ref y.2.1, v])) (.ref y.2.1) kv.1.data := by rw [← z1]; exact RD.kp (Kp.same sm) _ _ z3
    have rv : RU K (upd H' T (.tup [.ref y.2.1, v])) m' v kv.2 := RU.kp (Kp.same sm) ⟨[], by simp⟩ _ _ r2
    unfold pairU
    split
    · rename_i x hx
      rw [hx] at rv
      exact .d (.tup (.inl (.inl upd_same)) (.cons rk (.cons rv.rd .nil)))
    · exact .tup (.inl (.inl upd_same)) (.cons (.d rk) (.cons rv .nil))
theorem wlk_nkeys {K : PySem.W.Frag} {H : Hp} {m : List Addr} {d : Addr} {o : Obj} {xs : XS} {kvs : List (NestedKey × U)} (hd : H d = some (.frz o (DNo d xs))) (dn : DN K H m d xs kvs) : Wlk K (Itkn d o xs) H m (kvs.map fun kv => .d kv.1.data) := fun H' m' k pre => by
  have hd' := k.frz _ _ _ hd
  have hl : xs.length = kvs.length := Paired.length dn.p
  refine ⟨fun i hi => ⟨hd', by rw [List.length_map] at hi; omega⟩, fun i u e => ?_⟩
  rw [List.getElem?_map] at e
  cases q : kvs[i]? with
  | none => rw [q] at e; cases e
  | some kv =>
    rw [q] at e
    cases e
    have hi := (List.getElem?_eq_some_iff.mp q).1
    refine ⟨⟨hd', by omega⟩, fun x H'' yy => ?_⟩
    obtain ⟨rfl, y, hy, rfl⟩ := yy
    obtain ⟨kv', q1, z1, z2, z3, _⟩ := paired_at' (dn.kp k pre).p hy
    rw [q] at q1
    cases q1
    exact ⟨Same.refl _, .d (by rw [← z1]; exact z3)⟩
theorem si_nitems {elts : List Expr} {kk : Nat} {tpos : Pos} (he : SE X W e f) (hbase : attributeBase e "items" X.env (eval e X.env) = eval e X.env := by rfl) (hline : (apos.endLine == cpos.line) = true := by rfl) :
    SI X W (.Tuple elts kk tpos) (.Call (.Attribute e "items" apos) [] [] cpos) (iNIt f) :=
  ⟨pi_imp (pi_nitems he.pe hbase hline) fun σ H R ⟨env, m, h, sta, sl, out⟩ => rd_of sta sl out fun u h1 v H1 m1 g1 s1 r1 out1 => by
    split at out1
    · rename_i n
      cases r1 with
      | ref hm =>
        rename_i a
        split at out1
        · rename_i kvs hn
          obtain ⟨xs, hH, dn⟩ := s1.obj _ _ _ hm hn
          obtain ⟨vs, hv, rv⟩ := dn.vals
          refine ⟨a, xs, vs, rfl, dn.sys, hv, .inl ⟨hH, fun o => ?_⟩⟩
          have kp := mut_kp (y := HO.frz o (DNo a xs)) hH trivial
          have gw := Gr.write (y := HO.frz o (DNo a xs)) (List.mem_of_getElem? hm) hH trivial
          have dn' : DN X.K (upd H1 a (.frz o (DNo a xs))) m1 a xs kvs := dn.kp kp ⟨[], by simp⟩
          exact Out.ok (b := Itn a o xs vs) out1 gw (s1.write hm hH trivial ⟨o, xs, upd_same, dn'⟩) (wlk_items upd_same dn' (RUs.kp kp ⟨[], by simp⟩ _ _ rv))
        · rename_i kvs hn
          obtain ⟨o, xs, hH, dn⟩ := s1.obj _ _ _ hm hn
          obtain ⟨vs, hv, rv⟩ := dn.vals
          exact ⟨a, xs, vs, rfl, dn.sys, hv, .inr ⟨o, hH, Out.here (b := Itn a o xs vs) out1 s1 (wlk_items hH dn rv)⟩⟩
        · exact out1.elim
    · exact out1.elim⟩
theorem si_nkeys (he : SE X W e f) : SI X W tg e (iNK f) :=
  ⟨pi_imp (pi_nkeys he.pe) fun σ H R ⟨env, m, h, sta, sl, out⟩ => rd_of sta sl out fun u h1 v H1 m1 g1 s1 r1 out1 => by
    split at out1
    · rename_i n
      cases r1 with
      | ref hm =>
        rename_i a
        split at out1
        · rename_i kvs hn
          obtain ⟨xs, hH, dn⟩ := s1.obj _ _ _ hm hn
          refine ⟨a, xs, rfl, dn.sys, .inl ⟨hH, fun o => ?_⟩⟩
          have kp := mut_kp (y := HO.frz o (DNo a xs)) hH trivial
          have gw := Gr.write (y := HO.frz o (DNo a xs)) (List.mem_of_getElem? hm) hH trivial
          have dn' : DN X.K (upd H1 a (.frz o (DNo a xs))) m1 a xs kvs := dn.kp kp ⟨[], by simp⟩
          exact Out.ok (b := Itkn a o xs) out1 gw (s1.write hm hH trivial ⟨o, xs, upd_same, dn'⟩) (wlk_nkeys upd_same dn')
        · rename_i kvs hn
          obtain ⟨o, xs, hH, dn⟩ := s1.obj _ _ _ hm hn
          exact ⟨a, xs, rfl, dn.sys, .inr ⟨o, hH, Out.here (b := Itkn a o xs) out1 s1 (wlk_nkeys hH dn)⟩⟩
        · exact out1.elim
    · exact out1.elim⟩
@[simp] theorem ev_NNew (env : Env') (h : Sto) : eNNew env h = .ok (.ref h.length) (h ++ [.dtp []]) := (rfl)
@[simp] theorem ev_NGet2 (fo fk fx : Ev) (env : Env') (h : Sto) : eNGet2 fo fk fx env h = (fo env h).bind fun u h1 => match dnOf h1 u with | some _ => (fk env h1).bind fun w h2 => (fx env h2).bind fun x h3 => (match dnOf h3 u, keyN w with | some kvs, some k => .ok ((valN kvs k).getD x) h3 | _, _ => .stuck) | none => .stuck := (rfl)
theorem ev_NPutS (fv fo fk : Ev) (env : Env') (h : Sto) : sNPutS fv fo fk env h = (fv env h).then_ env fun x h1 => (fo env h1).then_ env fun u h2 => (fk env h2).then_ env fun w h3 => match nPut u w x h3 with | some h4 => .next env h4 | none => .stuck := (rfl)
end
end Wk

/-! T21: walking a list in the store that the loop leaves as it is (and that may be changed later). -/
namespace Wk
open PySem PySem.Spec PyProof.Rows L2
noncomputable def forMGo (n : Nat) (xs : List D) (t : Tg) (b : Es) : List U → Env' → Sto → SRes
  | [], env, h => if ask (h[n]? = some (.lst xs)) then .next env h else .stuck
  | u :: us, env, h => if ask (h[n]? = some (.lst xs)) then (match t u env h with
    | some env1 => (b env1 h).seq (forMGo n xs t b us)
    | none => .stuck) else .stuck
noncomputable def sForM (f : Ev) (t : Tg) (b : Es) : Es := fun env h => (f env h).then_ env fun u h1 => match u with
  | .ref n => (match h1[n]? with
    | some (.lst xs) => forMGo n xs t b (xs.map .d) env h1
    | _ => .stuck)
  | _ => .stuck
section
variable {X : Cx} {W : WX} {tg l : Expr} {body : List Stmt} {pos : Pos} {f : Ev} {t : Tg} {b : Es} {ix : List Nat}
theorem ss_forM (hp : PassesOwn (model X.prog X.w) X.A X.env X.xe) (hc : X.calm = true) (hl : SE X W l f) (hg : SG X tg ix t) (hb : SSs X W body b)
    (hs : ∀ x, foldedSetIterable l X.env x = pure x := by intro _; rfl) : SS X W (.For tg l body [] pos) (sForM f t b) :=
  ⟨ps_imp (ps_for hp hc (pi_list hl.pe) hg.pg hb.ps hs) fun D σ H ⟨env, m, h, sta, sl, out⟩ => rd_then sta sl out fun u h1 v H1 m1 g1 s1 r1 out1 => by
    split at out1
    · rename_i n
      cases r1 with
      | ref hm =>
        rename_i a
        split at out1
        · rename_i xs hn
          obtain ⟨vs, hH, hv⟩ := s1.obj _ _ _ hm hn
          refine ⟨a, rfl, ⟨vs, .inl (.inl hH)⟩, fun i k σ' H' => k = xs.length - i ∧ i ≤ xs.length ∧ ∃ env m h, Sta X.K X.mg H' m h ∧ Sl X.K H' m σ' env ∧ m[n]? = some a ∧ OutS X W D H' m (forMGo n xs t b ((xs.map .d).drop i) env h), ⟨xs.length, by simp, Nat.zero_le _, env, m1, h1, s1, sl.gr g1, hm, by simpa using out1⟩, ?_⟩
          rintro i k σ2 H2 ⟨rfl, hi2, env2, m2, h2, s2, l2, hm2, o2⟩
          have hn2 : h2[n]? = some (.lst xs) := by
            cases q : ask (h2[n]? = some (.lst xs)) with
            | true => exact ask_iff.mp q
            | false =>
              exfalso
              cases e : (xs.map U.d).drop i with
              | nil => rw [e] at o2; unfold forMGo at o2; rw [q] at o2; exact o2.elim
              | cons u us => rw [e] at o2; unfold forMGo at o2; rw [q] at o2; exact o2.elim
          have qq : ask (h2[n]? = some (.lst xs)) = true := ask_t hn2
          obtain ⟨vs2, hH2, hv2⟩ := s2.obj _ _ _ hm2 hn2
          by_cases hlt : i < xs.length
          · have eu : (xs.map U.d)[i]? = some (.d xs[i]) := by rw [List.getElem?_map, List.getElem?_eq_getElem hlt]; rfl
            have ed : (xs.map U.d).drop i = .d xs[i] :: (xs.map U.d).drop (i + 1) := by
              rw [List.drop_eq_getElem_cons (by rw [List.length_map]; exact hlt), List.getElem_map]
            obtain ⟨v2, ev2, rv2⟩ := RDs.get hv2 (List.getElem?_eq_getElem hlt)
            rw [ed] at o2
            have o3 : OutS X W D H2 m2 (match t (.d xs[i]) env2 h2 with | some env1 => (b env1 h2).seq (forMGo n xs t b ((xs.map U.d).drop (i + 1))) | none => .stuck) := by
              unfold forMGo at o2
              rw [qq] at o2
              exact o2
            cases et : t (.d xs[i]) env2 h2 with
            | none => rw [et] at o3; exact o3.elim
            | some env3 =>
              rw [et] at o3
              refine .inr ⟨⟨vs2, v2, .inl (.inl hH2), ev2⟩, fun σ' H' => xs.length - (i + 1) < xs.length - i ∧ i + 1 ≤ xs.length ∧ ∃ env m h, Sta X.K X.mg H' m h ∧ Sl X.K H' m σ' env ∧ m[n]? = some a ∧ OutS X W D H' m (forMGo n xs t b ((xs.map U.d).drop (i + 1)) env h), fun σ' H' ⟨n1, n2, n3⟩ => ⟨xs.length - (i + 1), n1, rfl, n2, n3⟩, fun x H3 y => ?_⟩
              obtain ⟨rfl, y⟩ := y
              have e2 := y vs2 (.inl (.inl hH2))
              rw [ev2] at e2
              cases e2
              refine ⟨.d xs[i], env2, m2, h2, s2, l2, .d rv2, env3, et, fun σ3 l3 _ => ⟨env3, m2, h2, s2, l3, ?_⟩⟩
              have o4 : OutS X W D H3 m2 ((b env3 h2).seq (forMGo n xs t b ((xs.map U.d).drop (i + 1)))) := o3
              revert o4
              generalize b env3 h2 = q
              intro o4
              cases q with
              | next env4 h4 => exact fun σ4 H4 m4 g4 s4 l4 => ⟨by omega, hlt, env4, m4, h4, s4, l4, by
                  obtain ⟨e, rfl⟩ := g4.pre
                  rw [List.getElem?_append_left (List.getElem?_eq_some_iff.mp hm2).1]
                  exact hm2, OutS.gr o4 g4⟩
              | ret u h4 => exact o4
              | exc c env4 h4 => exact o4
              | stuck => exact o4
          · have e : i = xs.length := by omega
            subst e
            rw [show (xs.map U.d).drop xs.length = [] by rw [List.drop_of_length_le (by rw [List.length_map]; exact Nat.le_refl _)]] at o2
            unfold forMGo at o2
            rw [qq] at o2
            exact .inl ⟨⟨vs2, .inl (.inl hH2), by rw [RDs.len hv2]; exact Nat.le_refl _⟩, (show ∀ σ' H' m', Gr H2 m2 H' m' → Sta X.K X.mg H' m' h2 → Sl X.K H' m' σ' env2 → D.nx σ' H' from o2) σ2 H2 m2 (Gr.refl _ _) s2 l2⟩
        · exact out1.elim
    · exact out1.elim⟩
/-! ### [e for x in l if c], l such a list -/
noncomputable def lcMGo (n : Nat) (xs : List D) (t : Tg) (c : Eb) (e : Ev) (env : Env') : List U → List D → Sto → Res (List D)
  | [], acc, h => if ask (h[n]? = some (.lst xs)) then .ok acc h else .stuck
  | u :: us, acc, h => if ask (h[n]? = some (.lst xs)) then (match t u env h with
    | some env1 => (c env1 h).bind fun k h1 => (match k with
      | true => (e env1 h1).bind fun w h2 => (match w with
        | .d x => if fits (acc.length + 1) then lcMGo n xs t c e env us (acc ++ [x]) h2 else .stuck
        | _ => .stuck)
      | false => lcMGo n xs t c e env us acc h1)
    | none => .stuck) else .stuck
noncomputable def eLcM (b : Bool) (vs : List Nat) (f : Ev) (t : Tg) (c : Eb) (e : Ev) : Ev := fun env h => (f env h).bind fun u h1 => match u with
  | .ref n => (match h1[n]? with
    | some (.lst xs) => (lcMGo n xs t c e (wipeE env vs) (xs.map .d) [] h1).noExc.bind fun ys h2 => mkL b ys h2
    | _ => .stuck)
  | _ => .stuck
end
section
variable {X : Cx} {W : WX} {elt tg l : Expr} {ifs : List Expr} {scope : Scope} {own : List (Str × Nat)} {pos : Pos} {f : Ev} {ix : List Nat} {t : Tg} {c : Eb} {e : Ev}
theorem lc_rdM {σ : L2.St} {H : Hp} {Q : VK} {b : Bool} (sub : ∀ j ∈ ix, j ∈ own.map (·.2)) (q : rd X W (rlU X.K) (eLcM b (own.map (·.2)) f t c e) σ H Q) :
    tLc (iList X.K (rd X W (rlU X.K) f)) (rdG X ix t) (rd X W0 rlB c) (rd X W0 (rlU X.K) e) (own.map (·.2)) σ H (gh Q) := by
  obtain ⟨env, m, h, sta, sl, out⟩ := q
  refine rd_of sta sl out fun u h1 v H1 m1 g1 s1 r1 out1 => ?_
  split at out1
  · rename_i n
    cases r1 with
    | ref hm =>
      rename_i a
      split at out1
      · rename_i xs hn
        obtain ⟨vs, hH, hv⟩ := s1.obj _ _ _ hm hn
        refine ⟨a, rfl, ⟨vs, .inl (.inl hH)⟩, fun D nD => ?_⟩
        generalize hus : xs.map U.d = us at out1
        have hul : us.length = xs.length := by rw [← hus, List.length_map]
        have ua : a ≠ D := ne_of_none hH nD
        refine ⟨fun i k H' => k = us.length - i ∧ i ≤ us.length ∧ ∃ m' h' acc vacc, Gr H1 m1 H' m' ∧ Sta X.K X.mg H' m' h' ∧ H' D = some (.lst vacc) ∧ D ∉ m' ∧ RDs X.K H' vacc acc ∧
          Out X W (rlU X.K) σ H1 m1 ((lcMGo n xs t c e (wipeE env (own.map (·.2))) (us.drop i) acc h').noExc.bind fun xs h2 => mkL b xs h2) Q,
          ⟨us.length, by simp, Nat.zero_le _, m1, h1, [], [], Gr.of_same (Same.lay nD) m1, s1.same (Same.lay nD), upd_same, s1.new nD, .nil, by simpa using out1⟩, ?_⟩
        rintro i k H2 ⟨rfl, hi2, m2, h2, acc, vacc, g2, s2, hD, nDm, racc, o2⟩
        have hm2 : m2[n]? = some a := by
          obtain ⟨e, rfl⟩ := g2.pre
          rw [List.getElem?_append_left (List.getElem?_eq_some_iff.mp hm).1]
          exact hm
        have hn2 : h2[n]? = some (.lst xs) := by
          cases q : ask (h2[n]? = some (.lst xs)) with
          | true => exact ask_iff.mp q
          | false =>
            exfalso
            cases e' : us.drop i with
            | nil => rw [e'] at o2; unfold lcMGo at o2; rw [q] at o2; exact o2.elim
            | cons u us => rw [e'] at o2; unfold lcMGo at o2; rw [q] at o2; exact o2.elim
        have qq : ask (h2[n]? = some (.lst xs)) = true := ask_t hn2
        obtain ⟨vs2, hH2, hv2⟩ := s2.obj _ _ _ hm2 hn2
        by_cases hlt : i < us.length
        · have eu : us[i]? = some us[i] := List.getElem?_eq_getElem hlt
          have ed : us.drop i = us[i] :: us.drop (i + 1) := List.drop_eq_getElem_cons hlt
          have hlx : i < xs.length := by omega
          have eui : us[i] = .d xs[i] := by
            have : us[i]? = some (.d xs[i]) := by rw [← hus, List.getElem?_map, List.getElem?_eq_getElem hlx]; rfl
            rw [eu] at this
            exact Option.some.inj this
          obtain ⟨v2, ev2, rv2⟩ := RDs.get hv2 (List.getElem?_eq_getElem hlx)
          have go : (Itl X.K a).go i H2 := ⟨vs2, v2, .inl (.inl hH2), ev2⟩
          have gy : ∀ x H'', (Itl X.K a).yld i H2 x H'' → Same H2 H'' ∧ RU X.K H'' m2 x us[i] := fun x H'' y => by
            obtain ⟨rfl, y⟩ := y
            have e2 := y vs2 (.inl (.inl hH2))
            rw [ev2] at e2
            cases e2
            exact ⟨Same.refl _, by rw [eui]; exact .d rv2⟩
          rw [ed] at o2
          unfold lcMGo at o2
          rw [qq, if_pos rfl] at o2
          cases et : t us[i] (wipeE env (own.map (·.2))) h2 with
          | none => rw [et] at o2; exact o2.elim
          | some env3 =>
            rw [et] at o2
            dsimp only at o2
            refine .inr ⟨go, fun H' => us.length - (i + 1) < us.length - i ∧ i + 1 ≤ us.length ∧ ∃ m' h' acc vacc, Gr H1 m1 H' m' ∧ Sta X.K X.mg H' m' h' ∧ H' D = some (.lst vacc) ∧ D ∉ m' ∧ RDs X.K H' vacc acc ∧
              Out X W (rlU X.K) σ H1 m1 ((lcMGo n xs t c e (wipeE env (own.map (·.2))) (us.drop (i + 1)) acc h').noExc.bind fun xs h2 => mkL b xs h2) Q, fun H' ⟨n1, n2, n3⟩ => ⟨us.length - (i + 1), n1, rfl, n2, n3⟩, fun x H3 y => ?_⟩
            obtain ⟨sm, rx⟩ := gy x H3 y
            have gg := Gr.of_same sm m2
            have g3 := g2.trans gg
            have s3 := s2.same sm
            have hD3 : H3 D = some (.lst vacc) := sm _ _ hD
            have racc3 := RDs.kp gg.kp _ _ racc
            refine ⟨us[i], wipeE env (own.map (·.2)), m2, h2, s3, ((sl.gr g1).gr g3).wipe _, rx, env3, et, fun σ3 l3 only => ⟨wipe_only only sub, ?_⟩⟩
            refine ⟨env3, m2, h2, s3, l3, ?_⟩
            -- the test
            generalize hc : c env3 h2 = q at o2
            cases q with
            | stuck => exact o2.elim
            | exc c1 h4 => exact o2.elim
            | ok kb h4 =>
              intro b4 H4 m4 g4 s4 r4
              cases r4
              have keepD : ∀ {Ha : Hp} {ma : List Addr} {Hb : Hp} {mb : List Addr}, Gr Ha ma Hb mb → Ha D = some (.lst vacc) → D ∉ ma → Hb D = some (.lst vacc) ∧ D ∉ mb := fun {Ha ma Hb mb} g hd nd => ⟨g.keep _ _ hd nd, fun z => by
                have q := g.fresh D z nd
                rw [hd] at q
                cases q⟩
              obtain ⟨hD4, nD4⟩ := keepD g4 hD3 nDm
              cases kb with
              | false =>
                rw [if_neg Bool.false_ne_true]
                exact ⟨by omega, hlt, m4, h4, acc, vacc, g3.trans g4, s4, hD4, nD4, RDs.kp g4.kp _ _ racc3, o2⟩
              | true =>
                rw [if_pos rfl]
                refine ⟨env3, m4, h4, s4, l3.gr g4, ?_⟩
                have o3 : Out X W (rlU X.K) σ H1 m1 (Res.bind (Res.noExc ((e env3 h4).bind fun w h2 => match w with | .d x => if fits (acc.length + 1) then lcMGo n xs t c e (wipeE env (own.map (·.2))) (us.drop (i + 1)) (acc ++ [x]) h2 else .stuck | _ => .stuck)) fun xs h2 => mkL b xs h2) Q := o2
                generalize he : e env3 h4 = q at o3
                cases q with
                | stuck => exact o3.elim
                | exc c1 h5 => exact o3.elim
                | ok w h5 =>
                  intro y H5 m5 g5 s5 r5
                  obtain ⟨hD5, nD5⟩ := keepD g5 hD4 nD4
                  rw [Res.bind_ok] at o3
                  cases w with
                  | ref n => exact o3.elim
                  | tup us => exact o3.elim
                  | exn a => exact o3.elim
                  | d dx =>
                    dsimp only at o3
                    split at o3
                    · rename_i hz
                      have racc5 := RDs.kp (g4.trans g5).kp _ _ racc3
                      refine ⟨vacc, hD5, by rw [racc5.len]; exact ask_iff.mp hz, by omega, hlt, m5, h5, acc ++ [dx], vacc ++ [y], ?_, ?_, upd_same, nD5, ?_, o3⟩
                      · have gA := (g3.trans g4).trans g5
                        refine ⟨gA.pre, fun a o q na => ?_, gA.fresh, ⟨fun a xs q => ?_, fun a o u q => ?_⟩⟩
                        · rw [upd_ne (ne_of_none q nD)]; exact gA.keep a o q na
                        · rw [upd_ne (ne_of_none q nD)]; exact gA.kp.tup a xs q
                        · rw [upd_ne (ne_of_none q nD)]; exact gA.kp.frz a o u q
                      · exact ⟨s5.nd, s5.len, fun j a ob k1 k2 => (s5.obj j a ob k1 k2).mono (upd_ne fun z => nD5 (z ▸ List.mem_of_getElem? k1)) (mut_kp hD5 trivial) ⟨[], by simp⟩⟩
                      · have kp := mut_kp (y := HO.lst (vacc ++ [y])) hD5 trivial
                        exact (RDs.kp kp _ _ racc5).app (.one (RD.kp kp _ _ r5.rd))
                    · exact o3.elim
        · have e' : i = us.length := by omega
          subst e'
          rw [List.drop_length] at o2
          unfold lcMGo at o2
          rw [qq, if_pos rfl] at o2
          exact .inl ⟨⟨vs2, .inl (.inl hH2), by rw [RDs.len hv2]; omega⟩, mkL_ok2 g2 s2 nD nDm hD racc o2⟩
      · exact out1.elim
  · exact out1.elim
theorem se_lcM (b : Bool) {vs : List Nat} (own : List (Str × Nat)) (hc : X.calm = true) (hN : X.N.Nodup) (hv : own.map (·.2) = vs) (sub : ∀ j ∈ ix, j ∈ vs) (hl : SE X W l f) (ok : BlkOk X.N X.env.scope scope own)
    (hg : ∀ (s : Shared) (H : Hp) (C : Addr) (cl : List (Str × Addr)) (fp : List Addr), SG (X.blk s H scope (compEnvC scope cl C X.env) fp) tg ix t)
    (ht : ∀ (s : Shared) (H : Hp) (C : Addr) (cl : List (Str × Addr)) (fp : List Addr), STs (X.blk s H scope (compEnvC scope cl C X.env) fp) W0 ifs c)
    (he : ∀ (s : Shared) (H : Hp) (C : Addr) (cl : List (Str × Addr)) (fp : List Addr), SE (X.blk s H scope (compEnvC scope cl C X.env) fp) W0 elt e) (hs : ∀ x, foldedSetIterable l X.env x = pure x := by intro _; rfl) :
    SE X W (.ListComp elt [⟨tg, l, ifs, 0⟩] scope pos) (eLcM b vs f t c e) := by
  subst hv
  exact ⟨pe_imp (pe_gh (pe_lc hc hN (pi_list hl.pe) ok (fun s H C cl fp => (hg s H C cl fp).pg) (fun s H C cl fp => (ht s H C cl fp).pt) (fun s H C cl fp => (he s H C cl fp).pe) hs)) fun σ H Q q => lc_rdM sub q⟩
end
@[simp] theorem ev_ForM (f : Ev) (t : Tg) (b : Es) (env : Env') (h : Sto) : sForM f t b env h = (f env h).then_ env fun u h1 => match u with | .ref n => (match h1[n]? with | some (.lst xs) => forMGo n xs t b (xs.map .d) env h1 | _ => .stuck) | _ => .stuck := (rfl)
@[simp] theorem ev_LcM (b : Bool) (vs : List Nat) (f : Ev) (t : Tg) (c : Eb) (e : Ev) (env : Env') (h : Sto) : eLcM b vs f t c e env h = (f env h).bind fun u h1 => match u with | .ref n => (match h1[n]? with | some (.lst xs) => (lcMGo n xs t c e (wipeE env vs) (xs.map .d) [] h1).noExc.bind fun ys h2 => mkL b ys h2 | _ => .stuck) | _ => .stuck := (rfl)
/-- where the loop leaves the list as it is, it is an own walk -/
theorem forMGo_inv {n : Nat} {xs : List D} {t : Tg} {b : Es} : ∀ {us : List U} (I : Nat → Env' → Sto → Prop) (k : Nat) {env : Env'} {h : Sto}, I k env h → (∀ i env h, I i env h → h[n]? = some (.lst xs)) →
    (∀ (i : Nat) (u : U) (env : Env') (h : Sto), us[i]? = some u → I (k + i) env h → ∃ env1 env2 h2, t u env h = some env1 ∧ b env1 h = .next env2 h2 ∧ I (k + i + 1) env2 h2) →
    ∃ env' h', forMGo n xs t b us env h = .next env' h' ∧ I (k + us.length) env' h'
  | [], I, k, env, h, hI, hx, _ => ⟨env, h, by unfold forMGo; rw [if_pos (ask_t (hx _ _ _ hI))], hI⟩
  | u :: us, I, k, env, h, hI, hx, st => by
    obtain ⟨env1, env2, h2, e1, e2, e3⟩ := st 0 u env h rfl hI
    obtain ⟨env', h', r1, r2⟩ := forMGo_inv (us := us) I (k + 1) e3 hx fun i v env h ev hi => by
      have := st (i + 1) v env h ev (by rw [show k + (i + 1) = k + 1 + i by omega]; exact hi)
      rw [show k + (i + 1) + 1 = k + 1 + i + 1 by omega] at this
      exact this
    refine ⟨env', h', ?_, by rw [List.length_cons, show k + (us.length + 1) = k + 1 + us.length by omega]; exact r2⟩
    unfold forMGo
    rw [if_pos (ask_t (hx _ _ _ hI)), e1]
    dsimp only
    rw [e2, SRes.seq_next, r1]
theorem lcMGo_map {n : Nat} {xs : List D} {t : Tg} {e : Ev} {env : Env'} {h : Sto} (hx : h[n]? = some (.lst xs)) : ∀ {us : List U} (g : U → D) (acc : List D), (∀ u ∈ us, ∃ env1, t u env h = some env1 ∧ e env1 h = .ok (.d (g u)) h) → acc.length + us.length ≤ 16777216 → lcMGo n xs t cYes e env us acc h = .ok (acc ++ us.map g) h
  | [], g, acc, _, _ => by unfold lcMGo; rw [if_pos (ask_t hx)]; simp
  | u :: us, g, acc, H, hl => by
    obtain ⟨env1, e1, e2⟩ := H u List.mem_cons_self
    rw [List.length_cons] at hl
    have ih := lcMGo_map (t := t) (e := e) (env := env) hx (us := us) g (acc ++ [g u]) (fun v hv => H v (List.mem_cons_of_mem _ hv)) (by rw [List.length_append, List.length_singleton]; omega)
    unfold lcMGo
    rw [if_pos (ask_t hx)]
    simp only [e1, cYes, Res.bind_ok, e2]
    rw [if_pos (fits_of (by omega)), ih]
    simp
end Wk

/-! T22: sorted(xs) of strokes: tuples of an int and tuples of ints, all of one shape. -/
namespace Wk
open PySem PySem.Spec PyProof.Rows L2
/-! ### how keys of one shape compare -/
mutual
def kInts : NestedKey → List Int
  | .num i => [i]
  | .tup ks => kIntsL ks
  | .none => []
  | .text _ => []
def kIntsL : List NestedKey → List Int
  | [] => []
  | k :: ks => kInts k ++ kIntsL ks
end
mutual
/-- two keys of one shape -/
def alikeK : NestedKey → NestedKey → Bool
  | .num _, .num _ => true
  | .tup xs, .tup ys => alikeKs xs ys
  | _, _ => false
def alikeKs : List NestedKey → List NestedKey → Bool
  | [], [] => true
  | x :: xs, y :: ys => alikeK x y && alikeKs xs ys
  | _, _ => false
end
mutual
theorem alike_len : ∀ x y : NestedKey, alikeK x y = true → (kInts x).length = (kInts y).length
  | .num _, .num _, _ => by rw [kInts, kInts]; rfl
  | .tup xs, .tup ys, h => by rw [alikeK] at h; rw [kInts, kInts]; exact alikes_len xs ys h
  | .num _, .tup _, h => by simp [alikeK] at h
  | .num _, .none, h => by simp [alikeK] at h
  | .num _, .text _, h => by simp [alikeK] at h
  | .tup _, .num _, h => by simp [alikeK] at h
  | .tup _, .none, h => by simp [alikeK] at h
  | .tup _, .text _, h => by simp [alikeK] at h
  | .none, _, h => by simp [alikeK] at h
  | .text _, _, h => by simp [alikeK] at h
theorem alikes_len : ∀ xs ys : List NestedKey, alikeKs xs ys = true → (kIntsL xs).length = (kIntsL ys).length
  | [], [], _ => rfl
  | x :: xs, y :: ys, h => by
    rw [alikeKs, Bool.and_eq_true] at h
    rw [kIntsL, kIntsL, List.length_append, List.length_append, alike_len x y h.1, alikes_len xs ys h.2]
  | [], _ :: _, h => by simp [alikeKs] at h
  | _ :: _, [], h => by simp [alikeKs] at h
end
mutual
theorem alike_beq : ∀ x y : NestedKey, alikeK x y = true → NestedKey.beq x y = decide (kInts x = kInts y)
  | .num a, .num b, _ => by
    rw [NestedKey.beq, kInts, kInts, Bool.eq_iff_iff]
    simp
  | .tup xs, .tup ys, h => by rw [alikeK] at h; rw [NestedKey.beq, kInts, kInts]; exact alikes_beq xs ys h
  | .num _, .tup _, h => by simp [alikeK] at h
  | .num _, .none, h => by simp [alikeK] at h
  | .num _, .text _, h => by simp [alikeK] at h
  | .tup _, .num _, h => by simp [alikeK] at h
  | .tup _, .none, h => by simp [alikeK] at h
  | .tup _, .text _, h => by simp [alikeK] at h
  | .none, _, h => by simp [alikeK] at h
  | .text _, _, h => by simp [alikeK] at h
theorem alikes_beq : ∀ xs ys : List NestedKey, alikeKs xs ys = true → NestedKey.beqAll xs ys = decide (kIntsL xs = kIntsL ys)
  | [], [], _ => by rw [NestedKey.beqAll, kIntsL]; simp
  | x :: xs, y :: ys, h => by
    rw [alikeKs, Bool.and_eq_true] at h
    rw [NestedKey.beqAll, kIntsL, kIntsL, alike_beq x y h.1, alikes_beq xs ys h.2, Bool.eq_iff_iff, Bool.and_eq_true, decide_eq_true_iff, decide_eq_true_iff, decide_eq_true_iff]
    constructor
    · rintro ⟨a, b⟩; rw [a, b]
    · intro e; exact List.append_inj e (alike_len x y h.1)
  | [], _ :: _, h => by simp [alikeKs] at h
  | _ :: _, [], h => by simp [alikeKs] at h
end
theorem lex_app : ∀ (a b c d : List Int), a.length = b.length → HT.lexLt (a ++ c) (b ++ d) = if a = b then HT.lexLt c d else HT.lexLt a b
  | [], [], c, d, _ => by simp
  | [], _ :: _, _, _, h => by cases h
  | _ :: _, [], _, _, h => by cases h
  | x :: a, y :: b, c, d, h => by
    have ih := lex_app a b c d (by simpa using h)
    rw [List.cons_append, List.cons_append]
    rw [HT.lexLt_cons, HT.lexLt_cons, ih]
    by_cases e : x = y
    · subst e
      by_cases e2 : a = b
      · subst e2; simp
      · simp [e2]
    · simp [e]
/-! ### keys of ints in the heap -/
mutual
inductive IntK (h : Heap) : NestedKey → Value → Prop
  | num (i t) : IntK h (.num i) (.int i t)
  | tup {a o vs n ks} : h.get? a = some o → o.cls = .type "tuple" → o.data = .seq vs n → IntKs h ks vs.toList → IntK h (.tup ks) (.ref a)
inductive IntKs (h : Heap) : List NestedKey → List Value → Prop
  | nil : IntKs h [] []
  | cons {k v ks vs} : IntK h k v → IntKs h ks vs → IntKs h (k :: ks) (v :: vs)
end
mutual
theorem IntK.nst {h : Heap} : ∀ (k : NestedKey) (v : Value), IntK h k v → NestedIs h k v
  | .num i, _, r => by cases r; exact .int _ _
  | .tup ks, _, r => by
    cases r with
    | tup a b c d => exact .tup a b c (IntKs.nst ks _ d)
  | .none, _, r => by cases r
  | .text _, _, r => by cases r
theorem IntKs.nst {h : Heap} : ∀ (ks : List NestedKey) (vs : List Value), IntKs h ks vs → NestedAll h ks vs
  | [], _, r => by cases r; exact .nil
  | k :: ks, _, r => by
    cases r with
    | cons a b => exact .cons (IntK.nst k _ a) (IntKs.nst ks _ b)
end
mutual
theorem IntK.kept {h h' : Heap} (kp : ∀ a o, h.get? a = some o → o.cls = .type "tuple" → h'.get? a = some o) : ∀ (k : NestedKey) (v : Value), IntK h k v → IntK h' k v
  | .num i, _, r => by cases r; exact .num _ _
  | .tup ks, _, r => by
    cases r with
    | tup a b c d => exact .tup (kp _ _ a b) b c (IntKs.kept kp ks _ d)
  | .none, _, r => by cases r
  | .text _, _, r => by cases r
theorem IntKs.kept {h h' : Heap} (kp : ∀ a o, h.get? a = some o → o.cls = .type "tuple" → h'.get? a = some o) : ∀ (ks : List NestedKey) (vs : List Value), IntKs h ks vs → IntKs h' ks vs
  | [], _, r => by cases r; exact .nil
  | k :: ks, _, r => by
    cases r with
    | cons a b => exact .cons (IntK.kept kp k _ a) (IntKs.kept kp ks _ b)
end
mutual
theorem intK_of {X : Cx} {pins : List (Addr × Obj)} {σ : L2.St} {H : Hp} {s : Shared} (I : L2.Inv X pins σ H s) : ∀ (k : NestedKey) (v : V) (u : Value), pureK k = true → RD X.K H v k.data → RelV v u → IntK s.heap k u
  | .num i, v, u, hp, r, ru => by
    rw [NestedKey.data] at r
    cases r
    obtain ⟨t, rfl⟩ := ru
    exact .num i t
  | .tup ks, v, u, hp, r, ru => by
    rw [pureK] at hp
    rw [NestedKey.data] at r
    cases r with
    | tup a b =>
      cases (show u = Value.ref _ from ru)
      obtain ⟨its, rv, ⟨o, ho, hc, n, hd⟩, _⟩ := I.tuple a
      exact .tup ho hc hd (by rw [List.toList_toArray]; exact intKs_of I ks _ its hp b rv)
  | .none, v, u, hp, r, ru => by rw [pureK] at hp; cases hp
  | .text _, v, u, hp, r, ru => by rw [pureK] at hp; cases hp
theorem intKs_of {X : Cx} {pins : List (Addr × Obj)} {σ : L2.St} {H : Hp} {s : Shared} (I : L2.Inv X pins σ H s) : ∀ (ks : List NestedKey) (vs : List V) (us : List Value), pureKs ks = true → RDs X.K H vs (NestedKey.datas ks) → Vals vs us → IntKs s.heap ks us
  | [], vs, us, hp, r, ru => by
    rw [NestedKey.datas] at r
    cases r
    cases ru
    exact .nil
  | k :: ks, vs, us, hp, r, ru => by
    rw [pureKs, Bool.and_eq_true] at hp
    rw [NestedKey.datas] at r
    cases r with
    | cons a b =>
      cases ru with
      | cons c d => exact .cons (intK_of I k _ _ hp.1 a c) (intKs_of I ks _ _ hp.2 b d)
end
theorem IntKs.len {h : Heap} : ∀ {ks : List NestedKey} {vs : List Value}, IntKs h ks vs → vs.length = ks.length
  | [], _, r => by cases r; rfl
  | k :: ks, _, r => by
    cases r with
    | cons a b => rw [List.length_cons, List.length_cons, IntKs.len b]
abbrev kLtAt (xs ys : List NestedKey) (j : Nat) : Bool := HT.lexLt (kInts (xs.getD j .none)) (kInts (ys.getD j .none))
theorem first_lex : ∀ xs ys : List NestedKey, alikeKs xs ys = true → SeqAt.firstLt (keyEqAt xs ys) (kLtAt xs ys) false (List.range xs.length) = HT.lexLt (kIntsL xs) (kIntsL ys)
  | [], [], _ => rfl
  | x :: xs, y :: ys, h => by
    rw [alikeKs, Bool.and_eq_true] at h
    have ih := first_lex xs ys h.2
    have sh : ∀ l : List Nat, SeqAt.firstLt (keyEqAt (x :: xs) (y :: ys)) (kLtAt (x :: xs) (y :: ys)) false (l.map (· + 1)) = SeqAt.firstLt (keyEqAt xs ys) (kLtAt xs ys) false l := fun l => by
      induction l with
      | nil => rfl
      | cons j l ihl =>
        rw [List.map_cons]
        unfold SeqAt.firstLt
        rw [ihl]
        rfl
    rw [List.length_cons, List.range_succ_eq_map, kIntsL, kIntsL, lex_app _ _ _ _ (alike_len x y h.1), ← ih, ← sh]
    have e0 : keyEqAt (x :: xs) (y :: ys) 0 = decide (kInts x = kInts y) := alike_beq x y h.1
    by_cases e : kInts x = kInts y
    · rw [if_pos e]
      exact SeqAt.firstLt_yes (by rw [e0]; exact decide_eq_true e)
    · rw [if_neg e]
      exact SeqAt.firstLt_no (by rw [e0]; exact decide_eq_false e)
  | [], _ :: _, h => by simp [alikeKs] at h
  | _ :: _, [], h => by simp [alikeKs] at h
theorem alikes_len2 : ∀ {xs ys : List NestedKey}, alikeKs xs ys = true → xs.length = ys.length
  | [], [], _ => rfl
  | x :: xs, y :: ys, h => by
    rw [alikeKs, Bool.and_eq_true] at h
    rw [List.length_cons, List.length_cons, alikes_len2 h.2]
  | [], _ :: _, h => by simp [alikeKs] at h
  | _ :: _, [], h => by simp [alikeKs] at h
mutual
theorem rcLt_key : ∀ (x y : NestedKey) (A : Around) (s : Shared) (a b : Value), alikeK x y = true → IntK s.heap x a → IntK s.heap y b → A.units + min x.depth y.depth < cLine → SeqAt.RcLt A s a b (HT.lexLt (kInts x) (kInts y))
  | .num i, .num j, A, s, _, _, _, ra, rb, hu => by
    cases ra
    cases rb
    rename_i t u
    have e : HT.lexLt (kInts (.num i)) (kInts (.num j)) = decide (i < j) := by
      rw [kInts, kInts]
      unfold HT.lexLt
      by_cases e : i = j
      · subst e; simp [HT.lexLt]
      · rw [if_neg e]
    rw [e]
    exact fun prog w E Q h => HT.rcLt_int A s i t j u prog w E Q h
  | .tup xs, .tup ys, A, s, _, _, al, ra, rb, hu => by
    rw [alikeK] at al
    cases ra with
    | @tup l o vs n _ h1 h2 h3 h4 =>
      cases rb with
      | @tup l' o' vs' n' _ k1 k2 k3 k4 =>
        have hl : s.heap.IsTuple l vs := ⟨_, h1, h2, _, h3⟩
        have hl' : s.heap.IsTuple l' vs' := ⟨_, k1, k2, _, k3⟩
        have n1 : vs.size = xs.length := by simpa using h4.len
        have n2 : vs'.size = ys.length := by simpa using k4.len
        have n3 := alikes_len2 al
        have q := SeqAt.RcLt.tuples (A := A) (e := keyEqAt xs ys) (r := kLtAt xs ys) hl hl' (by omega) (fun j j1 j2 => by
          have := eqAt_keys xs ys A.in1 s vs.toList vs'.toList (IntKs.nst _ _ h4) (IntKs.nst _ _ k4) (by rw [NestedKey.depth, NestedKey.depth] at hu; show A.units + 1 + _ < _; omega) j (by simpa using j1) (by simpa using j2)
          simpa using this) (fun j j1 j2 _ => by
          have := rcLt_keys xs ys A.in1 s vs.toList vs'.toList al h4 k4 (by rw [NestedKey.depth, NestedKey.depth] at hu; show A.units + 1 + _ < _; omega) j (by simpa using j1) (by simpa using j2)
          simpa using this)
        have e1 : decide (vs.size < vs'.size) = false := decide_eq_false (by omega)
        have e2 : min vs.size vs'.size = xs.length := by omega
        rw [e1, e2, first_lex xs ys al] at q
        rw [kInts, kInts]
        exact q
  | .num _, .tup _, _, _, _, _, h, _, _, _ => by simp [alikeK] at h
  | .num _, .none, _, _, _, _, h, _, _, _ => by simp [alikeK] at h
  | .num _, .text _, _, _, _, _, h, _, _, _ => by simp [alikeK] at h
  | .tup _, .num _, _, _, _, _, h, _, _, _ => by simp [alikeK] at h
  | .tup _, .none, _, _, _, _, h, _, _, _ => by simp [alikeK] at h
  | .tup _, .text _, _, _, _, _, h, _, _, _ => by simp [alikeK] at h
  | .none, _, _, _, _, _, h, _, _, _ => by simp [alikeK] at h
  | .text _, _, _, _, _, _, h, _, _, _ => by simp [alikeK] at h
theorem rcLt_keys : ∀ (xs ys : List NestedKey) (A : Around) (s : Shared) (vs ws : List Value), alikeKs xs ys = true → IntKs s.heap xs vs → IntKs s.heap ys ws →
    A.units + min (NestedKey.depthAll xs) (NestedKey.depthAll ys) < cLine → ∀ j (h1 : j < vs.length) (h2 : j < ws.length), SeqAt.RcLt A s vs[j] ws[j] (kLtAt xs ys j)
  | [], _, _, _, _, _, _, ra, _, _, j, h1, _ => by cases ra; exact absurd h1 (Nat.not_lt_zero _)
  | _ :: _, [], _, _, _, _, h, _, _, _, j, _, h2 => by simp [alikeKs] at h
  | x :: xs, y :: ys, A, s, _, _, al, ra, rb, hu, j, h1, h2 => by
    rw [alikeKs, Bool.and_eq_true] at al
    rw [NestedKey.depthAll, NestedKey.depthAll] at hu
    cases ra with
    | cons r rs =>
      cases rb with
      | cons r' rs' =>
        cases j with
        | zero => exact rcLt_key x y A s _ _ al.1 r r' (by omega)
        | succ j => exact rcLt_keys xs ys A s _ _ al.2 rs rs' (by omega) j (Nat.lt_of_succ_lt_succ h1) (Nat.lt_of_succ_lt_succ h2)
end
/-! ### sorting them -/
section
variable {prog : Program} {w : World} {A : Around} {E : Value → Shared → Prop} {s : Shared}
/-- the first item is an int -/
def headNum : List NestedKey → Bool
  | .num _ :: _ => true
  | _ => false
theorem katLex_keys {Q : Bool → Shared → Prop} : ∀ (xs ys : List NestedKey) (ps qs : List Value) (i : Nat), alikeKs xs ys = true → IntKs s.heap xs ps → IntKs s.heap ys qs → (i = 0 → headNum xs = true) → A.units + NestedKey.depthAll xs < cLine →
    Q (HT.lexLt (kIntsL xs) (kIntsL ys)) s → PySem.W.KatLex prog w A true false Q (ps.zip qs) i s
  | [], [], _, _, i, _, ra, rb, _, _, h => by
    cases ra
    cases rb
    exact PySem.W.kat_nil h
  | x :: xs, y :: ys, _, _, i, al, ra, rb, hn, hu, h => by
    rw [alikeKs, Bool.and_eq_true] at al
    rw [NestedKey.depthAll] at hu
    rw [kIntsL, kIntsL, lex_app _ _ _ _ (alike_len x y al.1)] at h
    cases ra with
    | cons a as =>
      cases rb with
      | cons b bs =>
        rename_i p ps q qs
        rw [List.zip_cons_cons]
        refine PySem.W.kat_cons (eqAt_key x y A s p q (IntK.nst _ _ a) (IntK.nst _ _ b) (by omega) prog w _ _ ?_)
        rw [alike_beq x y al.1]
        refine PySem.W.kat_go (fun e => ?_) (fun e => ?_)
        · have e := of_decide_eq_true e
          rw [if_pos e] at h
          exact PySem.W.kat_yes (katLex_keys xs ys ps qs (i + 1) al.2 as bs (fun z => by omega) (by omega) h)
        · have e := of_decide_eq_false e
          rw [if_neg e] at h
          refine PySem.W.kat_no ?_
          cases i with
          | zero =>
            have hx := hn rfl
            cases a with
            | num i t =>
              cases b with
              | num j u =>
                refine TS.oneLt_ints _ ?_
                have e2 : HT.lexLt (kInts (.num i)) (kInts (.num j)) = decide (i < j) := by
                  rw [kInts, kInts, HT.lexLt_cons]
                  by_cases e : i = j
                  · subst e; simp [HT.lexLt]
                  · rw [if_neg e]
                rw [← e2]
                exact h
              | tup _ _ _ _ => simp [alikeK] at al
            | tup _ _ _ _ => simp [headNum] at hx
          | succ i =>
            rw [show (true && (i + 1 == 0)) = false by simp]
            exact PySem.W.kat_one _ _ (rcLt_key x y A s p q al.1 a b (by omega) prog w _ _ h)
  | [], _ :: _, _, _, _, h, _, _, _, _, _ => by simp [alikeKs] at h
  | _ :: _, [], _, _, _, h, _, _, _, _, _ => by simp [alikeKs] at h
/-- values that are such keys -/
structure SkV (h : Heap) (k : Value → NestedKey) (vs : List Value) : Prop where
  is : ∀ v ∈ vs, IntK h (k v) v
  al : ∀ v ∈ vs, ∀ u ∈ vs, alikeK (k v) (k u) = true
  hd : ∀ v ∈ vs, ∃ xs, k v = .tup xs ∧ headNum xs = true ∧ NestedKey.depthAll xs ≤ 8
abbrev ltSk (k : Value → NestedKey) (v u : Value) : Bool := HT.lexLt (kInts (k v)) (kInts (k u))
theorem swo_sk (k : Value → NestedKey) : SrtO.Swo (ltSk k) := NtL.swo_lexL fun v => kInts (k v)
theorem sk_cmp {vs : List Value} {k : Value → NestedKey} (sk : SkV s.heap k vs) (hu : A.units + 64 < cLine) : SrtO.Cmp prog w A s (tuples' true) (fun p => p.1 ∈ vs) (SrtO.lt2 (ltSk k)) := by
  intro p q hm hm'
  obtain ⟨xs, e1, n1, d1⟩ := sk.hd _ hm
  obtain ⟨ys, e2, n2, d2⟩ := sk.hd _ hm'
  have i1 := sk.is _ hm
  have i2 := sk.is _ hm'
  have al := sk.al _ hm _ hm'
  rw [e1] at i1 al
  rw [e2] at i2 al
  rw [alikeK] at al
  show wpAny (model prog w) A (keyLt' (tuples' true) p.1 q.1) (fun r s' => s' = s ∧ r = HT.lexLt (kInts (k p.1)) (kInts (k q.1))) (fun _ _ => False) s
  rw [e1, e2, kInts, kInts]
  generalize p.1 = v at i1
  generalize q.1 = u at i2
  cases i1 with
  | tup a1 a2 a3 a4 =>
    cases i2 with
    | tup b1 b2 b3 b4 =>
      rename_i vs1 _ _ _ vs2 _
      refine PySem.W.kat_lt a1 a3 b1 b3 ?_
      have hz : decide (vs1.size < vs2.size) = false := decide_eq_false (by
        have z1 : vs1.size = xs.length := by simpa using a4.len
        have z2 : vs2.size = ys.length := by simpa using b4.len
        have z3 := alikes_len2 al
        omega)
      rw [hz]
      exact katLex_keys xs ys _ _ 0 al a4 b4 (fun _ => n1) (by omega) ⟨rfl, rfl⟩
theorem sk_firsts {h : Heap} {k : Value → NestedKey} : ∀ {vs : List Value}, (∀ v ∈ vs, IntK h (k v) v) → (∀ v ∈ vs, ∃ xs, k v = .tup xs ∧ headNum xs = true) → ∃ fs, PySem.W.KatTups h vs fs ∧ fs.length = vs.length ∧ ∀ f ∈ fs, ∃ x t, f = Value.int x t
  | [], _, _ => ⟨[], PySem.W.KatTups.nil, rfl, fun f hf => nomatch hf⟩
  | v :: vs, hi, hk => by
    obtain ⟨fs, h1, h2, h3⟩ := sk_firsts (vs := vs) (fun u hu => hi u (List.mem_cons_of_mem _ hu)) (fun u hu => hk u (List.mem_cons_of_mem _ hu))
    obtain ⟨xs, e, hn⟩ := hk v List.mem_cons_self
    have iv := hi v List.mem_cons_self
    rw [e] at iv
    cases iv with
    | tup a1 a2 a3 a4 =>
      rename_i a o its n
      cases a4' : its.toList with
      | nil =>
        rw [a4'] at a4
        cases a4
        simp [headNum] at hn
      | cons f r =>
        rw [a4'] at a4
        cases a4 with
        | cons c cs =>
          cases c with
          | num i t =>
            have hf : its[0]? = some (.int i t) := by
              rw [← Array.getElem?_toList, a4']
              rfl
            exact ⟨.int i t :: fs, PySem.W.KatTups.cons a1 a2 a3 hf h1, by rw [List.length_cons, List.length_cons, h2], fun g hg => by
              rcases List.mem_cons.mp hg with z | z
              · exact ⟨i, t, z⟩
              · exact h3 g z⟩
          | tup _ _ _ _ => simp [headNum] at hn
theorem sk_sortable {a : Addr} {vs : List Value} {k : Value → NestedKey} (h0 : 0 < vs.length) (sk : SkV s.heap k vs) (ha : ∀ o, s.heap.get? a = some o → o.cls ≠ .type "tuple") (hu : A.units + 64 < cLine) : SrtO.SortableO prog w A s a vs (ltSk k) := by
  intro h' keep
  have is' : ∀ v ∈ vs, IntK h' (k v) v := fun v hm => IntK.kept (fun b o e c => keep b o (fun z => by subst z; exact ha o e c) e) _ _ (sk.is v hm)
  obtain ⟨fs, h1, h2, h3⟩ := sk_firsts is' fun v hv => by
    obtain ⟨xs, e, n, _⟩ := sk.hd v hv
    exact ⟨xs, e, n⟩
  refine ⟨tuples' true, fun Q E hq => ?_, sk_cmp (s := { s with heap := h' }) ⟨is', sk.al, sk.hd⟩ hu⟩
  refine PySem.W.kat_kind (T := .type "int") h1 (by omega) (fun f hm => ?_) (by rfl) ?_
  · obtain ⟨x, t, rfl⟩ := h3 f hm
    exact PySem.W.Looks.now
  · have e : (Value.type "int" != Value.type "tuple") = true := by first | decide +kernel | rfl | decide
    rw [e]
    exact hq
end
section
variable {prog : Program} {w : World} {A : Around} {E : Value → Shared → Prop} {s : Shared}
/-- the heap where the items of a sequence were gathered into a list -/
abbrev gath (h : Heap) (vs : List Value) : Heap := (h.push (seqObj "list" #[] 0)).update h.objs.size (Obj.mapSeq (· ++ vs.toArray))
theorem gather {l : Addr} {vs : List Value} {o : Obj} {n : Nat} {T : String} {Q : List Value → Shared → Prop} (ho : s.heap.get? l = some o) (hc : o.cls = .type T) (hd : o.data = .seq vs.toArray n) (hT : T = "list" ∨ T = "tuple") (hz : vs.length ≤ sizeLine)
    (h : Q vs { s with heap := gath s.heap vs }) : wpAny (model prog w) A (collect (.ref l)) Q E s := by
  have hp : (s.heap.push (seqObj "list" #[] 0)).get? l = some o := Heap.get?_push_of_some _ ho
  have hn : (s.heap.push (seqObj "list" #[] 0)).get? s.heap.objs.size = some (seqObj "list" #[] 0) := Heap.get?_push_size _ rfl
  unfold collect
  refine wpAny_bind (wpAny_runValue (codeAny_builtin entry_proto_collect' ?_))
  show wpAny (model prog w) _ (do again (.builtin "list.__iadd__" ⟨[← newList [], .ref l], []⟩)) _ _ s
  refine wpAny_bind (wpAny_newList (wpAny_pure ⟨Code.quiet_builtin _ (by decide +kernel), codeAny_builtin entry_list_iadd' ?_⟩))
  have big : (#[] ++ vs.toArray : Array Value).size ≤ sizeLine + 1 := by simp only [Array.size_append, List.size_toArray, List.length_nil]; omega
  have emp : (#[] ++ vs.toArray : Array Value).toList = vs := by simp
  have main : wpAny (model prog w) A (do
      let o ← load s.heap.objs.size
      match o.data with
      | .seq xs _ => pure xs.toList
      | _ => unsupported "internal:collect") Q E { s with heap := gath s.heap vs } := by
    refine wpAny_bind (wpAny_load (get?_update_seq hn _) ?_)
    refine (?_ : wpAny _ _ (pure ((#[] : Array Value) ++ vs.toArray).toList) Q E _)
    rw [emp]
    exact wpAny_pure h
  refine (?_ : wpAny _ _ (Builtin.List.listExtendWith (.ref s.heap.objs.size) (.ref l) (.ref s.heap.objs.size)) _ _ { s with heap := s.heap.push (seqObj "list" #[] 0) })
  unfold Builtin.List.listExtendWith
  refine wpAny_bind (wpAny_typeOf (T := T) ⟨o, hp, hc⟩ ?_)
  have cond : (Builtin.List.listSameRef (.ref s.heap.objs.size) (.ref l) || Value.type T == Value.type "list" || Value.type T == Value.type "tuple") = true := by
    rcases hT with z | z
    · subst z
      rw [show (Value.type "list" == Value.type "list") = true by rfl]
      simp
    · subst z
      rw [show (Value.type "tuple" == Value.type "tuple") = true by rfl]
      simp
  rw [if_pos cond]
  refine wpAny_bind (listItems_at hp hd ?_)
  refine wpAny_bind (listItems_at (xs := #[]) (n := 0) hn rfl ?_)
  rw [if_neg (by simp)]
  exact wpAny_bind (listUpdate_at (xs := #[]) (n := 0) hn rfl (wpAny_pure main) (Nat.zero_le _) big)
/-- sorted(l), l a list or a tuple of any things that a strict weak order tells apart -/
theorem sorted_any {l : Addr} {vs : List Value} {ltv : Value → Value → Bool} {o : Obj} {n : Nat} {T : String} {Q : Value → Shared → Prop} (O : SrtO.Swo ltv) (ho : s.heap.get? l = some o) (hc : o.cls = .type T) (hd : o.data = .seq vs.toArray n) (hT : T = "list" ∨ T = "tuple") (hz : vs.length ≤ sizeLine)
    (hS : 2 ≤ vs.length → ∀ (h₁ : Heap) (a : Addr), h₁.get? a = some (seqObj "list" vs.toArray 0) → (∀ b o, s.heap.get? b = some o → b ≠ a ∧ h₁.get? b = some o) → SrtO.SortableO prog w A.in1.in1 { s with heap := h₁ } a vs ltv)
    (h : ∀ out : List Value, SrtO.Srtd ltv out → SrtO.Stb ltv out vs → Q (.ref (s.heap.objs.size + 1)) { s with heap := sortedAll s.heap vs out.toArray }) :
    wpAny (model prog w) A (call (.builtin "sorted") [.ref l]) Q E s := by
  have size : (gath s.heap vs).objs.size = s.heap.objs.size + 1 := by rw [Heap.size_update, size_push']
  have new : ((gath s.heap vs).push (seqObj "list" vs.toArray 0)).get? (s.heap.objs.size + 1) = some (seqObj "list" vs.toArray 0) := by rw [← size]; exact Heap.get?_push_size _ rfl
  have old : ∀ b o, s.heap.get? b = some o → b ≠ s.heap.objs.size + 1 ∧ ((gath s.heap vs).push (seqObj "list" vs.toArray 0)).get? b = some o := fun b o q => by
    have lt : b < s.heap.objs.size := Heap.lt_size q
    have q2 : (gath s.heap vs).get? b = some o := by
      rw [Heap.get?_update_ne _ _ _ _ (Nat.ne_of_lt lt)]
      exact Heap.get?_push_of_some _ q
    exact ⟨Nat.ne_of_lt (Nat.lt_succ_of_lt lt), Heap.get?_push_of_some _ q2⟩
  refine Calls.call_function_entry kind_sorted plain_sorted entry_sorted (args_sorted1 _) ?_
  unfold Builtin.«sorted»
  refine wpAny_bind (m := checkCount "sorted" 1 1 _) (wpAny_pure (wpAny_bind (gather ho hc hd hT hz (wpAny_bind (wpAny_newList ?_ hz)))))
  refine (?_ : wpAny _ _ _ _ _ { s with heap := (gath s.heap vs).push (seqObj "list" vs.toArray 0) })
  rw [size]
  have call : wpAny (model prog w) A.in1 (call (.builtin "list.sort") [.ref (s.heap.objs.size + 1)]) (fun _ s' => ∃ out : List Value, SrtO.Srtd ltv out ∧ SrtO.Stb ltv out vs ∧ s' = { s with heap := sortedAll s.heap vs out.toArray }) (fun _ _ => False) { s with heap := (gath s.heap vs).push (seqObj "list" vs.toArray 0) } :=
    wpAny_call_entry slot_list_sort ⟨_, new, rfl⟩ entry_list_sort (SrtO.list_sort_ord O new hz (fun h2 => hS h2 _ _ new old) fun out hs hb => ⟨_, rfl, out, hs, hb, rfl⟩) (args_list_sort _)
  refine wpAny_bind (wpAny_holding (wpAny_mono call (fun v s' hv => ?_) fun _ _ z => z.elim))
  obtain ⟨out, h1, h2, rfl⟩ := hv
  exact wpAny_pure ⟨_, rfl, h out h1 h2⟩
end
/-! ### the rule -/
mutual
theorem nkD_data : ∀ k : NestedKey, pureK k = true → nkD k.data = some k
  | .num i, _ => by rw [NestedKey.data, nkD]
  | .tup ks, h => by rw [pureK] at h; rw [NestedKey.data, nkD, nkDs_data ks h]; rfl
  | .none, h => by rw [pureK] at h; cases h
  | .text _, h => by rw [pureK] at h; cases h
theorem nkDs_data : ∀ ks : List NestedKey, pureKs ks = true → nkDs (NestedKey.datas ks) = some ks
  | [], _ => by rw [NestedKey.datas, nkDs]
  | k :: ks, h => by
    rw [pureKs, Bool.and_eq_true] at h
    rw [NestedKey.datas, nkDs, nkD_data k h.1, nkDs_data ks h.2]
end
def dInts (d : D) : List Int := match nkD d with
  | some k => kInts k
  | none => []
def leD (x y : D) : Bool := !HT.lexLt (dInts y) (dInts x)
def sortD (ds : List D) : List D := ds.mergeSort leD
structure SkOk (ks : List NestedKey) : Prop where
  pu : ∀ k ∈ ks, pureK k = true
  hd : ∀ k ∈ ks, ∃ xs, k = .tup xs ∧ headNum xs = true ∧ NestedKey.depthAll xs ≤ 8
  al : ∀ k ∈ ks, ∀ j ∈ ks, alikeK k j = true
theorem leD_data {k j : NestedKey} (h : pureK k = true) (h' : pureK j = true) : leD k.data j.data = !HT.lexLt (kInts j) (kInts k) := by
  unfold leD dInts
  rw [nkD_data k h, nkD_data j h']
theorem lex_antisym : ∀ a b : List Int, a.length = b.length → HT.lexLt a b = false → HT.lexLt b a = false → a = b
  | [], [], _, _, _ => rfl
  | [], _ :: _, h, _, _ => by cases h
  | _ :: _, [], h, _, _ => by cases h
  | x :: a, y :: b, h, h1, h2 => by
    rw [HT.lexLt_cons] at h1 h2
    by_cases e : x = y
    · subst e
      rw [if_pos rfl] at h1 h2
      rw [lex_antisym a b (by simpa using h) h1 h2]
    · rw [if_neg e] at h1
      rw [if_neg (fun z => e z.symm)] at h2
      have := of_decide_eq_false h1
      have := of_decide_eq_false h2
      omega
/-- what is sorted, and has the same items, is what sortD gives -/
theorem sortD_uniq {ks js : List NestedKey} (ok : SkOk ks) (p : js.Perm ks) (hs : js.Pairwise fun x y => HT.lexLt (kInts y) (kInts x) = false) : js.map NestedKey.data = sortD (ks.map NestedKey.data) := by
  have pu : ∀ k ∈ js, pureK k = true := fun k hk => ok.pu k (p.mem_iff.mp hk)
  refine List.Perm.eq_of_pairwise (le := fun x y => leD x y = true) (fun a b ha hb h1 h2 => ?_) ?_ ?_ ?_
  · obtain ⟨k, hk, rfl⟩ := List.mem_map.mp ha
    obtain ⟨j, hj, rfl⟩ := List.mem_map.mp ((List.mem_mergeSort (le := leD)).mp hb)
    have hk' := p.mem_iff.mp hk
    rw [leD_data (pu k hk) (ok.pu j hj), Bool.not_eq_true'] at h1
    rw [leD_data (ok.pu j hj) (pu k hk), Bool.not_eq_true'] at h2
    have al := ok.al k hk' j hj
    have e := lex_antisym _ _ (alike_len k j al) h2 h1
    have e2 := alike_beq k j al
    rw [decide_eq_true e] at e2
    rw [NestedKey.eq_of_beq k j e2]
  · rw [List.pairwise_map]
    refine List.Pairwise.imp_of_mem (fun {a b} ha hb h => ?_) hs
    rw [leD_data (pu a ha) (pu b hb), h]
    rfl
  · refine List.pairwise_mergeSort (le := leD) (fun a b c h1 h2 => ?_) (fun a b => ?_) _
    · unfold leD at *
      rw [Bool.not_eq_true'] at *
      exact NtL.lex_tr _ _ _ h1 h2
    · unfold leD
      cases q : HT.lexLt (dInts b) (dInts a) with
      | false => rfl
      | true => rw [NtL.lex_asym _ _ q]; rfl
  · exact (p.map _).trans (List.mergeSort_perm _ _).symm
noncomputable def sortOk (ds : List D) : Bool := ask (∃ ks, ds = ks.map NestedKey.data ∧ SkOk ks)
noncomputable def fSorted (b : Bool) (us : List U) (h : Sto) : Res U := match us with
  | [u] => (match seqOf h u with
    | some xs => if sortOk xs then mkL b (sortD xs) h else .stuck
    | none => .stuck)
  | _ => .stuck
def rSortedN (K : PySem.W.Frag) : List V → Hp → VK → Prop := fun xs H Q => ∃ (a : Addr) (vs : List V) (ks : List NestedKey), xs = [V.ref a] ∧ (SqL K H a vs ∨ SqT K H a vs) ∧ RDs K H vs (ks.map NestedKey.data) ∧ SkOk ks ∧
  ∀ (p : Addr) (ys : List V), H p = none → RDs K H ys (sortD (ks.map NestedKey.data)) → Q (.ref p) (upd H p (.lst ys))
theorem rds_map {K : PySem.W.Frag} {H : Hp} {α : Type} {f : α → V} {g : α → D} : ∀ {l : List α}, (∀ x ∈ l, RD K H (f x) (g x)) → RDs K H (l.map f) (l.map g)
  | [], _ => .nil
  | x :: l, h => .cons (h x List.mem_cons_self) (rds_map fun y hy => h y (List.mem_cons_of_mem _ hy))
theorem rd_refs {K : PySem.W.Frag} {H : Hp} : ∀ {ks : List NestedKey} {vs : List V}, RDs K H vs (ks.map NestedKey.data) → (∀ k ∈ ks, ∃ xs, k = .tup xs) → ∀ v ∈ vs, ∃ a, v = V.ref a
  | [], _, r, _, v, hv => by cases r; cases hv
  | k :: ks, _, r, hk, v, hv => by
    cases r with
    | cons a b =>
      rcases List.mem_cons.mp hv with z | z
      · subst z
        obtain ⟨xs, rfl⟩ := hk k List.mem_cons_self
        rw [NestedKey.data] at a
        cases a
        exact ⟨_, rfl⟩
      · exact rd_refs b (fun j hj => hk j (List.mem_cons_of_mem _ hj)) v z
/-- the key that a value is -/
noncomputable def keyV (h : Heap) (v : Value) : NestedKey := @Classical.epsilon _ ⟨NestedKey.none⟩ fun k => IntK h k v
theorem keyV_eq {h : Heap} {v : Value} {k : NestedKey} (i : IntK h k v) : keyV h v = k :=
  NestedIs.inj _ _ v (IntK.nst _ _ (@Classical.epsilon_spec_aux _ ⟨NestedKey.none⟩ (fun k => IntK h k v) ⟨k, i⟩)) (IntK.nst _ _ i)
theorem keys_vals {X : Cx} {pins : List (Addr × Obj)} {σ : L2.St} {H : Hp} {s : Shared} (I : L2.Inv X pins σ H s) : ∀ {ks : List NestedKey} {vs : List V} {us : List Value}, (∀ k ∈ ks, pureK k = true) → RDs X.K H vs (ks.map NestedKey.data) → Vals vs us →
    us.map (keyV s.heap) = ks ∧ ∀ u ∈ us, IntK s.heap (keyV s.heap u) u ∧ ∃ v ∈ vs, RelV v u ∧ RD X.K H v (keyV s.heap u).data
  | [], _, _, _, r, rv => by
    cases r
    cases rv
    exact ⟨rfl, fun u hu => nomatch hu⟩
  | k :: ks, _, _, hk, r, rv => by
    cases r with
    | cons a b =>
      cases rv with
      | cons c d =>
        obtain ⟨e1, e2⟩ := keys_vals I (fun j hj => hk j (List.mem_cons_of_mem _ hj)) b d
        have i := intK_of I k _ _ (hk k List.mem_cons_self) a c
        have e := keyV_eq i
        refine ⟨by rw [List.map_cons, e, e1], fun u hu => ?_⟩
        rcases List.mem_cons.mp hu with z | z
        · subst z
          rw [e]
          exact ⟨i, _, List.mem_cons_self, c, a⟩
        · obtain ⟨h1, v, h2, h3⟩ := e2 u z
          exact ⟨h1, v, List.mem_cons_of_mem _ h2, h3⟩
section
variable {X : Cx} {W : WX}
theorem cr_sortedN (hu : X.A.units + 68 < cLine) : CallR X (.builtin "sorted") (rSortedN X.K) := by
  intro pins s σ H xs us Q I r h
  obtain ⟨a, vs, ks, rfl, hs, rd, ok, q⟩ := h
  obtain ⟨its, T, o, n, rv, ho, hc, hd, hT, hz⟩ : ∃ (its : List Value) (T : String) (o : Obj) (n : Nat), Vals vs its ∧ s.heap.get? a = some o ∧ o.cls = .type T ∧ o.data = .seq its.toArray n ∧ (T = "list" ∨ T = "tuple") ∧ vs.length ≤ sizeLine := by
    rcases hs with hs | hs
    · obtain ⟨its, rv, ⟨o, n, e, c1, c2, c3⟩, hz⟩ := I.list hs
      exact ⟨its, "list", o, n, rv, e, c1, c3, .inl rfl, hz⟩
    · obtain ⟨its, rv, ⟨o, e, c1, n, c2⟩, hz⟩ := I.tuple hs
      exact ⟨its, "tuple", o, n, rv, e, c1, c2, .inr rfl, hz⟩
  obtain ⟨u, rfl, ru⟩ := vals1 r
  obtain rfl : u = Value.ref a := ru
  obtain ⟨k1, k2⟩ := keys_vals I ok.pu rd rv
  have hm : ∀ u ∈ its, keyV s.heap u ∈ ks := fun u hu => by rw [← k1]; exact List.mem_map.mpr ⟨u, hu, rfl⟩
  have sk : SkV s.heap (keyV s.heap) its := ⟨fun u hu => (k2 u hu).1, fun v hv u hu => ok.al _ (hm v hv) _ (hm u hu), fun v hv => ok.hd _ (hm v hv)⟩
  obtain ⟨e1, e2⟩ := refs_back rv (rd_refs rd fun k hk => by
    obtain ⟨xs, e, _⟩ := ok.hd k hk
    exact ⟨xs, e⟩)
  refine sorted_any (swo_sk (keyV s.heap)) ho hc hd hT (by rw [← rv.length]; exact hz) (fun h2 h₁ b hb kp => ?_) fun out h1 h2 => ?_
  · refine sk_sortable (s := { s with heap := h₁ }) (by omega) ⟨fun v hv => IntK.kept (fun c o e _ => (kp c o e).2) _ _ (sk.is v hv), sk.al, sk.hd⟩ (fun o e => ?_) (by show X.A.units + 1 + 1 + 64 < cLine; omega)
    have e' : some o = some (seqObj "list" its.toArray 0) := e.symm.trans hb
    cases e'
    intro c
    exact absurd (Value.type.inj c) (by decide)
  · have h3 : ∀ u ∈ out, ∃ a, u = Value.ref a := fun u hu => e2 u (h2.perm.mem_iff.mp hu)
    obtain ⟨ep, he'⟩ := PyProof.Rows.sortedAll_at s.heap its out.toArray
    have hlen : (out.map backV).length ≤ sizeLine := by
      rw [List.length_map, h2.perm.length_eq, ← rv.length]
      exact hz
    have dd : (out.map (keyV s.heap)).map NestedKey.data = sortD (ks.map NestedKey.data) := by
      refine sortD_uniq ok (by rw [← k1]; exact h2.perm.map _) ?_
      rw [List.pairwise_map]
      exact h1
    refine ⟨.ref _, upd H (s.heap.objs.size + 1) (.lst (out.map backV)), I.laid (t' := s.toks) (fun _ _ => PyProof.Rows.sortedAll_old) (Nat.le_succ _) ⟨hlen, out, ep, vals_back h3, he'⟩, rfl, q _ _ (I.hok.fresh (Nat.le_succ _)) ?_⟩
    rw [← dd, List.map_map]
    refine rds_map fun u hu => ?_
    obtain ⟨b, eb⟩ := h3 u hu
    obtain ⟨_, v, hv, rv1, rv2⟩ := k2 u (h2.perm.mem_iff.mp hu)
    subst eb
    rw [e1] at hv
    obtain ⟨u', hu', rfl⟩ := List.mem_map.mp hv
    obtain ⟨b', rfl⟩ := e2 u' hu'
    have : Value.ref b = Value.ref b' := rv1
    rw [← this] at rv2
    exact rv2
theorem ab_sorted (b : Bool) : AbC X W (fSorted b) (fun xs H Q => rSortedN X.K xs H (gh Q)) := by
  intro σ H m h xs us Q s r out
  unfold fSorted at out
  split at out
  · cases r with
    | cons ru rn =>
      cases rn
      split at out
      · rename_i ys e
        split at out
        · rename_i hk
          obtain ⟨ks, rfl, ok⟩ := ask_iff.mp hk
          obtain ⟨p, ws, rfl, t1, d1⟩ := seqOf_v s e ru
          exact ⟨p, ws, ks, rfl, t1, d1, ok, fun l zs nl rz => mkL_ok s nl rz out⟩
        · exact out.elim
      · exact out.elim
  · exact out.elim
end
theorem bt_sorted : bootBuiltins "sorted" = some (.builtin "sorted") := by decide +kernel
theorem units68 {k : Nat} {A : Around} (r : Room k A) : A.units + 68 < cLine := by have := r.un; omega
theorem ev_sorted {b : Bool} {u : U} {h : Sto} {xs : List D} (e : seqOf h u = some xs) (ok : sortOk xs = true) : fSorted b [u] h = mkL b (sortD xs) h := by
  show (match seqOf h u with | some xs => if sortOk xs then mkL b (sortD xs) h else .stuck | none => .stuck) = _
  rw [e]
  show (if sortOk xs then mkL b (sortD xs) h else .stuck) = _
  rw [ok]
  rfl
end Wk

/-! T24: x, l[i] = e, l a list of the store, e a list or a tuple of two data. -/
namespace Wk
open PySem PySem.Spec PyProof.Rows L2
def sAsgXI (j : Nat) (o i f : Ev) : Es := fun env h => (f env h).then_ env fun u h1 => match itemsOf h1 u with
  | some [a, b] => (o (env.set j (some a)) h1).then_ (env.set j (some a)) fun ou h2 => (i (env.set j (some a)) h2).then_ (env.set j (some a)) fun w h3 => (match setIx ou w b h3 with
    | some h4 => .next (env.set j (some a)) h4
    | none => .stuck)
  | _ => .stuck
section
variable {X : Cx} {W : WX} {o i e : Expr} {f fo fi : Ev} {pos p1 p2 p3 : Pos}
theorem ss_asgXI (j : Nat) {x : Str} {k : Nat} (hc : X.calm = true) (hN : X.N.Nodup) (he : SE X W e f) (ho : SE X W o fo) (hi : SE X W i fi) (hj : X.N[j]? = some x := by rfl) (hx : Loc X.env.scope x := by first | exact Or.inl rfl | exact Or.inr rfl)
    (hf : X.fn x = true ∨ X.env.scope.names.lookup x = some .local := by first | exact .inl rfl | exact .inr rfl | assumption)
    (hs : swapsWithSole [.Tuple [.Name x p1, .Subscript o i p2] k p3] e pos.line X.env = pure false := by rfl) (hw : swappedStores [.Tuple [.Name x p1, .Subscript o i p2] k p3] e X.env = pure none := by rfl)
    (h1 : (assignEach [.Tuple [.Name x p1, .Subscript o i p2] k p3] X.env).map (·.2) = [assign (.Tuple [.Name x p1, .Subscript o i p2] k p3) X.env] := by rfl)
    (q1 : (assignEach [.Name x p1, .Subscript o i p2] X.env).map (·.2) = assign (.Name x p1) X.env :: (assignEach [.Subscript o i p2] X.env).map (·.2) := by rfl)
    (q2 : (assignEach [.Subscript o i p2] X.env).map (·.2) = assign (.Subscript o i p2) X.env :: (assignEach [] X.env).map (·.2) := by rfl)
    (q3 : (assignEach [.Name x p1, .Subscript o i p2] X.env).length = 2 := by rfl) (q4 : (assignEach [.Name x p1, .Subscript o i p2] X.env).findIdx? (·.1) = none := by rfl)
    (ha : ∀ v, assign (.Subscript o i p2) X.env v = (do
      let ov ← holding [v] (eval o X.env)
      let iv ← holding [v, ov] (eval i X.env)
      standAt p2
      holding [v, ov, iv] (setItem ov iv v)
      release [v, ov, iv] []) := by intro _; rfl) : SS X W (.Assign [.Tuple [.Name x p1, .Subscript o i p2] k p3] e pos) (sAsgXI j fo fi f) := by
  have gs := pgs_cons (pg_name (pos := p1) hN hj hx hf) (pgs_cons (pg_sub ho.pe hi.pe set_list ha) pgs_nil q2) q1
  refine ⟨ps_imp (ps_asg he.pe (pg_or (pg_tup hc gs q3 q4) (pg_unl hc gs q3 q4)) hs hw h1) fun D σ H ⟨env, m, h, sta, sl, out⟩ => rd_then sta sl out fun u h1 v H1 m1 g1 s1 r1 out1 => ?_⟩
  split at out1
  · rename_i a b eu
    obtain ⟨p, vs, rfl, t1, rs⟩ := itemsOf_v s1 eu r1
    cases rs with
    | cons ra rs =>
      rename_i va vr
      cases rs with
      | cons rb rs =>
        rename_i vb vr
        cases rs
        have core : gCons (gName j) (gCons (gSub (rd X W (rlU X.K) fo) (rd X W (rlU X.K) fi) rSetL) gNil) [va, vb] σ H1 D.nx := by
          refine ⟨va, [vb], rfl, ?_⟩
          show gCons _ gNil [vb] (σ.set j (some va)) H1 D.nx
          refine ⟨vb, [], rfl, ?_⟩
          have sl1 := (sl.gr g1).set ra j
          refine rd_then s1 sl1 out1 fun u2 h2 vu H2 m2 g2 s2 r2 out2 => rd_then s2 (sl1.gr g2) out2 fun w h3 vw H3 m3 g3 s3 r3 out3 => ?_
          have rz := RU.kp (g2.trans g3).kp (g2.trans g3).pre _ _ rb
          have ru := RU.kp g3.kp g3.pre _ _ r2
          cases eq : setIx u2 w b h3 with
          | none => rw [eq] at out3; exact out3.elim
          | some h4 =>
            rw [eq] at out3
            unfold setIx at eq
            split at eq
            · rename_i n i' x ei
              split at eq
              · rename_i xs ex
                split at eq
                · rename_i jj ej
                  cases eq
                  cases ru with
                  | ref hm =>
                    rename_i aa
                    obtain ⟨ws, k1, k2⟩ := s3.obj _ _ _ hm ex
                    have kp := mut_kp (y := HO.lst (ws.set jj vb)) k1 trivial
                    refine ⟨aa, ws, i', jj, rfl, intOf_v ei r3, k1, by rw [k2.len]; exact ej, rfl, ?_⟩
                    exact (show ∀ σ' H' m', Gr H3 m3 H' m' → Sta X.K X.mg H' m' _ → Sl X.K H' m' σ' (env.set j (some a)) → D.nx σ' H' from out3) _ _ m3 (Gr.write (List.mem_of_getElem? hm) k1 trivial)
                      (s3.write hm k1 trivial ⟨_, upd_same, RDs.set (RD.kp kp _ _ rz.rd) jj (RDs.kp kp _ _ k2)⟩) (((sl1.gr g2).gr g3).gr (Gr.write (List.mem_of_getElem? hm) k1 trivial))
                · cases eq
              · cases eq
            · cases eq
        rcases t1 with t1 | t1
        · exact .inl ⟨p, _, rfl, t1, rfl, core⟩
        · exact .inr ⟨p, _, rfl, t1, rfl, core⟩
  · exact out1.elim
end
@[simp] theorem ev_AsgXI (j : Nat) (o i f : Ev) (env : Env') (h : Sto) : sAsgXI j o i f env h = (f env h).then_ env fun u h1 => match itemsOf h1 u with | some [a, b] => (o (env.set j (some a)) h1).then_ (env.set j (some a)) fun ou h2 => (i (env.set j (some a)) h2).then_ (env.set j (some a)) fun w h3 => (match setIx ou w b h3 with | some h4 => .next (env.set j (some a)) h4 | none => .stuck) | _ => .stuck := (rfl)
end Wk

/-! T25: len(set(t)) of a tuple of unlike keys: tuples of ints and of such tuples. -/
namespace Wk
open PySem PySem.Spec PyProof.Rows L2
/-! ### what is asked of the items -/
section
variable {P : Program} {w : World}
/-- of no class statement, n levels down -/
def NoCls (P : Program) (w : World) (n : Nat) (s : Shared) (v : Value) : Prop := ∀ (A : Around) (E : Value → Shared → Prop) (Q : Bool → Shared → Prop), Q false s → wpAny (model P w) A (ofAClassStatement n v) Q E s
/-- its hash is told by its value, n levels down -/
def ByVal (P : Program) (w : World) (n : Nat) (s : Shared) (v : Value) : Prop := ∀ (A : Around) (E : Value → Shared → Prop) (Q : Bool → Shared → Prop), Q true s → wpAny (model P w) A (hashByValue n v) Q E s
theorem NoCls.int (n : Nat) (s : Shared) (i : Int) (t : Tok) : NoCls P w n s (.int i t) := fun A E Q h => by
  rw [L2.ofAClass_int]
  exact wpAny_pure h
theorem ByVal.int (n : Nat) (s : Shared) (i : Int) (t : Tok) : ByVal P w n s (.int i t) := fun A E Q h => by
  rw [L2.hashBy_int]
  exact wpAny_pure h
theorem NoCls.tup {n : Nat} {s : Shared} {a : Addr} {o : Obj} {vs : Array Value} {m : Nat} (ho : s.heap.get? a = some o) (hc : o.cls = .type "tuple") (hd : o.data = .seq vs m) (hv : ∀ v ∈ vs.toList, NoCls P w n s v) : NoCls P w (n + 1) s (.ref a) := fun A E Q h => by
  unfold ofAClassStatement
  refine wpAny_bind (wpAny_typeOf ⟨o, ho, hc⟩ ?_)
  have e : (("tuple" : String) == "tuple") = true := by decide
  simp only [e, if_true, Bool.not_true, Bool.false_eq_true, if_false]
  try refine wpAny_bind (wpAny_pure ?_)
  try simp only [Bool.not_true, Bool.false_eq_true, if_false]
  refine (?_ : wpAny _ _ (seqItems? (.ref a) >>= _) _ _ s)
  refine wpAny_bind (wpAny_seqItems ho hd (wpAny_bind ?_))
  refine (?_ : wpAny _ _ (forIn vs _ _) _ _ s)
  rw [← Array.forIn_toList]
  refine wpAny_forIn_list _ (fun rest r s' => r.1 = none ∧ s' = s ∧ ∀ v ∈ rest, NoCls P w n s v) _ (fun v rest r s' hI => ?_) (fun r s' hI => ?_) _ _ ⟨rfl, rfl, hv⟩
  · obtain ⟨_, rfl, all⟩ := hI
    refine wpAny_bind (all v List.mem_cons_self _ _ _ ?_)
    simp only [Bool.false_eq_true, if_false]
    exact wpAny_pure ⟨rfl, rfl, fun u hu => all u (List.mem_cons_of_mem _ hu)⟩
  · obtain ⟨r1, r2⟩ := r
    obtain ⟨e1, rfl, _⟩ := hI
    cases e1
    exact wpAny_pure h
theorem ByVal.tup {n : Nat} {s : Shared} {a : Addr} {o : Obj} {vs : Array Value} {m : Nat} (ho : s.heap.get? a = some o) (hc : o.cls = .type "tuple") (hd : o.data = .seq vs m) (hv : ∀ v ∈ vs.toList, ByVal P w n s v) : ByVal P w (n + 1) s (.ref a) := fun A E Q h => by
  unfold hashByValue
  refine wpAny_bind (wpAny_specialOf ⟨o, ho, hc⟩ F.slot_tuple_hash.lookup ?_)
  refine (?_ : wpAny _ _ (seqItems? (.ref a) >>= _) _ _ s)
  refine wpAny_bind (wpAny_seqItems ho hd (wpAny_bind ?_))
  refine (?_ : wpAny _ _ (forIn vs _ _) _ _ s)
  rw [← Array.forIn_toList]
  refine wpAny_forIn_list _ (fun rest r s' => r.1 = none ∧ s' = s ∧ ∀ v ∈ rest, ByVal P w n s v) _ (fun v rest r s' hI => ?_) (fun r s' hI => ?_) _ _ ⟨rfl, rfl, hv⟩
  · obtain ⟨_, rfl, all⟩ := hI
    refine wpAny_bind (all v List.mem_cons_self _ _ _ ?_)
    simp only [Bool.not_true, Bool.false_eq_true, if_false]
    exact wpAny_pure ⟨rfl, rfl, fun u hu => all u (List.mem_cons_of_mem _ hu)⟩
  · obtain ⟨r1, r2⟩ := r
    obtain ⟨e1, rfl, _⟩ := hI
    cases e1
    exact wpAny_pure h
mutual
theorem both_key : ∀ (k : NestedKey) (v : Value) (n : Nat) (s : Shared), IntK s.heap k v → k.depth ≤ n → NoCls P w n s v ∧ ByVal P w n s v
  | .num i, _, n, s, r, _ => by cases r; exact ⟨.int n s i _, .int n s i _⟩
  | .tup ks, _, n, s, r, hn => by
    cases r with
    | tup a b c d =>
      rw [NestedKey.depth] at hn
      cases n with
      | zero => omega
      | succ n =>
        have q := both_keys ks _ n s d (by omega)
        exact ⟨.tup a b c fun v hv => (q v hv).1, .tup a b c fun v hv => (q v hv).2⟩
  | .none, _, _, _, r, _ => by cases r
  | .text _, _, _, _, r, _ => by cases r
theorem both_keys : ∀ (ks : List NestedKey) (vs : List Value) (n : Nat) (s : Shared), IntKs s.heap ks vs → NestedKey.depthAll ks ≤ n → ∀ v ∈ vs, NoCls P w n s v ∧ ByVal P w n s v
  | [], _, _, _, r, _, v, hv => by cases r; cases hv
  | k :: ks, _, n, s, r, hn, v, hv => by
    cases r with
    | cons a b =>
      rw [NestedKey.depthAll] at hn
      rcases List.mem_cons.mp hv with e | hv
      · subst e; exact both_key k _ n s a (by omega)
      · exact both_keys ks _ n s b (by omega) v hv
end
/-- a key that may lie in a set -/
structure KeyAt (h : Heap) (k : NestedKey) (a : Addr) : Prop where
  is : IntK h k (.ref a)
  dp : k.depth ≤ 8
theorem KeyAt.keep {h h' : Heap} {k : NestedKey} {a : Addr} (x : KeyAt h k a) (kp : ∀ b o, h.get? b = some o → o.cls = .type "tuple" → h'.get? b = some o) : KeyAt h' k a := ⟨IntK.kept kp _ _ x.is, x.dp⟩
theorem KeyAt.same {h h' : Heap} {k : NestedKey} {a d : Addr} {o : Obj} (x : KeyAt h k a) (ho : h.get? d = some o) (hex : o.cls = .type "set") (hs : Heap.SameBut d h h') : KeyAt h' k a := x.keep fun b ob e c => by
  refine (hs.2 b fun z => ?_).trans e
  subst z
  rw [ho] at e
  cases e
  rw [hex] at c
  exact absurd (Value.type.inj c) (by decide)
section
variable {A : Around} {E : Value → Shared → Prop} {s : Shared}
theorem KeyAt.unseen {k : NestedKey} {b : Addr} {Q : Bool → Shared → Prop} (hk : KeyAt s.heap k b) {ys : List Value} (hy : ∀ y ∈ ys, ∃ k' c, y = Value.ref c ∧ KeyAt s.heap k' c) (h : Q false s) : wpAny (model P w) A (searchCouldBeSeen (.ref b) ys) Q E s := by
  unfold searchCouldBeSeen
  refine wpAny_bind (wpAny_forIn_list _ (fun rest r s' => r.1 = none ∧ s' = s ∧ ∀ y ∈ rest, ∃ k' c, y = Value.ref c ∧ KeyAt s.heap k' c) _ (fun v rest r s' hI => ?_) (fun r s' hI => ?_) _ _ ⟨rfl, rfl, hy⟩)
  · obtain ⟨_, rfl, all⟩ := hI
    obtain ⟨k', c, rfl, hc⟩ := all v List.mem_cons_self
    have more : ∀ y ∈ rest, ∃ k' c, y = Value.ref c ∧ KeyAt s'.heap k' c := fun u hu => all u (List.mem_cons_of_mem _ hu)
    dsimp only
    by_cases q : (b == c || (carriedByValue (.ref b) && carriedByValue (.ref c))) = true
    · exact wp_if_pos q (wpAny_pure ⟨rfl, rfl, more⟩)
    · refine wp_if_neg q (wpAny_bind (quiet_key _ _ 8 _ (IntK.nst _ _ hk.is) hk.dp _ _ _ ?_))
      simp only [Bool.not_true, Bool.false_eq_true, if_false]
      refine wpAny_bind (quiet_key _ _ 8 _ (IntK.nst _ _ hc.is) hc.dp _ _ _ ?_)
      simp only [Bool.not_true, Bool.false_eq_true, if_false]
      refine wpAny_bind ((both_key _ _ 8 _ hk.is hk.dp).1 _ _ _ ?_)
      simp only [Bool.false_eq_true, if_false]
      refine wpAny_bind ((both_key _ _ 8 _ hc.is hc.dp).1 _ _ _ ?_)
      simp only [Bool.false_eq_true, if_false]
      exact wpAny_pure ⟨rfl, rfl, more⟩
  · obtain ⟨r1, r2⟩ := r
    obtain ⟨e1, rfl, _⟩ := hI
    cases e1
    exact wpAny_pure h
end
end
/-! ### the set -/
abbrev rowN (w : World) (p : Addr × NestedKey) : Int × Value := (p.2.hash w, .ref p.1)
structure SetN (P : Program) (w : World) (h : Heap) (a : Addr) (L : List (Addr × NestedKey)) (es : Array (Int × Value)) (ep : Nat) (t : SetTable) : Prop where
  ob : ∃ o, h.get? a = some o ∧ o.ExactSet ∧ o.data = .set es ep t
  rows : es.toList = L.map (rowN w)
  tab : TabOk t (L.map fun p => p.2.hash w)
  key : ∀ p ∈ L, KeyAt h p.2 p.1
  plain : t.plain = true
  led : w.params.followText "set-order" = true ∨ t.led = true
  room : L.length * 5 < t.mask * 3
  few : L.length < 64
section
variable {P : Program} {w : World} {A : Around} {E : Value → Shared → Prop} {s : Shared} {a : Addr} {L : List (Addr × NestedKey)} {es : Array (Int × Value)} {ep : Nat} {t : SetTable}
theorem rows_size (r : es.toList = L.map (rowN w)) : es.size = L.length := by
  have h := congrArg List.length r
  rwa [Array.length_toList, List.length_map] at h
theorem rows_at (r : es.toList = L.map (rowN w)) {i : Nat} {p : Addr × NestedKey} (h : L[i]? = some p) : es[i]? = some (rowN w p) := by
  rw [← Array.getElem?_toList, r, List.getElem?_map, h]
  rfl
theorem fits_tab (hsz : t.place.size = es.size) (hdm : t.dummies = #[]) (hl : es.size ≤ t.mask) : t.fits es.size = true := by
  unfold SetTable.fits SetTable.fill
  rw [hdm, Bool.and_eq_true, beq_iff_eq, decide_eq_true_eq]
  show t.place.size = es.size ∧ t.place.size + 0 ≤ t.mask
  omega
theorem SetN.fits (R : SetN P w s.heap a L es ep t) : t.fits es.size = true := by
  have h1 := R.tab.sz
  have h2 := rows_size R.rows
  have h3 := R.room
  rw [List.length_map] at h1
  exact fits_tab (by omega) R.tab.dm (by omega)
theorem nth_dummy (m : Nat) : ∀ (n : Nat) (p : SetTable.Probe), p.dummy = none → (nth m p n).dummy = none
  | 0, _, h => h
  | n + 1, p, h => nth_dummy m n (adv m p) (by unfold adv; split <;> exact h)
/-- an item that is not in it yet: the search comes to the first empty slot -/
theorem SetN.find (R : SetN P w s.heap a L es ep t) {x : Addr} {k : NestedKey} (hx : KeyAt s.heap k x) (new : ∀ p ∈ L, p.2 ≠ k) (hu : A.units + 8 < cLine) {K : Nat} (hKf : K < 10 * SetTable.turns t.mask)
    (hK : way t.mask (k.hash w) K ∉ t.place.toList) (hKb : ∀ c, c < K → way t.mask (k.hash w) c ∈ t.place.toList) {Q : SetFound → Shared → Prop} (hQ : Q (.free (way t.mask (k.hash w) K) false) s) :
    ∀ (f c : Nat) (stand : Option SetTable.Probe), stand.getD (t.probeStart (k.hash w)) = nth t.mask (runAt t.mask (SetTable.bits (k.hash w) % (t.mask + 1)) (SetTable.bits (k.hash w))) c → c ≤ K → K - c < f →
      wpAny (model P w) A (setSearchFrom a (.ref x) (k.hash w) true f stand) Q E s
  | 0, c, stand, _, _, hf => absurd hf (Nat.not_lt_zero _)
  | f + 1, c, stand, hst, hc, hf => by
    obtain ⟨o, ho, hex, hd⟩ := R.ob
    generalize hk : k.hash w = hh at *
    generalize hst0 : runAt t.mask (SetTable.bits hh % (t.mask + 1)) (SetTable.bits hh) = st0 at *
    have wy : ∀ q, (nth t.mask (nth t.mask st0 c) q).j = way t.mask hh (c + q) := fun q => by
      rw [← nth_add, ← hst0]
    rw [setSearchFrom_succ]
    refine wpAny_bind (wpAny_setState_of ho hd R.fits ?_)
    dsimp only
    refine wp_if_neg (by unfold SetTable.gaveWay; rw [mask_odd R.tab.mok]; decide) ?_
    try refine wpAny_bind (wpAny_pure ?_)
    have spec := go_spec t R.tab.ris R.tab.dm (fun i => (es[i]?.map (·.1)).getD 0) hh (10 * SetTable.turns t.mask) (K - c) (nth t.mask st0 c) (nth_dummy _ _ _ (by rw [← hst0]; rfl)) (by omega)
      (fun q hq => by rw [wy]; exact hKb (c + q) (by omega)) (by rw [wy, show c + (K - c) = K by omega]; exact hK)
    rcases spec with ⟨q, i, hq, hi, he, _, hpr⟩ | ⟨_, hpr⟩
    · have hpr' : t.probe (fun i => (es[i]?.map (·.1)).getD 0) hh (stand.getD (t.probeStart hh)) = some (.candidate (way t.mask hh (c + q)) i (nth t.mask st0 (c + (q + 1)))) := by
        rw [hst, ← wy, nth_add t.mask c st0 (q + 1)]
        exact hpr
      rw [hpr']
      dsimp only
      rw [wy] at hi
      have hil : i < L.length := by
        have h1 := (List.getElem?_eq_some_iff.mp hi).1
        have h2 := R.tab.sz
        rw [List.length_map] at h2
        rw [Array.length_toList] at h1
        omega
      obtain ⟨p, hp⟩ : ∃ p, L[i]? = some p := ⟨_, List.getElem?_eq_getElem hil⟩
      have hmem : p ∈ L := List.mem_of_getElem? hp
      have hne := new p hmem
      have hat := rows_at R.rows hp
      have rest : wpAny (model P w) A (searchRest a (.ref x) hh true f es t (way t.mask hh (c + q)) i (nth t.mask st0 (c + (q + 1)))) Q E s := by
        unfold searchRest
        rw [hat]
        dsimp only
        have nb : NestedKey.beq p.2 k = false := by
          cases z : NestedKey.beq p.2 k with
          | false => rfl
          | true => exact absurd (NestedKey.eq_of_beq _ _ z) hne
        refine wpAny_bind (wpAny_holding (eqAt_key p.2 k A s _ _ (IntK.nst _ _ (R.key p hmem).is) (IntK.nst _ _ hx.is) (by have := hx.dp; omega) _ _ _ _ ?_))
        rw [nb]
        refine wpAny_bind (wpAny_setState_of ho hd R.fits ?_)
        dsimp only
        refine wp_if_neg (by decide) ?_
        try refine wpAny_bind (wpAny_pure ?_)
        rw [sameMem]
        dsimp only
        have hsl : t.slot (way t.mask hh (c + q)) = .live i := slot_live R.tab.ris hi
        simp only [if_true, hsl, hat]
        refine wpAny_bind (wpAny_isSame_ref_self (wpAny_bind (wpAny_pure ?_)))
        simp only [if_true]
        refine wp_if_neg (by decide) ?_
        have := SetN.find R hx new hu hKf (by rw [hk]; exact hK) (by rw [hk]; exact hKb) (by rw [hk]; exact hQ) f (c + (q + 1)) (some (nth t.mask st0 (c + (q + 1)))) (by rw [hk, hst0]; rfl) (by omega) (by omega)
        rw [hk] at this
        exact this
      by_cases hl : t.led = true
      · refine wp_if_neg (by simp [hl]) ?_
        try refine wpAny_bind (wpAny_pure ?_)
        exact rest
      · refine wp_if_pos (by simp [hl]) (wpAny_bind (hx.unseen (fun y hy => ?_) ?_))
        · obtain ⟨e, he, rfl⟩ := List.mem_map.mp hy
          have he1 : e ∈ es ∧ e.1 = hh := by simpa using he
          have he2 : e ∈ es.toList := by simpa using he1.1
          rw [R.rows] at he2
          obtain ⟨p2, hp2, rfl⟩ := List.mem_map.mp he2
          exact ⟨p2.2, p2.1, rfl, R.key p2 hp2⟩
        · refine wp_if_neg (by decide) ?_
          try refine wpAny_bind (wpAny_pure ?_)
          exact rest
    · have hpr' : t.probe (fun i => (es[i]?.map (·.1)).getD 0) hh (stand.getD (t.probeStart hh)) = some (.empty (way t.mask hh K) none) := by
        rw [hst, show way t.mask hh K = (nth t.mask (nth t.mask st0 c) (K - c)).j by rw [wy, show c + (K - c) = K by omega]]
        exact hpr
      rw [hpr']
      dsimp only
      exact wpAny_pure hQ
theorem SetN.search (R : SetN P w s.heap a L es ep t) {x : Addr} {k : NestedKey} (hx : KeyAt s.heap k x) (new : ∀ p ∈ L, p.2 ≠ k) (hu : A.units + 8 < cLine) {Q : SetFound → Shared → Prop}
    (hQ : ∀ K, way t.mask (k.hash w) K ∉ t.place.toList → (∀ c, c < K → way t.mask (k.hash w) c ∈ t.place.toList) → Q (.free (way t.mask (k.hash w) K) false) s) : wpAny (model P w) A (setSearch a (.ref x) (k.hash w) true) Q E s := by
  have hroom := R.room
  obtain ⟨K, h1, h2, h3⟩ := R.tab.first (by rw [List.length_map]; omega) (k.hash w)
  have big : K < 100000 := by
    have : 10 * SetTable.turns t.mask ≤ 1420 := by
      unfold SetTable.turns
      rcases R.tab.mok with e | e | e <;> omega
    omega
  unfold setSearch
  exact R.find hx new hu h1 h2 h3 (hQ K h2 h3) 100000 0 none rfl (Nat.zero_le _) (by omega)
/-- the rows in another order -/
theorem rows_order (L : List (Addr × NestedKey)) (es : Array (Int × Value)) (order : Array Nat) (hr : es.toList = L.map (rowN w)) (hp : order.toList.Perm (List.range L.length)) :
    ∃ L2 : List (Addr × NestedKey), (order.filterMap (es[·]?)).toList = L2.map (rowN w) ∧ L2.Perm L ∧ (L2.map fun p => p.2.hash w) = order.toList.map fun i => (es.map (·.1)).getD i 0 := by
  have all : ∀ l : List Nat, (∀ i ∈ l, i < L.length) → l.filterMap (fun i => es[i]?) = (l.filterMap (fun i => L[i]?)).map (rowN w) ∧ ((l.filterMap (fun i => L[i]?)).map fun p => p.2.hash w) = l.map fun i => (es.map (·.1)).getD i 0 := by
    intro l
    induction l with
    | nil => intro _; exact ⟨rfl, rfl⟩
    | cons i l ih =>
      intro hl
      have hi := hl i List.mem_cons_self
      obtain ⟨e1, e2⟩ := ih fun j hj => hl j (List.mem_cons_of_mem _ hj)
      have g : L[i]? = some L[i] := List.getElem?_eq_getElem hi
      have ge := rows_at hr g
      have e4 : (es.map (·.1)).getD i 0 = (L[i]).2.hash w := by
        have e5 : (es.map (·.1))[i]? = some ((L[i]).2.hash w) := by rw [Array.getElem?_map, ge]; rfl
        simp [Array.getD_eq_getD_getElem?, e5]
      constructor
      · rw [List.filterMap_cons_some ge, List.filterMap_cons_some g, List.map_cons, e1]
      · rw [List.filterMap_cons_some g, List.map_cons, List.map_cons, e2, e4]
  obtain ⟨e1, e2⟩ := all order.toList fun i hi => List.mem_range.mp (hp.mem_iff.mp hi)
  refine ⟨order.toList.filterMap (fun i => L[i]?), by first | (rw [Array.toList_filterMap]; exact e1) | simpa using e1, ?_, e2⟩
  have h2 : (List.range L.length).filterMap (fun i => L[i]?) = L := by
    have : ∀ n, n ≤ L.length → (List.range n).filterMap (fun i => L[i]?) = L.take n := by
      intro n
      induction n with
      | zero => intro _; rfl
      | succ n ih =>
        intro hn
        have hlt : n < L.length := hn
        rw [List.range_succ, List.filterMap_append, ih (Nat.le_of_lt hlt), List.take_succ, List.getElem?_eq_getElem hlt, List.filterMap_cons_some (List.getElem?_eq_getElem hlt)]
        rfl
    rw [this _ (Nat.le_refl _), List.take_length]
  have := hp.filterMap (fun i => L[i]?)
  rw [h2] at this
  exact this
/-- the table laid anew, larger -/
theorem relayN {o : Obj} (ho : s.heap.get? a = some o) (hex : o.ExactSet) (hd : o.data = .set es ep t) (hr : es.toList = L.map (rowN w)) (hsz : t.place.size = es.size) (hdm : t.dummies = #[]) (hfl : es.size ≤ t.mask)
    (key : ∀ p ∈ L, KeyAt s.heap p.2 p.1) (pl : t.plain = true) (ld : w.params.followText "set-order" = true ∨ t.led = true) (few : L.length < 64) {wanted M : Nat}
    (hw : SetTable.sizeAbove wanted - 1 = M) (hM : MaskOk M) (hw2 : SetTable.sizeAbove wanted ≤ 128) (hn : L.length * 5 < M * 3) {Q : Unit → Shared → Prop}
    (hQ : ∀ h' L' es' ep' t', Heap.SameBut a s.heap h' → SetN P w h' a L' es' ep' t' → L'.Perm L → Q () { s with heap := h' }) : wpAny (model P w) A (setRelay a wanted) Q E s := by
  have hsl := rows_size hr
  obtain ⟨t', order, e, hp, T, em, el, epl, ed⟩ := relaid_ok t (hs := es.map (·.1)) (wanted := wanted) hw hM (by rw [Array.size_map, hsl]; omega)
  rw [Array.size_map, hsl] at hp
  obtain ⟨L2, r1, r2, r3⟩ := rows_order L es order hr hp
  rw [← r3] at T
  have hs2 : (order.filterMap (es[·]?)).size = es.size := by rw [rows_size r1, r2.length_eq, hsl]
  rw [setRelay_eq]
  refine wpAny_bind (wpAny_setState_of ho hd (fits_tab hsz hdm hfl) ?_)
  dsimp only
  refine wp_if_neg (by rw [sizeLine_eq]; omega) ?_
  try refine wpAny_bind (wpAny_pure ?_)
  rw [e]
  dsimp only
  refine wpAny_bind (wp_if_neg (by rw [hs2]; simp) ?_)
  try refine wpAny_bind (wpAny_pure ?_)
  refine wpAny_pure ?_
  dsimp only
  refine wpAny_storeSet_of ho hd ?_ (by rw [hs2, hsl, sizeLine_eq]; omega)
  have sb : Heap.SameBut a s.heap (s.heap.update a (Obj.putSet (order.filterMap (es[·]?)) t')) := Heap.SameBut.update ..
  exact hQ _ L2 _ (ep + 1) t' sb ⟨⟨_, store_at ho hd, ⟨hex.1, hex.2.1, hex.2.2⟩, rfl⟩, r1, T, fun p hpm => (key p (r2.mem_iff.mp hpm)).same ho hex.1 sb, by rw [epl]; exact pl, by rw [el]; exact ld, by rw [r2.length_eq, em]; exact hn, by rw [r2.length_eq]; exact few⟩ r2
/-- one more -/
theorem SetN.add (R : SetN P w s.heap a L es ep t) {x : Addr} {k : NestedKey} (hx : KeyAt s.heap k x) (new : ∀ p ∈ L, p.2 ≠ k) (hu : A.units + 8 < cLine) (hfew : L.length + 1 < 64) {Q : Bool → Shared → Prop}
    (hQ : ∀ b h' L' es' ep' t', Heap.SameBut a s.heap h' → SetN P w h' a L' es' ep' t' → L'.Perm ((x, k) :: L) → Q b { s with heap := h' }) : wpAny (model P w) A (setAddHashed a (.ref x) (k.hash w)) Q E s := by
  obtain ⟨o, ho, hex, hd⟩ := R.ob
  have hsl := rows_size R.rows
  have hroom := R.room
  unfold setAddHashed
  refine wpAny_holding ?_
  rw [show (100000 : Nat) = 99999 + 1 from rfl, setAddHashedIn_succ]
  refine wpAny_bind (wpAny_setState_of ho hd R.fits ?_)
  dsimp only
  refine wp_if_neg (by simp [byScan, Value.scannable]) ?_
  try refine wpAny_bind (wpAny_pure ?_)
  refine wpAny_bind (R.search hx new hu fun K hK hb => ?_)
  dsimp only
  refine wpAny_bind (wpAny_setState_of ho hd R.fits ?_)
  dsimp only
  obtain ⟨q1, q2, q3, q4, q5, q6, q7, q8, q9⟩ := R.tab.put hK hb
  have hp1 : (t.put (way t.mask (k.hash w) K)).1.plain = true := by rw [q6]; exact R.plain
  generalize hpt : t.put (way t.mask (k.hash w) K) = pt at q1 q3 q4 q5 q6 q7 q8 q9 hp1 ⊢
  obtain ⟨t1, p⟩ := pt
  dsimp only at q1 q3 q4 q5 q6 q7 q8 q9 hp1 ⊢
  subst q1
  first
    | (refine wpAny_bind ?_; refine wp_if_pos hp1 ?_; refine (both_key _ _ 8 _ hx.is hx.dp).2 _ _ _ ?_)
    | refine wp_if_pos hp1 (wpAny_bind ((both_key _ _ 8 _ hx.is hx.dp).2 _ _ _ ?_))
  simp only [if_true]
  generalize SetTable.below t.place (way t.mask (k.hash w) K) = p at q2 q3 ⊢
  have hin : (SetTable.insertAt es p (k.hash w, Value.ref x)).toList = (L.take p ++ (x, k) :: L.drop p).map (rowN w) := by
    rw [SetTable.toList_insertAt, List.map_append, List.map_cons, List.map_take, List.map_drop, R.rows]
  have pm := put_perm L p (x, k)
  have hlen : (L.take p ++ (x, k) :: L.drop p).length = L.length + 1 := pm.length_eq
  rw [show (L.map fun p => p.2.hash w).take p ++ k.hash w :: (L.map fun p => p.2.hash w).drop p = (L.take p ++ (x, k) :: L.drop p).map (fun p => p.2.hash w) by rw [List.map_append, List.map_cons, List.map_take, List.map_drop]] at q3
  have hes := rows_size hin
  rw [hlen] at hes
  generalize SetTable.insertAt es p (k.hash w, Value.ref x) = es1 at hin hes ⊢
  generalize L.take p ++ (x, k) :: L.drop p = L1 at pm hlen q3 hin
  refine wpAny_bind (wpAny_storeSet_of ho hd ?_ (by rw [hes, sizeLine_eq]; omega))
  have sb : Heap.SameBut a s.heap (s.heap.update a (Obj.putSet es1 t1)) := Heap.SameBut.update ..
  have ho1 := store_at (es' := es1) (t' := t1) ho hd
  generalize s.heap.update a (Obj.putSet es1 t1) = h1 at sb ho1 ⊢
  have key1 : ∀ p ∈ L1, KeyAt h1 p.2 p.1 := fun p hp => by
    rcases List.mem_cons.mp (pm.mem_iff.mp hp) with e | hp
    · subst e; exact hx.same ho hex.1 sb
    · exact (R.key p hp).same ho hex.1 sb
  have ld1 : w.params.followText "set-order" = true ∨ t1.led = true := by rw [q5]; exact R.led
  by_cases hf : t1.tooFull = true
  · first
      | (refine wpAny_bind ?_; refine wp_if_pos (by simp [hf]) ?_)
      | (refine wp_if_pos (by simp [hf]) ?_; refine wpAny_bind ?_)
    have hfull : (L.length + 1) * 5 ≥ t1.mask * 3 := by
      have h := hf
      unfold SetTable.tooFull at h
      rwa [decide_eq_true_eq, q9, List.length_map] at h
    rw [hsl]
    have hsz1 : t1.place.size = es1.size := by
      have h := q3.sz
      rw [List.length_map, hlen] at h
      rw [h, hes]
    have two : (t.mask = 7 ∧ L.length = 4) ∨ (t.mask = 31 ∧ L.length = 18) := by
      rcases R.tab.mok with e | e | e
      · left; rw [q4, e] at hfull; rw [e] at hroom; exact ⟨e, by omega⟩
      · right; rw [q4, e] at hfull; rw [e] at hroom; exact ⟨e, by omega⟩
      · exfalso; rw [q4, e] at hfull; omega
    have go : ∀ M, SetTable.sizeAbove (SetTable.grown (L.length + 1)) - 1 = M → MaskOk M → SetTable.sizeAbove (SetTable.grown (L.length + 1)) ≤ 128 → (L.length + 1) * 5 < M * 3 →
        wpAny (model P w) A (setRelay a (SetTable.grown (L.length + 1))) (fun _ s' => wpAny (model P w) A (pure true) Q E s') E { s with heap := h1 } := fun M m1 m2 m3 m4 => by
      refine relayN (s := { s with heap := h1 }) ho1 ⟨hex.1, hex.2.1, hex.2.2⟩ rfl hin hsz1 q3.dm (by rw [hes, q4]; rcases two with ⟨e, e2⟩ | ⟨e, e2⟩ <;> omega) key1 hp1 ld1 (by rw [hlen]; exact hfew) m1 m2 m3 (by rw [hlen]; exact m4) fun h2 L2 es2 ep2 t2 sb2 R2 pm2 => ?_
      exact wpAny_pure (hQ true h2 L2 es2 ep2 t2 (sb.trans sb2) R2 (pm2.trans pm))
    rcases two with ⟨_, e2⟩ | ⟨_, e2⟩
    · exact go 31 (by rw [e2, size_20]) (.inr (.inl rfl)) (by rw [e2, size_20]; decide) (by omega)
    · exact go 127 (by rw [e2, size_76]) (.inr (.inr rfl)) (by rw [e2, size_76]; decide) (by omega)
  · first
      | refine wp_if_neg (by simp [hf]) ?_
      | (refine wpAny_bind ?_; refine wp_if_neg (by simp [hf]) ?_; refine wpAny_pure ?_)
    refine wpAny_pure (hQ true h1 L1 es1 (ep + 1) t1 sb ⟨⟨_, ho1, ⟨hex.1, hex.2.1, hex.2.2⟩, rfl⟩, hin, q3, key1, hp1, ld1, ?_, by rw [hlen]; exact hfew⟩ pm)
    have h := hf
    unfold SetTable.tooFull at h
    rw [decide_eq_true_eq, q9, List.length_map] at h
    rw [hlen]
    omega
theorem SetN.keep {h h' : Heap} (R : SetN P w h a L es ep t) (ha : ∀ o, h.get? a = some o → h'.get? a = some o) (ht : ∀ p ∈ L, KeyAt h' p.2 p.1) : SetN P w h' a L es ep t := by
  obtain ⟨o, ho, r⟩ := R.ob
  exact ⟨⟨o, ha o ho, r⟩, R.rows, R.tab, ht, R.plain, R.led, R.room, R.few⟩
theorem setN_fresh {h : Heap} {a : Addr} (ho : h.get? a = some { cls := .type "set", dict := none, data := .set #[] 0 (.fresh 0 0 (!w.params.followText "set-order")) }) : SetN P w h a [] #[] 0 (.fresh 0 0 (!w.params.followText "set-order")) where
  ob := ⟨_, ho, ⟨rfl, rfl, rfl⟩, rfl⟩
  rows := rfl
  tab := ⟨List.Pairwise.nil, rfl, rfl, .inl rfl, fun x hx => (by cases hx), fun i h j hi => (by simp at hi)⟩
  key := fun p hp => (by cases hp)
  plain := rfl
  led := by
    show _ ∨ (!w.params.followText "set-order") = true
    cases w.params.followText "set-order"
    · exact .inr rfl
    · exact .inl rfl
  room := by
    show 0 * 5 < 7 * 3
    decide
  few := by
    show 0 < 64
    decide
end
/-! ### set(t) -/
section
variable {P : Program} {w : World} {A : Around} {E : Value → Shared → Prop} {s : Shared}
/-- the set's loop, the items all unlike -/
theorem setN_loop {I : Addr} {fp wr : List Addr} {G : Array GenState → Array GenState → Prop} {n : Nat} {Pv : Nat → Value → Prop} {St : Nat → Shared → Prop} {R : Result → Shared → Prop}
    (W : WalksS P w A.in1 I fp wr G n Pv St) (S : Addr) (hSf : S ∉ fp) (ks : List (Addr × NestedKey)) (hn : n = ks.length) (few : ks.length < 64) (nd : (ks.map (·.2)).Nodup) (hval : ∀ i v, Pv i v → ∃ p, ks[i]? = some p ∧ v = .ref p.1)
    (h0 : Heap) (hk : ∀ p ∈ ks, KeyAt h0 p.2 p.1) (hS0 : h0.get? S = none) (hw0 : ∀ b ∈ wr, h0.get? b = none) (hu : A.in1.units + 8 < cLine) :
    ∀ (m i : Nat) (s : Shared), n - i = m → i ≤ n → St i s → (∀ b o, h0.get? b = some o → s.heap.get? b = some o) → (∃ L es ep t, SetN P w s.heap S L es ep t ∧ L.Perm (ks.take i)) →
      (∀ s' L es ep t, Moved (S :: wr) G s s' → SetN P w s'.heap S L es ep t → L.Perm ks → (∀ b o, h0.get? b = some o → s'.heap.get? b = some o) → R (.ok (.ret .none)) s') →
      codeAny (model P w) A (.builtin "set.update.loop" ⟨[.ref S, .ref I], []⟩) R s := by
  have hSw : S ∉ wr := fun h => hSf (W.sub _ h)
  have hsub : ∀ b ∈ wr, b ∈ S :: wr := fun b hb => List.mem_cons_of_mem _ hb
  have mv : ∀ {s s' : Shared}, Moved wr G s s' → (∀ b o, h0.get? b = some o → s.heap.get? b = some o) → ∀ b o, h0.get? b = some o → s'.heap.get? b = some o := fun hm hkp b o e =>
    hm.heap b o (fun hb => by rw [hw0 b hb] at e; cases e) (hkp b o e)
  have held : ∀ {h' : Heap}, (∀ b o, h0.get? b = some o → h'.get? b = some o) → ∀ p ∈ ks, KeyAt h' p.2 p.1 := fun kp p hp => (hk p hp).keep fun b o e _ => kp b o e
  intro m
  induction m with
  | zero =>
    intro i s hm hi hst hkp ⟨L, es, ep, t, hS, g⟩ hR
    obtain rfl : i = n := by omega
    refine codeAny_builtin F.entry_set_update_loop ?_
    rw [Around.under_plainId F.plain_set_update_loop _]
    refine (?_ : wpAny _ A.in1 (pyNext (.ref I) >>= _) _ _ s)
    refine wpAny_bind (W.done s _ _ hst fun s' hm => ?_)
    refine (?_ : wpAny _ A.in1 (ret Value.none) _ _ s')
    have hkp' := mv hm hkp
    rw [hn, List.take_length] at g
    exact wpAny_pure (hR s' L es ep t (hm.mono hsub) (hS.keep (fun o e => hm.heap S o hSw e) fun p hp => held hkp' p (g.mem_iff.mp hp)) g hkp')
  | succ m ih =>
    intro i s hm hi hst hkp ⟨L, es, ep, t, hS, g⟩ hR
    have hlt : i < n := by omega
    refine codeAny_builtin F.entry_set_update_loop ?_
    rw [Around.under_plainId F.plain_set_update_loop _]
    refine (?_ : wpAny _ A.in1 (pyNext (.ref I) >>= _) _ _ s)
    refine wpAny_bind (W.item i s _ _ hlt hst fun v s' hP hst' hm => ?_)
    obtain ⟨p, hp, rfl⟩ := hval i v hP
    have hkp' := mv hm hkp
    have hS' : SetN P w s'.heap S L es ep t := hS.keep (fun o e => hm.heap S o hSw e) fun q hq => held hkp' q (List.mem_of_mem_take (g.mem_iff.mp hq))
    have hx : KeyAt s'.heap p.2 p.1 := held hkp' p (List.mem_of_getElem? hp)
    have new : ∀ q ∈ L, q.2 ≠ p.2 := fun q hq e => by
      obtain ⟨j, hj, ej⟩ := List.getElem_of_mem (g.mem_iff.mp hq)
      rw [List.length_take] at hj
      have hji : j < i := by omega
      have hil : i < ks.length := by omega
      have h1 : (ks.map (·.2))[j]'(by rw [List.length_map]; omega) = p.2 := by
        rw [List.getElem_map, ← e, ← ej, List.getElem_take]
      have h2 : (ks.map (·.2))[i]'(by rw [List.length_map]; omega) = p.2 := by
        have := List.getElem?_eq_some_iff.mp hp
        rw [List.getElem_map, this.2]
      exact List.pairwise_iff_getElem.mp nd j i (by rw [List.length_map]; omega) (by rw [List.length_map]; omega) hji (h1.trans h2.symm)
    have llen : L.length = i := by rw [g.length_eq, List.length_take]; omega
    refine (?_ : wpAny _ A.in1 (holding [Value.ref p.1] (setAdd S (.ref p.1)) >>= _) _ _ s')
    refine wpAny_bind (wpAny_holding ?_)
    unfold setAdd
    refine wpAny_holding (wpAny_bind (pyHash_key p.2 _ _ _ _ (IntK.nst _ _ hx.is) (by have := hx.dp; omega) ?_))
    refine SetN.add (s := { s' with toks := s'.toks + p.2.draws }) hS' hx new hu (by omega) fun b h' L' es' ep' t' hsb hS2 pm => ?_
    have g' : L'.Perm (ks.take (i + 1)) := by
      have e : ks.take (i + 1) = ks.take i ++ [p] := by rw [List.take_succ, hp]; rfl
      rw [e]
      exact (pm.trans (g.cons p)).trans (List.perm_append_singleton p _).symm
    have hkp2 : ∀ b o, h0.get? b = some o → h'.get? b = some o := fun b o e => (hsb.2 b (fun z => by rw [z, hS0] at e; cases e)).trans (hkp' b o e)
    refine wpAny_pure ⟨plainId_quiet F.plain_set_update_loop _, ih (i + 1) _ (by omega) hlt (W.frame _ s' _ _ hst' (Nat.le_add_right _ _) fun b hb o e => ?_) hkp2 ⟨L', es', ep', t', hS2, g'⟩ fun s'' L2 es2 ep2 t2 hm'' hS'' g'' hkp'' => ?_⟩
    · rw [hsb.2 b (fun h : b = S => hSf (by rw [← h]; exact hb))]; exact e
    · refine hR s'' L2 es2 ep2 t2 (Moved.trans W.gtrans ((hm.mono hsub).then_heap (Nat.le_add_right _ _) fun b o hb e => ?_) hm'') hS'' g'' hkp''
      rw [hsb.2 b (fun h : b = S => hb (by rw [h]; exact List.mem_cons_self))]; exact e
set_option maxHeartbeats 3200000 in
theorem setN_call {l : Addr} {items : Array Value} (ks : List (Addr × NestedKey)) {Q : Value → Shared → Prop} (hh : A.handled = none) (hl : s.heap.IsTuple l items) (hit : items.toList = ks.map fun p => Value.ref p.1)
    (hk : ∀ p ∈ ks, KeyAt s.heap p.2 p.1) (few : ks.length < 64) (nd : (ks.map (·.2)).Nodup) (hu : A.units + 16 < cLine)
    (h : ∀ (h' : Heap) (tk : Nat) L es ep t, SetN P w h' s.heap.objs.size L es ep t → L.Perm ks → (∀ b o, s.heap.get? b = some o → h'.get? b = some o) → Q (.ref s.heap.objs.size) { s with heap := h', toks := tk }) :
    wpAny (model P w) A (call (.type "set") [.ref l]) Q E s := by
  have hisz : items.size = ks.length := by
    have q := congrArg List.length hit
    rwa [Array.length_toList, List.length_map] at q
  obtain ⟨c, tl, hmro⟩ := F.called_set.mro
  have hmade := F.called_set.made
  have hsub := F.called_set.sub
  refine wpAny_call (codeAny_of_tree ?_)
  refine (?_ : wpAny _ _ (callAny (.type "set") _) _ _ _)
  refine wpAny_pure ⟨Code.quiet_builtin _ (by decide +kernel), codeAny_builtin F.entry_type_call ?_⟩
  rw [Around.under_plain (weight_type_call_type "set" [.ref l] []) rfl]
  have h1 := F.called_set.notType
  have h2 := F.called_set.canCreate
  have hct := F.typeCall_set_1 (.ref l)
  repeat (any_goals (first | assumption | wp_step))
  refine codeAny_mono (code_set_led1 (.ref l) (E := E) (Q₁ := fun obj s₁ => obj = .ref s.heap.objs.size ∧ s₁ = { s with heap := s.heap.push { cls := .type "set", dict := none, data := .set #[] 0 (.fresh 0 0 (!w.params.followText "set-order")) } }) ⟨rfl, rfl⟩) fun r s₁ hr => ?_
  match r, hr with
  | .error e, hr => exact hr
  | .ok (.ret obj), hr =>
    obtain ⟨rfl, rfl⟩ := hr
    have hS : (s.heap.push { cls := .type "set", dict := none, data := .set #[] 0 (.fresh 0 0 (!w.params.followText "set-order")) }).get? s.heap.objs.size = some { cls := .type "set", dict := none, data := .set #[] 0 (.fresh 0 0 (!w.params.followText "set-order")) } := Heap.get?_push_size _ rfl
    have hT : Shared.TypeIs { s with heap := s.heap.push { cls := .type "set", dict := none, data := .set #[] 0 (.fresh 0 0 (!w.params.followText "set-order")) } } (.ref s.heap.objs.size) "set" := ⟨_, hS, rfl⟩
    have hli := F.called_set.init.lookup
    have hbi := F.called_set.init.bind (.ref s.heap.objs.size)
    repeat (any_goals (first | assumption | wp_step))
    refine codeAny_mono (codeAny_call_builtin (R := wants (fun r s₂ => r = .none ∧ ∃ h' tk L es ep t, s₂ = { s with heap := h', toks := tk } ∧ SetN P w h' s.heap.objs.size L es ep t ∧ L.Perm ks ∧
        (∀ b o, s.heap.get? b = some o → h'.get? b = some o)) E) F.called_set.init.plain F.entry_set_init (check_set_init_1 hT ?_)) fun r₂ s₂ hr₂ => ?_
    · obtain ⟨ol, hol, hcl, nl, hdl⟩ := hl
      obtain ⟨ocls, odict, odata, oslots⟩ := ol
      simp only at hcl hdl
      subst hcl; subst hdl
      have hol' : (s.heap.push { cls := .type "set", dict := none, data := .set #[] 0 (.fresh 0 0 (!w.params.followText "set-order")) }).get? l = some { cls := .type "tuple", dict := odict, data := .seq items nl, slots := oslots } := Heap.get?_push_of_some _ hol
      have hsls := F.sub_tuple_set
      have hslf := F.sub_tuple_frozenset
      have hne : (Value.type "tuple" == Value.type "dict") = false := by decide
      have hl1 : (s.heap.push { cls := .type "set", dict := none, data := .set #[] 0 (.fresh 0 0 (!w.params.followText "set-order")) }).IsTuple l items := ⟨_, hol', rfl, nl, rfl⟩
      unfold Builtin.«set.__init__» noKeywords Builtin.Frozenset.updateFrom
      generalize hPI : pyIter = PI
      wp_walk
      subst hPI
      refine wpAny_pyIter_tuple hl1 ?_
      refine wpAny_bind (wpAny_runValue ?_)
      have hlS : l < s.heap.objs.size := Heap.lt_size hol
      have hh3 : A.in1.in1.in1.handled = none := by simp [hh]
      have hneI : l ≠ (s.heap.push { cls := .type "set", dict := none, data := .set #[] 0 (.fresh 0 0 (!w.params.followText "set-order")) }).objs.size := by
        rw [Heap.size_push]; exact Nat.ne_of_lt (Nat.lt_succ_of_lt hlS)
      have hSf : s.heap.objs.size ∉ [(s.heap.push { cls := .type "set", dict := none, data := .set #[] 0 (.fresh 0 0 (!w.params.followText "set-order")) }).objs.size, l] := by
        rw [Heap.size_push]; simp only [List.mem_cons, List.mem_singleton, List.not_mem_nil, or_false, not_or]
        exact ⟨Nat.ne_of_lt (Nat.lt_succ_self _), Nat.ne_of_gt hlS⟩
      have hval : ∀ (i : Nat) (v : Value), items[i]? = some v → ∃ p, ks[i]? = some p ∧ v = .ref p.1 := fun i v hv => by
        have q : items.toList[i]? = some v := by rw [Array.getElem?_toList]; exact hv
        rw [hit, List.getElem?_map] at q
        cases hq : ks[i]? with
        | none => rw [hq] at q; cases q
        | some p =>
          rw [hq] at q
          exact ⟨p, rfl, (Option.some.inj q).symm⟩
      have none_of : ∀ b, s.heap.objs.size ≤ b → s.heap.get? b = none := fun b hb => by
        cases q : s.heap.get? b with
        | none => rfl
        | some o => exact absurd (Nat.lt_of_lt_of_le (Heap.lt_size q) hb) (Nat.lt_irrefl _)
      refine setN_loop ((Walks.tuple hh3 _ l hneI items).toS) s.heap.objs.size
        hSf ks hisz few nd hval s.heap hk (none_of _ (Nat.le_refl _)) (fun b hb => none_of b (by
          rw [List.mem_singleton.mp hb, Heap.size_push]
          exact Nat.le_succ _)) (by show A.units + 1 + 1 + 1 + 8 < _; omega) (items.size - 0) 0 _ (by omega) (Nat.zero_le _)
        ⟨⟨_, Heap.get?_push_size _ rfl, rfl, rfl⟩, (hl1.push _)⟩ (fun b o e => Heap.get?_push_of_some _ (Heap.get?_push_of_some _ e)) ?hS0 ?hR
      case hS0 =>
        refine ⟨[], #[], 0, _, setN_fresh (Heap.get?_push_of_some _ hS), .nil⟩
      case hR =>
        intro s' L es ep t hm hS' g' hkp
        obtain ⟨h', g2, d', tk', os'⟩ := s'
        have eg : g2 = s.gens := hm.gens
        have ed : d' = s.drawn := hm.drawn
        have eo : os' = s.os := hm.os
        subst eg; subst ed; subst eo
        refine (?_ : wpAny _ _ _ _ _ _)
        refine wpAny_pure ?_
        refine (?_ : wpAny _ _ (ret Value.none) _ _ _)
        exact wpAny_pure ⟨rfl, h', tk', L, es, ep, t, rfl, hS', g', hkp⟩
    · match r₂, hr₂ with
      | .error e, hr₂ => exact hr₂
      | .ok (.ret r), hr₂ =>
        obtain ⟨rfl, h', tk, L, es, ep, t, rfl, hS', g', hk'⟩ := hr₂
        repeat (any_goals (first | assumption | wp_step))
        exact h _ _ _ _ _ _ hS' g' hk'
end
end Wk

/-! T26: the rule for len(set(t)), over T25. -/
namespace Wk
open PySem PySem.Spec PyProof.Rows L2
structure SetOk (ks : List NestedKey) : Prop where
  pu : ∀ k ∈ ks, pureK k = true
  hd : ∀ k ∈ ks, ∃ xs, k = .tup xs
  dp : ∀ k ∈ ks, k.depth ≤ 8
  nd : ks.Nodup
  few : ks.length < 64
theorem keys_pairs {X : Cx} {pins : List (Addr × Obj)} {σ : L2.St} {H : Hp} {s : Shared} (I : L2.Inv X pins σ H s) : ∀ {ks : List NestedKey} {vs : List V} {us : List Value}, (∀ k ∈ ks, pureK k = true) → (∀ k ∈ ks, ∃ xs, k = .tup xs) → (∀ k ∈ ks, k.depth ≤ 8) → RDs X.K H vs (ks.map NestedKey.data) → Vals vs us →
    ∃ ps : List (Addr × NestedKey), us = ps.map (fun p => Value.ref p.1) ∧ ps.map (·.2) = ks ∧ ∀ p ∈ ps, KeyAt s.heap p.2 p.1
  | [], _, _, _, _, _, r, rv => by
    cases r
    cases rv
    exact ⟨[], rfl, rfl, fun u hu => nomatch hu⟩
  | k :: ks, _, _, hp, ht, hd, r, rv => by
    cases r with
    | cons a b =>
      cases rv with
      | cons c d =>
        obtain ⟨ps, e1, e2, e3⟩ := keys_pairs I (fun j hj => hp j (List.mem_cons_of_mem _ hj)) (fun j hj => ht j (List.mem_cons_of_mem _ hj)) (fun j hj => hd j (List.mem_cons_of_mem _ hj)) b d
        have i := intK_of I k _ _ (hp k List.mem_cons_self) a c
        obtain ⟨xs, rfl⟩ := ht k List.mem_cons_self
        have dp := hd _ List.mem_cons_self
        cases i with
        | @tup ad o vs n _ q1 q2 q3 q4 =>
          refine ⟨(ad, .tup xs) :: ps, by rw [List.map_cons, e1], by rw [List.map_cons, e2], fun p hp => ?_⟩
          rcases List.mem_cons.mp hp with z | z
          · subst z; exact ⟨.tup q1 q2 q3 q4, dp⟩
          · exact e3 p z
section
variable {X : Cx}
def tLenSetN (K : PySem.W.Frag) (te : TE) : TE := fun σ H Q => te σ H fun v H1 => ∃ (a : Addr) (vs : List V) (ks : List NestedKey), v = .ref a ∧ SqT K H1 a vs ∧ RDs K H1 vs (ks.map NestedKey.data) ∧ SetOk ks ∧ Q (.int ks.length) H1
theorem pe_lenSetN {a : Expr} {ta : TE} {p p2 q pos : Pos} (hc : X.calm = true) (hu : X.A.units + 68 < cLine) (hg : Gl X "len") (hm : X.mg "len" = none) (hg2 : Gl X "set") (hm2 : X.mg "set" = none) (ha : PE X a ta)
    (na : starEach [a] X.env = (false, eval a X.env) :: starEach [] X.env := by rfl) : PE X (.Call (.Name "len" p) [.Call (.Name "set" p2) [a] [] q] [] pos) (tLenSetN X.K ta) := by
  refine ⟨fun pins s σ H Q I h => ?_⟩
  refine Call_ (ld_blt I hg hm PySem.boot_len (PyProof.Rows.callWith_builtin1 (PyProof.Rows.args_cons ?_ rfl) rfl rfl))
  refine Call_ (ld_blt I hg2 hm2 PyProof.Rows.boot_set ?_)
  refine PyProof.Rows.callWith_type1 (PyProof.Rows.args_cons (thn (ha.run pins s σ H _ I h) fun v s1 ⟨x, H1, I1, r1, q1⟩ => PyProof.Rows.args_nil ?_) na) na rfl
  obtain ⟨l, vs, ks, rfl, hq, rd, ok, q1⟩ := q1
  cases r1
  obtain ⟨its, rv, it, hz⟩ := I1.tuple hq
  obtain ⟨ps, e1, e2, e3⟩ := keys_pairs I1 ok.pu ok.hd ok.dp rd rv
  have hl : ps.length = ks.length := by rw [← e2, List.length_map]
  refine setN_call (P := X.prog) (w := X.w) ps (I1.ok.hd hc) it (by simpa using e1) e3 (by have := ok.few; omega) (by rw [e2]; exact ok.nd) (by omega) fun h' tk L es ep t R pm hk => ?_
  refine PyProof.Rows.args_nil ?_
  obtain ⟨o, ho, hex, hd⟩ := R.ob
  have hn : es.size = ks.length := by rw [rows_size R.rows, pm.length_eq, hl]
  have I2 : Inv X pins σ H1 { s1 with heap := h', toks := tk } := I1.kept fun b o e => hk b o e
  refine call_len_set ho hex hd (SetN.fits (s := { s1 with heap := h', toks := tk }) R) (by rw [hn]; have := ok.few; omega) ⟨.int ks.length, H1, I2.tok _, ⟨_, by rw [hn]⟩, q1⟩
end
noncomputable def setOk (ds : List D) : Bool := ask (∃ ks, ds = ks.map NestedKey.data ∧ SetOk ks)
noncomputable def opLenSet (u : U) (h : Sto) : Res U := match u with
  | .d (.tuple ds) => if setOk ds then .ok (.d (.int ds.length)) h else .stuck
  | _ => .stuck
section
variable {X : Cx} {W : WX} {a : Expr} {f : Ev} {p p2 q pos : Pos}
theorem se_lenSet (hc : X.calm = true) (hu : X.A.units + 68 < cLine) (hg : Gl X "len") (hm : X.mg "len" = none) (hg2 : Gl X "set") (hm2 : X.mg "set" = none) (he : SE X W a f)
    (na : starEach [a] X.env = (false, eval a X.env) :: starEach [] X.env := by rfl) : SE X W (.Call (.Name "len" p) [.Call (.Name "set" p2) [a] [] q] [] pos) (eUn opLenSet f) :=
  ⟨pe_imp (pe_lenSetN hc hu hg hm hg2 hm2 he.pe na) fun σ H Q ⟨env, m, h, sta, sl, out⟩ => rd_of sta sl out fun u h1 x H1 m1 g1 s1 r1 out1 => by
    unfold opLenSet at out1
    split at out1
    · rename_i ds
      split at out1
      · rename_i hk
        obtain ⟨ks, rfl, ok⟩ := ask_iff.mp hk
        have rr := r1.rd
        cases rr with
        | tup t1 d1 => exact ⟨_, _, ks, rfl, t1, d1, ok, Out.ok (b := V.int ks.length) out1 (Gr.refl H1 m1) s1 (by rw [List.length_map]; exact .d (.int _))⟩
      · exact out1.elim
    · exact out1.elim⟩
end
theorem ev_lenSet {ds : List D} {h : Sto} (ok : setOk ds = true) : opLenSet (.d (.tuple ds)) h = .ok (.d (.int ds.length)) h := by
  show (if setOk ds then Res.ok (U.d (PyData.int ds.length)) h else Res.stuck) = _
  rw [ok]
  rfl
end Wk

/-! FL: the floor: numbers, places, steps. -/
namespace Wk
open PySem L2
@[simp] theorem ev_lcN (t : Tg) (c : Eb) (e : Ev) (env : Env') (acc : List D) (h : Sto) : lcGo t c e env [] acc h = .ok acc h := (rfl)
@[simp] theorem ev_lcC (t : Tg) (c : Eb) (e : Ev) (env : Env') (u : U) (us : List U) (acc : List D) (h : Sto) : lcGo t c e env (u :: us) acc h = match t u env h with
    | some env1 => (c env1 h).bind fun k h1 => (match k with
      | true => (e env1 h1).bind fun w h2 => (match w with
        | .d x => if fits (acc.length + 1) then lcGo t c e env us (acc ++ [x]) h2 else .stuck
        | _ => .stuck)
      | false => lcGo t c e env us acc h1)
    | none => .stuck := (rfl)
@[simp] theorem ev_yes (env : Env') (h : Sto) : cYes env h = .ok true h := (rfl)
@[simp] theorem fits_s {n : Nat} (h : n ≤ 16777216) : fits n = true := fits_of h
@[simp] theorem ev_iSeq (f : Ev) (env : Env') (h : Sto) : iSeq f env h = (f env h).bind fun u h1 => match u with
  | .d (.tuple xs) => .ok (xs.map .d) h1
  | .d (.list xs) => .ok (xs.map .d) h1
  | .tup us => .ok us h1
  | _ => .stuck := (rfl)
@[simp] theorem ev_forN (t : Tg) (b : Es) (env : Env') (h : Sto) : forGo t b [] env h = .next env h := (rfl)
@[simp] theorem ev_forC (t : Tg) (b : Es) (u : U) (us : List U) (env : Env') (h : Sto) : forGo t b (u :: us) env h = match t u env h with | some env1 => (b env1 h).seq (forGo t b us) | none => .stuck := (rfl)
@[simp] theorem atI_0 {α : Type} (x : α) (r : List α) : atI (x :: r) 0 = some x := by
  have := atI_nat (xs := x :: r) (j := 0) (v := x) rfl
  exact this
@[simp] theorem atI_1 {α : Type} (x y : α) (r : List α) : atI (x :: y :: r) 1 = some y := by
  have := atI_nat (xs := x :: y :: r) (j := 1) (v := y) rfl
  exact this
@[simp] theorem atI_2 {α : Type} (x y z : α) (r : List α) : atI (x :: y :: z :: r) 2 = some z := by
  have := atI_nat (xs := x :: y :: z :: r) (j := 2) (v := z) rfl
  exact this
@[simp] theorem atI_3 {α : Type} (x y z w : α) (r : List α) : atI (x :: y :: z :: w :: r) 3 = some w := by
  have := atI_nat (xs := x :: y :: z :: w :: r) (j := 3) (v := w) rfl
  exact this
@[simp] theorem atI_4 {α : Type} (x y z w v : α) (r : List α) : atI (x :: y :: z :: w :: v :: r) 4 = some v := by
  have := atI_nat (xs := x :: y :: z :: w :: v :: r) (j := 4) (v := v) rfl
  exact this
/-- == of data that are no texts -/
theorem ev_eqD {x y : D} (n : Bool) (h : Sto) (nx : ∀ s, x ≠ .str s) (sx : SeqAt.shaped x = true) (sy : SeqAt.shaped y = true) : opEqB n (.d x) (.d y) h = .ok (.d (.bool (xor n (PyData.eqv x y)))) h := by
  have e : strOf (.d x) = none := by
    cases x with
    | str s => exact absurd rfl (nx s)
    | _ => rfl
  unfold opEqB
  rw [e]
  simp only [dataOf, sx, sy, Bool.and_self, if_true]
theorem ev_eqS {x : D} (n : Bool) (h : Sto) (nx : ∀ s, x ≠ .str s) (sx : SeqAt.shaped x = true) : opEqB n (.d x) (.d x) h = .ok (.d (.bool (!n))) h := by
  rw [ev_eqD n h nx sx sx, SeqAt.eqv_refl _ (SeqAt.canLay_of_shaped sx), Bool.xor_true]

/-- a place -/
structure P4 where
  a : Int
  b : Int
  c : Int
  d : Int
def P4.e (p : P4) : D := .tuple [.tuple [.int p.a, .int p.b], .tuple [.int p.c, .int p.d]]
theorem P4.shaped (p : P4) : SeqAt.shaped p.e = true := (rfl)
theorem P4.ns (p : P4) : ∀ s, p.e ≠ .str s := fun s z => nomatch z
@[simp] theorem ev_eqP (n : Bool) (p : P4) (h : Sto) : opEqB n (.d p.e) (.d p.e) h = .ok (.d (.bool (!n))) h := ev_eqS n h p.ns p.shaped
/-- the ways of the eight headings -/
def xa (h : Int) : Int := if h = 0 then 1 else if h = 4 then -1 else 0
def xb (h : Int) : Int := if h = 1 ∨ h = 7 then 1 else if h = 3 ∨ h = 5 then -1 else 0
def ya (h : Int) : Int := if h = 2 then 1 else if h = 6 then -1 else 0
def yb (h : Int) : Int := if h = 1 ∨ h = 3 then 1 else if h = 5 ∨ h = 7 then -1 else 0
def mv (h s : Int) (p : P4) : P4 := ⟨p.a + s * xa h, p.b + s * xb h, p.c + s * ya h, p.d + s * yb h⟩

def c_EAST : D := (.tuple [(.int 1), (.int 1), (.int 0), (.int (-1)), (.int (-1)), (.int (-1)), (.int 0), (.int 1)])
noncomputable def B_plus : Es := (sRet (eTup (aCons (eBin (opAdd false) (eBin opIx (eV 0) (eC (.int 0))) (eBin opIx (eV 1) (eC (.int 0)))) (aCons (eBin (opAdd false) (eBin opIx (eV 0) (eC (.int 1))) (eBin opIx (eV 1) (eC (.int 1)))) aNil))))
noncomputable def B_way_of : Es := (sSeq (sSet 2 (eBin opMul (eV 1) (eBin opIx (eC c_EAST) (eV 0))))
    (sSeq (sSet 3 (eBin opMul (eV 1) (eBin opIx (eC c_EAST) (eBin opMod (eBin (opAdd false) (eV 0) (eC (.int 6))) (eC (.int 8))))))
    (sSeq (sIf (tBin opEq (eBin opMod (eV 0) (eC (.int 2))) (eC (.int 0)))
    (sRet (eTup (aCons (eTup (aCons (eV 2) (aCons (eC (.int 0)) aNil))) (aCons (eTup (aCons (eV 3) (aCons (eC (.int 0)) aNil))) aNil))))
    sNil)
    (sRet (eTup (aCons (eTup (aCons (eC (.int 0)) (aCons (eV 2) aNil))) (aCons (eTup (aCons (eC (.int 0)) (aCons (eV 3) aNil))) aNil)))))))
noncomputable def B_moved : Es := (sSeq (sAsg (gTup' 2 (gCons' (gN 3) (gCons' (gN 4) gNil'))) (eCall (pfOf 4 B_way_of) (aCons (eV 1) (aCons (eV 2) aNil))))
    (sRet (eTup (aCons (eCall (pfOf 2 B_plus) (aCons (eBin opIx (eV 0) (eC (.int 0))) (aCons (eV 3) aNil))) (aCons (eCall (pfOf 2 B_plus) (aCons (eBin opIx (eV 0) (eC (.int 1))) (aCons (eV 4) aNil))) aNil)))))
theorem plus_ev (a b c d : Int) : pfOf 2 B_plus [.tuple [.int a, .int b], .tuple [.int c, .int d]] = .ok (.tuple [.int (a + c), .int (b + d)]) := by
  unfold B_plus
  simp [pfOf_ap]
theorem heads {h : Int} (h0 : 0 ≤ h) (h1 : h < 8) : h = 0 ∨ h = 1 ∨ h = 2 ∨ h = 3 ∨ h = 4 ∨ h = 5 ∨ h = 6 ∨ h = 7 := by omega
theorem east_at {h : Int} (h0 : 0 ≤ h) (h1 : h < 8) : ∃ x : Int, atI [PyData.int 1, .int 1, .int 0, .int (-1), .int (-1), .int (-1), .int 0, .int 1] h = some (.int x) ∧ x.natAbs ≤ 1 := by
  rcases heads h0 h1 with z | z | z | z | z | z | z | z <;> subst z <;> exact ⟨_, rfl, by decide⟩
theorem way_ev (h s : Int) (h0 : 0 ≤ h) (h1 : h < 8) : pfOf 4 B_way_of [.int h, .int s] = .ok (.tuple [.tuple [.int (s * xa h), .int (s * xb h)], .tuple [.int (s * ya h), .int (s * yb h)]]) := by
  have ix : ∀ (j : Nat) (x : D), [PyData.int 1, .int 1, .int 0, .int (-1), .int (-1), .int (-1), .int 0, .int 1][j]? = some x → atI [PyData.int 1, .int 1, .int 0, .int (-1), .int (-1), .int (-1), .int 0, .int 1] (j : Int) = some x := fun j x e => atI_nat e
  have i0 := ix 0 _ rfl
  have i1 := ix 1 _ rfl
  have i2 := ix 2 _ rfl
  have i3 := ix 3 _ rfl
  have i4 := ix 4 _ rfl
  have i5 := ix 5 _ rfl
  have i6 := ix 6 _ rfl
  have i7 := ix 7 _ rfl
  simp only [Int.ofNat_eq_natCast, Int.cast_ofNat_Int] at i0 i1 i2 i3 i4 i5 i6 i7
  unfold B_way_of c_EAST
  rcases heads h0 h1 with z | z | z | z | z | z | z | z <;> subst z <;> simp [pfOf_ap, i5, i6, i7, xa, xb, ya, yb]
theorem moved_ev (p : P4) (h s : Int) (h0 : 0 ≤ h) (h1 : h < 8) : pfOf 5 B_moved [p.e, .int h, .int s] = .ok (mv h s p).e := by
  rw [pfOf_ap]
  unfold B_moved P4.e mv
  simp [way_ev h s h0 h1, plus_ev]
theorem mv_zero (h : Int) (p : P4) : mv h 0 p = p := by
  unfold mv
  simp
theorem mv_mv (h s t : Int) (p : P4) : mv h t (mv h s p) = mv h (s + t) p := by
  unfold mv
  simp only [P4.mk.injEq]
  refine ⟨?_, ?_, ?_, ?_⟩ <;> grind
theorem mv_opp {h : Int} (s : Int) (p : P4) (h0 : 0 ≤ h) (h1 : h < 8) : mv ((h + 4) % 8) s p = mv h (-s) p := by
  unfold mv
  rcases heads h0 h1 with z | z | z | z | z | z | z | z <;> subst z <;> simp [xa, xb, ya, yb]
theorem mv_par {h : Int} (s : Int) (p : P4) (h0 : 0 ≤ h) (h1 : h < 8) : ((mv h s p).b + (mv h s p).d) % 2 = (p.b + p.d) % 2 := by
  unfold mv
  rcases heads h0 h1 with z | z | z | z | z | z | z | z <;> subst z <;> simp [xb, yb] <;> omega
theorem ev_pow6 (h : Sto) : opPow (.d (.int 10)) (.d (.int 6)) h = .ok (.d (.int 1000000)) h := by
  rw [ev_pow _ _ (by decide) (by decide) (by decide)]
  rfl
theorem two_at {α : Type} (a b : α) (x : Int) : ∃ y, atI [a, b] (x % 2) = some y ∧ (y = a ∨ y = b) := by
  have h : x % 2 = 0 ∨ x % 2 = 1 := by omega
  rcases h with z | z <;> rw [z]
  · exact ⟨a, atI_0 _ _, .inl rfl⟩
  · exact ⟨b, atI_1 _ _ _, .inr rfl⟩
/-! ### turned and mirrored -/
def rot (p : P4) : P4 := ⟨(p.b - p.d) / 2, p.a - p.c, (p.b + p.d) / 2, p.a + p.c⟩
def rotN : Nat → P4 → P4
  | 0, p => p
  | n + 1, p => rot (rotN n p)
def mir (p : P4) : P4 := ⟨p.a, p.b, -p.c, -p.d⟩
noncomputable def B_minus : Es := (sRet (eTup (aCons (eBin opSub (eBin opIx (eV 0) (eC (.int 0))) (eBin opIx (eV 1) (eC (.int 0)))) (aCons (eBin opSub (eBin opIx (eV 0) (eC (.int 1))) (eBin opIx (eV 1) (eC (.int 1)))) aNil))))
noncomputable def B_halved : Es := (sRet (eTup (aCons (eBin opFdiv (eBin opIx (eV 0) (eC (.int 1))) (eC (.int 2))) (aCons (eBin opIx (eV 0) (eC (.int 0))) aNil))))
noncomputable def B_mirrored_place : Es := (sRet (eTup (aCons (eBin opIx (eV 0) (eC (.int 0))) (aCons (eTup (aCons (eBin opSub (eC (.int 0)) (eBin opIx (eBin opIx (eV 0) (eC (.int 1))) (eC (.int 0)))) (aCons (eBin opSub (eC (.int 0)) (eBin opIx (eBin opIx (eV 0) (eC (.int 1))) (eC (.int 1)))) aNil))) aNil))))
noncomputable def L_turned_place_0 : Es := (sSeq (sAsg (gTup' 2 (gCons' (gN 3) (gCons' (gN 4) gNil'))) (eV 0))
    (sSet 0 (eTup (aCons (eCall (pfOf 1 B_halved) (aCons (eCall (pfOf 2 B_minus) (aCons (eV 3) (aCons (eV 4) aNil))) aNil)) (aCons (eCall (pfOf 1 B_halved) (aCons (eCall (pfOf 2 B_plus) (aCons (eV 3) (aCons (eV 4) aNil))) aNil)) aNil)))))
noncomputable def B_turned_place : Es := (sSeq (sFor (iR1 (aCons (eBin opMod (eV 1) (eC (.int 8))) aNil)) (gN 2) L_turned_place_0)
    (sRet (eV 0)))
theorem minus_ev (a b c d : Int) : pfOf 2 B_minus [.tuple [.int a, .int b], .tuple [.int c, .int d]] = .ok (.tuple [.int (a - c), .int (b - d)]) := by
  unfold B_minus
  simp [pfOf_ap]
theorem halved_ev (a b : Int) : pfOf 1 B_halved [.tuple [.int a, .int b]] = .ok (.tuple [.int (b / 2), .int a]) := by
  unfold B_halved
  simp [pfOf_ap]
theorem mirrored_ev (p : P4) : pfOf 1 B_mirrored_place [p.e] = .ok (mir p).e := by
  unfold B_mirrored_place P4.e mir
  simp [pfOf_ap]
theorem turned_ev (p : P4) (k : Int) : pfOf 5 B_turned_place [p.e, .int k] = .ok (rotN (k % 8).toNat p).e := by
  have h0 := Int.emod_nonneg k (show (8 : Int) ≠ 0 by decide)
  have h1 := Int.emod_lt_of_pos k (show (0 : Int) < 8 by decide)
  have hr : rngOk (k % 8) = true := rng_of (by omega) (by omega)
  obtain ⟨env', h', e, y2, y3, y4, rfl, rfl⟩ := forGo_inv (t := gN 2) (b := L_turned_place_0) (us := iRange (k % 8).toNat 0)
    (fun i env h => ∃ (y2 y3 y4 : Option U), env = [some (.d (rotN i p).e), some (.d (.int k)), y2, y3, y4] ∧ h = []) 0
    (env := [some (.d p.e), some (.d (.int k)), none, none, none]) (h := []) ⟨none, none, none, rfl, rfl⟩ (fun i u env h eu hI => by
      obtain ⟨y2, y3, y4, rfl, rfl⟩ := hI
      obtain ⟨hi, rfl⟩ := iRange_get eu
      refine ⟨_, [some (.d (rotN (0 + i + 1) p).e), some (.d (.int k)), some (.d (.int (0 + i))), some (.d (.tuple [.int (rotN (0 + i) p).a, .int (rotN (0 + i) p).b])), some (.d (.tuple [.int (rotN (0 + i) p).c, .int (rotN (0 + i) p).d]))], [], rfl, ?_, _, _, _, rfl, rfl⟩
      unfold L_turned_place_0
      simp [P4.e, minus_ev, plus_ev, halved_ev, rotN, rot])
  rw [pfOf_ap]
  unfold B_turned_place
  rw [iRange_len] at e
  simp [hr, e]
def P4.par (p : P4) : Prop := (p.b + p.d) % 2 = 0
theorem rot_par (p : P4) : (rot p).par := by
  unfold P4.par rot
  dsimp only
  omega
theorem rotN_par {p : P4} (h : p.par) : ∀ n, (rotN n p).par
  | 0 => h
  | n + 1 => rot_par _
theorem mir_par {p : P4} (h : p.par) : (mir p).par := by
  unfold P4.par mir at *
  dsimp only
  omega
theorem mv_par' {h : Int} (s : Int) {p : P4} (h0 : 0 ≤ h) (h1 : h < 8) (q : p.par) : (mv h s p).par := by
  unfold P4.par at *
  rw [mv_par s p h0 h1]
  exact q
theorem mir_mir (p : P4) : mir (mir p) = p := by
  unfold mir
  simp
theorem rot_mv {h : Int} (s : Int) {p : P4} (h0 : 0 ≤ h) (h1 : h < 8) : rot (mv h s p) = mv ((h + 1) % 8) s (rot p) := by
  unfold rot mv
  simp only [P4.mk.injEq]
  rcases heads h0 h1 with z | z | z | z | z | z | z | z <;> subst z <;> simp [xa, xb, ya, yb] <;> omega
theorem rotN_mv {h : Int} (s : Int) {p : P4} (h0 : 0 ≤ h) (h1 : h < 8) : ∀ n : Nat, rotN n (mv h s p) = mv ((h + n) % 8) s (rotN n p)
  | 0 => by
    show mv h s p = mv ((h + 0) % 8) s p
    rw [Int.add_zero, Int.emod_eq_of_lt h0 h1]
  | n + 1 => by
    show rot (rotN n (mv h s p)) = mv _ s (rot (rotN n p))
    rw [rotN_mv s h0 h1 n, rot_mv s (Int.emod_nonneg _ (by decide)) (Int.emod_lt_of_pos _ (by decide))]
    congr 1
    omega
theorem mir_mv {h : Int} (s : Int) {p : P4} (h0 : 0 ≤ h) (h1 : h < 8) : mir (mv h s p) = mv ((8 - h) % 8) s (mir p) := by
  unfold mir mv
  simp only [P4.mk.injEq]
  rcases heads h0 h1 with z | z | z | z | z | z | z | z <;> subst z <;> simp [xa, xb, ya, yb] <;> omega
/-- back by one eighth -/
def tor (p : P4) : P4 := ⟨(p.b + p.d) / 2, p.a + p.c, (p.d - p.b) / 2, p.c - p.a⟩
theorem tor_rot {p : P4} (h : p.par) : tor (rot p) = p := by
  unfold P4.par at h
  unfold tor rot
  rcases p with ⟨a, b, c, d⟩
  simp only [P4.mk.injEq] at *
  omega
theorem rot_mir {p : P4} (h : p.par) : rot (mir (rot p)) = mir p := by
  unfold P4.par at h
  unfold mir rot
  rcases p with ⟨a, b, c, d⟩
  simp only [P4.mk.injEq] at *
  omega
theorem rotN_add (p : P4) (m : Nat) : ∀ n, rotN (n + m) p = rotN n (rotN m p)
  | 0 => by rw [Nat.zero_add]; rfl
  | n + 1 => by
    rw [Nat.add_right_comm]
    show rot (rotN (n + m) p) = rot (rotN n (rotN m p))
    rw [rotN_add p m n]
theorem rotN_mir {p : P4} (h : p.par) : ∀ n, rotN n (mir (rotN n p)) = mir p
  | 0 => rfl
  | n + 1 => by
    rw [rotN_add (mir (rotN (n + 1) p)) 1 n]
    show rotN n (rot (mir (rot (rotN n p)))) = mir p
    rw [rot_mir (rotN_par h n), rotN_mir h n]
theorem rot8 {p : P4} (h : p.par) : rotN 8 p = p := by
  unfold P4.par at h
  rcases p with ⟨a, b, c, d⟩
  simp only [rotN, rot, P4.mk.injEq] at *
  omega
theorem rotN_back {p : P4} (h : p.par) {n : Nat} (hn : n ≤ 8) : rotN (8 - n) (mir p) = mir (rotN n p) := by
  have e := rotN_mir (rotN_par h n) (8 - n)
  have q : rotN (8 - n) (rotN n p) = p := by
    rw [← rotN_add, Nat.sub_add_cancel hn]
    exact rot8 h
  rw [q] at e
  exact e
end Wk

/-! WL: bounds of places, lists in the store. -/
namespace Wk
open PySem L2
def P4.bd (n : Int) (p : P4) : Prop := (-n ≤ p.a ∧ p.a ≤ n) ∧ (-n ≤ p.b ∧ p.b ≤ n) ∧ (-n ≤ p.c ∧ p.c ≤ n) ∧ -n ≤ p.d ∧ p.d ≤ n
theorem P4.bd.mono {m n : Int} {p : P4} (h : p.bd m) (l : m ≤ n) : p.bd n := by unfold P4.bd at *; omega
theorem mv_bd {n m h s : Int} {p : P4} (h0 : 0 ≤ h) (h1 : h < 8) (b : p.bd n) (hs : -m ≤ s) (hs2 : s ≤ m) : (mv h s p).bd (n + m) := by
  unfold P4.bd at *
  unfold mv
  rcases heads h0 h1 with z | z | z | z | z | z | z | z <;> subst z <;> simp [xa, xb, ya, yb] <;> omega
theorem lst_ref (xs : List D) (n : Int) (h0 : 0 ≤ n) (h1 : n < xs.length) : ∃ x, atI xs n = some x ∧ x ∈ xs := atI_in h0 h1
theorem ixR (xs : List D) (i : Int) : opIx (.ref 0) (.d (.int i)) [.lst xs] = match atI xs i with | some x => .ok (.d x) [.lst xs] | none => .stuck := (rfl)
theorem lenR (xs : List D) : fLen [.ref 0] [.lst xs] = .ok (.d (.int xs.length)) [.lst xs] := (rfl)
theorem slR (b : Bool) (xs : List D) (lo hi : Option Int) : opSl b (.ref 0) lo hi [.lst xs] = mkL b (cutD xs lo hi) [.lst xs] := (rfl)
theorem addRL (xs ys : List D) (h : xs.length + ys.length ≤ 16777216) : opAdd false (.ref 0) (.d (.list ys)) [.lst xs] = .ok (.d (.list (xs ++ ys))) [.lst xs] := by
  show (if fits (xs.length + ys.length) then mkL false (xs ++ ys) [.lst xs] else .stuck) = _
  rw [fits_of h]
  rfl
theorem addLL (xs ys : List D) (h : Sto) (hl : xs.length + ys.length ≤ 16777216) : opAdd false (.d (.list xs)) (.d (.list ys)) h = .ok (.d (.list (xs ++ ys))) h := by
  show (if fits (xs.length + ys.length) then mkL false (xs ++ ys) h else .stuck) = _
  rw [fits_of hl]
  rfl
theorem three {α : Type} {l : List α} (h : l.length = 3) : ∃ a b c, l = [a, b, c] := by
  match l, h with
  | [a, b, c], _ => exact ⟨a, b, c, rfl⟩
theorem pick {l : List Int} (hl : 0 < l.length) (hb : ∀ x ∈ l, 0 ≤ x ∧ x < 8) (i : Int) : ∃ h : Int, atI (l.map PyData.int) (i % l.length) = some (.int h) ∧ 0 ≤ h ∧ h < 8 := by
  obtain ⟨x, e, hx⟩ := atI_in (xs := l) (i := i % l.length) (Int.emod_nonneg _ (by omega)) (Int.emod_lt_of_pos _ (by omega))
  exact ⟨x, by rw [atI_map, e]; rfl, hb x hx⟩
theorem heads_at (i : Int) : ∃ l : List Int, atI [PyData.list [.int 0, .int 1, .int 2, .int 3, .int 4, .int 5, .int 6, .int 7], .list [.int 0, .int 2, .int 4, .int 6], .list [.int 1, .int 2, .int 3, .int 4, .int 5, .int 6, .int 7, .int 0], .list [.int 0, .int 1, .int 1, .int 4, .int 5]] (i % 4) = some (.list (l.map .int)) ∧ 0 < l.length ∧ ∀ x ∈ l, 0 ≤ x ∧ x < 8 := by
  have h : i % 4 = 0 ∨ i % 4 = 1 ∨ i % 4 = 2 ∨ i % 4 = 3 := by omega
  rcases h with z | z | z | z <;> rw [z]
  · exact ⟨[0, 1, 2, 3, 4, 5, 6, 7], atI_0 _ _, by decide, by decide⟩
  · exact ⟨[0, 2, 4, 6], atI_1 _ _ _, by decide, by decide⟩
  · exact ⟨[1, 2, 3, 4, 5, 6, 7, 0], atI_2 _ _ _ _, by decide, by decide⟩
  · exact ⟨[0, 1, 1, 4, 5], atI_3 _ _ _ _ _, by decide, by decide⟩
theorem fars_at (i : Int) : ∃ f : Int, atI [PyData.int 2, .int 3, .int 6, .int 1000] (i % 4) = some (.int f) ∧ 0 < f ∧ f ≤ 1000 := by
  have h : i % 4 = 0 ∨ i % 4 = 1 ∨ i % 4 = 2 ∨ i % 4 = 3 := by omega
  rcases h with z | z | z | z <;> rw [z]
  · exact ⟨2, atI_0 _ _, by decide, by decide⟩
  · exact ⟨3, atI_1 _ _ _, by decide, by decide⟩
  · exact ⟨6, atI_2 _ _ _ _, by decide, by decide⟩
  · exact ⟨1000, atI_3 _ _ _ _ _, by decide, by decide⟩

theorem lcGo_mapF {α : Type} {t : Tg} {e : Ev} {env : Env'} {h : Sto} (en : α → U) (f : α → D) : ∀ (l : List α) (acc : List D), (∀ x ∈ l, ∃ env1, t (en x) env h = some env1 ∧ e env1 h = .ok (.d (f x)) h) → acc.length + l.length ≤ 16777216 → lcGo t cYes e env (l.map en) acc h = .ok (acc ++ l.map f) h
  | [], acc, _, _ => by simp
  | x :: l, acc, H, hl => by
    obtain ⟨env1, e1, e2⟩ := H x List.mem_cons_self
    rw [List.length_cons] at hl
    have ih := lcGo_mapF (t := t) (e := e) (env := env) (h := h) en f l (acc ++ [f x]) (fun v hv => H v (List.mem_cons_of_mem _ hv)) (by rw [List.length_append, List.length_singleton]; omega)
    have hf : fits (acc.length + 1) = true := fits_of (by omega)
    simp [e1, e2, hf, ih]
/-! ### a way, pair by pair -/
def pairs {α : Type} : List α → List (α × α)
  | p :: q :: r => (p, q) :: pairs (q :: r)
  | _ => []
theorem zip_pairs {α : Type} : ∀ l : List α, List.zipWith (fun x y => (x, y)) l.dropLast l.tail = pairs l
  | [] => rfl
  | [p] => rfl
  | p :: q :: r => by
    have ih := zip_pairs (q :: r)
    have e : (p :: q :: r).dropLast = p :: (q :: r).dropLast := List.dropLast_cons_of_ne_nil (by simp)
    rw [e, List.tail_cons, pairs, ← ih]
    cases r with
    | nil => rfl
    | cons a r => rfl
def prU (z : D × D) : U := .d (.tuple [z.1, z.2])
theorem zipD_pairs (l : List D) : zipD l.dropLast l.tail = (pairs l).map prU := by
  rw [← zip_pairs]
  unfold zipD
  rw [List.map_zipWith]
  rfl
theorem pairs_map {α β : Type} (f : α → β) : ∀ l : List α, pairs (l.map f) = (pairs l).map fun z => (f z.1, f z.2)
  | [] => rfl
  | [p] => rfl
  | p :: q :: r => by
    have ih := pairs_map f (q :: r)
    simp only [List.map_cons] at ih ⊢
    rw [pairs, pairs, ih]
    rfl
theorem cut_front {α : Type} (l : List α) : cutD l none (some (-1)) = l.dropLast := by
  unfold cutD
  rw [List.dropLast_eq_take]
  have h1 : HT.sIx l.length 0 none = 0 := rfl
  have h2 : HT.sIx l.length l.length (some (-1)) = l.length - 1 := by
    unfold HT.sIx
    simp
    omega
  rw [h1, h2]
  simp
theorem cut_tail {α : Type} (l : List α) : cutD l (some 1) none = l.tail := by
  unfold cutD
  have h1 : HT.sIx l.length 0 (some 1) = min 1 l.length := HT.sIx_nat _ _ 1
  have h2 : HT.sIx l.length l.length none = l.length := rfl
  rw [h1, h2]
  cases l with
  | nil => rfl
  | cons a r => simp
theorem cut_to {α : Type} (l : List α) (n : Nat) (h : n ≤ l.length) : cutD l none (some (n : Int)) = l.take n := by
  unfold cutD
  have h1 : HT.sIx l.length 0 none = 0 := rfl
  have h2 : HT.sIx l.length l.length (some (n : Int)) = n := by
    rw [HT.sIx_nat]
    omega
  rw [h1, h2]
  simp
theorem cut_from {α : Type} (l : List α) (n : Nat) (h : n ≤ l.length) : cutD l (some (n : Int)) none = l.drop n := by
  unfold cutD
  have h1 : HT.sIx l.length 0 (some (n : Int)) = n := by
    rw [HT.sIx_nat]
    omega
  have h2 : HT.sIx l.length l.length none = l.length := rfl
  rw [h1, h2, List.take_of_length_le]
  simp
theorem cut_fb {α : Type} (l : List α) (n : Nat) (h : n < l.length) : cutD l (some (n : Int)) (some (-1)) = (l.dropLast).drop n := by
  unfold cutD
  have h1 : HT.sIx l.length 0 (some (n : Int)) = n := by
    rw [HT.sIx_nat]
    omega
  have h2 : HT.sIx l.length l.length (some (-1)) = l.length - 1 := by
    unfold HT.sIx
    simp
    omega
  rw [h1, h2, List.dropLast_eq_take, List.drop_take]
/-- a sum along a way -/
def sumP {α : Type} (f : α → α → Int) : List α → Int
  | p :: q :: r => f p q + sumP f (q :: r)
  | _ => 0
theorem sumP_app {α : Type} (f : α → α → Int) (x : α) (m : List α) : ∀ l : List α, sumP f (l ++ x :: m) = sumP f (l ++ [x]) + sumP f (x :: m)
  | [] => by simp [sumP]
  | [p] => by simp [sumP]
  | p :: q :: r => by
    have ih := sumP_app f x m (q :: r)
    simp only [List.cons_append] at ih ⊢
    rw [sumP, sumP, ih]
    omega
theorem sumP_snoc {α : Type} (f : α → α → Int) (l : List α) (x y : α) : sumP f (l ++ [x, y]) = sumP f (l ++ [x]) + f x y := by
  rw [sumP_app f x [y] l]
  simp [sumP]
theorem sumP_rev {α : Type} (f : α → α → Int) : ∀ l : List α, sumP f l.reverse = sumP (fun p q => f q p) l
  | [] => rfl
  | [p] => rfl
  | p :: q :: r => by
    have ih := sumP_rev f (q :: r)
    rw [List.reverse_cons, List.reverse_cons, List.append_assoc, List.singleton_append, sumP_snoc, sumP, ← List.reverse_cons, ih]
    omega
theorem sumP_map {α β : Type} (g : α → β) (f : β → β → Int) : ∀ l : List α, sumP f (l.map g) = sumP (fun p q => f (g p) (g q)) l
  | [] => rfl
  | [p] => rfl
  | p :: q :: r => by
    have ih := sumP_map g f (q :: r)
    simp only [List.map_cons] at ih ⊢
    rw [sumP, sumP, ih]
theorem sumP_congr {α : Type} {f g : α → α → Int} (h : ∀ p q, f p q = g p q) : ∀ l : List α, sumP f l = sumP g l
  | [] => rfl
  | [p] => rfl
  | p :: q :: r => by
    have ih := sumP_congr h (q :: r)
    rw [sumP, sumP, ih, h]
theorem sumP_mul {α : Type} (k : Int) (f : α → α → Int) : ∀ l : List α, sumP (fun p q => k * f p q) l = k * sumP f l
  | [] => by simp [sumP]
  | [p] => by simp [sumP]
  | p :: q :: r => by
    have ih := sumP_mul k f (q :: r)
    rw [sumP, sumP, ih, Int.mul_add]
theorem sumP_neg {α : Type} (f : α → α → Int) (l : List α) : sumP (fun p q => - f p q) l = - sumP f l := by
  have h := sumP_mul (-1) f l
  rw [show (fun p q => - f p q) = (fun p q => -1 * f p q) from funext fun p => funext fun q => by omega, h]
  omega
theorem sumP_tel {α : Type} (f : α → α → Int) (g : α → Int) : ∀ (l : List α) (p q : α), sumP (fun x y => f x y + (g y - g x)) (p :: (l ++ [q])) = sumP f (p :: (l ++ [q])) + (g q - g p)
  | [], p, q => by simp [sumP]
  | x :: l, p, q => by
    have ih := sumP_tel f g l x q
    simp only [List.cons_append] at ih ⊢
    rw [sumP, sumP, ih]
    omega
/-- a closed way, begun at another of its places -/
theorem sumP_turn {α : Type} (f : α → α → Int) (q : α) (r : List α) (n : Nat) (x : α) (hn : n < (q :: r).length) (hx : (q :: r)[n]? = some x) : sumP f ((q :: r).drop n ++ (q :: r).take n ++ [x]) = sumP f (q :: (r ++ [q])) := by
  cases n with
  | zero =>
    simp at hx
    subst hx
    simp
  | succ n =>
    have hn' : n < r.length := by simpa using hn
    have hx' : r[n]? = some x := by simpa using hx
    have ed : r.drop n = x :: r.drop (n + 1) := by
      rw [List.drop_eq_getElem_cons hn']
      rw [List.getElem?_eq_getElem hn'] at hx'
      cases hx'
      rfl
    have e1 : (q :: r).drop (n + 1) ++ (q :: r).take (n + 1) ++ [x] = (x :: r.drop (n + 1)) ++ q :: (r.take n ++ [x]) := by
      rw [List.drop_succ_cons, List.take_succ_cons, ed]
      simp
    have e2 : q :: (r ++ [q]) = (q :: r.take n) ++ x :: (r.drop (n + 1) ++ [q]) := by
      rw [show r ++ [q] = (r.take n ++ r.drop n) ++ [q] by rw [List.take_append_drop], ed]
      simp
    rw [e1, e2, sumP_app, sumP_app f x]
    simp only [List.cons_append]
    omega
end Wk

/-! SG: the sign of a number. -/
namespace Wk
open PySem L2
def sgn (a b : Int) : Int := if 0 ≤ a ∧ 0 ≤ b then (if 0 < a + b then 1 else 0) else if a ≤ 0 ∧ b ≤ 0 then -1 else if b * b < 2 * a * a then (if a < 0 then -1 else 1) else (if b < 0 then -1 else 1)
def lsg (a b : Int) : Int := if 0 ≤ a * b then (if 0 < a + b then 1 else 0) - (if a + b < 0 then 1 else 0)
  else if 0 < a then (if 0 < 2 * a * a - b * b then 1 else 0) - (if 2 * a * a - b * b < 0 then 1 else 0)
  else (if 2 * a * a - b * b < 0 then 1 else 0) - (if 0 < 2 * a * a - b * b then 1 else 0)
/-- the root of two is no quotient -/
theorem root2 : ∀ n : Nat, ∀ a b : Nat, b ≤ n → 2 * (a * a) = b * b → b = 0
  | 0, a, b, h, _ => Nat.le_zero.mp h
  | n + 1, a, b, h, e => by
    by_cases hb : b = 0
    · exact hb
    · have hev : b % 2 = 0 := by
        have h2 : (b * b) % 2 = 0 := by rw [← e]; exact Nat.mul_mod_right 2 _
        rcases Nat.mod_two_eq_zero_or_one b with z | z
        · exact z
        · rw [Nat.mul_mod, z] at h2; cases h2
      obtain ⟨c, rfl⟩ : ∃ c, b = 2 * c := ⟨b / 2, by omega⟩
      have e2 : 2 * (c * c) = a * a := by
        have : 2 * (a * a) = 2 * (2 * (c * c)) := by rw [e, Nat.mul_mul_mul_comm, Nat.mul_assoc]
        omega
      have ha : a ≤ n := by
        have h1 : a < 2 * c := by
          refine Nat.lt_of_not_le fun hh => ?_
          have := Nat.mul_le_mul hh hh
          have hc : 0 < 2 * c * (2 * c) := Nat.mul_pos (by omega) (by omega)
          omega
        omega
      have z := root2 n c a ha e2
      subst z
      have hc : 2 * c * (2 * c) = 0 := by rw [← e]
      rcases Nat.mul_eq_zero.mp hc with z | z <;> exact absurd z hb
theorem root2i {a b : Int} (e : 2 * (a * a) = b * b) : b = 0 := by
  have h : 2 * (a.natAbs * a.natAbs) = b.natAbs * b.natAbs := by
    have h1 : ((a.natAbs * a.natAbs : Nat) : Int) = a * a := by rw [Int.natCast_mul]; exact Int.natAbs_mul_self' _
    have h2 : ((b.natAbs * b.natAbs : Nat) : Int) = b * b := by rw [Int.natCast_mul]; exact Int.natAbs_mul_self' _
    omega
  have := root2 _ _ _ (Nat.le_refl _) h
  omega
theorem sgn_lsg (a b : Int) : sgn a b = lsg a b := by
  have ra := @root2i a b
  have e2 : 2 * a * a = 2 * (a * a) := Int.mul_assoc 2 a a
  have f1 : 0 ≤ a → 0 ≤ b → 0 ≤ a * b := Int.mul_nonneg
  have f2 : a ≤ 0 → b ≤ 0 → 0 ≤ a * b := Int.mul_nonneg_of_nonpos_of_nonpos
  have f3 : 0 < a → b < 0 → a * b < 0 := Int.mul_neg_of_pos_of_neg
  have f4 : a < 0 → 0 < b → a * b < 0 := Int.mul_neg_of_neg_of_pos
  unfold sgn lsg
  rw [e2]
  generalize a * a = p at *
  generalize b * b = q at *
  generalize a * b = r at *
  repeat' split
  all_goals omega
theorem sgn_neg (a b : Int) : sgn (0 - a) (0 - b) = 0 - sgn a b := by
  rw [sgn_lsg, sgn_lsg]
  have e1 : (0 - a) * (0 - b) = a * b := by grind
  have e2 : 2 * (0 - a) * (0 - a) = 2 * a * a := by grind
  have e3 : (0 - b) * (0 - b) = b * b := by grind
  have f : 0 ≤ a * b ∨ a ≠ 0 := by
    by_cases h : a = 0
    · subst h; exact .inl (by rw [Int.zero_mul]; exact Int.le_refl _)
    · exact .inr h
  unfold lsg
  rw [e1, e2, e3]
  generalize 2 * a * a = p at *
  generalize b * b = q at *
  generalize a * b = r at *
  repeat' split
  all_goals omega
theorem sgn_two (a b : Int) : sgn (2 * a) (2 * b) = sgn a b := by
  have e1 : 2 * b * (2 * b) = 4 * (b * b) := by grind
  have e2 : 2 * (2 * a) * (2 * a) = 4 * (2 * a * a) := by grind
  unfold sgn
  rw [e1, e2]
  generalize 2 * a * a = p at *
  generalize b * b = q at *
  repeat' split
  all_goals omega
/-! ### what the defs compute -/
end Wk

/-! SG2: signs of sums and products of numbers. -/
namespace Wk
/-- above 0: by the norm -/
def Pos (a b : Int) : Prop := (0 < 2 * (a * a) - b * b ∧ 0 < a) ∨ (2 * (a * a) - b * b < 0 ∧ 0 < b)
theorem sq_nonneg (a : Int) : 0 ≤ a * a := by
  rcases Int.le_total 0 a with h | h
  · exact Int.mul_nonneg h h
  · exact Int.mul_nonneg_of_nonpos_of_nonpos h h
theorem sq_pos {a : Int} (h : a ≠ 0) : 0 < a * a := by
  rcases Int.lt_or_gt_of_ne h with h | h
  · exact Int.mul_pos_of_neg_of_neg h h
  · exact Int.mul_pos h h
theorem abs_of_sq {x y : Int} (h : x * x < y * y) (hy : 0 ≤ y) : -y < x ∧ x < y := by
  constructor
  · refine Classical.byContradiction fun z => ?_
    have h1 : y ≤ -x := by omega
    have h2 : y * y ≤ (-x) * (-x) := Int.mul_le_mul h1 h1 hy (by omega)
    rw [Int.neg_mul_neg] at h2
    omega
  · refine Classical.byContradiction fun z => ?_
    have h1 : y ≤ x := by omega
    have h2 : y * y ≤ x * x := Int.mul_le_mul h1 h1 hy (by omega)
    omega
theorem sq_of_abs {x y : Int} (h1 : -y < x) (h2 : x < y) : x * x < y * y := by
  rcases Int.le_total 0 x with h | h
  · exact Int.lt_of_le_of_lt (Int.mul_le_mul_of_nonneg_left (Int.le_of_lt h2) h) (Int.mul_lt_mul_of_pos_right h2 (by omega))
  · have e : x * x = (-x) * (-x) := by rw [Int.neg_mul_neg]
    rw [e]
    exact Int.lt_of_le_of_lt (Int.mul_le_mul_of_nonneg_left (show -x ≤ y by omega) (by omega)) (Int.mul_lt_mul_of_pos_right (show -x < y by omega) (by omega))
theorem lt_mul {p q r s : Int} (h1 : p < q) (h2 : r < s) (hp : 0 ≤ p) (hr : 0 ≤ r) : p * r < q * s :=
  Int.lt_of_le_of_lt (Int.mul_le_mul_of_nonneg_left (Int.le_of_lt h2) hp) (Int.mul_lt_mul_of_pos_right h1 (by omega))
theorem norm0 {a b : Int} (h : 2 * (a * a) - b * b = 0) : a = 0 ∧ b = 0 := by
  have hb : b = 0 := root2i (a := a) (b := b) (by omega)
  subst hb
  refine ⟨Classical.byContradiction fun z => ?_, rfl⟩
  have := sq_pos z
  omega
theorem pos_def {a b : Int} : Pos a b ↔ (0 ≤ a ∧ 0 ≤ b ∧ 0 < a + b) ∨ (0 < a ∧ b < 0 ∧ b * b < 2 * (a * a)) ∨ (a < 0 ∧ 0 < b ∧ 2 * (a * a) < b * b) := by
  unfold Pos
  have ha := sq_nonneg a
  have hb := sq_nonneg b
  constructor
  · rintro (⟨h1, h2⟩ | ⟨h1, h2⟩)
    · by_cases h3 : 0 ≤ b
      · exact .inl ⟨by omega, h3, by omega⟩
      · exact .inr (.inl ⟨h2, by omega, by omega⟩)
    · by_cases h3 : 0 ≤ a
      · exact .inl ⟨h3, by omega, by omega⟩
      · exact .inr (.inr ⟨by omega, h2, by omega⟩)
  · rintro (⟨h1, h2, h3⟩ | ⟨h1, h2, h3⟩ | ⟨h1, h2, h3⟩)
    · by_cases hn : 0 < 2 * (a * a) - b * b
      · refine .inl ⟨hn, ?_⟩
        refine Classical.byContradiction fun z => ?_
        have : a = 0 := by omega
        subst this
        omega
      · by_cases hm : 2 * (a * a) - b * b < 0
        · refine .inr ⟨hm, ?_⟩
          refine Classical.byContradiction fun z => ?_
          have : b = 0 := by omega
          subst this
          omega
        · have := norm0 (a := a) (b := b) (by omega)
          omega
    · exact .inl ⟨by omega, h1⟩
    · exact .inr ⟨by omega, h2⟩
theorem sgn_one {a b : Int} : sgn a b = 1 ↔ Pos a b := by
  rw [pos_def]
  unfold sgn
  have e : 2 * a * a = 2 * (a * a) := Int.mul_assoc 2 a a
  rw [e]
  constructor
  · intro h
    by_cases h1 : 0 ≤ a ∧ 0 ≤ b
    · rw [if_pos h1] at h
      by_cases h2 : 0 < a + b
      · exact .inl ⟨h1.1, h1.2, h2⟩
      · rw [if_neg h2] at h; omega
    · rw [if_neg h1] at h
      by_cases h2 : a ≤ 0 ∧ b ≤ 0
      · rw [if_pos h2] at h; omega
      · rw [if_neg h2] at h
        by_cases h3 : b * b < 2 * (a * a)
        · rw [if_pos h3] at h
          by_cases h4 : a < 0
          · rw [if_pos h4] at h; omega
          · exact .inr (.inl ⟨by omega, by omega, h3⟩)
        · rw [if_neg h3] at h
          by_cases h4 : b < 0
          · rw [if_pos h4] at h; omega
          · refine .inr (.inr ⟨by omega, by omega, ?_⟩)
            have : 2 * (a * a) - b * b ≠ 0 := fun z => by have := norm0 z; omega
            omega
  · rintro (⟨h1, h2, h3⟩ | ⟨h1, h2, h3⟩ | ⟨h1, h2, h3⟩)
    · rw [if_pos ⟨h1, h2⟩, if_pos h3]
    · rw [if_neg (by omega), if_neg (by omega), if_pos h3, if_neg (by omega)]
    · rw [if_neg (by omega), if_neg (by omega), if_neg (by omega), if_neg (by omega)]
theorem sgn_ng (a b : Int) : sgn (-a) (-b) = - sgn a b := by
  have := sgn_neg a b
  simpa using this
theorem sgn_mone {a b : Int} : sgn a b = -1 ↔ Pos (-a) (-b) := by
  rw [← sgn_one, sgn_ng]
  omega
theorem sgn_zero {a b : Int} : sgn a b = 0 ↔ a = 0 ∧ b = 0 := by
  constructor
  · intro h
    have h1 : ¬ Pos a b := fun z => by rw [← sgn_one] at z; omega
    have h2 : ¬ Pos (-a) (-b) := fun z => by rw [← sgn_mone] at z; omega
    have h3 : 2 * (a * a) - b * b = 0 := by
      refine Classical.byContradiction fun z => ?_
      unfold Pos at h1 h2
      rw [Int.neg_mul_neg, Int.neg_mul_neg] at h2
      have ha := sq_nonneg a
      have hb := sq_nonneg b
      by_cases hn : 0 < 2 * (a * a) - b * b
      · have : a = 0 := by omega
        subst this
        omega
      · have : b = 0 := by omega
        subst this
        omega
    exact norm0 h3
  · rintro ⟨rfl, rfl⟩
    rfl
theorem sgn_three (a b : Int) : sgn a b = -1 ∨ sgn a b = 0 ∨ sgn a b = 1 := by
  unfold sgn
  repeat' split
  all_goals omega
/-- twice the product -/
def m1 (a b c d : Int) : Int := 2 * a * c + b * d
def m2 (a b c d : Int) : Int := 2 * (a * d + b * c)
theorem norm_mul (a b c d : Int) : 2 * (m1 a b c d * m1 a b c d) - m2 a b c d * m2 a b c d = 2 * ((2 * (a * a) - b * b) * (2 * (c * c) - d * d)) := by
  unfold m1 m2
  grind
theorem pos_mul {a b c d : Int} (h : Pos a b) (k : Pos c d) : Pos (m1 a b c d) (m2 a b c d) := by
  have hb := sq_nonneg b
  have hd := sq_nonneg d
  have ha := sq_nonneg a
  have hc := sq_nonneg c
  unfold Pos
  rw [norm_mul]
  unfold Pos at h k
  rcases h with ⟨h1, h2⟩ | ⟨h1, h2⟩ <;> rcases k with ⟨k1, k2⟩ | ⟨k1, k2⟩
  · refine .inl ⟨?_, ?_⟩
    · have := Int.mul_pos h1 k1
      omega
    · have q : (b * d) * (b * d) < (2 * a * c) * (2 * a * c) := by
        have := lt_mul (show b * b < 2 * (a * a) by omega) (show d * d < 2 * (c * c) by omega) hb hd
        have e1 : (b * d) * (b * d) = (b * b) * (d * d) := by grind
        have e2 : (2 * a * c) * (2 * a * c) = (2 * (a * a)) * (2 * (c * c)) := by grind
        rw [e1, e2]
        exact this
      have hac : 0 < 2 * a * c := Int.mul_pos (by omega) k2
      have := abs_of_sq q (by omega)
      unfold m1
      omega
  · refine .inr ⟨?_, ?_⟩
    · have := Int.mul_neg_of_pos_of_neg h1 k1
      omega
    · have q : (b * c) * (b * c) < (a * d) * (a * d) := by
        have := lt_mul (show b * b < 2 * (a * a) by omega) (show 2 * (c * c) < d * d by omega) hb (by omega)
        have e1 : (b * b) * (2 * (c * c)) = 2 * ((b * c) * (b * c)) := by grind
        have e2 : (2 * (a * a)) * (d * d) = 2 * ((a * d) * (a * d)) := by grind
        rw [e1, e2] at this
        omega
      have hac : 0 < a * d := Int.mul_pos h2 k2
      have := abs_of_sq q (by omega)
      unfold m2
      omega
  · refine .inr ⟨?_, ?_⟩
    · have := Int.mul_neg_of_neg_of_pos h1 k1
      omega
    · have q : (a * d) * (a * d) < (b * c) * (b * c) := by
        have := lt_mul (show 2 * (a * a) < b * b by omega) (show d * d < 2 * (c * c) by omega) (by omega) hd
        have e1 : (2 * (a * a)) * (d * d) = 2 * ((a * d) * (a * d)) := by grind
        have e2 : (b * b) * (2 * (c * c)) = 2 * ((b * c) * (b * c)) := by grind
        rw [e1, e2] at this
        omega
      have hac : 0 < b * c := Int.mul_pos h2 k2
      have := abs_of_sq q (by omega)
      unfold m2
      omega
  · refine .inl ⟨?_, ?_⟩
    · have := Int.mul_pos_of_neg_of_neg h1 k1
      omega
    · have q : (2 * a * c) * (2 * a * c) < (b * d) * (b * d) := by
        have := lt_mul (show 2 * (a * a) < b * b by omega) (show 2 * (c * c) < d * d by omega) (by omega) (by omega)
        have e1 : (b * d) * (b * d) = (b * b) * (d * d) := by grind
        have e2 : (2 * a * c) * (2 * a * c) = (2 * (a * a)) * (2 * (c * c)) := by grind
        rw [e1, e2]
        exact this
      have hac : 0 < b * d := Int.mul_pos h2 k2
      have := abs_of_sq q (by omega)
      unfold m1
      omega
theorem sgn_cases {a b : Int} : (sgn a b = 1 ∧ Pos a b) ∨ (sgn a b = 0 ∧ a = 0 ∧ b = 0) ∨ (sgn a b = -1 ∧ Pos (-a) (-b)) := by
  rcases sgn_three a b with h | h | h
  · exact .inr (.inr ⟨h, sgn_mone.mp h⟩)
  · exact .inr (.inl ⟨h, sgn_zero.mp h⟩)
  · exact .inl ⟨h, sgn_one.mp h⟩
theorem sgn_mul (a b c d : Int) : sgn (m1 a b c d) (m2 a b c d) = sgn a b * sgn c d := by
  have n1 : m1 (-a) (-b) c d = - m1 a b c d := by unfold m1; grind
  have n2 : m2 (-a) (-b) c d = - m2 a b c d := by unfold m2; grind
  have n3 : m1 a b (-c) (-d) = - m1 a b c d := by unfold m1; grind
  have n4 : m2 a b (-c) (-d) = - m2 a b c d := by unfold m2; grind
  have n5 : m1 (-a) (-b) (-c) (-d) = m1 a b c d := by unfold m1; grind
  have n6 : m2 (-a) (-b) (-c) (-d) = m2 a b c d := by unfold m2; grind
  rcases sgn_cases (a := a) (b := b) with ⟨h, p⟩ | ⟨h, rfl, rfl⟩ | ⟨h, p⟩ <;> rcases sgn_cases (a := c) (b := d) with ⟨k, q⟩ | ⟨k, rfl, rfl⟩ | ⟨k, q⟩ <;> (first | rw [h, k] | rw [h])
  · exact sgn_one.mpr (pos_mul p q)
  · exact sgn_zero.mpr ⟨by unfold m1; simp, by unfold m2; simp⟩
  · exact sgn_mone.mpr (by have := pos_mul p q; rwa [n3, n4] at this)
  · exact sgn_zero.mpr ⟨by unfold m1; simp, by unfold m2; simp⟩
  · exact sgn_zero.mpr ⟨by unfold m1; simp, by unfold m2; simp⟩
  · exact sgn_zero.mpr ⟨by unfold m1; simp, by unfold m2; simp⟩
  · exact sgn_mone.mpr (by have := pos_mul p q; rwa [n1, n2] at this)
  · exact sgn_zero.mpr ⟨by unfold m1; simp, by unfold m2; simp⟩
  · exact sgn_one.mpr (by have := pos_mul p q; rwa [n5, n6] at this)
theorem pos_more {a b n : Int} (h : Pos a b) (hn : 0 ≤ n) : Pos (n + a) b := by
  rw [pos_def] at h ⊢
  rcases h with ⟨h1, h2, h3⟩ | ⟨h1, h2, h3⟩ | ⟨h1, h2, h3⟩
  · exact .inl ⟨by omega, h2, by omega⟩
  · refine .inr (.inl ⟨by omega, h2, ?_⟩)
    have : a * a ≤ (n + a) * (n + a) := Int.mul_le_mul (by omega) (by omega) (by omega) (by omega)
    omega
  · by_cases h4 : 0 ≤ n + a
    · exact .inl ⟨h4, by omega, by omega⟩
    · refine .inr (.inr ⟨by omega, h2, ?_⟩)
      have : (-(n + a)) * (-(n + a)) ≤ (-a) * (-a) := Int.mul_le_mul (by omega) (by omega) (by omega) (by omega)
      rw [Int.neg_mul_neg, Int.neg_mul_neg] at this
      omega
theorem pos_add {a b c d : Int} (h : Pos a b) (k : Pos c d) : Pos (a + c) (b + d) := by
  have key : ∀ e f : Int, Pos e f → 0 ≤ m1 a b e f → m2 a b e f = 0 → Pos (a + c) (b + d) := fun e f q h1 h2 => by
    have w := pos_more (pos_mul k q) h1
    have e1 : m1 a b e f + m1 c d e f = m1 (a + c) (b + d) e f := by unfold m1; grind
    have e2 : m2 c d e f = m2 (a + c) (b + d) e f := by
      have : m2 (a + c) (b + d) e f = m2 a b e f + m2 c d e f := by unfold m2; grind
      omega
    rw [e1, e2, ← sgn_one, sgn_mul, sgn_one.mpr q, Int.mul_one] at w
    exact sgn_one.mp w
  have hh := h
  unfold Pos at hh
  rcases hh with ⟨h1, h2⟩ | ⟨h1, h2⟩
  · refine key a (-b) (.inl ⟨by rw [Int.neg_mul_neg]; exact h1, h2⟩) ?_ ?_
    · unfold m1
      rw [Int.mul_neg, Int.mul_assoc]
      omega
    · unfold m2
      grind
  · refine key (-a) b (.inr ⟨by rw [Int.neg_mul_neg]; exact h1, h2⟩) ?_ ?_
    · unfold m1
      rw [Int.mul_neg, Int.mul_assoc]
      omega
    · unfold m2
      grind
/-- the sign of a difference, where the signs differ -/
theorem sgn_gt {a b c d : Int} (h : sgn c d < sgn a b) : sgn (a - c) (b - d) = 1 := by
  rw [sgn_one]
  have e : ∀ x y : Int, x - y = x + -y := fun x y => by omega
  rcases sgn_cases (a := a) (b := b) with ⟨h1, p⟩ | ⟨h1, rfl, rfl⟩ | ⟨h1, p⟩ <;> rcases sgn_cases (a := c) (b := d) with ⟨k1, q⟩ | ⟨k1, rfl, rfl⟩ | ⟨k1, q⟩ <;> (first | rw [h1, k1] at h | rw [h1] at h) <;> first | (exfalso; omega) | skip
  · simpa using p
  · rw [e, e]; exact pos_add p q
  · simpa using q
theorem sgn_lt {a b c d : Int} (h : sgn a b < sgn c d) : sgn (a - c) (b - d) = -1 := by
  have := sgn_gt h
  have e := sgn_ng (a - c) (b - d)
  rw [show -(a - c) = c - a by omega, show -(b - d) = d - b by omega] at e
  omega
theorem sgn_eq0 {a b c d : Int} (h : sgn a b = 0) (k : sgn c d = 0) : sgn (a - c) (b - d) = 0 := by
  obtain ⟨rfl, rfl⟩ := sgn_zero.mp h
  obtain ⟨rfl, rfl⟩ := sgn_zero.mp k
  rfl
end Wk

/-! NM: the numbers a + b / sqrt 2 in order; between any two there is a third. -/
namespace Wk
open PySem L2
structure Nm where
  a : Int
  b : Int
def Nm.e (x : Nm) : D := .tuple [.int x.a, .int x.b]
def Nm.sg (x y : Nm) : Int := sgn (x.a - y.a) (x.b - y.b)
instance : LT Nm := ⟨fun x y => Nm.sg x y < 0⟩
instance : LE Nm := ⟨fun x y => Nm.sg x y ≤ 0⟩
instance (x y : Nm) : Decidable (x < y) := inferInstanceAs (Decidable (Nm.sg x y < 0))
instance (x y : Nm) : Decidable (x ≤ y) := inferInstanceAs (Decidable (Nm.sg x y ≤ 0))
instance : DecidableEq Nm := fun x y => if h : x.a = y.a ∧ x.b = y.b then .isTrue (by cases x; cases y; simp at h; simp [h]) else .isFalse (fun z => h (by rw [z]; exact ⟨rfl, rfl⟩))
theorem Nm.lt_iff {x y : Nm} : x < y ↔ Nm.sg x y < 0 := Iff.rfl
theorem Nm.le_iff {x y : Nm} : x ≤ y ↔ Nm.sg x y ≤ 0 := Iff.rfl
theorem Nm.sg_neg (x y : Nm) : Nm.sg y x = - Nm.sg x y := by
  unfold Nm.sg
  rw [← sgn_ng]
  congr 1 <;> omega
theorem Nm.sg_zero {x y : Nm} : Nm.sg x y = 0 ↔ x = y := by
  unfold Nm.sg
  rw [sgn_zero]
  constructor
  · intro ⟨h1, h2⟩; cases x; cases y; simp at *; omega
  · intro h; subst h; omega
theorem Nm.sg_three (x y : Nm) : Nm.sg x y = -1 ∨ Nm.sg x y = 0 ∨ Nm.sg x y = 1 := sgn_three _ _
theorem Nm.sg_mone {x y : Nm} : Nm.sg x y = -1 ↔ Pos (y.a - x.a) (y.b - x.b) := by
  unfold Nm.sg
  rw [sgn_mone, show -(x.a - y.a) = y.a - x.a by omega, show -(x.b - y.b) = y.b - x.b by omega]
theorem Nm.lt_pos {x y : Nm} : x < y ↔ Pos (y.a - x.a) (y.b - x.b) := by
  rw [Nm.lt_iff, ← Nm.sg_mone]
  have := Nm.sg_three x y
  omega
theorem Nm.lt_tr {x y z : Nm} (h : x < y) (k : y < z) : x < z := by
  rw [Nm.lt_pos] at *
  have := pos_add h k
  rw [show y.a - x.a + (z.a - y.a) = z.a - x.a by omega, show y.b - x.b + (z.b - y.b) = z.b - x.b by omega] at this
  exact this
theorem Nm.le_of {x y : Nm} : x ≤ y ↔ x < y ∨ x = y := by
  rw [Nm.le_iff, Nm.lt_iff, ← Nm.sg_zero]
  omega
theorem Nm.not_lt' {x y : Nm} : ¬ x < y ↔ y ≤ x := by
  rw [Nm.le_iff, Nm.lt_iff, Nm.sg_neg x y]
  omega
instance : Std.IsLinearOrder Nm where
  le_refl := fun x => Nm.le_of.mpr (.inr rfl)
  le_trans := fun x y z h k => by
    rcases Nm.le_of.mp h with h | h
    · rcases Nm.le_of.mp k with k | k
      · exact Nm.le_of.mpr (.inl (Nm.lt_tr h k))
      · subst k; exact Nm.le_of.mpr (.inl h)
    · subst h; exact k
  le_antisymm := fun x y h k => by
    rw [Nm.le_iff] at h k
    rw [Nm.sg_neg x y] at k
    exact Nm.sg_zero.mp (by omega)
  le_total := fun x y => by
    rw [Nm.le_iff, Nm.le_iff, Nm.sg_neg x y]
    omega
instance : Std.LawfulOrderLT Nm where
  lt_iff := fun x y => by
    rw [Nm.le_iff, Nm.le_iff, Nm.lt_iff, Nm.sg_neg x y]
    omega
theorem Nm.t1 (x y z : Nm) (h : x < y) (k : y ≤ z) : ¬ z ≤ x := by grind
theorem Nm.t2 (x y z : Nm) (h : ¬ x < y) (k : ¬ y < z) (e : ¬ z < x) : x = y := by grind
/-- between two numbers there is a third -/
theorem Nm.dense {x y : Nm} (h : x < y) : ∃ z : Nm, x < z ∧ z < y := by
  have p := Nm.lt_pos.mp h
  have mul : ∀ (a b c d : Int), Pos a b → sgn c d = 1 → sgn (m1 a b c d) (m2 a b c d) = 1 := fun a b c d h k => by
    rw [sgn_mul, sgn_one.mpr h, k]
    rfl
  generalize ha : y.a - x.a = a at p
  generalize hb : y.b - x.b = b at p
  have q1 := mul a b (-1) 2 p (by decide)
  have q2 := mul a b 2 (-2) p (by decide)
  have e1 : sgn (b - a) (2 * a - b) = 1 := by
    rw [← sgn_two, ← q1]
    unfold m1 m2
    congr 1 <;> omega
  have e2 : sgn (2 * a - b) (2 * b - 2 * a) = 1 := by
    rw [← sgn_two, ← q2]
    unfold m1 m2
    congr 1 <;> omega
  refine ⟨⟨x.a + (b - a), x.b + (2 * a - b)⟩, ?_, ?_⟩
  · rw [Nm.lt_pos, show x.a + (b - a) - x.a = b - a by omega, show x.b + (2 * a - b) - x.b = 2 * a - b by omega]
    exact sgn_one.mp e1
  · rw [Nm.lt_pos]
    have := sgn_one.mp e2
    show Pos (y.a - (x.a + (b - a))) (y.b - (x.b + (2 * a - b)))
    rw [show y.a - (x.a + (b - a)) = 2 * a - b by omega, show y.b - (x.b + (2 * a - b)) = 2 * b - 2 * a by omega]
    exact this
end Wk

/-! RNL: the hand in the store. -/
namespace Wk
open PySem L2
section
variable {f g k : Ev} {fa : Ea} {env : Env'} {h : Sto} {u w : U}
@[simp] theorem ev_Fld (c f' : Str) : eFld c f' f env h = (f env h).bind fun u h1 => match insOf h1 u with
  | some (c', fs) => if c' = c then (match fs.lookup f' with
    | some w => .ok w h1
    | none => .stuck) else .stuck
  | none => .stuck := (rfl)
@[simp] theorem ev_FldS (c f' : Str) : sFldS c f' f g env h = (f env h).then_ env fun w h1 => (g env h1).then_ env fun u h2 => match u with
  | .ref n => (match h2[n]? with
    | some (.ins c' fs) => if c' = c ∧ fs.length < 1000 then .next env (h2.set n (.ins c' (putG f' w fs))) else .stuck
    | _ => .stuck)
  | _ => .stuck := (rfl)
@[simp] theorem ev_insR (n : Nat) : insOf h (.ref n) = match h[n]? with | some (.ins c fs) => some (c, fs) | _ => none := (rfl)
@[simp] theorem ev_Mth (c m : Str) (F : SF) : eMth c m F f fa env h = (f env h).bind fun u h1 => match insOf h1 u with
  | some (c', fs) => if c' = c ∧ fs.lookup m = none then (fa env h1).bind fun us h2 => F (u :: us) h2 else .stuck
  | none => .stuck := (rfl)
@[simp] theorem ev_Mk (c : Str) (F : SF) : eMk c F fa env h = (fa env h).bind fun us h1 => (F (.ref h1.length :: us) (h1 ++ [.ins c []])).bind (retN h1.length) := (rfl)
@[simp] theorem ev_retN (n : Nat) : retN n (.d .none) h = .ok (.ref n) h := (rfl)
@[simp] theorem ev_Raise (c : Str) : sRaise c env h = .exc c env h := (rfl)
@[simp] theorem ev_DNew : eDNew env h = .ok (.ref h.length) (h ++ [.dct []]) := (rfl)
@[simp] theorem ev_RetN : sRetN env h = .ret (.d .none) h := (rfl)
theorem sfOf_ap (n : Nat) (B : Es) (us : List U) (h : Sto) : sfOf n B us h = match B (us.map some ++ List.replicate (n - us.length) none) h with
  | .ret u h' => .ok u h'
  | .next _ h' => .ok (.d .none) h'
  | .exc c _ h' => .exc c h'
  | .stuck => .stuck := (rfl)
end
@[simp] theorem ev_eqStr (n : Bool) (x y : Str) (h : Sto) : opEqB n (.d (.str x)) (.d (.str y)) h = .ok (.d (.bool (xor n (decide (x = y))))) h := (rfl)
/-- what the hand holds -/
structure Hd where
  spot : P4
  heading : Int
  down : Bool
  ink : Int
  turns : Int
  rest : Int
  marks : List (Key × U)
  strokes : List D
  corners : List D
  plain : List D
def hfs (n : Nat) (x : Hd) : List (Str × U) := [("spot", .d x.spot.e), ("heading", .d (.int x.heading)), ("is_down", .d (.bool x.down)), ("ink", .d (.int x.ink)), ("marks", .ref (n + 1)), ("strokes", .ref (n + 2)), ("corners", .ref (n + 3)), ("turns", .d (.int x.turns)), ("rest", .d (.int x.rest)), ("plain", .ref (n + 4))]
structure HS (n : Nat) (x : Hd) (h : Sto) : Prop where
  o : h[n]? = some (.ins "Hand" (hfs n x))
  m : h[n + 1]? = some (.dct x.marks)
  s : h[n + 2]? = some (.lst x.strokes)
  c : h[n + 3]? = some (.lst x.corners)
  p : h[n + 4]? = some (.lst x.plain)
/-- the store with the hand x at n -/
def hset (n : Nat) (x : Hd) (h : Sto) : Sto := ((((h.set n (.ins "Hand" (hfs n x))).set (n + 1) (.dct x.marks)).set (n + 2) (.lst x.strokes)).set (n + 3) (.lst x.corners)).set (n + 4) (.lst x.plain)
theorem hset_len (n : Nat) (x : Hd) (h : Sto) : (hset n x h).length = h.length := by simp [hset]
theorem HS.lt {n : Nat} {x : Hd} {h : Sto} (s : HS n x h) : n + 4 < h.length := (List.getElem?_eq_some_iff.mp s.p).1
theorem hset_get {n : Nat} {x : Hd} {h : Sto} (hl : n + 4 < h.length) (i : Nat) : (hset n x h)[i]? = if i = n then some (.ins "Hand" (hfs n x)) else if i = n + 1 then some (.dct x.marks) else if i = n + 2 then some (.lst x.strokes) else if i = n + 3 then some (.lst x.corners) else if i = n + 4 then some (.lst x.plain) else h[i]? := by
  unfold hset
  simp only [List.getElem?_set, List.length_set]
  by_cases h0 : i = n
  · subst h0
    simp [show ¬ i + 4 = i by omega, show ¬ i + 3 = i by omega, show ¬ i + 2 = i by omega, show ¬ i + 1 = i by omega, show i < h.length by omega]
  · by_cases h1 : i = n + 1
    · subst h1
      simp [show n + 1 < h.length by omega]
    · by_cases h2 : i = n + 2
      · subst h2
        simp [show n + 2 < h.length by omega]
      · by_cases h3 : i = n + 3
        · subst h3
          simp [show n + 3 < h.length by omega]
        · by_cases h4 : i = n + 4
          · subst h4
            simp [hl]
          · simp [h0, h1, h2, h3, h4, show ¬ n + 4 = i by omega, show ¬ n + 3 = i by omega, show ¬ n + 2 = i by omega, show ¬ n + 1 = i by omega, show ¬ n = i by omega]
theorem HS.set {n : Nat} {x x' : Hd} {h : Sto} (s : HS n x h) : HS n x' (hset n x' h) := by
  have hl := s.lt
  constructor <;> rw [hset_get hl] <;> simp
theorem hset_hset {n : Nat} {x x' : Hd} {h : Sto} (hl : n + 4 < h.length) : hset n x' (hset n x h) = hset n x' h := by
  apply List.ext_getElem?
  intro i
  rw [hset_get (by rw [hset_len]; exact hl), hset_get hl, hset_get hl]
  by_cases h0 : i = n <;> by_cases h1 : i = n + 1 <;> by_cases h2 : i = n + 2 <;> by_cases h3 : i = n + 3 <;> by_cases h4 : i = n + 4 <;> simp [h0, h1, h2, h3, h4]
/-- another store is the one with the hand x' -/
theorem hset_is {n : Nat} {x' : Hd} {h h' : Sto} (hl : n + 4 < h.length) (s : HS n x' h') (e : ∀ i, i ≠ n → i ≠ n + 1 → i ≠ n + 2 → i ≠ n + 3 → i ≠ n + 4 → h'[i]? = h[i]?) : h' = hset n x' h := by
  apply List.ext_getElem?
  intro i
  rw [hset_get hl]
  by_cases h0 : i = n
  · subst h0; rw [if_pos rfl]; exact s.o
  · rw [if_neg h0]
    by_cases h1 : i = n + 1
    · subst h1; rw [if_pos rfl]; exact s.m
    · rw [if_neg h1]
      by_cases h2 : i = n + 2
      · subst h2; rw [if_pos rfl]; exact s.s
      · rw [if_neg h2]
        by_cases h3 : i = n + 3
        · subst h3; rw [if_pos rfl]; exact s.c
        · rw [if_neg h3]
          by_cases h4 : i = n + 4
          · subst h4; rw [if_pos rfl]; exact s.p
          · rw [if_neg h4]; exact e i h0 h1 h2 h3 h4
theorem HS.self {n : Nat} {x : Hd} {h : Sto} (s : HS n x h) : hset n x h = h := (hset_is s.lt s fun _ _ _ _ _ _ => rfl).symm
/-- only the object itself -/
theorem hset_o {n : Nat} {x x' : Hd} {h : Sto} (s : HS n x h) (e1 : x'.marks = x.marks) (e2 : x'.strokes = x.strokes) (e3 : x'.corners = x.corners) (e4 : x'.plain = x.plain) : h.set n (.ins "Hand" (hfs n x')) = hset n x' h := by
  have hl := s.lt
  refine hset_is hl ⟨by rw [List.getElem?_set_self (by omega)], ?_, ?_, ?_, ?_⟩ fun i h0 _ _ _ _ => by rw [List.getElem?_set_ne (Ne.symm h0)]
  · rw [List.getElem?_set_ne (by omega), e1]; exact s.m
  · rw [List.getElem?_set_ne (by omega), e2]; exact s.s
  · rw [List.getElem?_set_ne (by omega), e3]; exact s.c
  · rw [List.getElem?_set_ne (by omega), e4]; exact s.p

section
variable (n : Nat) (x : Hd)
@[simp] theorem lk_spot : (hfs n x).lookup ("spot" : Str) = some (U.d x.spot.e) := by with_unfolding_all rfl
@[simp] theorem lk_heading : (hfs n x).lookup ("heading" : Str) = some (U.d (.int x.heading)) := by with_unfolding_all rfl
@[simp] theorem lk_is_down : (hfs n x).lookup ("is_down" : Str) = some (U.d (.bool x.down)) := by with_unfolding_all rfl
@[simp] theorem lk_ink : (hfs n x).lookup ("ink" : Str) = some (U.d (.int x.ink)) := by with_unfolding_all rfl
@[simp] theorem lk_marks : (hfs n x).lookup ("marks" : Str) = some (U.ref (n + 1)) := by with_unfolding_all rfl
@[simp] theorem lk_strokes : (hfs n x).lookup ("strokes" : Str) = some (U.ref (n + 2)) := by with_unfolding_all rfl
@[simp] theorem lk_corners : (hfs n x).lookup ("corners" : Str) = some (U.ref (n + 3)) := by with_unfolding_all rfl
@[simp] theorem lk_turns : (hfs n x).lookup ("turns" : Str) = some (U.d (.int x.turns)) := by with_unfolding_all rfl
@[simp] theorem lk_rest : (hfs n x).lookup ("rest" : Str) = some (U.d (.int x.rest)) := by with_unfolding_all rfl
@[simp] theorem lk_plain : (hfs n x).lookup ("plain" : Str) = some (U.ref (n + 4)) := by with_unfolding_all rfl
@[simp] theorem lm_deed : (hfs n x).lookup ("deed" : Str) = none := by with_unfolding_all rfl
@[simp] theorem lm_go : (hfs n x).lookup ("go" : Str) = none := by with_unfolding_all rfl
@[simp] theorem lm_turn : (hfs n x).lookup ("turn" : Str) = none := by with_unfolding_all rfl
@[simp] theorem lm_back : (hfs n x).lookup ("back" : Str) = none := by with_unfolding_all rfl
@[simp] theorem lm_state : (hfs n x).lookup ("state" : Str) = none := by with_unfolding_all rfl
@[simp] theorem pt_spot (p : P4) : putG "spot" (.d p.e) (hfs n x) = hfs n { x with spot := p } := by with_unfolding_all rfl
@[simp] theorem pt_heading (i : Int) : putG "heading" (.d (.int i)) (hfs n x) = hfs n { x with heading := i } := by with_unfolding_all rfl
@[simp] theorem pt_down (i : Bool) : putG "is_down" (.d (.bool i)) (hfs n x) = hfs n { x with down := i } := by with_unfolding_all rfl
@[simp] theorem pt_ink (i : Int) : putG "ink" (.d (.int i)) (hfs n x) = hfs n { x with ink := i } := by with_unfolding_all rfl
@[simp] theorem pt_turns (i : Int) : putG "turns" (.d (.int i)) (hfs n x) = hfs n { x with turns := i } := by with_unfolding_all rfl
@[simp] theorem pt_rest (i : Int) : putG "rest" (.d (.int i)) (hfs n x) = hfs n { x with rest := i } := by with_unfolding_all rfl
@[simp] theorem hfs_len : (hfs n x).length = 10 := (rfl)
end

/-- there is a place n in the store -/
def InS (n : Nat) (h : Sto) : Prop := n < h.length
@[simp] theorem inS_set (n m : Nat) (a : Ob) (h : Sto) : InS n (h.set m a) ↔ InS n h := by simp [InS]
@[simp] theorem gs_same {n : Nat} {h : Sto} {a : Ob} (hn : InS n h) : (h.set n a)[n]? = some a := List.getElem?_set_self hn
@[simp] theorem gs_ne {n m : Nat} {h : Sto} {a : Ob} (hn : m ≠ n) : (h.set m a)[n]? = h[n]? := List.getElem?_set_ne hn
theorem HS.i {n : Nat} {x : Hd} {h : Sto} (s : HS n x h) : InS n h ∧ InS (n + 1) h ∧ InS (n + 2) h ∧ InS (n + 3) h ∧ InS (n + 4) h := by
  have := s.lt
  unfold InS
  omega
def cfs (w : U) (ns : List D) (k : D) : List (Str × U) := [("words", w), ("numbers", .d (.list ns)), ("count", .d k)]
theorem lc_value (w : U) (ns : List D) (k : D) : (cfs w ns k).lookup ("value" : Str) = none := by with_unfolding_all rfl
/-- simple statements -/
inductive Smp where
  | go (v : Int)
  | turn (v : Int)
  | ink (v : Int)
  | up
  | down
def Smp.e : Smp → D
  | .go v => .tuple [.str "go", .int v]
  | .turn v => .tuple [.str "turn", .int v]
  | .ink v => .tuple [.str "ink", .int v]
  | .up => .tuple [.str "up"]
  | .down => .tuple [.str "down"]
def Smp.small : Smp → Prop
  | .go v => v.natAbs ≤ 1000000
  | .turn v => v.natAbs ≤ 1000000
  | .ink v => v.natAbs ≤ 1000000
  | _ => True
def Smp.verb : Smp → Str
  | .go _ => "go"
  | .turn _ => "turn"
  | .ink _ => "ink"
  | .up => "up"
  | .down => "down"
def Smp.val : Smp → Int
  | .go v => v
  | .turn v => v
  | .ink v => v
  | _ => 0
def Hd.st (x : Hd) : D := .tuple [x.spot.e, .int x.heading, .bool x.down, .int x.ink]
/-- what a simple statement does, but the deed and the note -/
def Smp.act (s : Smp) (x : Hd) : Hd := match s with
  | .go t => { x with spot := mv x.heading t x.spot, strokes := if x.down = true ∧ t ≠ 0 then x.strokes ++ [.tuple [.int x.ink, x.spot.e, (mv x.heading t x.spot).e]] else x.strokes, corners := x.corners ++ [(mv x.heading t x.spot).e] }
  | .turn e => { x with turns := x.turns + e, heading := (x.heading + e) % 8 }
  | .ink v => { x with ink := v % 8 }
  | .up => { x with down := false }
  | .down => { x with down := true }
def Hd.noted (x : Hd) (s : Smp) : Hd := { x with plain := x.plain ++ [.tuple [.str s.verb, .int s.val, x.st]] }
def Hd.ok (x : Hd) (n : Nat) : Prop := 0 ≤ x.heading ∧ x.heading < 8 ∧ x.strokes.length < n ∧ x.corners.length < n ∧ x.plain.length < n
def Hd.less (x : Hd) : Hd := { x with rest := x.rest - 1 }
def Smp.done (k : Smp) (x : Hd) : Hd := k.act (x.less.noted k)
theorem hset3 {n : Nat} {x y z : Hd} {h : Sto} (hl : n + 4 < h.length) : hset n z (hset n y (hset n x h)) = hset n z h := by
  rw [hset_hset (by rw [hset_len]; exact hl), hset_hset hl]
/-- a plain body walked -/
def wk : List Smp → Hd → Hd × Bool
  | [], x => (x, true)
  | k :: r, x => if x.rest ≤ 0 then (x, false) else wk r (k.done x)
theorem done_ok {k : Smp} {x : Hd} {b : Nat} (h : x.ok b) : (k.done x).ok (b + 1) := by
  obtain ⟨h0, h1, h2, h3, h4⟩ := h
  have e := Int.emod_nonneg (x.heading + k.val) (show (8 : Int) ≠ 0 by decide)
  have e' := Int.emod_lt_of_pos (x.heading + k.val) (show (0 : Int) < 8 by decide)
  cases k with
  | go v =>
    refine ⟨h0, h1, ?_, ?_, ?_⟩
    · show (if x.down = true ∧ v ≠ 0 then _ else _ : List D).length < _
      split
      · show (x.strokes ++ _).length < _
        rw [List.length_append, List.length_singleton]; omega
      · show x.strokes.length < _; omega
    · show (x.corners ++ _).length < _
      rw [List.length_append, List.length_singleton]; omega
    · show (x.plain ++ _).length < _
      rw [List.length_append, List.length_singleton]; omega
  | turn v =>
    refine ⟨e, e', ?_, ?_, ?_⟩
    · show x.strokes.length < _; omega
    · show x.corners.length < _; omega
    · show (x.plain ++ _).length < _
      rw [List.length_append, List.length_singleton]; omega
  | ink v =>
    refine ⟨h0, h1, ?_, ?_, ?_⟩
    · show x.strokes.length < _; omega
    · show x.corners.length < _; omega
    · show (x.plain ++ _).length < _
      rw [List.length_append, List.length_singleton]; omega
  | up =>
    refine ⟨h0, h1, ?_, ?_, ?_⟩
    · show x.strokes.length < _; omega
    · show x.corners.length < _; omega
    · show (x.plain ++ _).length < _
      rw [List.length_append, List.length_singleton]; omega
  | down =>
    refine ⟨h0, h1, ?_, ?_, ?_⟩
    · show x.strokes.length < _; omega
    · show x.corners.length < _; omega
    · show (x.plain ++ _).length < _
      rw [List.length_append, List.length_singleton]; omega
def hd0 (most : Int) : Hd := ⟨⟨0, 0, 0, 0⟩, 0, true, 0, 0, most, [], [], [P4.e ⟨0, 0, 0, 0⟩], []⟩
def hb (n : Nat) (x : Hd) : Sto := [.ins "Hand" (hfs n x), .dct x.marks, .lst x.strokes, .lst x.corners, .lst x.plain]
theorem hb_HS (h t : Sto) (x : Hd) : HS h.length x (h ++ (hb h.length x ++ t)) := by
  have e : ∀ i, (h ++ (hb h.length x ++ t))[h.length + i]? = (hb h.length x ++ t)[i]? := fun i => by
    rw [List.getElem?_append_right (by omega), Nat.add_sub_cancel_left]
  exact ⟨by have := e 0; rw [Nat.add_zero] at this; rw [this]; rfl, e 1, e 2, e 3, e 4⟩
theorem hset_hb (h t : Sto) (x y : Hd) : hset h.length y (h ++ (hb h.length x ++ t)) = h ++ (hb h.length y ++ t) := by
  symm
  refine hset_is (hb_HS h t x).lt (hb_HS h t y) fun i h0 h1 h2 h3 h4 => ?_
  by_cases hi : i < h.length
  · rw [List.getElem?_append_left hi, List.getElem?_append_left hi]
  · obtain ⟨j, rfl⟩ : ∃ j, i = h.length + (5 + j) := ⟨i - h.length - 5, by omega⟩
    have e : ∀ z : Hd, (h ++ (hb h.length z ++ t))[h.length + (5 + j)]? = t[j]? := fun z => by
      rw [List.getElem?_append_right (by omega), Nat.add_sub_cancel_left]
      have hz : (hb h.length z).length = 5 := rfl
      rw [List.getElem?_append_right (by rw [hz]; omega), hz, Nat.add_sub_cancel_left]
    rw [e, e]
@[simp] theorem ev_allR (n : Nat) (r : List U) : allD (.ref n :: r) = none := (rfl)
end Wk

/-! DK: a deck of numbers in the store, drawn from its end. -/
namespace Wk
open PySem L2
def dk (ds : List Int) : List D := (ds.map PyData.int).reverse
@[simp] theorem ev_lenRf (n : Nat) (h : Sto) : fLen [.ref n] h = match h[n]? with | some (.lst xs) => .ok (.d (.int xs.length)) h | some (.frz xs) => .ok (.d (.int xs.length)) h | _ => .stuck := by
  unfold fLen lenOf
  simp only [tupOf, strOf, ev_lstR]
  cases e : h[n]? with
  | none => rfl
  | some o => cases o <;> rfl
@[simp] theorem ev_popRf (n : Nat) (h : Sto) : fPop (.ref n) [] h = match h[n]? with | some (.lst xs) => (match xs[xs.length - 1]? with | some y => .ok (.d y) (h.set n (.lst xs.dropLast)) | none => .stuck) | _ => .stuck := (rfl)
theorem dk_len (ds : List Int) : (dk ds).length = ds.length := by simp [dk]
theorem dk_last (c : Int) (ds : List Int) : (dk (c :: ds))[(dk (c :: ds)).length - 1]? = some (.int c) := by
  simp [dk]
theorem dk_drop (c : Int) (ds : List Int) : (dk (c :: ds)).dropLast = dk ds := by
  simp [dk]
theorem set_self {n : Nat} {h : Sto} {a : Ob} (e : h[n]? = some a) : h.set n a = h := by
  apply List.ext_getElem?
  intro i
  rw [List.getElem?_set]
  split
  · rename_i hi
    subst hi
    split
    · exact e.symm
    · rename_i hl
      exact (List.getElem?_eq_none (Nat.not_lt.mp hl)).symm
  · rfl
theorem get_lt {n : Nat} {h : Sto} {a : Ob} (e : h[n]? = some a) : InS n h := (List.getElem?_eq_some_iff.mp e).1
@[simp] theorem set2 (n : Nat) (h : Sto) (a b : Ob) : (h.set n a).set n b = h.set n b := List.set_set ..
/-! ### data that can be held against each other -/
def Shp (k : Nat) (d : D) : Prop := d.canLay0 = true ∧ d.depth ≤ k
theorem Shp.int (k : Nat) (i : Int) : Shp k (.int i) := ⟨rfl, by rw [PyData.depth] <;> first | exact Nat.zero_le _ | (intros; simp)⟩
theorem Shp.bool (k : Nat) (i : Bool) : Shp k (.bool i) := ⟨rfl, by rw [PyData.depth] <;> first | exact Nat.zero_le _ | (intros; simp)⟩
theorem Shp.none (k : Nat) : Shp k .none := ⟨rfl, by rw [PyData.depth] <;> first | exact Nat.zero_le _ | (intros; simp)⟩
theorem Shp.str (k : Nat) {x : Str} (h : PySem.PyData.canLay0 (.str x) = true) : Shp k (.str x) := ⟨h, by rw [PyData.depth] <;> first | exact Nat.zero_le _ | (intros; simp)⟩
theorem canAll {xs : List D} (h : ∀ x ∈ xs, x.canLay0 = true) : PyData.canLayAll0 xs = true := by
  induction xs with
  | nil => rfl
  | cons a r ih =>
    rw [PyData.canLayAll0, h a List.mem_cons_self, Bool.true_and]
    exact ih fun x hx => h x (List.mem_cons_of_mem _ hx)
theorem depAll {k : Nat} {xs : List D} (h : ∀ x ∈ xs, x.depth ≤ k) : PyData.depthAll xs ≤ k := by
  induction xs with
  | nil => rw [PyData.depthAll]; exact Nat.zero_le _
  | cons a r ih =>
    rw [PyData.depthAll]
    exact Nat.max_le.mpr ⟨h a List.mem_cons_self, ih fun x hx => h x (List.mem_cons_of_mem _ hx)⟩
theorem Shp.tuple {k : Nat} {xs : List D} (h : ∀ x ∈ xs, Shp k x) : Shp (k + 1) (.tuple xs) := by
  refine ⟨?_, ?_⟩
  · rw [PyData.canLay0]; exact canAll fun x hx => (h x hx).1
  · rw [PyData.depth]
    have := depAll fun x hx => (h x hx).2
    omega
theorem Shp.list {k : Nat} {xs : List D} (h : ∀ x ∈ xs, Shp k x) : Shp (k + 1) (.list xs) := by
  refine ⟨?_, ?_⟩
  · rw [PyData.canLay0]; exact canAll fun x hx => (h x hx).1
  · rw [PyData.depth]
    have := depAll fun x hx => (h x hx).2
    omega
theorem Shp.mono {k m : Nat} {d : D} (h : Shp k d) (l : k ≤ m) : Shp m d := ⟨h.1, Nat.le_trans h.2 l⟩
theorem Shp.shaped {k : Nat} {d : D} (h : Shp k d) (l : k ≤ 64) : SeqAt.shaped d = true := by
  unfold SeqAt.shaped
  rw [h.1, decide_eq_true (Nat.le_trans h.2 l)]
  rfl
theorem Shp.place (p : P4) : Shp 2 p.e := by
  refine Shp.tuple fun x hx => ?_
  simp only [List.mem_cons, List.not_mem_nil, or_false] at hx
  rcases hx with rfl | rfl <;> refine Shp.tuple fun y hy => ?_ <;> simp only [List.mem_cons, List.not_mem_nil, or_false] at hy <;> rcases hy with rfl | rfl <;> exact .int _ _
theorem ixU (us : List U) (i : Int) (h : Sto) : opIx (.tup us) (.d (.int i)) h = match atI us i with | some x => .ok x h | none => .stuck := (rfl)
theorem isiU (us : List U) (h : Sto) : opIsi .tuple (.tup us) h = .ok (.d (.bool true)) h := (rfl)
theorem isiR (n : Nat) (xs : List D) (h : Sto) (e : h[n]? = some (.lst xs)) : opIsi .list (.ref n) h = .ok (.d (.bool true)) h := by
  unfold opIsi isTyU
  simp [e]
theorem lenU (us : List U) (h : Sto) : fLen [.tup us] h = .ok (.d (.int us.length)) h := (rfl)
theorem tupR (n : Nat) (xs : List D) (h : Sto) (e : h[n]? = some (.lst xs)) : fTuple [.ref n] h = .ok (.d (.tuple xs)) h := by
  have : seqOf h (.ref n) = some xs := by
    show listOf h (.ref n) = some xs
    simp [e]
  unfold fTuple
  simp only [this]
theorem lisR (b : Bool) (n : Nat) (xs : List D) (h : Sto) (e : h[n]? = some (.lst xs)) : fList b [.ref n] h = mkL b xs h := by
  have : seqOf h (.ref n) = some xs := by
    show listOf h (.ref n) = some xs
    simp [e]
  unfold fList
  simp only [this]
@[simp] theorem tupL (xs : List D) (h : Sto) : fTuple [.d (.list xs)] h = .ok (.d (.tuple xs)) h := (rfl)
@[simp] theorem tupT (xs : List D) (h : Sto) : fTuple [.d (.tuple xs)] h = .ok (.d (.tuple xs)) h := (rfl)
@[simp] theorem lisL (b : Bool) (xs : List D) (h : Sto) : fList b [.d (.list xs)] h = mkL b xs h := (rfl)
@[simp] theorem lisT (b : Bool) (xs : List D) (h : Sto) : fList b [.d (.tuple xs)] h = mkL b xs h := (rfl)
theorem ev_eqBl (n a b : Bool) (h : Sto) : opEqB n (.d (.bool a)) (.d (.bool b)) h = .ok (.d (.bool (xor n (a == b)))) h := by
  cases a <;> cases b <;> cases n <;> rfl
theorem addTT (xs ys : List D) (h : Sto) (hl : xs.length + ys.length ≤ 16777216) : opAdd false (.d (.tuple xs)) (.d (.tuple ys)) h = .ok (.d (.tuple (xs ++ ys))) h := by
  show (if fits (xs.length + ys.length) then _ else Res.stuck) = _
  rw [fits_of hl]
  rfl
theorem cut_to' {α : Type} (l : List α) (n : Nat) : cutD l none (some (n : Int)) = l.take n := by
  unfold cutD
  have h1 : HT.sIx l.length 0 none = 0 := rfl
  rw [h1, HT.sIx_nat]
  simp
/-- the items that pass a test -/
theorem lcGo_yes {t : Tg} {c : Eb} {e : Ev} {env : Env'} {h : Sto} : ∀ {us : List D} {acc : List D}, (∀ u ∈ us, ∃ env1, t (.d u) env h = some env1 ∧ c env1 h = .ok true h ∧ e env1 h = .ok (.d u) h) → acc.length + us.length ≤ 16777216 → lcGo t c e env (us.map .d) acc h = .ok (acc ++ us) h
  | [], acc, _, _ => by simp
  | u :: us, acc, H, hl => by
    obtain ⟨env1, e1, e2, e3⟩ := H u List.mem_cons_self
    rw [List.length_cons] at hl
    have hf : fits (acc.length + 1) = true := fits_of (by omega)
    rw [List.map_cons, ev_lcC, e1]
    simp only [e2, e3, Res.bind_ok, hf, if_true]
    rw [lcGo_yes (fun v hv => H v (List.mem_cons_of_mem _ hv)) (by rw [List.length_append, List.length_singleton]; omega)]
    simp
end Wk

/-! BK: plain bodies walked, and walked backwards. -/
namespace Wk
open PySem L2
/-- backwards: one statement -/
def Smp.inv (k : Smp) (pen : Bool) (ink : Int) : Smp := match k with
  | .ink _ => .ink ink
  | .go v => .go (0 - v)
  | .turn v => .turn (0 - v)
  | _ => if pen then .down else .up
def Smp.pen' (k : Smp) (pen : Bool) : Bool := match k with
  | .up => false
  | .down => true
  | _ => pen
def Smp.ink' (k : Smp) (ink : Int) : Int := match k with
  | .ink v => v % 8
  | _ => ink
def bkw : List Smp → Bool → Int → List Smp
  | [], _, _ => []
  | k :: r, pen, ink => k.inv pen ink :: bkw r (k.pen' pen) (k.ink' ink)
theorem bkw_len : ∀ (l : List Smp) (pen : Bool) (ink : Int), (bkw l pen ink).length = l.length
  | [], _, _ => rfl
  | k :: r, pen, ink => by rw [bkw, List.length_cons, List.length_cons, bkw_len]
theorem bkw_small : ∀ (l : List Smp) (pen : Bool) (ink : Int), (∀ k ∈ l, k.small) → 0 ≤ ink → ink < 8 → ∀ k ∈ bkw l pen ink, k.small
  | [], _, _, _, _, _ => by simp [bkw]
  | k :: r, pen, ink, sm, h0, h1 => by
    intro x hx
    rw [bkw] at hx
    rcases List.mem_cons.mp hx with z | z
    · subst z
      have hk := sm k List.mem_cons_self
      cases k with
      | go v => show Int.natAbs _ ≤ _; have : v.natAbs ≤ 1000000 := hk; omega
      | turn v => show Int.natAbs _ ≤ _; have : v.natAbs ≤ 1000000 := hk; omega
      | ink v => show Int.natAbs _ ≤ _; omega
      | up => cases pen <;> trivial
      | down => cases pen <;> trivial
    · refine bkw_small r _ _ (fun y hy => sm y (List.mem_cons_of_mem _ hy)) ?_ ?_ x z
      · cases k <;> first | exact h0 | exact Int.emod_nonneg _ (show (8 : Int) ≠ 0 by decide)
      · cases k <;> first | exact h1 | exact Int.emod_lt_of_pos _ (show (0 : Int) < 8 by decide)
/-- the hand's core -/
structure Cr where
  spot : P4
  heading : Int
  pen : Bool
  ink : Int
def Smp.cr (k : Smp) (x : Cr) : Cr := match k with
  | .go v => { x with spot := mv x.heading v x.spot }
  | .turn v => { x with heading := (x.heading + v) % 8 }
  | .ink v => { x with ink := v % 8 }
  | .up => { x with pen := false }
  | .down => { x with pen := true }
structure Stk where
  ink : Int
  a : P4
  b : P4
def Stk.e (s : Stk) : D := .tuple [.int s.ink, s.a.e, s.b.e]
def Smp.dr (k : Smp) (x : Cr) : List Stk := match k with
  | .go v => if x.pen = true ∧ v ≠ 0 then [⟨x.ink, x.spot, mv x.heading v x.spot⟩] else []
  | _ => []
def crs : List Smp → Cr → Cr
  | [], x => x
  | k :: r, x => crs r (k.cr x)
def drs : List Smp → Cr → List Stk
  | [], _ => []
  | k :: r, x => k.dr x ++ drs r (k.cr x)
theorem crs_app : ∀ (l m : List Smp) (x : Cr), crs (l ++ m) x = crs m (crs l x)
  | [], _, _ => rfl
  | k :: r, m, x => crs_app r m (k.cr x)
theorem drs_app : ∀ (l m : List Smp) (x : Cr), drs (l ++ m) x = drs l x ++ drs m (crs l x)
  | [], _, _ => rfl
  | k :: r, m, x => by
    show k.dr x ++ drs (r ++ m) (k.cr x) = k.dr x ++ drs r (k.cr x) ++ drs m (crs r (k.cr x))
    rw [drs_app r m, List.append_assoc]
def Cr.ok (x : Cr) : Prop := 0 ≤ x.heading ∧ x.heading < 8 ∧ 0 ≤ x.ink ∧ x.ink < 8
theorem cr_ok {k : Smp} {x : Cr} (h : x.ok) : (k.cr x).ok := by
  obtain ⟨h0, h1, h2, h3⟩ := h
  cases k with
  | go v => exact ⟨h0, h1, h2, h3⟩
  | turn v => exact ⟨Int.emod_nonneg _ (by decide), Int.emod_lt_of_pos _ (by decide), h2, h3⟩
  | ink v => exact ⟨h0, h1, Int.emod_nonneg _ (by decide), Int.emod_lt_of_pos _ (by decide)⟩
  | up => exact ⟨h0, h1, h2, h3⟩
  | down => exact ⟨h0, h1, h2, h3⟩
theorem mv_neg (h v : Int) (p : P4) : mv h (0 - v) (mv h v p) = p := by
  unfold mv
  cases p with
  | mk a b c d =>
    simp only [P4.mk.injEq, Int.sub_mul, Int.zero_mul]
    refine ⟨?_, ?_, ?_, ?_⟩ <;> omega
def Stk.rev (s : Stk) : Stk := ⟨s.ink, s.b, s.a⟩
theorem inv_cr {k : Smp} {x : Cr} (h : x.ok) : (k.inv x.pen x.ink).cr (k.cr x) = x ∧ (k.inv x.pen x.ink).dr (k.cr x) = (k.dr x).map Stk.rev := by
  obtain ⟨h0, h1, h2, h3⟩ := h
  obtain ⟨sp, hd, pn, ik⟩ := x
  cases k with
  | go v =>
    refine ⟨?_, ?_⟩
    · simp only [Smp.inv, Smp.cr, mv_neg]
    · simp only [Smp.inv, Smp.cr, Smp.dr, mv_neg]
      by_cases hv : v = 0
      · subst hv; simp
      · cases pn <;> simp [hv, Stk.rev]
  | turn v =>
    refine ⟨?_, rfl⟩
    simp only [Smp.inv, Smp.cr, Cr.mk.injEq, true_and, and_true]
    show ((hd + v) % 8 + (0 - v)) % 8 = hd
    have : 0 ≤ hd ∧ hd < 8 := ⟨h0, h1⟩
    omega
  | ink v =>
    refine ⟨?_, rfl⟩
    simp only [Smp.inv, Smp.cr, Cr.mk.injEq, true_and]
    exact Int.emod_eq_of_lt h2 h3
  | up => cases pn <;> exact ⟨rfl, rfl⟩
  | down => cases pn <;> exact ⟨rfl, rfl⟩
theorem cr_pen (k : Smp) (x : Cr) : (k.cr x).pen = k.pen' x.pen ∧ (k.cr x).ink = k.ink' x.ink := by cases k <;> exact ⟨rfl, rfl⟩
theorem back_ok : ∀ (l : List Smp) (x : Cr), x.ok → crs (bkw l x.pen x.ink).reverse (crs l x) = x ∧ drs (bkw l x.pen x.ink).reverse (crs l x) = ((drs l x).map Stk.rev).reverse
  | [], x, _ => ⟨rfl, rfl⟩
  | k :: r, x, h => by
    obtain ⟨i1, i2⟩ := back_ok r (k.cr x) (cr_ok h)
    obtain ⟨c1, c2⟩ := cr_pen k x
    rw [c1, c2] at i1 i2
    obtain ⟨j1, j2⟩ := inv_cr (k := k) h
    show crs (k.inv x.pen x.ink :: bkw r (k.pen' x.pen) (k.ink' x.ink)).reverse (crs r (k.cr x)) = x ∧ drs (k.inv x.pen x.ink :: bkw r (k.pen' x.pen) (k.ink' x.ink)).reverse (crs r (k.cr x)) = ((k.dr x ++ drs r (k.cr x)).map Stk.rev).reverse
    rw [List.reverse_cons, crs_app, drs_app, i1, i2]
    refine ⟨j1, ?_⟩
    show _ ++ ((k.inv x.pen x.ink).dr (k.cr x) ++ []) = _
    rw [j2, List.append_nil, List.map_append, List.reverse_append]
    congr 1
    cases k with
    | go v =>
      show ((if _ then _ else _ : List Stk).map Stk.rev) = ((if _ then _ else _ : List Stk).map Stk.rev).reverse
      split <;> rfl
    | _ => rfl
def Hd.cr (x : Hd) : Cr := ⟨x.spot, x.heading, x.down, x.ink⟩
theorem done_cr (k : Smp) (x : Hd) : (k.done x).cr = k.cr x.cr ∧ (k.done x).strokes = x.strokes ++ (k.dr x.cr).map Stk.e ∧ (k.done x).rest = x.rest - 1 := by
  cases k with
  | go v =>
    refine ⟨rfl, ?_, rfl⟩
    show (if x.down = true ∧ v ≠ 0 then x.strokes ++ [.tuple [.int x.ink, x.spot.e, (mv x.heading v x.spot).e]] else x.strokes) = x.strokes ++ (if x.down = true ∧ v ≠ 0 then _ else _ : List Stk).map Stk.e
    split
    · rfl
    · simp
  | _ => exact ⟨rfl, by simp [Smp.dr, Smp.done, Smp.act, Hd.less, Hd.noted], rfl⟩
theorem wk_all : ∀ (l : List Smp) (x : Hd), (l.length : Int) ≤ x.rest → (wk l x).2 = true ∧ (wk l x).1.cr = crs l x.cr ∧ (wk l x).1.strokes = x.strokes ++ (drs l x.cr).map Stk.e
  | [], x, _ => ⟨rfl, rfl, by simp [wk, drs]⟩
  | k :: r, x, h => by
    rw [List.length_cons] at h
    have hr : ¬ x.rest ≤ 0 := by omega
    obtain ⟨d1, d2, d3⟩ := done_cr k x
    obtain ⟨i1, i2, i3⟩ := wk_all r (k.done x) (by rw [d3]; omega)
    rw [wk, if_neg hr]
    refine ⟨i1, ?_, ?_⟩
    · rw [i2, d1]; rfl
    · rw [i3, d2, d1]
      simp [drs]
def cr0 : Cr := ⟨⟨0, 0, 0, 0⟩, 0, true, 0⟩
theorem cr0_ok : cr0.ok := ⟨by decide, by decide, by decide, by decide⟩
theorem crs_ok : ∀ (l : List Smp) {x : Cr}, x.ok → (crs l x).ok
  | [], _, h => h
  | k :: r, _, h => crs_ok r (cr_ok h)
theorem drs_len : ∀ (l : List Smp) (x : Cr), (drs l x).length ≤ l.length
  | [], _ => Nat.le_refl _
  | k :: r, x => by
    have ih := drs_len r (k.cr x)
    show (k.dr x ++ drs r (k.cr x)).length ≤ _
    rw [List.length_append, List.length_cons]
    have : (k.dr x).length ≤ 1 := by
      cases k with
      | go v =>
        show (if _ then _ else _ : List Stk).length ≤ 1
        split <;> simp
      | _ => simp [Smp.dr]
    omega
theorem Stk.shp (s : Stk) : Shp 3 s.e := by
  refine Shp.tuple fun x hx => ?_
  simp only [List.mem_cons, List.not_mem_nil, or_false] at hx
  rcases hx with rfl | rfl | rfl
  · exact .int _ _
  · exact .place _
  · exact .place _
theorem Smp.shp (k : Smp) : Shp 1 k.e := by
  cases k <;> refine Shp.tuple fun x hx => ?_ <;> simp only [List.mem_cons, List.not_mem_nil, or_false] at hx
  · rcases hx with rfl | rfl
    · exact .str _ (by decide +kernel)
    · exact .int _ _
  · rcases hx with rfl | rfl
    · exact .str _ (by decide +kernel)
    · exact .int _ _
  · rcases hx with rfl | rfl
    · exact .str _ (by decide +kernel)
    · exact .int _ _
  · subst hx; exact .str _ (by decide +kernel)
  · subst hx; exact .str _ (by decide +kernel)
end Wk

/-! FM: stretches of a line, strokes, forms. -/
namespace Wk
open PySem L2
abbrev Itv := Nm × Nm
def cov (S : List Itv) (z : Nm) : Prop := ∃ s ∈ S, s.1 ≤ z ∧ z ≤ s.2
structure Sep (S : List Itv) : Prop where
  p : S.Pairwise fun s t => s.2 < t.1
  l : ∀ s ∈ S, s.1 < s.2
theorem cov_nil (z : Nm) : ¬ cov [] z := fun ⟨s, h, _⟩ => nomatch h
theorem cov_cons {s : Itv} {S : List Itv} {z : Nm} : cov (s :: S) z ↔ (s.1 ≤ z ∧ z ≤ s.2) ∨ cov S z := by
  unfold cov
  constructor
  · rintro ⟨t, h, k⟩
    rcases List.mem_cons.mp h with e | e
    · subst e; exact .inl k
    · exact .inr ⟨t, e, k⟩
  · rintro (k | ⟨t, h, k⟩)
    · exact ⟨s, List.mem_cons_self, k⟩
    · exact ⟨t, List.mem_cons_of_mem _ h, k⟩
theorem cov_app {S T : List Itv} {z : Nm} : cov (S ++ T) z ↔ cov S z ∨ cov T z := by
  unfold cov
  constructor
  · rintro ⟨t, h, k⟩
    rcases List.mem_append.mp h with e | e
    · exact .inl ⟨t, e, k⟩
    · exact .inr ⟨t, e, k⟩
  · rintro (⟨t, h, k⟩ | ⟨t, h, k⟩)
    · exact ⟨t, List.mem_append_left _ h, k⟩
    · exact ⟨t, List.mem_append_right _ h, k⟩
/-- stretches with one more -/
def wst : List Itv → List Itv → List Itv → Nm → Nm → List Itv
  | [], A, B, b, e => A ++ [(b, e)] ++ B
  | s :: S, A, B, b, e => if s.2 < b then wst S (A ++ [s]) B b e else if e < s.1 then wst S A (B ++ [s]) b e else wst S A B (if s.1 < b then s.1 else b) (if e < s.2 then s.2 else e)
theorem Sep.snoc {A : List Itv} {s : Itv} (h : Sep A) (hs : s.1 < s.2) (k : ∀ t ∈ A, t.2 < s.1) : Sep (A ++ [s]) :=
  ⟨List.pairwise_append.mpr ⟨h.p, List.pairwise_singleton _ _, fun a ha b hb => by rw [List.mem_singleton.mp hb]; exact k a ha⟩, fun t ht => by
    rcases List.mem_append.mp ht with z | z
    · exact h.l t z
    · rw [List.mem_singleton.mp z]; exact hs⟩
theorem wst_ok : ∀ (S A B : List Itv) (b e : Nm), Sep S → Sep A → Sep B → b < e → (∀ s ∈ A, s.2 < b) → (∀ s ∈ B, e < s.1) → (∀ s ∈ A, ∀ t ∈ S, s.2 < t.1) → (∀ s ∈ B, ∀ t ∈ S, s.2 < t.1) →
    Sep (wst S A B b e) ∧ ∀ z, cov (wst S A B b e) z ↔ cov A z ∨ cov B z ∨ cov S z ∨ (b ≤ z ∧ z ≤ e)
  | [], A, B, b, e, hS, hA, hB, hbe, ha, hb, _, _ => by
    unfold wst
    refine ⟨⟨?_, fun s hs => ?_⟩, fun z => ?_⟩
    · refine List.pairwise_append.mpr ⟨(hA.snoc (s := (b, e)) hbe ha).p, hB.p, fun x hx y hy => ?_⟩
      have h1 := hb y hy
      rcases List.mem_append.mp hx with q | q
      · have h2 := ha x q
        grind
      · rw [List.mem_singleton.mp q]; exact h1
    · rcases List.mem_append.mp hs with q | q
      · rcases List.mem_append.mp q with q | q
        · exact hA.l s q
        · rw [List.mem_singleton.mp q]; exact hbe
      · exact hB.l s q
    · rw [cov_app, cov_app, cov_cons]
      have := cov_nil z
      constructor
      · rintro ((h | h | h) | h)
        · exact .inl h
        · exact .inr (.inr (.inr h))
        · exact absurd h this
        · exact .inr (.inl h)
      · rintro (h | h | h | h)
        · exact .inl (.inl h)
        · exact .inr h
        · exact absurd h this
        · exact .inl (.inr (.inl h))
  | s :: S, A, B, b, e, hS, hA, hB, hbe, ha, hb, hAS, hBS => by
    have hs := hS.l s List.mem_cons_self
    have hS' : Sep S := ⟨(List.pairwise_cons.mp hS.p).2, fun t ht => hS.l t (List.mem_cons_of_mem _ ht)⟩
    have hsS := (List.pairwise_cons.mp hS.p).1
    have a1 : ∀ t ∈ A, ∀ u ∈ S, t.2 < u.1 := fun t ht u hu => hAS t ht u (List.mem_cons_of_mem _ hu)
    have b1 : ∀ t ∈ B, ∀ u ∈ S, t.2 < u.1 := fun t ht u hu => hBS t ht u (List.mem_cons_of_mem _ hu)
    have a2 : ∀ t ∈ A, t.2 < s.1 := fun t ht => hAS t ht s List.mem_cons_self
    have b2 : ∀ t ∈ B, t.2 < s.1 := fun t ht => hBS t ht s List.mem_cons_self
    unfold wst
    by_cases c1 : s.2 < b
    · rw [if_pos c1]
      obtain ⟨r1, r2⟩ := wst_ok S (A ++ [s]) B b e hS' (hA.snoc hs a2) hB hbe (fun t ht => by
        rcases List.mem_append.mp ht with q | q
        · exact ha t q
        · rw [List.mem_singleton.mp q]; exact c1) hb (fun t ht u hu => by
        rcases List.mem_append.mp ht with q | q
        · exact a1 t q u hu
        · rw [List.mem_singleton.mp q]; exact hsS u hu) b1
      refine ⟨r1, fun z => ?_⟩
      rw [r2, cov_app, cov_cons, cov_cons]
      have := cov_nil z
      grind
    · rw [if_neg c1]
      by_cases c2 : e < s.1
      · rw [if_pos c2]
        obtain ⟨r1, r2⟩ := wst_ok S A (B ++ [s]) b e hS' hA (hB.snoc hs b2) hbe ha (fun t ht => by
          rcases List.mem_append.mp ht with q | q
          · exact hb t q
          · rw [List.mem_singleton.mp q]; exact c2) a1 (fun t ht u hu => by
          rcases List.mem_append.mp ht with q | q
          · exact b1 t q u hu
          · rw [List.mem_singleton.mp q]; exact hsS u hu)
        refine ⟨r1, fun z => ?_⟩
        rw [r2, cov_app, cov_cons, cov_cons]
        have := cov_nil z
        grind
      · rw [if_neg c2]
        have hB0 : ∀ t ∈ B, False := fun t ht => by
          have h1 := hb t ht
          have h2 := hB.l t ht
          have h3 := b2 t ht
          grind
        obtain ⟨r1, r2⟩ := wst_ok S A B (if s.1 < b then s.1 else b) (if e < s.2 then s.2 else e) hS' hA hB (by grind) (fun t ht => by
          have h1 := ha t ht
          have h2 := a2 t ht
          grind) (fun t ht => (hB0 t ht).elim) a1 b1
        refine ⟨r1, fun z => ?_⟩
        rw [r2, cov_cons]
        have key : ((if s.1 < b then s.1 else b) ≤ z ∧ z ≤ (if e < s.2 then s.2 else e)) ↔ (s.1 ≤ z ∧ z ≤ s.2) ∨ (b ≤ z ∧ z ≤ e) := by grind
        rw [key]
        grind
theorem wst_ends : ∀ (S A B : List Itv) (b e : Nm), ∀ i ∈ wst S A B b e, (i.1 = b ∨ (∃ t ∈ S ++ A ++ B, t.1 = i.1)) ∧ (i.2 = e ∨ ∃ t ∈ S ++ A ++ B, t.2 = i.2)
  | [], A, B, b, e, i, hi => by
    unfold wst at hi
    simp only [List.mem_append, List.mem_singleton] at hi
    rcases hi with (h | h) | h
    · exact ⟨.inr ⟨i, by simp [h], rfl⟩, .inr ⟨i, by simp [h], rfl⟩⟩
    · subst h; exact ⟨.inl rfl, .inl rfl⟩
    · exact ⟨.inr ⟨i, by simp [h], rfl⟩, .inr ⟨i, by simp [h], rfl⟩⟩
  | s :: S, A, B, b, e, i, hi => by
    unfold wst at hi
    have sub : ∀ {P : Itv → Prop} {T : List Itv}, (∀ t ∈ T, t ∈ s :: S ++ A ++ B) → (∃ t ∈ T, P t) → ∃ t ∈ s :: S ++ A ++ B, P t := fun h ⟨t, h1, h2⟩ => ⟨t, h t h1, h2⟩
    split at hi
    · have := wst_ends S (A ++ [s]) B b e i hi
      exact ⟨this.1.imp_right (sub (by simp only [List.mem_append, List.mem_cons, List.not_mem_nil, or_false]; grind)), this.2.imp_right (sub (by simp only [List.mem_append, List.mem_cons, List.not_mem_nil, or_false]; grind))⟩
    · split at hi
      · have := wst_ends S A (B ++ [s]) b e i hi
        exact ⟨this.1.imp_right (sub (by simp only [List.mem_append, List.mem_cons, List.not_mem_nil, or_false]; grind)), this.2.imp_right (sub (by simp only [List.mem_append, List.mem_cons, List.not_mem_nil, or_false]; grind))⟩
      · have := wst_ends S A B _ _ i hi
        refine ⟨?_, ?_⟩
        · rcases this.1 with h | h
          · split at h
            · exact .inr ⟨s, by simp, h.symm⟩
            · exact .inl h
          · exact .inr (sub (by simp only [List.mem_append, List.mem_cons]; grind) h)
        · rcases this.2 with h | h
          · split at h
            · exact .inr ⟨s, by simp, h.symm⟩
            · exact .inl h
          · exact .inr (sub (by simp only [List.mem_append, List.mem_cons]; grind) h)
/-- the stretches of a line with one more -/
def addI (S : List Itv) (b e : Nm) : List Itv := wst S [] [] b e
theorem addI_ok {S : List Itv} {b e : Nm} (h : Sep S) (hb : b < e) : Sep (addI S b e) ∧ ∀ z, cov (addI S b e) z ↔ cov S z ∨ (b ≤ z ∧ z ≤ e) := by
  have n : Sep [] := ⟨List.Pairwise.nil, fun _ z => nomatch z⟩
  obtain ⟨r1, r2⟩ := wst_ok S [] [] b e h n n hb (fun _ z => nomatch z) (fun _ z => nomatch z) (fun _ z => nomatch z) (fun _ z => nomatch z)
  refine ⟨r1, fun z => ?_⟩
  have := cov_nil z
  rw [addI, r2]
  grind
theorem addI_ends {S : List Itv} {b e : Nm} : ∀ i ∈ addI S b e, (i.1 = b ∨ ∃ t ∈ S, t.1 = i.1) ∧ (i.2 = e ∨ ∃ t ∈ S, t.2 = i.2) := fun i hi => by
  have := wst_ends S [] [] b e i hi
  simpa using this
/-- a stretch that is covered, and is as long as can be -/
structure Comp (C : Nm → Prop) (s : Itv) : Prop where
  l : s.1 < s.2
  i : ∀ z, s.1 ≤ z → z ≤ s.2 → C z
  w : ∀ w, w < s.1 → ∃ z, w < z ∧ z < s.1 ∧ ¬ C z
  e : ∀ w, s.2 < w → ∃ z, s.2 < z ∧ z < w ∧ ¬ C z
theorem Comp.uniq {C : Nm → Prop} {s t : Itv} (h : Comp C s) (k : Comp C t) {z : Nm} (h1 : s.1 ≤ z) (h2 : z ≤ s.2) (k1 : t.1 ≤ z) (k2 : z ≤ t.2) : s = t := by
  have e1 : s.1 = t.1 := by
    by_cases c : s.1 < t.1
    · obtain ⟨y, y1, y2, y3⟩ := k.w _ c
      exact absurd (h.i y (by grind) (by grind)) y3
    · by_cases c' : t.1 < s.1
      · obtain ⟨y, y1, y2, y3⟩ := h.w _ c'
        exact absurd (k.i y (by grind) (by grind)) y3
      · grind
  have e2 : s.2 = t.2 := by
    by_cases c : s.2 < t.2
    · obtain ⟨y, y1, y2, y3⟩ := h.e _ c
      exact absurd (k.i y (by grind) (by grind)) y3
    · by_cases c' : t.2 < s.2
      · obtain ⟨y, y1, y2, y3⟩ := k.e _ c'
        exact absurd (h.i y (by grind) (by grind)) y3
      · grind
  exact Prod.ext e1 e2
theorem below_all (x : Nm) : ∀ (S : List Itv) (w : Nm), w < x → ∃ w', w ≤ w' ∧ w' < x ∧ ∀ t ∈ S, t.2 < x → t.2 ≤ w'
  | [], w, h => ⟨w, by grind, h, fun _ z => nomatch z⟩
  | t :: S, w, h => by
    obtain ⟨w', h1, h2, h3⟩ := below_all x S w h
    by_cases c : t.2 < x ∧ w' < t.2
    · refine ⟨t.2, by grind, c.1, fun u hu k => ?_⟩
      rcases List.mem_cons.mp hu with z | z
      · subst z; grind
      · have := h3 u z k; grind
    · refine ⟨w', h1, h2, fun u hu k => ?_⟩
      rcases List.mem_cons.mp hu with z | z
      · subst z; grind
      · exact h3 u z k
theorem above_all (x : Nm) : ∀ (S : List Itv) (w : Nm), x < w → ∃ w', w' ≤ w ∧ x < w' ∧ ∀ t ∈ S, x < t.1 → w' ≤ t.1
  | [], w, h => ⟨w, by grind, h, fun _ z => nomatch z⟩
  | t :: S, w, h => by
    obtain ⟨w', h1, h2, h3⟩ := above_all x S w h
    by_cases c : x < t.1 ∧ t.1 < w'
    · refine ⟨t.1, by grind, c.1, fun u hu k => ?_⟩
      rcases List.mem_cons.mp hu with z | z
      · subst z; grind
      · have := h3 u z k; grind
    · refine ⟨w', h1, h2, fun u hu k => ?_⟩
      rcases List.mem_cons.mp hu with z | z
      · subst z; grind
      · exact h3 u z k
theorem Sep.apart : ∀ {S : List Itv}, Sep S → ∀ s ∈ S, ∀ t ∈ S, s = t ∨ s.2 < t.1 ∨ t.2 < s.1
  | [], _, s, hs, _, _ => nomatch hs
  | x :: S, h, s, hs, t, ht => by
    have hS' : Sep S := ⟨(List.pairwise_cons.mp h.p).2, fun t ht => h.l t (List.mem_cons_of_mem _ ht)⟩
    have hx := (List.pairwise_cons.mp h.p).1
    rcases List.mem_cons.mp hs with e | e
    · rcases List.mem_cons.mp ht with f | f
      · exact .inl (e.trans f.symm)
      · subst e; exact .inr (.inl (hx t f))
    · rcases List.mem_cons.mp ht with f | f
      · subst f; exact .inr (.inr (hx s e))
      · exact hS'.apart s e t f
theorem Sep.comp {S : List Itv} (h : Sep S) {s : Itv} (hs : s ∈ S) : Comp (cov S) s := by
  have hl := h.l s hs
  refine ⟨hl, fun z h1 h2 => ⟨s, hs, h1, h2⟩, fun w hw => ?_, fun w hw => ?_⟩
  · obtain ⟨w', h1, h2, h3⟩ := below_all s.1 S w hw
    obtain ⟨z, z1, z2⟩ := Nm.dense h2
    refine ⟨z, by grind, z2, fun ⟨t, ht, t1, t2⟩ => ?_⟩
    have hl' := h.l t ht
    rcases h.apart s hs t ht with e | e | e
    · subst e; grind
    · grind
    · have := h3 t ht e; grind
  · obtain ⟨w', h1, h2, h3⟩ := above_all s.2 S w hw
    obtain ⟨z, z1, z2⟩ := Nm.dense h2
    refine ⟨z, z1, by grind, fun ⟨t, ht, t1, t2⟩ => ?_⟩
    have hl' := h.l t ht
    rcases h.apart s hs t ht with e | e | e
    · subst e; grind
    · have := h3 t ht e; grind
    · grind
theorem Comp.congr {C C' : Nm → Prop} {s : Itv} (h : Comp C s) (e : ∀ z, C z ↔ C' z) : Comp C' s :=
  ⟨h.l, fun z h1 h2 => (e z).mp (h.i z h1 h2), fun w hw => by
    obtain ⟨z, a, b, c⟩ := h.w w hw
    exact ⟨z, a, b, fun k => c ((e z).mpr k)⟩, fun w hw => by
    obtain ⟨z, a, b, c⟩ := h.e w hw
    exact ⟨z, a, b, fun k => c ((e z).mpr k)⟩⟩
end Wk

/-! FM2: strokes on lines. -/
namespace Wk
open PySem L2
def P4.x (p : P4) : Nm := ⟨p.a, p.b⟩
def P4.y (p : P4) : Nm := ⟨p.c, p.d⟩
def Nm.sub (x y : Nm) : Nm := ⟨x.a - y.a, x.b - y.b⟩
def Nm.add (x y : Nm) : Nm := ⟨x.a + y.a, x.b + y.b⟩
def Nm.zero : Nm := ⟨0, 0⟩
/-- the direction of the line through two places -/
def dirS (p q : P4) : Int := if q.y.sub p.y = Nm.zero then 0 else if q.x.sub p.x = Nm.zero then 2 else if q.x.sub p.x = q.y.sub p.y then 1 else 3
def lineS (p : P4) (d : Int) : Nm := if d = 0 then p.y else if d = 2 then p.x else if d = 1 then p.x.sub p.y else p.x.add p.y
def alg (p : P4) (d : Int) : Nm := if d = 2 then p.y else p.x
/-- the place so far along a line -/
def pt (d : Int) (l z : Nm) : P4 := if d = 0 then ⟨z.a, z.b, l.a, l.b⟩ else if d = 2 then ⟨l.a, l.b, z.a, z.b⟩ else if d = 1 then ⟨z.a, z.b, z.a - l.a, z.b - l.b⟩ else ⟨z.a, z.b, l.a - z.a, l.b - z.b⟩
theorem dirS_four (p q : P4) : dirS p q = 0 ∨ dirS p q = 1 ∨ dirS p q = 2 ∨ dirS p q = 3 := by
  unfold dirS
  split
  · simp
  · split
    · simp
    · split <;> simp
theorem nm_eq {x y : Nm} : x = y ↔ x.a = y.a ∧ x.b = y.b := by
  constructor
  · intro h; subst h; exact ⟨rfl, rfl⟩
  · intro h; cases x; cases y; simp at h; simp [h]
theorem p4_eq {x y : P4} : x = y ↔ x.a = y.a ∧ x.b = y.b ∧ x.c = y.c ∧ x.d = y.d := by
  constructor
  · intro h; subst h; exact ⟨rfl, rfl, rfl, rfl⟩
  · intro h; cases x; cases y; simp at h; simp [h]
theorem pt_line (d : Int) (l z : Nm) : lineS (pt d l z) d = l := by
  unfold lineS pt P4.x P4.y Nm.sub Nm.add
  split
  · simp
  · split
    · simp
    · split
      · rw [nm_eq]; dsimp only; omega
      · rw [nm_eq]; dsimp only; omega
theorem pt_alg (d : Int) (l z : Nm) : alg (pt d l z) d = z := by
  unfold alg pt P4.x P4.y
  by_cases h : d = 2
  · subst h; simp
  · rw [if_neg h, if_neg h]
    split
    · rfl
    · split <;> rfl
theorem pt_of (p : P4) (d : Int) : pt d (lineS p d) (alg p d) = p := by
  unfold lineS pt alg P4.x P4.y Nm.sub Nm.add
  by_cases h0 : d = 0
  · subst h0; simp
  · by_cases h2 : d = 2
    · subst h2; simp
    · by_cases h1 : d = 1
      · subst h1; rw [p4_eq]; simp; omega
      · rw [p4_eq]; simp [h0, h1, h2]; omega
theorem dirS_pt {d : Int} {l x y : Nm} (hd : d = 0 ∨ d = 1 ∨ d = 2 ∨ d = 3) (h : x ≠ y) : dirS (pt d l x) (pt d l y) = d := by
  have hn : ¬ (x.a = y.a ∧ x.b = y.b) := fun z => h (nm_eq.mpr z)
  unfold dirS pt P4.x P4.y Nm.sub Nm.zero
  rcases hd with e | e | e | e <;> subst e <;> simp only [nm_eq] <;> simp <;> omega
theorem dirS_sym (p q : P4) : dirS q p = dirS p q := by
  unfold dirS P4.x P4.y Nm.sub Nm.zero
  simp only [nm_eq]
  have e1 : (p.c - q.c = 0 ∧ p.d - q.d = 0) ↔ (q.c - p.c = 0 ∧ q.d - p.d = 0) := by omega
  have e2 : (p.a - q.a = 0 ∧ p.b - q.b = 0) ↔ (q.a - p.a = 0 ∧ q.b - p.b = 0) := by omega
  have e3 : (p.a - q.a = p.c - q.c ∧ p.b - q.b = p.d - q.d) ↔ (q.a - p.a = q.c - p.c ∧ q.b - p.b = q.d - p.d) := by omega
  simp only [e1, e2, e3]
/-- a stroke along one of the four lines -/
structure Stk.ok (s : Stk) : Prop where
  n : s.a ≠ s.b
  l : lineS s.b (dirS s.a s.b) = lineS s.a (dirS s.a s.b)
structure LK where
  ink : Int
  d : Int
  l : Nm
def Stk.dr4 (s : Stk) : Int := dirS s.a s.b
def Stk.key (s : Stk) : LK := ⟨s.ink, s.dr4, lineS s.a s.dr4⟩
def Stk.za (s : Stk) : Nm := alg s.a s.dr4
def Stk.zb (s : Stk) : Nm := alg s.b s.dr4
def Stk.lo (s : Stk) : Nm := if s.zb < s.za then s.zb else s.za
def Stk.hi (s : Stk) : Nm := if s.zb < s.za then s.za else s.zb
theorem lk_eq {x y : LK} : x = y ↔ x.ink = y.ink ∧ x.d = y.d ∧ x.l = y.l := by
  constructor
  · intro h; subst h; exact ⟨rfl, rfl, rfl⟩
  · intro h; cases x; cases y; simp at h; simp [h]
instance : DecidableEq LK := fun x y => if h : x.ink = y.ink ∧ x.d = y.d ∧ x.l = y.l then .isTrue (lk_eq.mpr h) else .isFalse (fun z => h (lk_eq.mp z))
theorem Stk.ok.a_pt {s : Stk} (h : s.ok) : s.a = pt s.key.d s.key.l s.za := (pt_of s.a s.dr4).symm
theorem Stk.ok.b_pt {s : Stk} (h : s.ok) : s.b = pt s.key.d s.key.l s.zb := by
  have := pt_of s.b s.dr4
  unfold Stk.dr4 at this
  rw [h.l] at this
  exact this.symm
theorem Stk.ok.ne {s : Stk} (h : s.ok) : s.za ≠ s.zb := fun e => h.n (by rw [h.a_pt, h.b_pt, e])
theorem Stk.ok.lt {s : Stk} (h : s.ok) : s.lo < s.hi := by
  have := h.ne
  unfold Stk.lo Stk.hi
  grind
/-- a stroke of a line -/
def mkS (k : LK) (i : Itv) : Stk := ⟨k.ink, pt k.d k.l i.1, pt k.d k.l i.2⟩
def LK.fine (k : LK) : Prop := k.d = 0 ∨ k.d = 1 ∨ k.d = 2 ∨ k.d = 3
theorem Stk.key_fine (s : Stk) : s.key.fine := dirS_four _ _
theorem mkS_dr {k : LK} (hk : k.fine) {i : Itv} (hi : i.1 ≠ i.2) : (mkS k i).dr4 = k.d := dirS_pt hk hi
theorem mkS_key {k : LK} (hk : k.fine) {i : Itv} (hi : i.1 ≠ i.2) : (mkS k i).key = k := by
  unfold Stk.key
  rw [mkS_dr hk hi]
  show LK.mk k.ink k.d (lineS (pt k.d k.l i.1) k.d) = k
  rw [pt_line]
theorem mkS_za {k : LK} (hk : k.fine) {i : Itv} (hi : i.1 ≠ i.2) : (mkS k i).za = i.1 := by
  unfold Stk.za
  rw [mkS_dr hk hi]
  exact pt_alg _ _ _
theorem mkS_zb {k : LK} (hk : k.fine) {i : Itv} (hi : i.1 ≠ i.2) : (mkS k i).zb = i.2 := by
  unfold Stk.zb
  rw [mkS_dr hk hi]
  exact pt_alg _ _ _
theorem mkS_ok {k : LK} (hk : k.fine) {i : Itv} (hi : i.1 ≠ i.2) : (mkS k i).ok := by
  refine ⟨fun e => hi ?_, ?_⟩
  · have e' : pt k.d k.l i.1 = pt k.d k.l i.2 := e
    rw [← pt_alg k.d k.l i.1, e', pt_alg]
  · have hd : dirS (mkS k i).a (mkS k i).b = k.d := mkS_dr hk hi
    rw [hd]
    exact (pt_line _ _ _).trans (pt_line _ _ _).symm
theorem Stk.ok.is {s : Stk} (h : s.ok) : s = mkS s.key (s.za, s.zb) := by
  have h1 := h.a_pt
  have h2 := h.b_pt
  cases s
  unfold mkS
  congr 1
/-! ### forms -/
/-- what strokes cover on a line, in an ink -/
def Cv (L : List Stk) (k : LK) (z : Nm) : Prop := ∃ s ∈ L, s.key = k ∧ s.lo ≤ z ∧ z ≤ s.hi
abbrev Tbl := List (LK × List Itv)
def tget (M : Tbl) (k : LK) : Option (List Itv) := (M.find? fun x => decide (x.1 = k)).map (·.2)
def tput (M : Tbl) (k : LK) (S : List Itv) : Tbl := if M.any fun x => decide (x.1 = k) then M.map fun x => if x.1 = k then (x.1, S) else x else M ++ [(k, S)]
def tadd (M : Tbl) (s : Stk) : Tbl := tput M s.key (addI ((tget M s.key).getD []) s.lo s.hi)
def tbl (L : List Stk) : Tbl := L.foldl tadd []
structure TOk (L : List Stk) (M : Tbl) : Prop where
  nd : (M.map (·.1)).Nodup
  sp : ∀ x ∈ M, Sep x.2
  fn : ∀ x ∈ M, x.1.fine
  cv : ∀ k z, (∃ x ∈ M, x.1 = k ∧ cov x.2 z) ↔ Cv L k z
  lo : ∀ x ∈ M, ∀ i ∈ x.2, ∃ s ∈ L, s.key = x.1 ∧ s.lo = i.1
  hi : ∀ x ∈ M, ∀ i ∈ x.2, ∃ s ∈ L, s.key = x.1 ∧ s.hi = i.2
theorem tget_none {M : Tbl} {k : LK} (h : tget M k = none) : ∀ x ∈ M, x.1 ≠ k := by
  unfold tget at h
  rw [Option.map_eq_none_iff, List.find?_eq_none] at h
  intro x hx
  have := h x hx
  simpa using this
theorem tget_some {M : Tbl} {k : LK} {S : List Itv} (h : tget M k = some S) : (k, S) ∈ M := by
  unfold tget at h
  obtain ⟨x, h1, h2⟩ := Option.map_eq_some_iff.mp h
  have h3 := List.mem_of_find?_eq_some h1
  have h4 : x.1 = k := by
    have := List.find?_some h1
    simpa using this
  rw [← h4, ← h2]
  exact h3
theorem nd_uniq : ∀ {M : Tbl}, (M.map (·.1)).Nodup → ∀ x ∈ M, ∀ y ∈ M, x.1 = y.1 → x = y
  | [], _, x, hx, _, _, _ => nomatch hx
  | a :: M, h, x, hx, y, hy, e => by
    rw [List.map_cons, List.nodup_cons] at h
    rcases List.mem_cons.mp hx with h1 | h1
    · rcases List.mem_cons.mp hy with h2 | h2
      · rw [h1, h2]
      · subst h1; exact absurd (List.mem_map.mpr ⟨y, h2, e.symm⟩) h.1
    · rcases List.mem_cons.mp hy with h2 | h2
      · subst h2; exact absurd (List.mem_map.mpr ⟨x, h1, e⟩) h.1
      · exact nd_uniq h.2 x h1 y h2 e
theorem tput_mem {M : Tbl} {k : LK} {S : List Itv} {x : LK × List Itv} : x ∈ tput M k S ↔ (x ∈ M ∧ x.1 ≠ k) ∨ x = (k, S) := by
  unfold tput
  split
  · rename_i h
    obtain ⟨y, hy, ey⟩ := List.any_eq_true.mp h
    have ey := of_decide_eq_true ey
    rw [List.mem_map]
    constructor
    · rintro ⟨z, hz, rfl⟩
      split
      · rename_i e
        rw [e]; exact .inr rfl
      · rename_i e
        exact .inl ⟨hz, e⟩
    · rintro (⟨h1, h2⟩ | h1)
      · exact ⟨x, h1, by rw [if_neg h2]⟩
      · exact ⟨y, hy, by rw [if_pos ey, ey, h1]⟩
  · rename_i h
    have hn : ∀ x ∈ M, x.1 ≠ k := fun x hx e => h (List.any_eq_true.mpr ⟨x, hx, decide_eq_true e⟩)
    rw [List.mem_append, List.mem_singleton]
    constructor
    · rintro (h1 | h1)
      · exact .inl ⟨h1, hn x h1⟩
      · exact .inr h1
    · rintro (⟨h1, _⟩ | h1)
      · exact .inl h1
      · exact .inr h1
theorem tput_keys {M : Tbl} {k : LK} {S : List Itv} (h : (M.map (·.1)).Nodup) : ((tput M k S).map (·.1)).Nodup := by
  unfold tput
  split
  · rw [List.map_map]
    have e : ((fun x : LK × List Itv => x.1) ∘ fun x => if x.1 = k then (x.1, S) else x) = fun x => x.1 := by
      funext x
      simp only [Function.comp]
      split <;> rfl
    rw [e]
    exact h
  · rename_i hk
    rw [List.map_append, List.map_cons, List.map_nil]
    refine List.nodup_append.mpr ⟨h, by simp, fun a ha b hb e => ?_⟩
    rw [List.mem_singleton] at hb
    obtain ⟨x, hx, rfl⟩ := List.mem_map.mp ha
    exact hk (List.any_eq_true.mpr ⟨x, hx, decide_eq_true (e.trans hb)⟩)
theorem TOk.nil : TOk [] [] := ⟨List.nodup_nil, fun _ h => (nomatch h), fun _ h => (nomatch h), fun k z => ⟨fun ⟨_, h, _⟩ => (nomatch h), fun ⟨_, h, _⟩ => (nomatch h)⟩, fun _ h => (nomatch h), fun _ h => (nomatch h)⟩
theorem TOk.add {L : List Stk} {M : Tbl} {s : Stk} (h : TOk L M) (hs : s.ok) : TOk (L ++ [s]) (tadd M s) := by
  have hold : ∃ S, (tget M s.key).getD [] = S ∧ Sep S ∧ (∀ z, cov S z ↔ ∃ x ∈ M, x.1 = s.key ∧ cov x.2 z) ∧ (∀ i ∈ S, ∃ t ∈ L, t.key = s.key ∧ t.lo = i.1) ∧ ∀ i ∈ S, ∃ t ∈ L, t.key = s.key ∧ t.hi = i.2 := by
    cases q : tget M s.key with
    | none =>
      refine ⟨[], rfl, ⟨List.Pairwise.nil, fun _ z => (nomatch z)⟩, fun z => ⟨fun h => absurd h (cov_nil z), fun ⟨x, hx, e, _⟩ => absurd e (tget_none q x hx)⟩, fun _ h => (nomatch h), fun _ h => (nomatch h)⟩
    | some S =>
      have hm := tget_some q
      refine ⟨S, rfl, h.sp _ hm, fun z => ⟨fun c => ⟨_, hm, rfl, c⟩, fun ⟨x, hx, e, c⟩ => ?_⟩, h.lo _ hm, h.hi _ hm⟩
      have := nd_uniq h.nd x hx _ hm e
      rw [this] at c
      exact c
  obtain ⟨S, e, s1, s2, s3, s4⟩ := hold
  obtain ⟨a1, a2⟩ := addI_ok s1 hs.lt
  unfold tadd
  rw [e]
  refine ⟨tput_keys h.nd, fun x hx => ?_, fun x hx => ?_, fun k z => ?_, fun x hx i hi => ?_, fun x hx i hi => ?_⟩
  · rcases tput_mem.mp hx with ⟨q, _⟩ | q
    · exact h.sp x q
    · rw [q]; exact a1
  · rcases tput_mem.mp hx with ⟨q, _⟩ | q
    · exact h.fn x q
    · rw [q]; exact s.key_fine
  · have c0 := h.cv k z
    constructor
    · rintro ⟨x, hx, ek, c⟩
      rcases tput_mem.mp hx with ⟨q, _⟩ | q
      · obtain ⟨t, t1, t2⟩ := c0.mp ⟨x, q, ek, c⟩
        exact ⟨t, List.mem_append_left _ t1, t2⟩
      · rw [q] at c ek
        rcases (a2 z).mp c with c | c
        · obtain ⟨t, t1, t2⟩ := (h.cv _ z).mp ((s2 z).mp c)
          exact ⟨t, List.mem_append_left _ t1, t2.1.trans ek, t2.2⟩
        · exact ⟨s, by simp, ek, c⟩
    · rintro ⟨t, t1, t2, t3⟩
      by_cases ek : k = s.key
      · subst ek
        refine ⟨_, tput_mem.mpr (.inr rfl), rfl, (a2 z).mpr ?_⟩
        rcases List.mem_append.mp t1 with q | q
        · exact .inl ((s2 z).mpr ((h.cv _ z).mpr ⟨t, q, t2, t3⟩))
        · rw [List.mem_singleton.mp q] at t3; exact .inr t3
      · rcases List.mem_append.mp t1 with q | q
        · obtain ⟨x, x1, x2, x3⟩ := c0.mpr ⟨t, q, t2, t3⟩
          exact ⟨x, tput_mem.mpr (.inl ⟨x1, by rw [x2]; exact ek⟩), x2, x3⟩
        · rw [List.mem_singleton.mp q] at t2; exact absurd t2.symm ek
  · rcases tput_mem.mp hx with ⟨q, _⟩ | q
    · obtain ⟨t, t1, t2⟩ := h.lo x q i hi
      exact ⟨t, List.mem_append_left _ t1, t2⟩
    · rw [q] at hi ⊢
      rcases (addI_ends i hi).1 with c | ⟨j, j1, j2⟩
      · exact ⟨s, by simp, rfl, c.symm⟩
      · obtain ⟨t, t1, t2, t3⟩ := s3 j j1
        exact ⟨t, List.mem_append_left _ t1, t2, t3.trans j2⟩
  · rcases tput_mem.mp hx with ⟨q, _⟩ | q
    · obtain ⟨t, t1, t2⟩ := h.hi x q i hi
      exact ⟨t, List.mem_append_left _ t1, t2⟩
    · rw [q] at hi ⊢
      rcases (addI_ends i hi).2 with c | ⟨j, j1, j2⟩
      · exact ⟨s, by simp, rfl, c.symm⟩
      · obtain ⟨t, t1, t2, t3⟩ := s4 j j1
        exact ⟨t, List.mem_append_left _ t1, t2, t3.trans j2⟩
theorem tbl_ok {L : List Stk} (h : ∀ s ∈ L, s.ok) : TOk L (tbl L) := by
  have key : ∀ (R P : List Stk) (M : Tbl), TOk P M → (∀ s ∈ R, s.ok) → TOk (P ++ R) (R.foldl tadd M) := fun R => by
    induction R with
    | nil => intro P M h _; rw [List.append_nil]; exact h
    | cons s R ih =>
      intro P M hM hR
      have := ih (P ++ [s]) (tadd M s) (hM.add (hR s List.mem_cons_self)) fun t ht => hR t (List.mem_cons_of_mem _ ht)
      rw [List.append_assoc] at this
      exact this
  have := key L [] [] TOk.nil h
  rw [List.nil_append] at this
  exact this
/-- all strokes of a table -/
def tstk (M : Tbl) : List Stk := M.flatMap fun x => x.2.map (mkS x.1)
theorem tstk_mem {M : Tbl} {f : Stk} : f ∈ tstk M ↔ ∃ x ∈ M, ∃ i ∈ x.2, f = mkS x.1 i := by
  unfold tstk
  rw [List.mem_flatMap]
  constructor
  · rintro ⟨x, hx, h⟩
    obtain ⟨i, hi, rfl⟩ := List.mem_map.mp h
    exact ⟨x, hx, i, hi, rfl⟩
  · rintro ⟨x, hx, i, hi, rfl⟩
    exact ⟨x, hx, List.mem_map.mpr ⟨i, hi, rfl⟩⟩
/-- from west to east (south to north) -/
def Stk.fwd (s : Stk) : Prop := s.za < s.zb
theorem Stk.fwd.lo {s : Stk} (h : s.fwd) : s.lo = s.za := by unfold Stk.lo Stk.fwd at *; grind
theorem Stk.fwd.hi {s : Stk} (h : s.fwd) : s.hi = s.zb := by unfold Stk.hi Stk.fwd at *; grind
/-- F is the form of L -/
structure IsF (F L : List Stk) : Prop where
  ok : ∀ f ∈ F, f.ok
  fw : ∀ f ∈ F, f.fwd
  cp : ∀ f ∈ F, Comp (Cv L f.key) (f.za, f.zb)
  cv : ∀ k z, Cv L k z → ∃ f ∈ F, f.key = k ∧ f.za ≤ z ∧ z ≤ f.zb
  nd : F.Nodup
  lo : ∀ f ∈ F, ∃ s ∈ L, s.a = f.a ∨ s.b = f.a
  hi : ∀ f ∈ F, ∃ s ∈ L, s.a = f.b ∨ s.b = f.b
theorem mkS_inj {k j : LK} {i i' : Itv} (hk : k.fine) (hj : j.fine) (hi : i.1 ≠ i.2) (hi' : i'.1 ≠ i'.2) (e : mkS k i = mkS j i') : k = j ∧ i = i' := by
  have h1 := mkS_key hk hi
  have h2 := mkS_za hk hi
  have h3 := mkS_zb hk hi
  rw [e] at h1 h2 h3
  rw [mkS_key hj hi'] at h1
  rw [mkS_za hj hi'] at h2
  rw [mkS_zb hj hi'] at h3
  exact ⟨h1.symm, Prod.ext h2.symm h3.symm⟩
theorem Stk.ok.end_lo {s : Stk} (h : s.ok) : s.a = pt s.key.d s.key.l s.lo ∨ s.b = pt s.key.d s.key.l s.lo := by
  unfold Stk.lo
  split
  · exact .inr h.b_pt
  · exact .inl h.a_pt
theorem Stk.ok.end_hi {s : Stk} (h : s.ok) : s.a = pt s.key.d s.key.l s.hi ∨ s.b = pt s.key.d s.key.l s.hi := by
  unfold Stk.hi
  split
  · exact .inl h.a_pt
  · exact .inr h.b_pt
theorem Sep.nd {S : List Itv} (h : Sep S) : S.Nodup := by
  refine List.Pairwise.imp_of_mem (fun {a b} ha hb k e => ?_) h.p
  have := h.l a ha
  subst e
  grind
theorem tstk_isF {L : List Stk} (hL : ∀ s ∈ L, s.ok) : IsF (tstk (tbl L)) L := by
  have T := tbl_ok hL
  have ne : ∀ x ∈ tbl L, ∀ i ∈ x.2, i.1 < i.2 := fun x hx i hi => (T.sp x hx).l i hi
  have ne' : ∀ x ∈ tbl L, ∀ i ∈ x.2, i.1 ≠ i.2 := fun x hx i hi => by have := ne x hx i hi; grind
  refine ⟨fun f hf => ?_, fun f hf => ?_, fun f hf => ?_, fun k z h => ?_, ?_, fun f hf => ?_, fun f hf => ?_⟩
  · obtain ⟨x, hx, i, hi, rfl⟩ := tstk_mem.mp hf
    exact mkS_ok (T.fn x hx) (ne' x hx i hi)
  · obtain ⟨x, hx, i, hi, rfl⟩ := tstk_mem.mp hf
    unfold Stk.fwd
    rw [mkS_za (T.fn x hx) (ne' x hx i hi), mkS_zb (T.fn x hx) (ne' x hx i hi)]
    exact ne x hx i hi
  · obtain ⟨x, hx, i, hi, rfl⟩ := tstk_mem.mp hf
    rw [mkS_za (T.fn x hx) (ne' x hx i hi), mkS_zb (T.fn x hx) (ne' x hx i hi), mkS_key (T.fn x hx) (ne' x hx i hi)]
    refine ((T.sp x hx).comp hi).congr fun z => ?_
    rw [← T.cv]
    constructor
    · exact fun c => ⟨x, hx, rfl, c⟩
    · rintro ⟨y, hy, e, c⟩
      rw [nd_uniq T.nd y hy x hx e] at c
      exact c
  · obtain ⟨x, hx, e, i, hi, c1, c2⟩ := (T.cv k z).mpr h
    refine ⟨mkS x.1 i, tstk_mem.mpr ⟨x, hx, i, hi, rfl⟩, ?_, ?_, ?_⟩
    · rw [mkS_key (T.fn x hx) (ne' x hx i hi)]; exact e
    · rw [mkS_za (T.fn x hx) (ne' x hx i hi)]; exact c1
    · rw [mkS_zb (T.fn x hx) (ne' x hx i hi)]; exact c2
  · have key : ∀ M : Tbl, (M.map (·.1)).Nodup → (∀ x ∈ M, Sep x.2) → (∀ x ∈ M, x.1.fine) → (tstk M).Nodup := fun M => by
      induction M with
      | nil => intro _ _ _; exact List.nodup_nil
      | cons x M ih =>
        intro h1 h2 h3
        have ih := ih (List.nodup_cons.mp h1).2 (fun y hy => h2 y (List.mem_cons_of_mem _ hy)) (fun y hy => h3 y (List.mem_cons_of_mem _ hy))
        have hx := h2 x List.mem_cons_self
        have fx := h3 x List.mem_cons_self
        have lt : ∀ i ∈ x.2, i.1 ≠ i.2 := fun i hi => by have := hx.l i hi; grind
        show (x.2.map (mkS x.1) ++ tstk M).Nodup
        refine List.nodup_append.mpr ⟨?_, ih, fun a ha b hb e => ?_⟩
        · refine List.pairwise_map.mpr (List.Pairwise.imp_of_mem (fun {i j} hi hj k e => k ?_) hx.nd)
          exact (mkS_inj fx fx (lt i hi) (lt j hj) e).2
        · obtain ⟨i, hi, rfl⟩ := List.mem_map.mp ha
          obtain ⟨y, hy, j, hj, rfl⟩ := tstk_mem.mp hb
          have := (mkS_inj fx (h3 y (List.mem_cons_of_mem _ hy)) (lt i hi) (by have := (h2 y (List.mem_cons_of_mem _ hy)).l j hj; grind) e).1
          exact (List.nodup_cons.mp h1).1 (List.mem_map.mpr ⟨y, hy, this.symm⟩)
    exact key _ T.nd T.sp T.fn
  · obtain ⟨x, hx, i, hi, rfl⟩ := tstk_mem.mp hf
    obtain ⟨s, hs, e1, e2⟩ := T.lo x hx i hi
    refine ⟨s, hs, ?_⟩
    have := (hL s hs).end_lo
    rw [e1, e2] at this
    exact this
  · obtain ⟨x, hx, i, hi, rfl⟩ := tstk_mem.mp hf
    obtain ⟨s, hs, e1, e2⟩ := T.hi x hx i hi
    refine ⟨s, hs, ?_⟩
    have := (hL s hs).end_hi
    rw [e1, e2] at this
    exact this
theorem IsF.perm {F G L : List Stk} (h : IsF F L) (p : G.Perm F) : IsF G L :=
  ⟨fun f hf => h.ok f (p.mem_iff.mp hf), fun f hf => h.fw f (p.mem_iff.mp hf), fun f hf => h.cp f (p.mem_iff.mp hf), fun k z c => by
    obtain ⟨f, hf, r⟩ := h.cv k z c
    exact ⟨f, p.mem_iff.mpr hf, r⟩, p.nodup_iff.mpr h.nd, fun f hf => h.lo f (p.mem_iff.mp hf), fun f hf => h.hi f (p.mem_iff.mp hf)⟩
/-- two forms of strokes that cover the same have the same strokes -/
theorem IsF.same {F G L L' : List Stk} (h : IsF F L) (k : IsF G L') (e : ∀ q z, Cv L q z ↔ Cv L' q z) : ∀ f ∈ F, f ∈ G := fun f hf => by
  have cf := (h.cp f hf).congr (e f.key)
  obtain ⟨g, hg, e1, e2, e3⟩ := k.cv f.key f.za (cf.i _ (by grind) (by have := cf.l; grind))
  have cg := k.cp g hg
  rw [e1] at cg
  have := cf.uniq cg (z := f.za) (by grind) (by have := cf.l; grind) e2 e3
  rw [(h.ok f hf).is, this, ← e1, ← (k.ok g hg).is]
  exact hg
/-! ### how many -/
theorem wst_len : ∀ (S A B : List Itv) (b e : Nm), (wst S A B b e).length ≤ S.length + A.length + B.length + 1
  | [], A, B, b, e => by unfold wst; simp; omega
  | s :: S, A, B, b, e => by
    unfold wst
    split
    · have := wst_len S (A ++ [s]) B b e
      rw [List.length_append, List.length_singleton] at this
      rw [List.length_cons]
      omega
    · split
      · have := wst_len S A (B ++ [s]) b e
        rw [List.length_append, List.length_singleton] at this
        rw [List.length_cons]
        omega
      · have := wst_len S A B (if s.1 < b then s.1 else b) (if e < s.2 then s.2 else e)
        rw [List.length_cons]
        omega
structure TLn (n : Nat) (M : Tbl) : Prop where
  l : M.length ≤ n
  s : ∀ x ∈ M, x.2.length ≤ n
theorem TLn.add {n : Nat} {M : Tbl} (h : TLn n M) (s : Stk) : TLn (n + 1) (tadd M s) := by
  refine ⟨?_, fun x hx => ?_⟩
  · have := h.l
    unfold tadd tput
    split
    · rw [List.length_map]; omega
    · rw [List.length_append, List.length_singleton]; omega
  · rcases tput_mem.mp hx with ⟨q, _⟩ | q
    · have := h.s x q; omega
    · rw [q]
      have := wst_len ((tget M s.key).getD []) [] [] s.lo s.hi
      have k : ((tget M s.key).getD []).length ≤ n := by
        cases e : tget M s.key with
        | none => simp
        | some S => exact h.s _ (tget_some e)
      show (addI _ _ _).length ≤ _
      unfold addI
      simp at this
      omega
end Wk

/-! FM3: strokes as data: sorted, and in a dict. -/
namespace Wk
open PySem L2
def skInts (s : Stk) : List Int := [s.ink, s.a.a, s.a.b, s.a.c, s.a.d, s.b.a, s.b.b, s.b.c, s.b.d]
def skKey (s : Stk) : NestedKey := .tup [.num s.ink, .tup [.tup [.num s.a.a, .num s.a.b], .tup [.num s.a.c, .num s.a.d]], .tup [.tup [.num s.b.a, .num s.b.b], .tup [.num s.b.c, .num s.b.d]]]
theorem skKey_data (s : Stk) : (skKey s).data = s.e := by
  unfold skKey Stk.e P4.e
  simp [NestedKey.data, NestedKey.datas]
theorem skKey_pure (s : Stk) : pureK (skKey s) = true := by
  unfold skKey
  simp [pureK, pureKs]
theorem skKey_ints (s : Stk) : kInts (skKey s) = skInts s := by
  unfold skKey skInts
  simp [kInts, kIntsL]
theorem skKey_alike (s t : Stk) : alikeK (skKey s) (skKey t) = true := by
  unfold skKey
  simp [alikeK, alikeKs]
def leK (s t : Stk) : Bool := !HT.lexLt (skInts t) (skInts s)
def sortS (L : List Stk) : List Stk := L.mergeSort leK
theorem leD_sk (s t : Stk) : leD s.e t.e = leK s t := by
  rw [← skKey_data, ← skKey_data, leD_data (skKey_pure s) (skKey_pure t), skKey_ints, skKey_ints]
  rfl
theorem sortD_sk (L : List Stk) : sortD (L.map Stk.e) = (sortS L).map Stk.e := by
  unfold sortD sortS
  exact (List.map_mergeSort fun a _ b _ => (leD_sk a b).symm).symm
theorem sortOk_sk (L : List Stk) : sortOk (L.map Stk.e) = true := by
  refine ask_t ⟨L.map skKey, ?_, ⟨fun k hk => ?_, fun k hk => ?_, fun k hk j hj => ?_⟩⟩
  · rw [List.map_map]
    exact List.map_congr_left fun s _ => (skKey_data s).symm
  · obtain ⟨s, _, rfl⟩ := List.mem_map.mp hk
    exact skKey_pure s
  · obtain ⟨s, _, rfl⟩ := List.mem_map.mp hk
    exact ⟨_, rfl, rfl, by simp [NestedKey.depthAll, NestedKey.depth]⟩
  · obtain ⟨s, _, rfl⟩ := List.mem_map.mp hk
    obtain ⟨t, _, rfl⟩ := List.mem_map.mp hj
    exact skKey_alike s t
theorem sortS_perm (L : List Stk) : (sortS L).Perm L := List.mergeSort_perm _ _
theorem lexLt_irr : ∀ a : List Int, HT.lexLt a a = false
  | [] => rfl
  | x :: a => by rw [HT.lexLt_cons, if_pos rfl]; exact lexLt_irr a
theorem leK_trans (a b c : Stk) (h1 : leK a b = true) (h2 : leK b c = true) : leK a c = true := by
  unfold leK at *
  rw [Bool.not_eq_true'] at *
  exact NtL.lex_tr _ _ _ h1 h2
theorem leK_total (a b : Stk) : (leK a b || leK b a) = true := by
  unfold leK
  cases q : HT.lexLt (skInts b) (skInts a) with
  | false => rfl
  | true => rw [NtL.lex_asym _ _ q]; rfl
theorem leK_antisym {a b : Stk} (h1 : leK a b = true) (h2 : leK b a = true) : a = b := by
  unfold leK at *
  rw [Bool.not_eq_true'] at *
  have e := lex_antisym (skInts a) (skInts b) rfl h2 h1
  cases a with
  | mk i p q =>
    cases b with
    | mk j r t =>
      cases p; cases q; cases r; cases t
      simp only [skInts, List.cons.injEq] at e
      simp [e]
theorem sortS_sorted (L : List Stk) : (sortS L).Pairwise fun s t => leK s t = true := List.pairwise_mergeSort leK_trans leK_total _
theorem sortS_eq {L M : List Stk} (p : L.Perm M) : sortS L = sortS M :=
  List.Perm.eq_of_pairwise (le := fun s t => leK s t = true) (fun a b _ _ h1 h2 => leK_antisym h1 h2) (sortS_sorted L) (sortS_sorted M) ((sortS_perm L).trans (p.trans (sortS_perm M).symm))
theorem sortS_fix {L : List Stk} : sortS (sortS L) = sortS L := sortS_eq (sortS_perm L)
/-- the form of strokes -/
def form (L : List Stk) : List Stk := sortS (tstk (tbl L))
theorem form_isF {L : List Stk} (h : ∀ s ∈ L, s.ok) : IsF (form L) L := (tstk_isF h).perm (sortS_perm _)
theorem form_sorted (L : List Stk) : sortS (form L) = form L := sortS_fix
theorem perm_of_mem {F G : List Stk} (h : F.Nodup) (k : G.Nodup) (e : ∀ s, s ∈ F ↔ s ∈ G) : F.Perm G := by
  refine (List.perm_ext_iff_of_nodup h k).mpr e
/-- the form is told by what is covered -/
theorem form_same {L M : List Stk} (hL : ∀ s ∈ L, s.ok) (hM : ∀ s ∈ M, s.ok) (e : ∀ q z, Cv L q z ↔ Cv M q z) : form L = form M := by
  have p : (form L).Perm (form M) := perm_of_mem (form_isF hL).nd (form_isF hM).nd fun s => ⟨fun h => (form_isF hL).same (form_isF hM) e s h, fun h => (form_isF hM).same (form_isF hL) (fun q z => (e q z).symm) s h⟩
  rw [← form_sorted L, ← form_sorted M]
  exact sortS_eq p
/-! ### the table as a dict -/
def LK.n (k : LK) : NestedKey := .tup [.num k.ink, .num k.d, .tup [.num k.l.a, .num k.l.b]]
def LK.e (k : LK) : D := .tuple [.int k.ink, .int k.d, k.l.e]
theorem LK.keyN (k : LK) : keyN (.d k.e) = some k.n := by
  unfold LK.e Nm.e Wk.keyN LK.n
  simp [nkD, nkDs, NestedKey.depth, NestedKey.depthAll]
theorem LK.n_inj {k j : LK} (e : k.n = j.n) : k = j := by
  unfold LK.n at e
  simp only [NestedKey.tup.injEq, List.cons.injEq, NestedKey.num.injEq] at e
  exact lk_eq.mpr ⟨e.1, e.2.1, nm_eq.mpr ⟨e.2.2.1.1, e.2.2.1.2.1⟩⟩
def itE (k : LK) (i : Itv) : D := .tuple [(pt k.d k.l i.1).e, (pt k.d k.l i.2).e]
def enT (x : LK × List Itv) : NestedKey × U := (x.1.n, .d (.list (x.2.map (itE x.1))))
theorem valN_en (M : Tbl) (k : LK) : valN (M.map enT) k.n = (tget M k).map fun S => .d (.list (S.map (itE k))) := by
  unfold valN tget
  induction M with
  | nil => rfl
  | cons x M ih =>
    rw [List.map_cons, List.find?_cons, List.find?_cons]
    by_cases h : x.1 = k
    · rw [decide_eq_true (show (enT x).1 = k.n by rw [← h]; rfl), decide_eq_true h, ← h]
      rfl
    · rw [decide_eq_false (show ¬ (enT x).1 = k.n from fun e => h (LK.n_inj e)), decide_eq_false h]
      exact ih
theorem putN_en (M : Tbl) (k : LK) (S : List Itv) : putN (M.map enT) k.n (.d (.list (S.map (itE k)))) = (tput M k S).map enT := by
  unfold putN tput
  have ea : ((M.map enT).any fun kv => decide (kv.1 = k.n)) = M.any fun x => decide (x.1 = k) := by
    rw [List.any_map]
    congr 1
    funext x
    refine decide_eq_decide.mpr ⟨fun e => LK.n_inj e, fun e => by rw [← e]; rfl⟩
  rw [ea]
  split
  · rw [List.map_map, List.map_map]
    refine List.map_congr_left fun x _ => ?_
    simp only [Function.comp]
    by_cases h : x.1 = k
    · rw [if_pos (show (enT x).1 = k.n by rw [← h]; rfl), if_pos h, ← h]
      rfl
    · rw [if_neg (show ¬ (enT x).1 = k.n from fun e => h (LK.n_inj e)), if_neg h]
  · rw [List.map_append]
    rfl
/-! ### == of such data -/
mutual
theorem eqv_key : ∀ k j : NestedKey, pureK k = true → pureK j = true → PyData.eqv k.data j.data = NestedKey.beq k j
  | .num a, .num b, _, _ => by rw [NestedKey.data, NestedKey.data, eqv_int, NestedKey.beq]
  | .tup xs, .tup ys, h, h' => by
    rw [pureK] at h h'
    rw [NestedKey.data, NestedKey.data, PyData.eqv, NestedKey.beq]
    exact eqv_keys xs ys h h'
  | .num a, .tup ys, _, _ => by simp [NestedKey.data, PyData.eqv, NestedKey.beq]
  | .tup ys, .num a, _, _ => by simp [NestedKey.data, PyData.eqv, NestedKey.beq]
  | .none, _, h, _ => by rw [pureK] at h; cases h
  | .text _, _, h, _ => by rw [pureK] at h; cases h
  | _, .none, _, h => by rw [pureK] at h; cases h
  | _, .text _, _, h => by rw [pureK] at h; cases h
theorem eqv_keys : ∀ ks js : List NestedKey, pureKs ks = true → pureKs js = true → PyData.eqvAll (NestedKey.datas ks) (NestedKey.datas js) = NestedKey.beqAll ks js
  | [], [], _, _ => by simp [NestedKey.datas, PyData.eqvAll, NestedKey.beqAll]
  | [], _ :: _, _, _ => by simp [NestedKey.datas, PyData.eqvAll, NestedKey.beqAll]
  | _ :: _, [], _, _ => by simp [NestedKey.datas, PyData.eqvAll, NestedKey.beqAll]
  | k :: ks, j :: js, h, h' => by
    rw [pureKs, Bool.and_eq_true] at h h'
    rw [NestedKey.datas, NestedKey.datas, PyData.eqvAll, NestedKey.beqAll, eqv_key k j h.1 h'.1, eqv_keys ks js h.2 h'.2]
end
theorem eqv_dec {k j : NestedKey} (h : pureK k = true) (h' : pureK j = true) : PyData.eqv k.data j.data = decide (k = j) := by
  rw [eqv_key k j h h', NestedKey.decide_eq]
def Nm.n (x : Nm) : NestedKey := .tup [.num x.a, .num x.b]
theorem Nm.n_data (x : Nm) : x.n.data = x.e := by unfold Nm.n Nm.e; simp [NestedKey.data, NestedKey.datas]
theorem Nm.n_pure (x : Nm) : pureK x.n = true := by unfold Nm.n; simp [pureK, pureKs]
theorem Nm.eqv (x y : Nm) : PyData.eqv x.e y.e = decide (x = y) := by
  rw [← Nm.n_data, ← Nm.n_data, eqv_dec x.n_pure y.n_pure]
  refine decide_eq_decide.mpr ⟨fun e => ?_, fun e => by rw [e]⟩
  unfold Nm.n at e
  simp only [NestedKey.tup.injEq, List.cons.injEq, NestedKey.num.injEq] at e
  exact nm_eq.mpr ⟨e.1, e.2.1⟩
theorem Nm.ns (x : Nm) : ∀ s, x.e ≠ .str s := fun s z => nomatch z
theorem Nm.shaped (x : Nm) : SeqAt.shaped x.e = true := (rfl)
theorem ev_eqN (n : Bool) (x y : Nm) (h : Sto) : opEqB n (.d x.e) (.d y.e) h = .ok (.d (.bool (xor n (decide (x = y))))) h := by rw [ev_eqD n h x.ns x.shaped y.shaped, Nm.eqv]
def P4.n (p : P4) : NestedKey := .tup [.tup [.num p.a, .num p.b], .tup [.num p.c, .num p.d]]
theorem P4.n_data (x : P4) : x.n.data = x.e := by unfold P4.n P4.e; simp [NestedKey.data, NestedKey.datas]
theorem P4.n_pure (x : P4) : pureK x.n = true := by unfold P4.n; simp [pureK, pureKs]
instance : DecidableEq P4 := fun x y => if h : x.a = y.a ∧ x.b = y.b ∧ x.c = y.c ∧ x.d = y.d then .isTrue (p4_eq.mpr h) else .isFalse (fun z => h (p4_eq.mp z))
theorem P4.eqv (x y : P4) : PyData.eqv x.e y.e = decide (x = y) := by
  rw [← P4.n_data, ← P4.n_data, eqv_dec x.n_pure y.n_pure]
  refine decide_eq_decide.mpr ⟨fun e => ?_, fun e => by rw [e]⟩
  unfold P4.n at e
  simp only [NestedKey.tup.injEq, List.cons.injEq, NestedKey.num.injEq] at e
  exact p4_eq.mpr ⟨e.1.1, e.1.2.1, e.2.1.1, e.2.1.2.1⟩
theorem ev_eqP4 (n : Bool) (x y : P4) (h : Sto) : opEqB n (.d x.e) (.d y.e) h = .ok (.d (.bool (xor n (decide (x = y))))) h := by rw [ev_eqD n h x.ns x.shaped y.shaped, P4.eqv]
theorem skKey_inj {s t : Stk} (e : skKey s = skKey t) : s = t := by
  unfold skKey at e
  simp only [NestedKey.tup.injEq, List.cons.injEq, NestedKey.num.injEq] at e
  cases s with
  | mk i p q =>
    cases t with
    | mk j r u =>
      cases p; cases q; cases r; cases u
      simp at e
      simp [e]
instance : DecidableEq Stk := fun x y => if h : skKey x = skKey y then .isTrue (skKey_inj h) else .isFalse (fun z => h (by rw [z]))
theorem Stk.eqv (s t : Stk) : PyData.eqv s.e t.e = decide (s = t) := by
  rw [← skKey_data, ← skKey_data, eqv_dec (skKey_pure s) (skKey_pure t)]
  exact decide_eq_decide.mpr ⟨skKey_inj, fun e => by rw [e]⟩
theorem Stk.ns (s : Stk) : ∀ x, s.e ≠ .str x := fun x z => nomatch z
theorem Stk.shaped (s : Stk) : SeqAt.shaped s.e = true := (rfl)
theorem ev_eqSk (n : Bool) (x y : Stk) (h : Sto) : opEqB n (.d x.e) (.d y.e) h = .ok (.d (.bool (xor n (decide (x = y))))) h := by rw [ev_eqD n h x.ns x.shaped y.shaped, Stk.eqv]
theorem eqvAll_sk : ∀ L M : List Stk, PyData.eqvAll (L.map Stk.e) (M.map Stk.e) = decide (L = M)
  | [], [] => by simp [PyData.eqvAll]
  | [], _ :: _ => by simp [PyData.eqvAll]
  | _ :: _, [] => by simp [PyData.eqvAll]
  | s :: L, t :: M => by
    rw [List.map_cons, List.map_cons, PyData.eqvAll, Stk.eqv, eqvAll_sk L M, Bool.eq_iff_iff, Bool.and_eq_true, decide_eq_true_iff, decide_eq_true_iff, decide_eq_true_iff, List.cons.injEq]
theorem shpT_sk (L : List Stk) : SeqAt.shaped (.tuple (L.map Stk.e)) = true := (Shp.tuple (k := 3) fun x hx => by
  obtain ⟨s, _, rfl⟩ := List.mem_map.mp hx
  exact s.shp).shaped (by decide)
theorem shpL_sk (L : List Stk) : SeqAt.shaped (.list (L.map Stk.e)) = true := (Shp.list (k := 3) fun x hx => by
  obtain ⟨s, _, rfl⟩ := List.mem_map.mp hx
  exact s.shp).shaped (by decide)
theorem ev_eqTS (n : Bool) (L M : List Stk) (h : Sto) : opEqB n (.d (.tuple (L.map Stk.e))) (.d (.tuple (M.map Stk.e))) h = .ok (.d (.bool (xor n (decide (L = M))))) h := by
  rw [ev_eqD n h (fun s z => by cases z) (shpT_sk L) (shpT_sk M), PyData.eqv, eqvAll_sk]
theorem ev_eqLS (n : Bool) (L M : List Stk) (h : Sto) : opEqB n (.d (.list (L.map Stk.e))) (.d (.list (M.map Stk.e))) h = .ok (.d (.bool (xor n (decide (L = M))))) h := by
  rw [ev_eqD n h (fun s z => by cases z) (shpL_sk L) (shpL_sk M), PyData.eqv, eqvAll_sk]
/-- ints that can be multiplied -/
def Nm.bd (n : Int) (x : Nm) : Prop := (-n ≤ x.a ∧ x.a ≤ n) ∧ -n ≤ x.b ∧ x.b ≤ n
abbrev big : Int := 1000000000000000000
theorem alg_bd {n : Int} {p : P4} (h : p.bd n) (d : Int) : (alg p d).bd n := by
  unfold alg Nm.bd P4.x P4.y
  unfold P4.bd at h
  split
  · exact ⟨h.2.2.1, h.2.2.2⟩
  · exact ⟨h.1, h.2.1⟩
theorem line_ok {p q : P4} {d : Int} (hd : d = 0 ∨ d = 1 ∨ d = 2 ∨ d = 3) (hl : lineS q d = lineS p d) (ha : alg p d ≠ alg q d) (i : Int) : (Stk.mk i p q).ok := by
  have h := mkS_ok (k := ⟨i, d, lineS p d⟩) (i := (alg p d, alg q d)) hd ha
  have e : mkS ⟨i, d, lineS p d⟩ (alg p d, alg q d) = ⟨i, p, q⟩ := by
    show Stk.mk i (pt d (lineS p d) (alg p d)) (pt d (lineS p d) (alg q d)) = _
    rw [pt_of, ← hl, pt_of]
  rw [← e]
  exact h
theorem mv_line {h t : Int} (h0 : 0 ≤ h) (h1 : h < 8) (ht : t ≠ 0) (p : P4) : lineS (mv h t p) (h % 4) = lineS p (h % 4) ∧ alg p (h % 4) ≠ alg (mv h t p) (h % 4) := by
  have e1 : (4 : Int) % 4 = 0 := rfl
  have e2 : (5 : Int) % 4 = 1 := rfl
  have e3 : (6 : Int) % 4 = 2 := rfl
  have e4 : (7 : Int) % 4 = 3 := rfl
  rcases heads h0 h1 with z | z | z | z | z | z | z | z <;> subst z <;> refine ⟨?_, fun e => ?_⟩ <;> first | (rw [nm_eq]; simp [lineS, mv, P4.x, P4.y, Nm.sub, Nm.add, xa, xb, ya, yb] <;> omega) | (rw [nm_eq] at e; simp [alg, mv, P4.x, P4.y, xa, xb, ya, yb] at e <;> omega)
theorem mv_ok {h t : Int} (h0 : 0 ≤ h) (h1 : h < 8) (ht : t ≠ 0) (i : Int) (p : P4) : (Stk.mk i p (mv h t p)).ok := by
  obtain ⟨a, b⟩ := mv_line h0 h1 ht p
  exact line_ok (by omega) a b i
/-- a stroke as walks draw them -/
structure WkS (s : Stk) : Prop where
  ok : s.ok
  a : s.a.bd 1000000 ∧ s.a.par
  b : s.b.bd 1000000 ∧ s.b.par
  i : 0 ≤ s.ink ∧ s.ink < 8
  m : ∃ h t : Int, (0 ≤ h ∧ h < 8) ∧ (1 ≤ t ∧ t ≤ 1000) ∧ s.b = mv h t s.a
theorem heads5_at (i : Int) : ∃ l : List Int, atI [PyData.list [.int 0, .int 1, .int 2, .int 3, .int 4, .int 5, .int 6, .int 7], .list [.int 0, .int 4, .int 0, .int 4, .int 2], .list [.int 0, .int 2, .int 4, .int 6], .list [.int 0, .int 4, .int 1, .int 5], .list [.int 1, .int 3, .int 5, .int 7]] (i % 5) = some (.list (l.map .int)) ∧ 0 < l.length ∧ ∀ x ∈ l, 0 ≤ x ∧ x < 8 := by
  have h : i % 5 = 0 ∨ i % 5 = 1 ∨ i % 5 = 2 ∨ i % 5 = 3 ∨ i % 5 = 4 := by omega
  rcases h with z | z | z | z | z <;> rw [z]
  · exact ⟨[0, 1, 2, 3, 4, 5, 6, 7], atI_0 _ _, by decide, by decide⟩
  · exact ⟨[0, 4, 0, 4, 2], atI_1 _ _ _, by decide, by decide⟩
  · exact ⟨[0, 2, 4, 6], atI_2 _ _ _ _, by decide, by decide⟩
  · exact ⟨[0, 4, 1, 5], atI_3 _ _ _ _ _, by decide, by decide⟩
  · exact ⟨[1, 3, 5, 7], atI_4 _ _ _ _ _ _, by decide, by decide⟩
theorem far4_at (i : Int) : ∃ f : Int, atI [PyData.int 3, .int 2, .int 5, .int 1000] (i % 4) = some (.int f) ∧ 0 < f ∧ f ≤ 1000 := by
  have h : i % 4 = 0 ∨ i % 4 = 1 ∨ i % 4 = 2 ∨ i % 4 = 3 := by omega
  rcases h with z | z | z | z <;> rw [z]
  · exact ⟨3, atI_0 _ _, by decide, by decide⟩
  · exact ⟨2, atI_1 _ _ _, by decide, by decide⟩
  · exact ⟨5, atI_2 _ _ _ _, by decide, by decide⟩
  · exact ⟨1000, atI_3 _ _ _ _ _, by decide, by decide⟩
theorem ink4_at (i : Int) : ∃ f : Int, atI [PyData.int 1, .int 1, .int 2, .int 8] (i % 4) = some (.int f) ∧ 0 < f ∧ f ≤ 8 := by
  have h : i % 4 = 0 ∨ i % 4 = 1 ∨ i % 4 = 2 ∨ i % 4 = 3 := by omega
  rcases h with z | z | z | z <;> rw [z]
  · exact ⟨1, atI_0 _ _, by decide, by decide⟩
  · exact ⟨1, atI_1 _ _ _, by decide, by decide⟩
  · exact ⟨2, atI_2 _ _ _ _, by decide, by decide⟩
  · exact ⟨8, atI_3 _ _ _ _ _, by decide, by decide⟩
theorem four {α : Type} {l : List α} (h : l.length = 4) : ∃ a b c d, l = [a, b, c, d] := by
  match l, h with
  | [a, b, c, d], _ => exact ⟨a, b, c, d, rfl⟩
/-! ### the laws' own lines -/
def Nm.neg (x : Nm) : Nm := ⟨0 - x.a, 0 - x.b⟩
structure LN where
  d : Int
  l : Nm
def LN.e (x : LN) : D := .tuple [.int x.d, x.l.e]
def LN.n (x : LN) : NestedKey := .tup [.num x.d, .tup [.num x.l.a, .num x.l.b]]
theorem ln_eq {x y : LN} : x = y ↔ x.d = y.d ∧ x.l = y.l := by
  constructor
  · intro h; subst h; exact ⟨rfl, rfl⟩
  · intro h; cases x; cases y; simp at h; simp [h]
instance : DecidableEq LN := fun x y => if h : x.d = y.d ∧ x.l = y.l then .isTrue (ln_eq.mpr h) else .isFalse (fun z => h (ln_eq.mp z))
theorem LN.n_data (x : LN) : x.n.data = x.e := by unfold LN.n LN.e Nm.e; simp [NestedKey.data, NestedKey.datas]
theorem LN.n_pure (x : LN) : pureK x.n = true := by unfold LN.n; simp [pureK, pureKs]
theorem LN.eqv (x y : LN) : PyData.eqv x.e y.e = decide (x = y) := by
  rw [← LN.n_data, ← LN.n_data, eqv_dec x.n_pure y.n_pure]
  refine decide_eq_decide.mpr ⟨fun e => ?_, fun e => by rw [e]⟩
  unfold LN.n at e
  simp only [NestedKey.tup.injEq, List.cons.injEq, NestedKey.num.injEq] at e
  exact ln_eq.mpr ⟨e.1, nm_eq.mpr ⟨e.2.1.1, e.2.1.2.1⟩⟩
theorem LN.ns (x : LN) : ∀ s, x.e ≠ .str s := fun s z => nomatch z
theorem LN.shaped (x : LN) : SeqAt.shaped x.e = true := (rfl)
theorem ev_eqLN (n : Bool) (x y : LN) (h : Sto) : opEqB n (.d x.e) (.d y.e) h = .ok (.d (.bool (xor n (decide (x = y))))) h := by rw [ev_eqD n h x.ns x.shaped y.shaped, LN.eqv]
/-- the law's line through two places -/
def llS (p q : P4) : LN := if q.y.sub p.y = Nm.zero then ⟨0, p.y⟩ else if q.x.sub p.x = Nm.zero then ⟨2, p.x⟩ else if q.x.sub p.x = q.y.sub p.y then ⟨1, p.x.sub p.y⟩ else if q.x.sub p.x = (q.y.sub p.y).neg then ⟨3, p.x.add p.y⟩ else ⟨4, Nm.zero⟩
theorem Stk.ok.ll {s : Stk} (h : s.ok) : llS s.a s.b = ⟨s.dr4, s.key.l⟩ := by
  have hl := h.l
  unfold Stk.key
  dsimp only
  unfold Stk.dr4
  unfold llS
  unfold dirS lineS at *
  by_cases h1 : s.b.y.sub s.a.y = Nm.zero
  · simp [h1]
  · by_cases h2 : s.b.x.sub s.a.x = Nm.zero
    · simp [h1, h2]
    · by_cases h3 : s.b.x.sub s.a.x = s.b.y.sub s.a.y
      · simp [h1, h2, h3]
      · simp only [h1, h2, h3, if_false] at hl ⊢
        have h4 : s.b.x.sub s.a.x = (s.b.y.sub s.a.y).neg := by
          simp at hl
          rw [nm_eq] at hl ⊢
          unfold Nm.add Nm.sub Nm.neg P4.x P4.y at *
          dsimp only at *
          omega
        rw [if_pos h4]
        simp
theorem ll_on {s : Stk} (h : s.ok) (p : P4) : (p = s.a ∨ llS s.a p = ⟨s.dr4, s.key.l⟩) ↔ lineS p s.dr4 = s.key.l := by
  have hd : s.dr4 = 0 ∨ s.dr4 = 1 ∨ s.dr4 = 2 ∨ s.dr4 = 3 := dirS_four _ _
  have hk : s.key.l = lineS s.a s.dr4 := rfl
  rw [hk]
  clear hk
  generalize s.dr4 = d at hd
  generalize s.a = a
  constructor
  · rintro (e | e)
    · rw [e]
    · rw [ln_eq] at e
      have e1 := e.1
      clear e
      unfold llS at e1
      unfold lineS
      unfold P4.x P4.y Nm.sub Nm.add Nm.neg Nm.zero at *
      simp only [nm_eq] at *
      rcases hd with z | z | z | z <;> subst z <;> (split at e1 <;> first | (simp at e1 ⊢ <;> omega) | (simp <;> omega) | (split at e1 <;> first | (simp at e1 ⊢ <;> omega) | (simp <;> omega) | (split at e1 <;> first | (simp at e1 ⊢ <;> omega) | (simp <;> omega) | (split at e1 <;> first | (simp at e1 ⊢ <;> omega) | (simp <;> omega)))))
  · intro e
    by_cases hp : p = a
    · exact .inl hp
    · right
      rw [p4_eq] at hp
      rw [ln_eq]
      unfold llS
      unfold lineS at *
      unfold P4.x P4.y Nm.sub Nm.add Nm.neg Nm.zero at *
      simp only [nm_eq] at *
      rcases hd with z | z | z | z <;> subst z <;> simp at e ⊢ <;> (split <;> first | (simp <;> omega) | (exfalso; omega) | (split <;> first | (simp <;> omega) | (exfalso; omega) | (split <;> first | (simp <;> omega) | (exfalso; omega) | (split <;> first | (simp <;> omega) | (exfalso; omega)))))
end Wk

/-! FM4: how many strokes a form has; going along a stretch. -/
namespace Wk
open PySem L2
theorem pigeon {α : Type} [DecidableEq α] : ∀ (l m : List α), l.Nodup → (∀ x ∈ l, x ∈ m) → l.length ≤ m.length
  | [], _, _, _ => Nat.zero_le _
  | x :: l, m, hn, hs => by
    obtain ⟨h1, h2⟩ := List.nodup_cons.mp hn
    have hx := hs x List.mem_cons_self
    have ih := pigeon l (m.erase x) h2 fun y hy => (List.mem_erase_of_ne (fun e => h1 (by rw [← e]; exact hy))).2 (hs y (List.mem_cons_of_mem _ hy))
    have e := List.length_erase_of_mem hx
    have hp := List.length_pos_of_mem hx
    rw [List.length_cons]
    omega
theorem IsF.len {F L : List Stk} (h : IsF F L) (hL : ∀ s ∈ L, s.ok) : F.length ≤ L.length := by
  have key : ∀ f ∈ F, ∃ s ∈ L, s.key = f.key ∧ s.lo = f.za := fun f hf => by
    have c := h.cp f hf
    obtain ⟨s, hs, e, l1, l2⟩ := c.i f.za (by show f.za ≤ f.za; grind) (by have := c.l; show f.za ≤ f.zb; change f.za < f.zb at this; grind)
    refine ⟨s, hs, e, ?_⟩
    by_cases q : s.lo < f.za
    · obtain ⟨z, z1, z2, z3⟩ := c.w s.lo q
      change z < f.za at z2
      exact absurd ⟨s, hs, e, by grind, by grind⟩ z3
    · grind
  have nd : (F.map fun f => (f.key, f.za)).Nodup := by
    unfold List.Nodup
    rw [List.pairwise_map]
    refine List.Pairwise.imp_of_mem (fun {f g} hf hg ne e => ne ?_) h.nd
    have e1 : f.key = g.key := congrArg Prod.fst e
    have e2 : f.za = g.za := congrArg Prod.snd e
    have cf := h.cp f hf
    have cg := h.cp g hg
    rw [← e1] at cg
    have l1 := cf.l
    have l2 := cg.l
    change f.za < f.zb at l1
    change g.za < g.zb at l2
    have u := Comp.uniq cf cg (z := f.za) (by show f.za ≤ f.za; grind) (by show f.za ≤ f.zb; grind) (by show g.za ≤ f.za; grind) (by show f.za ≤ g.zb; grind)
    rw [(h.ok f hf).is, (h.ok g hg).is, e1, u]
  have := pigeon (F.map fun f => (f.key, f.za)) (L.map fun s => (s.key, s.lo)) nd fun x hx => by
    obtain ⟨f, hf, rfl⟩ := List.mem_map.mp hx
    obtain ⟨s, hs, e1, e2⟩ := key f hf
    exact List.mem_map.mpr ⟨s, hs, by rw [e1, e2]⟩
  rwa [List.length_map, List.length_map] at this
/-! ### going along -/
def gst (S : List Itv) (x : Nm) : Nm := S.foldl (fun x t => if t.1 ≤ x ∧ x < t.2 then t.2 else x) x
def grd (S : List Itv) : Nat → Nm → Nm
  | 0, x => x
  | n + 1, x => grd S n (gst S x)
theorem gst_cons (t : Itv) (S : List Itv) (x : Nm) : gst (t :: S) x = gst S (if t.1 ≤ x ∧ x < t.2 then t.2 else x) := rfl
theorem gst_le : ∀ (S : List Itv) (x : Nm), x ≤ gst S x
  | [], x => by show x ≤ x; grind
  | t :: S, x => by
    rw [gst_cons]
    have := gst_le S (if t.1 ≤ x ∧ x < t.2 then t.2 else x)
    split at this <;> grind
theorem gst_in {C : Nm → Prop} {s : Itv} (c : Comp C s) : ∀ (S : List Itv) (x : Nm), (∀ z, cov S z → C z) → s.1 ≤ x → x ≤ s.2 → gst S x ≤ s.2
  | [], x, _, _, h => h
  | t :: S, x, hC, h1, h2 => by
    rw [gst_cons]
    have hC' : ∀ z, cov S z → C z := fun z hz => hC z (cov_cons.mpr (.inr hz))
    split
    · rename_i q
      refine gst_in c S t.2 hC' (by grind) ?_
      by_cases k : s.2 < t.2
      · obtain ⟨z, z1, z2, z3⟩ := c.e _ k
        exact absurd (hC z (cov_cons.mpr (.inl ⟨by grind, by grind⟩))) z3
      · grind
    · exact gst_in c S x hC' h1 h2
theorem gst_up : ∀ (S : List Itv) (x : Nm), (∃ t ∈ S, t.1 ≤ x ∧ x < t.2) → ∃ t ∈ S, x < t.2 ∧ t.2 ≤ gst S x
  | [], x, ⟨t, h, _⟩ => nomatch h
  | u :: S, x, ⟨t, ht, h1, h2⟩ => by
    rw [gst_cons]
    by_cases q : u.1 ≤ x ∧ x < u.2
    · rw [if_pos q]
      exact ⟨u, List.mem_cons_self, q.2, gst_le S u.2⟩
    · rw [if_neg q]
      rcases List.mem_cons.mp ht with z | z
      · subst z; exact absurd ⟨h1, h2⟩ q
      · obtain ⟨t', h3, h4⟩ := gst_up S x ⟨t, z, h1, h2⟩
        exact ⟨t', List.mem_cons_of_mem _ h3, h4⟩
theorem comp_next {C : Nm → Prop} {s : Itv} (c : Comp C s) {S : List Itv} (hC : ∀ z, C z → cov S z) {x : Nm} (h1 : s.1 ≤ x) (h2 : x < s.2) : ∃ t ∈ S, t.1 ≤ x ∧ x < t.2 := by
  apply Classical.byContradiction
  intro no
  obtain ⟨w, w1, w2, w3⟩ := above_all x S s.2 h2
  obtain ⟨z, z1, z2⟩ := Nm.dense w2
  obtain ⟨t, ht, t1, t2⟩ := hC z (c.i z (by grind) (by grind))
  by_cases k : x < t.1
  · have := w3 t ht k
    grind
  · exact no ⟨t, ht, by grind, by grind⟩
def cnt (S : List Itv) (x : Nm) : Nat := S.countP fun t => decide (x < t.2)
theorem cnt_lt {x y : Nm} (h : x ≤ y) : ∀ {S : List Itv}, (∃ t ∈ S, x < t.2 ∧ t.2 ≤ y) → cnt S y < cnt S x
  | [], ⟨t, ht, _⟩ => nomatch ht
  | u :: S, ⟨t, ht, h1, h2⟩ => by
    have mono : cnt S y ≤ cnt S x := List.countP_mono_left fun v _ hv => by
      have := of_decide_eq_true hv
      exact decide_eq_true (by grind)
    unfold cnt at *
    rw [List.countP_cons, List.countP_cons]
    rcases List.mem_cons.mp ht with z | z
    · subst z
      rw [if_neg (by intro q; have := of_decide_eq_true q; grind), if_pos (decide_eq_true h1)]
      omega
    · have ih := cnt_lt h ⟨t, z, h1, h2⟩
      unfold cnt at ih
      by_cases k : y < u.2
      · rw [if_pos (decide_eq_true k), if_pos (decide_eq_true (show x < u.2 by grind))]
        omega
      · rw [if_neg (by intro q; exact k (of_decide_eq_true q))]
        split <;> omega
theorem grd_stay {C : Nm → Prop} {s : Itv} (c : Comp C s) {S : List Itv} (hC : ∀ z, cov S z → C z) : ∀ n, grd S n s.2 = s.2
  | 0 => rfl
  | n + 1 => by
    have l := c.l
    have h1 := gst_in c S s.2 hC (by grind) (by grind)
    have h2 := gst_le S s.2
    have e : gst S s.2 = s.2 := by grind
    rw [grd, e]
    exact grd_stay c hC n
theorem grd_end {C : Nm → Prop} {s : Itv} (c : Comp C s) {S : List Itv} (hC : ∀ z, C z ↔ cov S z) : ∀ (n : Nat) (x : Nm), s.1 ≤ x → x ≤ s.2 → cnt S x ≤ n → grd S n x = s.2
  | 0, x, h1, h2, h3 => by
    by_cases k : x < s.2
    · obtain ⟨t, ht, t1, t2⟩ := comp_next c (fun z => (hC z).mp) h1 k
      have : 0 < cnt S x := List.countP_pos_iff.mpr ⟨t, ht, decide_eq_true t2⟩
      omega
    · show x = s.2
      grind
  | n + 1, x, h1, h2, h3 => by
    by_cases k : x < s.2
    · have g1 := gst_le S x
      have := cnt_lt g1 (gst_up S x (comp_next c (fun z => (hC z).mp) h1 k))
      exact grd_end c hC n (gst S x) (by grind) (gst_in c S x (fun z => (hC z).mpr) h1 h2) (by omega)
    · have e : x = s.2 := by grind
      rw [e]
      exact grd_stay c (fun z => (hC z).mpr) (n + 1)
theorem grd_all {C : Nm → Prop} {s : Itv} (c : Comp C s) {S : List Itv} (hC : ∀ z, C z ↔ cov S z) : grd S S.length s.1 = s.2 :=
  grd_end c hC S.length s.1 (by grind) (by have := c.l; grind) List.countP_le_length
end Wk

/-! FM5: the form is told by IsF; strokes parted, turned about, moved, in other inks. -/
namespace Wk
open PySem L2
theorem isF_form {F L : List Stk} (hL : ∀ s ∈ L, s.ok) (h : IsF F L) : form L = sortS F := by
  have k := form_isF hL
  have p : (form L).Perm F := perm_of_mem k.nd h.nd fun s => ⟨fun z => k.same h (fun _ _ => Iff.rfl) s z, fun z => h.same k (fun _ _ => Iff.rfl) s z⟩
  rw [← form_sorted L]
  exact sortS_eq p
theorem isF_cv {F L : List Stk} (h : IsF F L) (q : LK) (z : Nm) : Cv F q z ↔ Cv L q z := by
  constructor
  · rintro ⟨f, hf, hk, h1, h2⟩
    rw [(h.fw f hf).lo] at h1
    rw [(h.fw f hf).hi] at h2
    have := (h.cp f hf).i z h1 h2
    rw [hk] at this
    exact this
  · intro c
    obtain ⟨f, hf, hk, h1, h2⟩ := h.cv q z c
    exact ⟨f, hf, hk, by rw [(h.fw f hf).lo]; exact h1, by rw [(h.fw f hf).hi]; exact h2⟩
/-- the form's own strokes have this form -/
theorem form_form {L : List Stk} (hL : ∀ s ∈ L, s.ok) : form (form L) = form L := form_same (form_isF hL).ok hL fun q z => isF_cv (form_isF hL) q z
theorem Cv_app {L M : List Stk} {q : LK} {z : Nm} : Cv (L ++ M) q z ↔ Cv L q z ∨ Cv M q z := by
  unfold Cv
  constructor
  · rintro ⟨s, h, r⟩
    rcases List.mem_append.mp h with k | k
    · exact .inl ⟨s, k, r⟩
    · exact .inr ⟨s, k, r⟩
  · rintro (⟨s, h, r⟩ | ⟨s, h, r⟩)
    · exact ⟨s, List.mem_append_left _ h, r⟩
    · exact ⟨s, List.mem_append_right _ h, r⟩
theorem Cv_one {s : Stk} {q : LK} {z : Nm} : Cv [s] q z ↔ s.key = q ∧ s.lo ≤ z ∧ z ≤ s.hi := by
  unfold Cv
  constructor
  · rintro ⟨t, h, r⟩
    rw [List.mem_singleton.mp h] at r
    exact r
  · exact fun r => ⟨s, List.mem_singleton.mpr rfl, r⟩
theorem Cv_nil {q : LK} {z : Nm} : ¬ Cv [] q z := fun ⟨_, h, _⟩ => nomatch h
def Stk.fl (s : Stk) : Stk := ⟨s.ink, s.b, s.a⟩
theorem fl_dr (s : Stk) : s.fl.dr4 = s.dr4 := dirS_sym _ _
theorem fl_key {s : Stk} (h : s.ok) : s.fl.key = s.key := by
  rw [lk_eq]
  refine ⟨rfl, fl_dr s, ?_⟩
  show lineS s.b s.fl.dr4 = lineS s.a s.dr4
  rw [fl_dr]
  exact h.l
theorem fl_za (s : Stk) : s.fl.za = s.zb := by
  show alg s.b s.fl.dr4 = alg s.b s.dr4
  rw [fl_dr]
theorem fl_zb (s : Stk) : s.fl.zb = s.za := by
  show alg s.a s.fl.dr4 = alg s.a s.dr4
  rw [fl_dr]
theorem fl_ok {s : Stk} (h : s.ok) : s.fl.ok := by
  refine ⟨fun e => h.n e.symm, ?_⟩
  have e : dirS s.fl.a s.fl.b = dirS s.a s.b := dirS_sym _ _
  rw [e]
  exact h.l.symm
theorem fl_lo {s : Stk} (h : s.ok) : s.fl.lo = s.lo ∧ s.fl.hi = s.hi := by
  have := h.ne
  unfold Stk.lo Stk.hi
  rw [fl_za, fl_zb]
  constructor <;> grind
theorem Cv_fl {P : List Stk} (h : ∀ s ∈ P, s.ok) {q : LK} {z : Nm} : Cv (P.map Stk.fl) q z ↔ Cv P q z := by
  unfold Cv
  constructor
  · rintro ⟨t, ht, r⟩
    obtain ⟨s, hs, rfl⟩ := List.mem_map.mp ht
    rw [fl_key (h s hs), (fl_lo (h s hs)).1, (fl_lo (h s hs)).2] at r
    exact ⟨s, hs, r⟩
  · rintro ⟨s, hs, r⟩
    refine ⟨s.fl, List.mem_map.mpr ⟨s, hs, rfl⟩, ?_⟩
    rw [fl_key (h s hs), (fl_lo (h s hs)).1, (fl_lo (h s hs)).2]
    exact r
/-- strokes of steps -/
theorem mv_is {h t : Int} (h0 : 0 ≤ h) (h1 : h < 8) (ht : t ≠ 0) (i : Int) (p : P4) : Stk.mk i p (mv h t p) = mkS ⟨i, h % 4, lineS p (h % 4)⟩ (alg p (h % 4), alg (mv h t p) (h % 4)) := by
  obtain ⟨hl, ha⟩ := mv_line h0 h1 ht p
  show _ = Stk.mk i (pt (h % 4) (lineS p (h % 4)) (alg p (h % 4))) (pt (h % 4) (lineS p (h % 4)) (alg (mv h t p) (h % 4)))
  rw [pt_of, ← hl, pt_of]
theorem mv_key {h t : Int} (h0 : 0 ≤ h) (h1 : h < 8) (ht : t ≠ 0) (i : Int) (p : P4) : (Stk.mk i p (mv h t p)).key = ⟨i, h % 4, lineS p (h % 4)⟩ ∧ (Stk.mk i p (mv h t p)).za = alg p (h % 4) ∧ (Stk.mk i p (mv h t p)).zb = alg (mv h t p) (h % 4) := by
  obtain ⟨hl, ha⟩ := mv_line h0 h1 ht p
  rw [mv_is h0 h1 ht]
  have fine : LK.fine ⟨i, h % 4, lineS p (h % 4)⟩ := by unfold LK.fine; dsimp only; omega
  exact ⟨mkS_key fine ha, mkS_za fine ha, mkS_zb fine ha⟩
theorem mv_amid {h t u : Int} (h0 : 0 ≤ h) (h1 : h < 8) (hu : 0 < u) (ht : u < t) (p : P4) : (alg p (h % 4) < alg (mv h u p) (h % 4) ∧ alg (mv h u p) (h % 4) < alg (mv h t p) (h % 4)) ∨ (alg (mv h t p) (h % 4) < alg (mv h u p) (h % 4) ∧ alg (mv h u p) (h % 4) < alg p (h % 4)) := by
  have pa : ∀ x : Int, 0 < x → Pos x 0 := fun x hx => sgn_one.mp (by unfold sgn; simp; omega)
  have pb : ∀ x : Int, 0 < x → Pos 0 x := fun x hx => sgn_one.mp (by unfold sgn; simp; omega)
  have e1 : (4 : Int) % 4 = 0 := rfl
  have e2 : (5 : Int) % 4 = 1 := rfl
  have e3 : (6 : Int) % 4 = 2 := rfl
  have e4 : (7 : Int) % 4 = 3 := rfl
  have q1 := pa u hu
  have q2 := pa (t - u) (by omega)
  have q3 := pb u hu
  have q4 := pb (t - u) (by omega)
  simp only [Nm.lt_pos]
  have pc : ∀ {a b a' b' : Int}, Pos a b → a' = a → b' = b → Pos a' b' := fun h e1 e2 => by rw [e1, e2]; exact h
  rcases heads h0 h1 with z | z | z | z | z | z | z | z <;> subst z
  · refine .inl ⟨pc q1 ?_ ?_, pc q2 ?_ ?_⟩ <;> simp [alg, mv, P4.x, P4.y, xa, xb, ya, yb] <;> omega
  · refine .inl ⟨pc q3 ?_ ?_, pc q4 ?_ ?_⟩ <;> simp [alg, mv, P4.x, P4.y, xa, xb, ya, yb] <;> omega
  · refine .inl ⟨pc q1 ?_ ?_, pc q2 ?_ ?_⟩ <;> simp [alg, mv, P4.x, P4.y, xa, xb, ya, yb] <;> omega
  · refine .inr ⟨pc q4 ?_ ?_, pc q3 ?_ ?_⟩ <;> simp [alg, mv, P4.x, P4.y, xa, xb, ya, yb] <;> omega
  · refine .inr ⟨pc q2 ?_ ?_, pc q1 ?_ ?_⟩ <;> simp [e1, alg, mv, P4.x, P4.y, xa, xb, ya, yb] <;> omega
  · refine .inr ⟨pc q4 ?_ ?_, pc q3 ?_ ?_⟩ <;> simp [e2, alg, mv, P4.x, P4.y, xa, xb, ya, yb] <;> omega
  · refine .inr ⟨pc q2 ?_ ?_, pc q1 ?_ ?_⟩ <;> simp [e3, alg, mv, P4.x, P4.y, xa, xb, ya, yb] <;> omega
  · refine .inl ⟨pc q3 ?_ ?_, pc q4 ?_ ?_⟩ <;> simp [e4, alg, mv, P4.x, P4.y, xa, xb, ya, yb] <;> omega
/-- a stroke in two parts covers the same -/
theorem Cv_parts {h t u : Int} (h0 : 0 ≤ h) (h1 : h < 8) (hu : 0 < u) (ht : u < t) (i : Int) (p : P4) {q : LK} {z : Nm} : Cv [⟨i, p, mv h u p⟩, ⟨i, mv h u p, mv h t p⟩] q z ↔ Cv [⟨i, p, mv h t p⟩] q z := by
  have e : mv h t p = mv h (t - u) (mv h u p) := by rw [mv_mv]; congr 1; omega
  obtain ⟨a1, a2, a3⟩ := mv_key h0 h1 (show u ≠ 0 by omega) i p
  obtain ⟨b1, b2, b3⟩ := mv_key h0 h1 (show t - u ≠ 0 by omega) i (mv h u p)
  obtain ⟨c1, c2, c3⟩ := mv_key h0 h1 (show t ≠ 0 by omega) i p
  rw [← e] at b1 b2 b3
  have ln := (mv_line h0 h1 (show u ≠ 0 by omega) p).1
  rw [ln] at b1
  have am := mv_amid h0 h1 hu ht p
  have sp : ∀ (s t : Stk), Cv [s, t] q z ↔ Cv [s] q z ∨ Cv [t] q z := fun s t => Cv_app (L := [s]) (M := [t])
  rw [sp, Cv_one, Cv_one, Cv_one, a1, b1, c1]
  unfold Stk.lo Stk.hi
  rw [a2, a3, b2, b3, c2, c3]
  generalize alg p (h % 4) = A at *
  generalize alg (mv h u p) (h % 4) = B at *
  generalize alg (mv h t p) (h % 4) = C at *
  by_cases k : (LK.mk i (h % 4) (lineS p (h % 4))) = q
  · simp only [k, true_and]
    rcases am with ⟨x1, x2⟩ | ⟨x1, x2⟩
    · have y1 : ¬ B < A := by grind
      have y2 : ¬ C < B := by grind
      have y3 : ¬ C < A := by grind
      simp only [y1, y2, y3, if_false]
      grind
    · have y1 : B < A := by grind
      have y2 : C < B := by grind
      have y3 : C < A := by grind
      simp only [y1, y2, y3, if_true]
      grind
  · simp only [k, false_and, or_self]
/-- strokes moved as a whole -/
structure Mot (ι : Int → Int) (π : P4 → P4) where
  K : LK → LK
  T : LK → Nm → Nm
  Ti : LK → Nm → Nm
  kk : ∀ s : Stk, s.ok → (Stk.mk (ι s.ink) (π s.a) (π s.b)).ok ∧ (Stk.mk (ι s.ink) (π s.a) (π s.b)).key = K s.key ∧ (Stk.mk (ι s.ink) (π s.a) (π s.b)).za = T s.key s.za ∧ (Stk.mk (ι s.ink) (π s.a) (π s.b)).zb = T s.key s.zb
  inj : ∀ k j, K k = K j → k = j
  i1 : ∀ k z, T k (Ti k z) = z
  mono : ∀ k x y, x < y ↔ T k x < T k y
def mot (ι : Int → Int) (π : P4 → P4) (s : Stk) : Stk := ⟨ι s.ink, π s.a, π s.b⟩
section
variable {ι : Int → Int} {π : P4 → P4}
theorem Mot.le (m : Mot ι π) (k : LK) (x y : Nm) : x ≤ y ↔ m.T k x ≤ m.T k y := by
  have := m.mono k y x
  rw [← Nm.not_lt', ← Nm.not_lt', this]
theorem Mot.lo (m : Mot ι π) {s : Stk} (h : s.ok) : (mot ι π s).lo = m.T s.key s.lo ∧ (mot ι π s).hi = m.T s.key s.hi := by
  obtain ⟨_, _, h3, h4⟩ := m.kk s h
  have e3 : (mot ι π s).za = m.T s.key s.za := h3
  have e4 : (mot ι π s).zb = m.T s.key s.zb := h4
  have c := m.mono s.key s.zb s.za
  unfold Stk.lo Stk.hi
  rw [e3, e4]
  by_cases q : s.zb < s.za
  · rw [if_pos q, if_pos (c.mp q), if_pos q, if_pos (c.mp q)]; exact ⟨rfl, rfl⟩
  · rw [if_neg q, if_neg (fun z => q (c.mpr z)), if_neg q, if_neg (fun z => q (c.mpr z))]; exact ⟨rfl, rfl⟩
theorem Mot.cv (m : Mot ι π) {L : List Stk} (hL : ∀ s ∈ L, s.ok) (k : LK) (z : Nm) : Cv (L.map (mot ι π)) (m.K k) (m.T k z) ↔ Cv L k z := by
  unfold Cv
  constructor
  · rintro ⟨t, ht, hk, h1, h2⟩
    obtain ⟨s, hs, rfl⟩ := List.mem_map.mp ht
    have kk : (mot ι π s).key = m.K s.key := (m.kk s (hL s hs)).2.1
    rw [kk] at hk
    have e := m.inj _ _ hk
    rw [(m.lo (hL s hs)).1, e, ← m.le] at h1
    rw [(m.lo (hL s hs)).2, e, ← m.le] at h2
    exact ⟨s, hs, e, h1, h2⟩
  · rintro ⟨s, hs, hk, h1, h2⟩
    have kk : (mot ι π s).key = m.K s.key := (m.kk s (hL s hs)).2.1
    refine ⟨mot ι π s, List.mem_map.mpr ⟨s, hs, rfl⟩, by rw [kk, hk], ?_, ?_⟩
    · rw [(m.lo (hL s hs)).1, hk, ← m.le]; exact h1
    · rw [(m.lo (hL s hs)).2, hk, ← m.le]; exact h2
theorem Mot.isF (m : Mot ι π) {F L : List Stk} (hL : ∀ s ∈ L, s.ok) (h : IsF F L) : IsF (F.map (mot ι π)) (L.map (mot ι π)) := by
  refine ⟨fun g hg => ?_, fun g hg => ?_, fun g hg => ?_, fun k z c => ?_, ?_, fun g hg => ?_, fun g hg => ?_⟩
  · obtain ⟨f, hf, rfl⟩ := List.mem_map.mp hg
    exact (m.kk f (h.ok f hf)).1
  · obtain ⟨f, hf, rfl⟩ := List.mem_map.mp hg
    obtain ⟨_, _, h3, h4⟩ := m.kk f (h.ok f hf)
    have e3 : (mot ι π f).za = m.T f.key f.za := h3
    have e4 : (mot ι π f).zb = m.T f.key f.zb := h4
    unfold Stk.fwd
    rw [e3, e4, ← m.mono]
    exact h.fw f hf
  · obtain ⟨f, hf, rfl⟩ := List.mem_map.mp hg
    obtain ⟨_, h2, h3, h4⟩ := m.kk f (h.ok f hf)
    have e2 : (mot ι π f).key = m.K f.key := h2
    have e3 : (mot ι π f).za = m.T f.key f.za := h3
    have e4 : (mot ι π f).zb = m.T f.key f.zb := h4
    rw [e2, e3, e4]
    have c := h.cp f hf
    have lt : ∀ x y : Nm, x < y ↔ m.T f.key x < m.T f.key y := m.mono f.key
    have le : ∀ x y : Nm, x ≤ y ↔ m.T f.key x ≤ m.T f.key y := m.le f.key
    have cv := m.cv hL f.key
    have i1 := m.i1 f.key
    refine ⟨(lt _ _).mp c.l, fun z h1 h2 => ?_, fun w hw => ?_, fun w hw => ?_⟩
    · rw [← i1 z] at h1 h2 ⊢
      rw [cv]
      exact c.i _ ((le _ _).mpr h1) ((le _ _).mpr h2)
    · rw [← i1 w] at hw
      obtain ⟨z, z1, z2, z3⟩ := c.w _ ((lt _ _).mpr hw)
      refine ⟨m.T f.key z, ?_, (lt _ _).mp z2, fun q => z3 ((cv z).mp q)⟩
      have := (lt _ _).mp z1
      rw [i1] at this
      exact this
    · rw [← i1 w] at hw
      obtain ⟨z, z1, z2, z3⟩ := c.e _ ((lt _ _).mpr hw)
      refine ⟨m.T f.key z, (lt _ _).mp z1, ?_, fun q => z3 ((cv z).mp q)⟩
      have := (lt _ _).mp z2
      rw [i1] at this
      exact this
  · obtain ⟨t, ht, hk, h1, h2⟩ := c
    obtain ⟨s, hs, rfl⟩ := List.mem_map.mp ht
    have kk : (mot ι π s).key = m.K s.key := (m.kk s (hL s hs)).2.1
    rw [kk] at hk
    rw [(m.lo (hL s hs)).1, ← m.i1 s.key z, ← m.le] at h1
    rw [(m.lo (hL s hs)).2, ← m.i1 s.key z, ← m.le] at h2
    obtain ⟨f, hf, fk, f1, f2⟩ := h.cv s.key (m.Ti s.key z) ⟨s, hs, rfl, h1, h2⟩
    obtain ⟨_, e2, e3, e4⟩ := m.kk f (h.ok f hf)
    have e2' : (mot ι π f).key = m.K f.key := e2
    have e3' : (mot ι π f).za = m.T f.key f.za := e3
    have e4' : (mot ι π f).zb = m.T f.key f.zb := e4
    refine ⟨mot ι π f, List.mem_map.mpr ⟨f, hf, rfl⟩, by rw [e2', fk, hk], ?_, ?_⟩
    · rw [e3', fk]
      have := (m.le s.key _ _).mp f1
      rw [m.i1] at this
      exact this
    · rw [e4', fk]
      have := (m.le s.key _ _).mp f2
      rw [m.i1] at this
      exact this
  · refine List.pairwise_map.mpr (List.Pairwise.imp_of_mem (fun {f g} hf hg ne e => ne ?_) h.nd)
    obtain ⟨_, a2, a3, a4⟩ := m.kk f (h.ok f hf)
    obtain ⟨_, b2, b3, b4⟩ := m.kk g (h.ok g hg)
    have e2 : (mot ι π f).key = m.K f.key := a2
    have e2' : (mot ι π g).key = m.K g.key := b2
    have e3 : (mot ι π f).za = m.T f.key f.za := a3
    have e3' : (mot ι π g).za = m.T g.key g.za := b3
    have e4 : (mot ι π f).zb = m.T f.key f.zb := a4
    have e4' : (mot ι π g).zb = m.T g.key g.zb := b4
    rw [e, e2'] at e2
    have k := m.inj _ _ e2
    rw [e, e3', k] at e3
    rw [e, e4', k] at e4
    have inj : ∀ x y, m.T f.key x = m.T f.key y → x = y := fun x y z => by
      have l1 := m.le f.key x y
      have l2 := m.le f.key y x
      rw [z] at l1 l2
      grind
    have z1 := inj _ _ e3
    have z2 := inj _ _ e4
    rw [(h.ok f hf).is, (h.ok g hg).is, k, z1, z2]
  · obtain ⟨f, hf, rfl⟩ := List.mem_map.mp hg
    obtain ⟨s, hs, e⟩ := h.lo f hf
    refine ⟨mot ι π s, List.mem_map.mpr ⟨s, hs, rfl⟩, ?_⟩
    rcases e with e | e
    · left; show π s.a = π f.a; rw [e]
    · right; show π s.b = π f.a; rw [e]
  · obtain ⟨f, hf, rfl⟩ := List.mem_map.mp hg
    obtain ⟨s, hs, e⟩ := h.hi f hf
    refine ⟨mot ι π s, List.mem_map.mpr ⟨s, hs, rfl⟩, ?_⟩
    rcases e with e | e
    · left; show π s.a = π f.b; rw [e]
    · right; show π s.b = π f.b; rw [e]
theorem Mot.form (m : Mot ι π) {L : List Stk} (hL : ∀ s ∈ L, s.ok) : form (L.map (mot ι π)) = sortS ((form L).map (mot ι π)) :=
  isF_form (fun t ht => by
    obtain ⟨s, hs, rfl⟩ := List.mem_map.mp ht
    exact (m.kk s (hL s hs)).1) (m.isF hL (form_isF hL))
end
/-- two inks exchanged -/
def swI (i : Int) : Int := if i = 0 then 1 else if i = 1 then 0 else i
theorem swI_swI (i : Int) : swI (swI i) = i := by unfold swI; split <;> split <;> (try split) <;> omega
def swM : Mot swI id where
  K := fun k => ⟨swI k.ink, k.d, k.l⟩
  T := fun _ z => z
  Ti := fun _ z => z
  kk := fun s h => ⟨⟨h.n, h.l⟩, rfl, rfl, rfl⟩
  inj := fun k j e => by
    rw [lk_eq] at e ⊢
    refine ⟨?_, e.2.1, e.2.2⟩
    have := congrArg swI e.1
    dsimp only at this
    rw [swI_swI, swI_swI] at this
    exact this
  i1 := fun _ _ => rfl
  mono := fun _ _ _ => Iff.rfl
/-- moved by a place -/
def shP (v p : P4) : P4 := ⟨p.a + v.a, p.b + v.b, p.c + v.c, p.d + v.d⟩
theorem sh_dir (v p q : P4) : dirS (shP v p) (shP v q) = dirS p q := by
  have e1 : (shP v q).y.sub (shP v p).y = q.y.sub p.y := by rw [nm_eq]; simp only [Nm.sub, P4.y, shP]; omega
  have e2 : (shP v q).x.sub (shP v p).x = q.x.sub p.x := by rw [nm_eq]; simp only [Nm.sub, P4.x, shP]; omega
  unfold dirS
  rw [e1, e2]
theorem sh_line (v p : P4) (d : Int) : lineS (shP v p) d = (lineS p d).add (lineS v d) := by
  unfold lineS
  split
  · rfl
  · split
    · rfl
    · split
      · rw [nm_eq]; simp only [Nm.sub, Nm.add, P4.x, P4.y, shP]; omega
      · rw [nm_eq]; simp only [Nm.sub, Nm.add, P4.x, P4.y, shP]; omega
theorem sh_alg (v p : P4) (d : Int) : alg (shP v p) d = (alg p d).add (alg v d) := by
  unfold alg
  split <;> rfl
theorem add_inj {x y c : Nm} (h : x.add c = y.add c) : x = y := by
  rw [nm_eq] at *
  simp only [Nm.add] at h
  omega
def shM (v : P4) : Mot id (shP v) where
  K := fun k => ⟨k.ink, k.d, k.l.add (lineS v k.d)⟩
  T := fun k z => z.add (alg v k.d)
  Ti := fun k z => z.sub (alg v k.d)
  kk := fun s h => by
    have dr : (Stk.mk (id s.ink) (shP v s.a) (shP v s.b)).dr4 = s.dr4 := sh_dir v s.a s.b
    refine ⟨⟨fun e => h.n ?_, ?_⟩, ?_, ?_, ?_⟩
    · rw [p4_eq] at e ⊢
      simp only [shP] at e
      omega
    · show lineS (shP v s.b) (dirS (shP v s.a) (shP v s.b)) = lineS (shP v s.a) (dirS (shP v s.a) (shP v s.b))
      rw [sh_dir, sh_line, sh_line, h.l]
    · rw [lk_eq]
      refine ⟨rfl, dr, ?_⟩
      show lineS (shP v s.a) (Stk.mk (id s.ink) (shP v s.a) (shP v s.b)).dr4 = _
      rw [dr, sh_line]
      rfl
    · show alg (shP v s.a) (Stk.mk (id s.ink) (shP v s.a) (shP v s.b)).dr4 = _
      rw [dr, sh_alg]
      rfl
    · show alg (shP v s.b) (Stk.mk (id s.ink) (shP v s.a) (shP v s.b)).dr4 = _
      rw [dr, sh_alg]
      rfl
  inj := fun k j e => by
    rw [lk_eq] at e ⊢
    obtain ⟨e1, e2, e3⟩ := e
    dsimp only at e1 e2 e3
    rw [e2] at e3
    exact ⟨e1, e2, add_inj e3⟩
  i1 := fun k z => by rw [nm_eq]; simp only [Nm.add, Nm.sub]; omega
  mono := fun k x y => by
    rw [Nm.lt_pos, Nm.lt_pos]
    have e1 : (y.add (alg v k.d)).a - (x.add (alg v k.d)).a = y.a - x.a := by simp only [Nm.add]; omega
    have e2 : (y.add (alg v k.d)).b - (x.add (alg v k.d)).b = y.b - x.b := by simp only [Nm.add]; omega
    rw [e1, e2]
end Wk

namespace Lw
open PySem PySem.Spec PyProof.Rows L2 Wk
def topS (i : Nat) : Stmt := PySem.Challenge.pw_turtlehouse_k32_whole_one_form.main.body.getD i (.Pass ⟨0, 0, 0, 0⟩)
def N_sign_of : List Str := ["number", "a", "b"]
abbrev s_sign_of : Stmt := topS 1
theorem sc_sign_of : FnScope N_sign_of ["number"] (defScope s_sign_of) := ⟨rfl, rfl, rfl, by decide +kernel, rfl, by decide +kernel, by decide +kernel⟩
noncomputable def B_sign_of : Es := (sSeq (sAsg (gTup' 2 (gCons' (gN 1) (gCons' (gN 2) gNil'))) (eV 0))
    (sSeq (sIf (bAnd (tBin opGe (eV 1) (eC (.int 0))) (tBin opGe (eV 2) (eC (.int 0))))
    (sRet (eB fInt (aCons (eBin opGt (eBin (opAdd false) (eV 1) (eV 2)) (eC (.int 0))) aNil)))
    sNil)
    (sSeq (sIf (bAnd (tBin opLe (eV 1) (eC (.int 0))) (tBin opLe (eV 2) (eC (.int 0))))
    (sRet (eUn opNeg (eC (.int 1))))
    sNil)
    (sSeq (sIf (tBin opGt (eBin opMul (eBin opMul (eC (.int 2)) (eV 1)) (eV 1)) (eBin opMul (eV 2) (eV 2)))
    (sRet (eBin opSub (eC (.int 1)) (eBin opMul (eC (.int 2)) (eB fInt (aCons (eBin opLt (eV 1) (eC (.int 0))) aNil)))))
    sNil)
    (sRet (eBin opSub (eC (.int 1)) (eBin opMul (eC (.int 2)) (eB fInt (aCons (eBin opLt (eV 2) (eC (.int 0))) aNil)))))))))
noncomputable def F_sign_of : PF := pfOf 3 B_sign_of
def N_plus : List Str := ["one", "other"]
abbrev s_plus : Stmt := topS 2
theorem sc_plus : FnScope N_plus ["one", "other"] (defScope s_plus) := ⟨rfl, rfl, rfl, by decide +kernel, rfl, by decide +kernel, by decide +kernel⟩
noncomputable def B_plus : Es := (sRet (eTup (aCons (eBin (opAdd false) (eBin opIx (eV 0) (eC (.int 0))) (eBin opIx (eV 1) (eC (.int 0)))) (aCons (eBin (opAdd false) (eBin opIx (eV 0) (eC (.int 1))) (eBin opIx (eV 1) (eC (.int 1)))) aNil))))
noncomputable def F_plus : PF := pfOf 2 B_plus
def N_minus : List Str := ["one", "other"]
abbrev s_minus : Stmt := topS 3
theorem sc_minus : FnScope N_minus ["one", "other"] (defScope s_minus) := ⟨rfl, rfl, rfl, by decide +kernel, rfl, by decide +kernel, by decide +kernel⟩
noncomputable def B_minus : Es := (sRet (eTup (aCons (eBin opSub (eBin opIx (eV 0) (eC (.int 0))) (eBin opIx (eV 1) (eC (.int 0)))) (aCons (eBin opSub (eBin opIx (eV 0) (eC (.int 1))) (eBin opIx (eV 1) (eC (.int 1)))) aNil))))
noncomputable def F_minus : PF := pfOf 2 B_minus
def N_is_below : List Str := ["one", "other"]
abbrev s_is_below : Stmt := topS 4
theorem sc_is_below : FnScope N_is_below ["one", "other"] (defScope s_is_below) := ⟨rfl, rfl, rfl, by decide +kernel, rfl, by decide +kernel, by decide +kernel⟩
noncomputable def B_is_below : Es := (sRet (eBin opLt (eCall F_sign_of (aCons (eCall F_minus (aCons (eV 0) (aCons (eV 1) aNil))) aNil)) (eC (.int 0))))
noncomputable def F_is_below : PF := pfOf 2 B_is_below
def N_direction_of : List Str := ["begin", "end", "east", "north"]
abbrev s_direction_of : Stmt := topS 6
theorem sc_direction_of : FnScope N_direction_of ["begin", "end"] (defScope s_direction_of) := ⟨rfl, rfl, rfl, by decide +kernel, rfl, by decide +kernel, by decide +kernel⟩
noncomputable def B_direction_of : Es := (sSeq (sSet 2 (eCall F_minus (aCons (eBin opIx (eV 1) (eC (.int 0))) (aCons (eBin opIx (eV 0) (eC (.int 0))) aNil))))
    (sSeq (sSet 3 (eCall F_minus (aCons (eBin opIx (eV 1) (eC (.int 1))) (aCons (eBin opIx (eV 0) (eC (.int 1))) aNil))))
    (sSeq (sIf (tBin opEq (eV 3) (eTup (aCons (eC (.int 0)) (aCons (eC (.int 0)) aNil))))
    (sRet (eC (.int 0)))
    sNil)
    (sSeq (sIf (tBin opEq (eV 2) (eTup (aCons (eC (.int 0)) (aCons (eC (.int 0)) aNil))))
    (sRet (eC (.int 2)))
    sNil)
    (sSeq (sIf (tBin opEq (eV 2) (eV 3))
    (sRet (eC (.int 1)))
    sNil)
    (sRet (eC (.int 3))))))))
noncomputable def F_direction_of : PF := pfOf 4 B_direction_of
def N_line_of : List Str := ["place", "direction"]
abbrev s_line_of : Stmt := topS 7
theorem sc_line_of : FnScope N_line_of ["place", "direction"] (defScope s_line_of) := ⟨rfl, rfl, rfl, by decide +kernel, rfl, by decide +kernel, by decide +kernel⟩
noncomputable def B_line_of : Es := (sSeq (sIf (tBin opEq (eV 1) (eC (.int 0)))
    (sRet (eBin opIx (eV 0) (eC (.int 1))))
    sNil)
    (sSeq (sIf (tBin opEq (eV 1) (eC (.int 2)))
    (sRet (eBin opIx (eV 0) (eC (.int 0))))
    sNil)
    (sSeq (sIf (tBin opEq (eV 1) (eC (.int 1)))
    (sRet (eCall F_minus (aCons (eBin opIx (eV 0) (eC (.int 0))) (aCons (eBin opIx (eV 0) (eC (.int 1))) aNil))))
    sNil)
    (sRet (eCall F_plus (aCons (eBin opIx (eV 0) (eC (.int 0))) (aCons (eBin opIx (eV 0) (eC (.int 1))) aNil)))))))
noncomputable def F_line_of : PF := pfOf 2 B_line_of
def N_along : List Str := ["place", "direction"]
abbrev s_along : Stmt := topS 8
theorem sc_along : FnScope N_along ["place", "direction"] (defScope s_along) := ⟨rfl, rfl, rfl, by decide +kernel, rfl, by decide +kernel, by decide +kernel⟩
noncomputable def B_along : Es := (sSeq (sIf (tBin opEq (eV 1) (eC (.int 2)))
    (sRet (eBin opIx (eV 0) (eC (.int 1))))
    sNil)
    (sRet (eBin opIx (eV 0) (eC (.int 0)))))
noncomputable def F_along : PF := pfOf 2 B_along
def N_is_ahead : List Str := ["one", "other", "direction"]
abbrev s_is_ahead : Stmt := topS 9
theorem sc_is_ahead : FnScope N_is_ahead ["one", "other", "direction"] (defScope s_is_ahead) := ⟨rfl, rfl, rfl, by decide +kernel, rfl, by decide +kernel, by decide +kernel⟩
noncomputable def B_is_ahead : Es := (sRet (eCall F_is_below (aCons (eCall F_along (aCons (eV 0) (aCons (eV 2) aNil))) (aCons (eCall F_along (aCons (eV 1) (aCons (eV 2) aNil))) aNil))))
noncomputable def F_is_ahead : PF := pfOf 3 B_is_ahead
def N_with_stretch : List Str := ["stretches", "begin", "end", "direction", "ahead", "behind", "one"]
abbrev s_with_stretch : Stmt := topS 10
theorem sc_with_stretch : FnScope N_with_stretch ["stretches", "begin", "end", "direction"] (defScope s_with_stretch) := ⟨rfl, rfl, rfl, by decide +kernel, rfl, by decide +kernel, by decide +kernel⟩
noncomputable def L_with_stretch_0 : Es := (sIf (tTru (eCall F_is_ahead (aCons (eBin opIx (eV 6) (eC (.int 1))) (aCons (eV 1) (aCons (eV 3) aNil)))))
    (sExpr (eMl fApp (eV 4) (aCons (eV 6) aNil)))
    (sIf (tTru (eCall F_is_ahead (aCons (eV 2) (aCons (eBin opIx (eV 6) (eC (.int 0))) (aCons (eV 3) aNil)))))
    (sExpr (eMl fApp (eV 5) (aCons (eV 6) aNil)))
    (sSeq (sIf (tTru (eCall F_is_ahead (aCons (eBin opIx (eV 6) (eC (.int 0))) (aCons (eV 1) (aCons (eV 3) aNil)))))
    (sSet 1 (eBin opIx (eV 6) (eC (.int 0))))
    sNil)
    (sIf (tTru (eCall F_is_ahead (aCons (eV 2) (aCons (eBin opIx (eV 6) (eC (.int 1))) (aCons (eV 3) aNil)))))
    (sSet 2 (eBin opIx (eV 6) (eC (.int 1))))
    sNil))))
noncomputable def B_with_stretch : Es := (sSeq (sSet 4 (eLst true aNil))
    (sSeq (sSet 5 (eLst true aNil))
    (sSeq (sFor (iSeq (eV 0)) (gN 6) L_with_stretch_0)
    (sRet (eFz (eBin (opAdd false) (eBin (opAdd false) (eV 4) (eLst false (aCons (eTup (aCons (eV 1) (aCons (eV 2) aNil))) aNil))) (eV 5)))))))
noncomputable def F_with_stretch : PF := pfOf 7 B_with_stretch
def N_form_of : List Str := ["strokes", "lines", "found", "ink", "begin", "end", "direction", "key", "stretches"]
abbrev s_form_of : Stmt := topS 11
theorem sc_form_of : FnScope N_form_of ["strokes"] (defScope s_form_of) := ⟨rfl, rfl, rfl, by decide +kernel, rfl, by decide +kernel, by decide +kernel⟩
noncomputable def L_form_of_0 : Es := (sSeq (sSet 6 (eCall F_direction_of (aCons (eV 4) (aCons (eV 5) aNil))))
    (sSeq (sIf (tTru (eCall F_is_ahead (aCons (eV 5) (aCons (eV 4) (aCons (eV 6) aNil)))))
    (sPar 4 5 (aCons (eV 5) (aCons (eV 4) aNil)))
    sNil)
    (sSeq (sSet 7 (eTup (aCons (eV 3) (aCons (eV 6) (aCons (eCall F_line_of (aCons (eV 4) (aCons (eV 6) aNil))) aNil)))))
    (sNPutS (eCall F_with_stretch (aCons (eFz (eNGet2 (eV 1) (eV 7) (eLst false aNil))) (aCons (eV 4) (aCons (eV 5) (aCons (eV 6) aNil))))) (eV 1) (eV 7)))))
noncomputable def L_form_of_1 : Es := (sExpr (eMl fApp (eV 2) (aCons (eTup (aCons (eBin opIx (eV 7) (eC (.int 0))) (aCons (eV 4) (aCons (eV 5) aNil)))) aNil)))
noncomputable def L_form_of_2 : Es := (sFor (iSeq (eV 8)) (gTup' 2 (gCons' (gN 4) (gCons' (gN 5) gNil'))) L_form_of_1)
noncomputable def B_form_of : Es := (sSeq (sSet 1 eNNew)
    (sSeq (sFor (iSeq (eV 0)) (gTup' 3 (gCons' (gN 3) (gCons' (gN 4) (gCons' (gN 5) gNil')))) L_form_of_0)
    (sSeq (sSet 2 (eLst true aNil))
    (sSeq (sFor (iNIt (eV 1)) (gTup' 2 (gCons' (gN 7) (gCons' (gN 8) gNil'))) L_form_of_2)
    (sRet (eB fTuple (aCons (eB (fSorted false) (aCons (eV 2) aNil)) aNil)))))))
noncomputable def F_form_of : PF := pfOf 9 B_form_of
def N_law_cell : List Str := ["_law_script", "_law_k", "_law_number"]
abbrev s_law_cell : Stmt := topS 13
theorem sc_law_cell : FnScope N_law_cell ["_law_script", "_law_k"] (defScope s_law_cell) := ⟨rfl, rfl, rfl, by decide +kernel, rfl, by decide +kernel, by decide +kernel⟩
noncomputable def B_law_cell : Es := (sSeq (sIf (tBin opLt (eV 1) (eB fLen (aCons (eV 0) aNil)))
    (sRet (eBin opIx (eV 0) (eV 1)))
    sNil)
    (sSeq (sSet 2 (eBin (opAdd false) (eBin opMul (eBin opMul (eV 1) (eV 1)) (eC (.int 7919))) (eC (.int 104729))))
    (sSeq (sIf (tBin opGt (eB fLen (aCons (eV 0) aNil)) (eC (.int 0)))
    (sSet 2 (eBin (opAdd false) (eV 2) (eBin opMul (eBin opMod (eBin opIx (eV 0) (eBin opMod (eBin opMul (eV 1) (eC (.int 7))) (eB fLen (aCons (eV 0) aNil)))) (eBin opPow (eC (.int 10)) (eC (.int 40)))) (eBin (opAdd false) (eC (.int 48271)) (eV 1)))))
    sNil)
    (sRet (eBin opMod (eBin opMul (eV 2) (eV 2)) (eC (.int 2305843009213693951)))))))
noncomputable def F_law_cell : PF := pfOf 3 B_law_cell
def N_law_mixed : List Str := ["_law_cell_here", "_law_k", "_law_number"]
abbrev s_law_mixed : Stmt := topS 14
theorem sc_law_mixed : FnScope N_law_mixed ["_law_cell_here", "_law_k"] (defScope s_law_mixed) := ⟨rfl, rfl, rfl, by decide +kernel, rfl, by decide +kernel, by decide +kernel⟩
noncomputable def B_law_mixed : Es := (sSeq (sSet 2 (eBin opMod (eBin (opAdd false) (eBin (opAdd false) (eV 0) (eBin opMul (eBin opMul (eV 1) (eV 1)) (eC (.int 40503)))) (eC (.int 12345))) (eC (.int 2305843009213693951))))
    (sSeq (sSet 2 (eBin opMod (eBin opMul (eV 2) (eV 2)) (eC (.int 2305843009213693951))))
    (sSeq (sSet 2 (eBin opMod (eBin opMul (eBin (opAdd false) (eBin (opAdd false) (eV 2) (eBin opMul (eV 1) (eC (.int 7919)))) (eC (.int 1))) (eC (.int 48271))) (eC (.int 2305843009213693951))))
    (sRet (eBin opFdiv (eBin opMod (eBin opMul (eV 2) (eV 2)) (eC (.int 2305843009213693951))) (eC (.int 1024)))))))
noncomputable def F_law_mixed : PF := pfOf 3 B_law_mixed
def N_law_row : List Str := ["_law_cell_here", "_law_most", "_law_many", "_law_found", "_law_rest", "_law_k"]
abbrev s_law_row : Stmt := topS 15
theorem sc_law_row : FnScope N_law_row ["_law_cell_here", "_law_most", "_law_many"] (defScope s_law_row) := ⟨rfl, rfl, rfl, by decide +kernel, rfl, by decide +kernel, by decide +kernel⟩
noncomputable def L_law_row_0 : Es := (sSeq (sExpr (eMl fApp (eV 3) (aCons (eBin opMod (eV 4) (eV 1)) aNil)))
    (sSet 4 (eBin opFdiv (eV 4) (eV 1))))
noncomputable def K_law_row_1 : Ev := (eBin opMod (eCall F_law_mixed (aCons (eV 0) (aCons (eV 5) aNil))) (eV 1))
noncomputable def B_law_row : Es := (sSeq (sSet 3 (eLst true aNil))
    (sSeq (sSet 4 (eV 0))
    (sSeq (sFor (iR1 (aCons (eV 2) aNil)) (gN 5) L_law_row_0)
    (sSeq (sIf (tBin opGt (eV 4) (eC (.int 0)))
    (sRet (eFz (eV 3)))
    sNil)
    (sRet (eLc false [5] (iR1 (aCons (eV 2) aNil)) (gN 5) cYes K_law_row_1))))))
noncomputable def F_law_row : PF := pfOf 6 B_law_row
def N_law_int : List Str := ["_law_found"]
abbrev s_law_int : Stmt := topS 16
theorem sc_law_int : FnScope N_law_int ["_law_found"] (defScope s_law_int) := ⟨rfl, rfl, rfl, by decide +kernel, rfl, by decide +kernel, by decide +kernel⟩
noncomputable def B_law_int : Es := (sRet (eAnd (eUn (opIsi .int) (eV 0)) (eNot (eUn (opIsi .bool) (eV 0)))))
noncomputable def F_law_int : PF := pfOf 1 B_law_int
def N_law_sign : List Str := ["_law_number", "_law_more", "_law_a", "_law_b"]
abbrev s_law_sign : Stmt := topS 17
theorem sc_law_sign : FnScope N_law_sign ["_law_number"] (defScope s_law_sign) := ⟨rfl, rfl, rfl, by decide +kernel, rfl, by decide +kernel, by decide +kernel⟩
noncomputable def B_law_sign : Es := (sSeq (sAsg (gTup' 2 (gCons' (gN 2) (gCons' (gN 3) gNil'))) (eV 0))
    (sSeq (sIf (tBin opGe (eBin opMul (eV 2) (eV 3)) (eC (.int 0)))
    (sRet (eBin opSub (eB fInt (aCons (eBin opGt (eBin (opAdd false) (eV 2) (eV 3)) (eC (.int 0))) aNil)) (eB fInt (aCons (eBin opLt (eBin (opAdd false) (eV 2) (eV 3)) (eC (.int 0))) aNil))))
    sNil)
    (sSeq (sSet 1 (eBin opSub (eBin opMul (eBin opMul (eC (.int 2)) (eV 2)) (eV 2)) (eBin opMul (eV 3) (eV 3))))
    (sSeq (sIf (tBin opGt (eV 2) (eC (.int 0)))
    (sRet (eBin opSub (eB fInt (aCons (eBin opGt (eV 1) (eC (.int 0))) aNil)) (eB fInt (aCons (eBin opLt (eV 1) (eC (.int 0))) aNil))))
    sNil)
    (sRet (eBin opSub (eB fInt (aCons (eBin opLt (eV 1) (eC (.int 0))) aNil)) (eB fInt (aCons (eBin opGt (eV 1) (eC (.int 0))) aNil))))))))
noncomputable def F_law_sign : PF := pfOf 4 B_law_sign
def N_law_moved : List Str := ["_law_place", "_law_heading", "_law_steps_here", "_law_ways", "_law_here", "_law_east", "_law_north", "_law_x", "_law_y"]
abbrev s_law_moved : Stmt := topS 18
theorem sc_law_moved : FnScope N_law_moved ["_law_place", "_law_heading", "_law_steps_here"] (defScope s_law_moved) := ⟨rfl, rfl, rfl, by decide +kernel, rfl, by decide +kernel, by decide +kernel⟩
noncomputable def B_law_moved : Es := (sSeq (sSet 3 (eLst false (aCons (eTup (aCons (eTup (aCons (eC (.int 1)) (aCons (eC (.int 0)) aNil))) (aCons (eTup (aCons (eC (.int 0)) (aCons (eC (.int 0)) aNil))) aNil))) (aCons (eTup (aCons (eTup (aCons (eC (.int 0)) (aCons (eC (.int 1)) aNil))) (aCons (eTup (aCons (eC (.int 0)) (aCons (eC (.int 1)) aNil))) aNil))) (aCons (eTup (aCons (eTup (aCons (eC (.int 0)) (aCons (eC (.int 0)) aNil))) (aCons (eTup (aCons (eC (.int 1)) (aCons (eC (.int 0)) aNil))) aNil))) (aCons (eTup (aCons (eTup (aCons (eC (.int 0)) (aCons (eUn opNeg (eC (.int 1))) aNil))) (aCons (eTup (aCons (eC (.int 0)) (aCons (eC (.int 1)) aNil))) aNil))) aNil))))))
    (sSeq (sIf (tBin opGt (eV 1) (eC (.int 3)))
    (sSet 2 (eBin opSub (eC (.int 0)) (eV 2)))
    sNil)
    (sSeq (sAsg (gTup' 2 (gCons' (gN 5) (gCons' (gN 6) gNil'))) (eBin opIx (eV 3) (eBin opMod (eV 1) (eC (.int 4)))))
    (sSeq (sAsg (gTup' 2 (gCons' (gN 7) (gCons' (gN 8) gNil'))) (eV 0))
    (sSeq (sSet 4 (eTup (aCons (eBin (opAdd false) (eBin opIx (eV 7) (eC (.int 0))) (eBin opMul (eV 2) (eBin opIx (eV 5) (eC (.int 0))))) (aCons (eBin (opAdd false) (eBin opIx (eV 7) (eC (.int 1))) (eBin opMul (eV 2) (eBin opIx (eV 5) (eC (.int 1))))) aNil))))
    (sRet (eTup (aCons (eV 4) (aCons (eTup (aCons (eBin (opAdd false) (eBin opIx (eV 8) (eC (.int 0))) (eBin opMul (eV 2) (eBin opIx (eV 6) (eC (.int 0))))) (aCons (eBin (opAdd false) (eBin opIx (eV 8) (eC (.int 1))) (eBin opMul (eV 2) (eBin opIx (eV 6) (eC (.int 1))))) aNil))) aNil)))))))))
noncomputable def F_law_moved : PF := pfOf 9 B_law_moved
def N_law_is_place : List Str := ["_law_found", "_law_number"]
abbrev s_law_is_place : Stmt := topS 19
theorem sc_law_is_place : FnScope N_law_is_place ["_law_found"] (defScope s_law_is_place) := ⟨rfl, rfl, rfl, by decide +kernel, rfl, by decide +kernel, by decide +kernel⟩
noncomputable def L_law_is_place_0 : Es := (sSeq (sIf (bOr (bNot (tTru (eUn (opIsi .tuple) (eV 1)))) (tBin opNe (eB fLen (aCons (eV 1) aNil)) (eC (.int 2))))
    (sRet (eC (.bool false)))
    sNil)
    (sIf (bOr (bNot (tTru (eCall F_law_int (aCons (eBin opIx (eV 1) (eC (.int 0))) aNil)))) (bNot (tTru (eCall F_law_int (aCons (eBin opIx (eV 1) (eC (.int 1))) aNil)))))
    (sRet (eC (.bool false)))
    sNil))
noncomputable def B_law_is_place : Es := (sSeq (sIf (bOr (bNot (tTru (eUn (opIsi .tuple) (eV 0)))) (tBin opNe (eB fLen (aCons (eV 0) aNil)) (eC (.int 2))))
    (sRet (eC (.bool false)))
    sNil)
    (sSeq (sFor (iSeq (eV 0)) (gN 1) L_law_is_place_0)
    (sRet (eBin opEq (eBin opMod (eBin (opAdd false) (eBin opIx (eBin opIx (eV 0) (eC (.int 0))) (eC (.int 1))) (eBin opIx (eBin opIx (eV 0) (eC (.int 1))) (eC (.int 1)))) (eC (.int 2))) (eC (.int 0))))))
noncomputable def F_law_is_place : PF := pfOf 2 B_law_is_place
def N_law_line : List Str := ["_law_begin", "_law_end", "_law_x", "_law_y"]
abbrev s_law_line : Stmt := topS 20
theorem sc_law_line : FnScope N_law_line ["_law_begin", "_law_end"] (defScope s_law_line) := ⟨rfl, rfl, rfl, by decide +kernel, rfl, by decide +kernel, by decide +kernel⟩
noncomputable def B_law_line : Es := (sSeq (sSet 2 (eTup (aCons (eBin opSub (eBin opIx (eBin opIx (eV 1) (eC (.int 0))) (eC (.int 0))) (eBin opIx (eBin opIx (eV 0) (eC (.int 0))) (eC (.int 0)))) (aCons (eBin opSub (eBin opIx (eBin opIx (eV 1) (eC (.int 0))) (eC (.int 1))) (eBin opIx (eBin opIx (eV 0) (eC (.int 0))) (eC (.int 1)))) aNil))))
    (sSeq (sSet 3 (eTup (aCons (eBin opSub (eBin opIx (eBin opIx (eV 1) (eC (.int 1))) (eC (.int 0))) (eBin opIx (eBin opIx (eV 0) (eC (.int 1))) (eC (.int 0)))) (aCons (eBin opSub (eBin opIx (eBin opIx (eV 1) (eC (.int 1))) (eC (.int 1))) (eBin opIx (eBin opIx (eV 0) (eC (.int 1))) (eC (.int 1)))) aNil))))
    (sSeq (sIf (tBin opEq (eV 3) (eTup (aCons (eC (.int 0)) (aCons (eC (.int 0)) aNil))))
    (sRet (eTup (aCons (eC (.int 0)) (aCons (eBin opIx (eV 0) (eC (.int 1))) aNil))))
    sNil)
    (sSeq (sIf (tBin opEq (eV 2) (eTup (aCons (eC (.int 0)) (aCons (eC (.int 0)) aNil))))
    (sRet (eTup (aCons (eC (.int 2)) (aCons (eBin opIx (eV 0) (eC (.int 0))) aNil))))
    sNil)
    (sSeq (sIf (tBin opEq (eV 2) (eV 3))
    (sRet (eTup (aCons (eC (.int 1)) (aCons (eTup (aCons (eBin opSub (eBin opIx (eBin opIx (eV 0) (eC (.int 0))) (eC (.int 0))) (eBin opIx (eBin opIx (eV 0) (eC (.int 1))) (eC (.int 0)))) (aCons (eBin opSub (eBin opIx (eBin opIx (eV 0) (eC (.int 0))) (eC (.int 1))) (eBin opIx (eBin opIx (eV 0) (eC (.int 1))) (eC (.int 1)))) aNil))) aNil))))
    sNil)
    (sSeq (sIf (tBin opEq (eV 2) (eTup (aCons (eBin opSub (eC (.int 0)) (eBin opIx (eV 3) (eC (.int 0)))) (aCons (eBin opSub (eC (.int 0)) (eBin opIx (eV 3) (eC (.int 1)))) aNil))))
    (sRet (eTup (aCons (eC (.int 3)) (aCons (eTup (aCons (eBin (opAdd false) (eBin opIx (eBin opIx (eV 0) (eC (.int 0))) (eC (.int 0))) (eBin opIx (eBin opIx (eV 0) (eC (.int 1))) (eC (.int 0)))) (aCons (eBin (opAdd false) (eBin opIx (eBin opIx (eV 0) (eC (.int 0))) (eC (.int 1))) (eBin opIx (eBin opIx (eV 0) (eC (.int 1))) (eC (.int 1)))) aNil))) aNil))))
    sNil)
    (sRet (eTup (aCons (eC (.int 4)) (aCons (eTup (aCons (eC (.int 0)) (aCons (eC (.int 0)) aNil))) aNil))))))))))
noncomputable def F_law_line : PF := pfOf 4 B_law_line
def N_law_far_on : List Str := ["_law_one", "_law_other", "_law_line_here", "_law_at"]
abbrev s_law_far_on : Stmt := topS 21
theorem sc_law_far_on : FnScope N_law_far_on ["_law_one", "_law_other", "_law_line_here"] (defScope s_law_far_on) := ⟨rfl, rfl, rfl, by decide +kernel, rfl, by decide +kernel, by decide +kernel⟩
noncomputable def B_law_far_on : Es := (sSeq (sSet 3 (eB fInt (aCons (eBin opEq (eBin opIx (eV 2) (eC (.int 0))) (eC (.int 2))) aNil)))
    (sRet (eCall F_law_sign (aCons (eTup (aCons (eBin opSub (eBin opIx (eBin opIx (eV 0) (eV 3)) (eC (.int 0))) (eBin opIx (eBin opIx (eV 1) (eV 3)) (eC (.int 0)))) (aCons (eBin opSub (eBin opIx (eBin opIx (eV 0) (eV 3)) (eC (.int 1))) (eBin opIx (eBin opIx (eV 1) (eV 3)) (eC (.int 1)))) aNil))) aNil))))
noncomputable def F_law_far_on : PF := pfOf 4 B_law_far_on
def N_law_key : List Str := ["_law_stroke"]
abbrev s_law_key : Stmt := topS 22
theorem sc_law_key : FnScope N_law_key ["_law_stroke"] (defScope s_law_key) := ⟨rfl, rfl, rfl, by decide +kernel, rfl, by decide +kernel, by decide +kernel⟩
noncomputable def B_law_key : Es := (sRet (eBin (opAdd false) (eTup (aCons (eBin opIx (eV 0) (eC (.int 0))) aNil)) (eCall F_law_line (aCons (eBin opIx (eV 0) (eC (.int 1))) (aCons (eBin opIx (eV 0) (eC (.int 2))) aNil)))))
noncomputable def F_law_key : PF := pfOf 1 B_law_key
def N_law_strokes : List Str := ["_law_script", "_law_start", "_law_most", "_law_cell_here", "_law_headings", "_law_far", "_law_inks", "_law_here", "_law_found", "_law_k", "_law_row_here", "_law_heading", "_law_ahead"]
abbrev s_law_strokes : Stmt := topS 23
theorem sc_law_strokes : FnScope N_law_strokes ["_law_script", "_law_start", "_law_most"] (defScope s_law_strokes) := ⟨rfl, rfl, rfl, by decide +kernel, rfl, by decide +kernel, by decide +kernel⟩
noncomputable def L_law_strokes_0 : Es := (sSeq (sSet 10 (eCall F_law_row (aCons (eCall F_law_cell (aCons (eV 0) (aCons (eV 9) aNil))) (aCons (eBin opPow (eC (.int 10)) (eC (.int 6))) (aCons (eC (.int 4)) aNil)))))
    (sSeq (sSet 11 (eBin opIx (eV 4) (eBin opMod (eBin opIx (eV 10) (eC (.int 0))) (eB fLen (aCons (eV 4) aNil)))))
    (sSeq (sSet 12 (eCall F_law_moved (aCons (eV 7) (aCons (eV 11) (aCons (eBin (opAdd false) (eC (.int 1)) (eBin opMod (eBin opIx (eV 10) (eC (.int 1))) (eV 5))) aNil)))))
    (sSeq (sIf (tBin opGt (eBin opMod (eBin opIx (eV 10) (eC (.int 3))) (eC (.int 5))) (eC (.int 0)))
    (sExpr (eMl fApp (eV 8) (aCons (eTup (aCons (eBin opMod (eBin opIx (eV 10) (eC (.int 2))) (eV 6)) (aCons (eV 7) (aCons (eV 12) aNil)))) aNil)))
    sNil)
    (sSet 7 (eV 12))))))
noncomputable def B_law_strokes : Es := (sSeq (sSet 3 (eCall F_law_cell (aCons (eV 0) (aCons (eV 1) aNil))))
    (sSeq (sSet 4 (eBin opIx (eLst false (aCons (eLst false (aCons (eC (.int 0)) (aCons (eC (.int 1)) (aCons (eC (.int 2)) (aCons (eC (.int 3)) (aCons (eC (.int 4)) (aCons (eC (.int 5)) (aCons (eC (.int 6)) (aCons (eC (.int 7)) aNil))))))))) (aCons (eLst false (aCons (eC (.int 0)) (aCons (eC (.int 4)) (aCons (eC (.int 0)) (aCons (eC (.int 4)) (aCons (eC (.int 2)) aNil)))))) (aCons (eLst false (aCons (eC (.int 0)) (aCons (eC (.int 2)) (aCons (eC (.int 4)) (aCons (eC (.int 6)) aNil))))) (aCons (eLst false (aCons (eC (.int 0)) (aCons (eC (.int 4)) (aCons (eC (.int 1)) (aCons (eC (.int 5)) aNil))))) (aCons (eLst false (aCons (eC (.int 1)) (aCons (eC (.int 3)) (aCons (eC (.int 5)) (aCons (eC (.int 7)) aNil))))) aNil)))))) (eBin opMod (eV 3) (eC (.int 5)))))
    (sSeq (sSet 5 (eBin opIx (eLst false (aCons (eC (.int 3)) (aCons (eC (.int 2)) (aCons (eC (.int 5)) (aCons (eC (.int 1000)) aNil))))) (eBin opMod (eBin opFdiv (eV 3) (eC (.int 5))) (eC (.int 4)))))
    (sSeq (sSet 6 (eBin opIx (eLst false (aCons (eC (.int 1)) (aCons (eC (.int 1)) (aCons (eC (.int 2)) (aCons (eC (.int 8)) aNil))))) (eBin opMod (eBin opFdiv (eV 3) (eC (.int 20))) (eC (.int 4)))))
    (sSeq (sSet 7 (eTup (aCons (eTup (aCons (eC (.int 0)) (aCons (eC (.int 0)) aNil))) (aCons (eTup (aCons (eC (.int 0)) (aCons (eC (.int 0)) aNil))) aNil))))
    (sSeq (sSet 8 (eLst true aNil))
    (sSeq (sFor (iR2 (aCons (eBin (opAdd false) (eV 1) (eC (.int 1))) (aCons (eBin (opAdd false) (eBin (opAdd false) (eV 1) (eC (.int 1))) (eB fMax (aCons (eC (.int 5)) (aCons (eB fMin (aCons (eV 2) (aCons (eBin opSub (eBin opSub (eB fLen (aCons (eV 0) aNil)) (eV 1)) (eC (.int 1))) aNil))) aNil)))) aNil))) (gN 9) L_law_strokes_0)
    (sRet (eFz (eV 8))))))))))
noncomputable def F_law_strokes : PF := pfOf 13 B_law_strokes
def N_law_is_stroke : List Str := ["_law_found", "_law_line_here"]
abbrev s_law_is_stroke : Stmt := topS 24
theorem sc_law_is_stroke : FnScope N_law_is_stroke ["_law_found"] (defScope s_law_is_stroke) := ⟨rfl, rfl, rfl, by decide +kernel, rfl, by decide +kernel, by decide +kernel⟩
noncomputable def B_law_is_stroke : Es := (sSeq (sIf (bOr (bNot (tTru (eUn (opIsi .tuple) (eV 0)))) (bOr (tBin opNe (eB fLen (aCons (eV 0) aNil)) (eC (.int 3))) (bOr (bNot (tTru (eCall F_law_int (aCons (eBin opIx (eV 0) (eC (.int 0))) aNil)))) (bNot (Wk.tChain opLe opLt (eC (.int 0)) (eBin opIx (eV 0) (eC (.int 0))) (eC (.int 8)))))))
    (sRet (eC (.bool false)))
    sNil)
    (sSeq (sIf (bOr (bNot (tTru (eCall F_law_is_place (aCons (eBin opIx (eV 0) (eC (.int 1))) aNil)))) (bNot (tTru (eCall F_law_is_place (aCons (eBin opIx (eV 0) (eC (.int 2))) aNil)))))
    (sRet (eC (.bool false)))
    sNil)
    (sSeq (sSet 1 (eCall F_law_line (aCons (eBin opIx (eV 0) (eC (.int 1))) (aCons (eBin opIx (eV 0) (eC (.int 2))) aNil))))
    (sRet (eAnd (eBin opLt (eBin opIx (eV 1) (eC (.int 0))) (eC (.int 4))) (eBin opLt (eCall F_law_far_on (aCons (eBin opIx (eV 0) (eC (.int 1))) (aCons (eBin opIx (eV 0) (eC (.int 2))) (aCons (eV 1) aNil)))) (eC (.int 0))))))))
noncomputable def F_law_is_stroke : PF := pfOf 2 B_law_is_stroke
def N_law_within : List Str := ["_law_stroke", "_law_others", "_law_line_here", "_law_ends", "_law_other"]
abbrev s_law_within : Stmt := topS 25
theorem sc_law_within : FnScope N_law_within ["_law_stroke", "_law_others"] (defScope s_law_within) := ⟨rfl, rfl, rfl, by decide +kernel, rfl, by decide +kernel, by decide +kernel⟩
noncomputable def L_law_within_0 : Es := (sIf (tBin opEq (eCall F_law_key (aCons (eV 4) aNil)) (eCall F_law_key (aCons (eV 0) aNil)))
    (sIf (bAnd (tBin opLe (eCall F_law_far_on (aCons (eBin opIx (eV 4) (eC (.int 1))) (aCons (eBin opIx (eV 3) (eC (.int 0))) (aCons (eV 2) aNil)))) (eC (.int 0))) (tBin opGe (eCall F_law_far_on (aCons (eBin opIx (eV 4) (eC (.int 2))) (aCons (eBin opIx (eV 3) (eC (.int 1))) (aCons (eV 2) aNil)))) (eC (.int 0))))
    (sRet (eC (.bool true)))
    sNil)
    sNil)
noncomputable def B_law_within : Es := (sSeq (sSet 2 (eCall F_law_line (aCons (eBin opIx (eV 0) (eC (.int 1))) (aCons (eBin opIx (eV 0) (eC (.int 2))) aNil))))
    (sSeq (sSet 3 (eLst false (aCons (eBin opIx (eV 0) (eC (.int 1))) (aCons (eBin opIx (eV 0) (eC (.int 2))) aNil))))
    (sSeq (sIf (tBin opGt (eCall F_law_far_on (aCons (eBin opIx (eV 3) (eC (.int 0))) (aCons (eBin opIx (eV 3) (eC (.int 1))) (aCons (eV 2) aNil)))) (eC (.int 0)))
    (sSet 3 (eLst false (aCons (eBin opIx (eV 3) (eC (.int 1))) (aCons (eBin opIx (eV 3) (eC (.int 0))) aNil))))
    sNil)
    (sSeq (sFor (iSeq (eV 1)) (gN 4) L_law_within_0)
    (sRet (eC (.bool false)))))))
noncomputable def F_law_within : PF := pfOf 5 B_law_within
def N_law_gone : List Str := ["_law_stroke", "_law_strokes_here", "_law_line_here", "_law_here", "_law_some", "_law_turn", "_law_other", "_law_one", "_law_ends"]
abbrev s_law_gone : Stmt := topS 26
theorem sc_law_gone : FnScope N_law_gone ["_law_stroke", "_law_strokes_here"] (defScope s_law_gone) := ⟨rfl, rfl, rfl, by decide +kernel, rfl, by decide +kernel, by decide +kernel⟩
noncomputable def K_law_gone_0 : Ev := (eV 7)
noncomputable def C_law_gone_1 : Eb := (tBin opEq (eCall F_law_key (aCons (eV 7) aNil)) (eCall F_law_key (aCons (eV 0) aNil)))
noncomputable def L_law_gone_2 : Es := (sSeq (sSet 8 (eLst false (aCons (eBin opIx (eV 6) (eC (.int 1))) (aCons (eBin opIx (eV 6) (eC (.int 2))) aNil))))
    (sSeq (sIf (tBin opGt (eCall F_law_far_on (aCons (eBin opIx (eV 8) (eC (.int 0))) (aCons (eBin opIx (eV 8) (eC (.int 1))) (aCons (eV 2) aNil)))) (eC (.int 0)))
    (sSet 8 (eLst false (aCons (eBin opIx (eV 8) (eC (.int 1))) (aCons (eBin opIx (eV 8) (eC (.int 0))) aNil))))
    sNil)
    (sIf (bAnd (tBin opLe (eCall F_law_far_on (aCons (eBin opIx (eV 8) (eC (.int 0))) (aCons (eV 3) (aCons (eV 2) aNil)))) (eC (.int 0))) (tBin opGt (eCall F_law_far_on (aCons (eBin opIx (eV 8) (eC (.int 1))) (aCons (eV 3) (aCons (eV 2) aNil)))) (eC (.int 0))))
    (sSet 3 (eBin opIx (eV 8) (eC (.int 1))))
    sNil)))
noncomputable def L_law_gone_3 : Es := (sFor (iSeq (eV 4)) (gN 6) L_law_gone_2)
noncomputable def B_law_gone : Es := (sSeq (sSet 2 (eCall F_law_line (aCons (eBin opIx (eV 0) (eC (.int 1))) (aCons (eBin opIx (eV 0) (eC (.int 2))) aNil))))
    (sSeq (sSet 3 (eBin opIx (eV 0) (eC (.int 1))))
    (sSeq (sSet 4 (eLc false [7] (iSeq (eV 1)) (gN 7) C_law_gone_1 K_law_gone_0))
    (sSeq (sFor (iR1 (aCons (eB fLen (aCons (eV 4) aNil)) aNil)) (gN 5) L_law_gone_3)
    (sRet (eBin opEq (eV 3) (eBin opIx (eV 0) (eC (.int 2)))))))))
noncomputable def F_law_gone : PF := pfOf 9 B_law_gone
def N_law_is_form : List Str := ["_law_form", "_law_strokes_here", "_law_one", "_law_other", "_law_line_here"]
abbrev s_law_is_form : Stmt := topS 27
theorem sc_law_is_form : FnScope N_law_is_form ["_law_form", "_law_strokes_here"] (defScope s_law_is_form) := ⟨rfl, rfl, rfl, by decide +kernel, rfl, by decide +kernel, by decide +kernel⟩
noncomputable def L_law_is_form_0 : Es := (sSeq (sSet 4 (eCall F_law_line (aCons (eBin opIx (eV 2) (eC (.int 1))) (aCons (eBin opIx (eV 2) (eC (.int 2))) aNil))))
    (sIf (bAnd (tBin opNe (eV 3) (eV 2)) (tBin opEq (eCall F_law_key (aCons (eV 3) aNil)) (eCall F_law_key (aCons (eV 2) aNil))))
    (sIf (bAnd (tBin opLe (eCall F_law_far_on (aCons (eBin opIx (eV 3) (eC (.int 1))) (aCons (eBin opIx (eV 2) (eC (.int 2))) (aCons (eV 4) aNil)))) (eC (.int 0))) (tBin opLe (eCall F_law_far_on (aCons (eBin opIx (eV 2) (eC (.int 1))) (aCons (eBin opIx (eV 3) (eC (.int 2))) (aCons (eV 4) aNil)))) (eC (.int 0))))
    (sRet (eC (.bool false)))
    sNil)
    sNil))
noncomputable def L_law_is_form_1 : Es := (sSeq (sIf (bOr (bNot (tTru (eCall F_law_is_stroke (aCons (eV 2) aNil)))) (bNot (tTru (eCall F_law_gone (aCons (eV 2) (aCons (eV 1) aNil))))))
    (sRet (eC (.bool false)))
    sNil)
    (sFor (iSeq (eV 0)) (gN 3) L_law_is_form_0))
noncomputable def K_law_is_form_2 : Ev := (eV 2)
noncomputable def C_law_is_form_3 : Eb := (bNot (tTru (eCall F_law_within (aCons (eV 2) (aCons (eV 0) aNil)))))
noncomputable def B_law_is_form : Es := (sSeq (sIf (bOr (bNot (tTru (eUn (opIsi .tuple) (eV 0)))) (tBin opNe (eB (fList false) (aCons (eV 0) aNil)) (eB (fSorted false) (aCons (eV 0) aNil))))
    (sRet (eC (.bool false)))
    sNil)
    (sSeq (sFor (iSeq (eV 0)) (gN 2) L_law_is_form_1)
    (sRet (eAnd (eBin opEq (eUn opLenSet (eV 0)) (eB fLen (aCons (eV 0) aNil))) (eBin opEq (eB fLen (aCons (eLc false [2] (iSeq (eV 1)) (gN 2) C_law_is_form_3 K_law_is_form_2) aNil)) (eC (.int 0)))))))
noncomputable def F_law_is_form : PF := pfOf 5 B_law_is_form
def N_law_steps : List Str := ["_law_stroke", "_law_heading", "_law_wide", "_law_high", "_law_many", "_law_east", "_law_north"]
abbrev s_law_steps : Stmt := topS 28
theorem sc_law_steps : FnScope N_law_steps ["_law_stroke"] (defScope s_law_steps) := ⟨rfl, rfl, rfl, by decide +kernel, rfl, by decide +kernel, by decide +kernel⟩
noncomputable def L_law_steps_0 : Es := (sSeq (sAsg (gTup' 2 (gCons' (gN 5) (gCons' (gN 6) gNil'))) (eCall F_law_moved (aCons (eTup (aCons (eTup (aCons (eC (.int 0)) (aCons (eC (.int 0)) aNil))) (aCons (eTup (aCons (eC (.int 0)) (aCons (eC (.int 0)) aNil))) aNil))) (aCons (eV 1) (aCons (eC (.int 1)) aNil)))))
    (sSeq (sSet 2 (eTup (aCons (eBin opSub (eBin opIx (eBin opIx (eBin opIx (eV 0) (eC (.int 2))) (eC (.int 0))) (eC (.int 0))) (eBin opIx (eBin opIx (eBin opIx (eV 0) (eC (.int 1))) (eC (.int 0))) (eC (.int 0)))) (aCons (eBin opSub (eBin opIx (eBin opIx (eBin opIx (eV 0) (eC (.int 2))) (eC (.int 0))) (eC (.int 1))) (eBin opIx (eBin opIx (eBin opIx (eV 0) (eC (.int 1))) (eC (.int 0))) (eC (.int 1)))) aNil))))
    (sSeq (sSet 3 (eTup (aCons (eBin opSub (eBin opIx (eBin opIx (eBin opIx (eV 0) (eC (.int 2))) (eC (.int 1))) (eC (.int 0))) (eBin opIx (eBin opIx (eBin opIx (eV 0) (eC (.int 1))) (eC (.int 1))) (eC (.int 0)))) (aCons (eBin opSub (eBin opIx (eBin opIx (eBin opIx (eV 0) (eC (.int 2))) (eC (.int 1))) (eC (.int 1))) (eBin opIx (eBin opIx (eBin opIx (eV 0) (eC (.int 1))) (eC (.int 1))) (eC (.int 1)))) aNil))))
    (sSeq (sSet 4 (eB fMax (aCons (eBin (opAdd false) (eB fAbs (aCons (eBin opIx (eV 2) (eC (.int 0))) aNil)) (eB fAbs (aCons (eBin opIx (eV 2) (eC (.int 1))) aNil))) (aCons (eBin (opAdd false) (eB fAbs (aCons (eBin opIx (eV 3) (eC (.int 0))) aNil)) (eB fAbs (aCons (eBin opIx (eV 3) (eC (.int 1))) aNil))) aNil))))
    (sIf (tBin opEq (eCall F_law_moved (aCons (eBin opIx (eV 0) (eC (.int 1))) (aCons (eV 1) (aCons (eV 4) aNil)))) (eBin opIx (eV 0) (eC (.int 2))))
    (sRet (eTup (aCons (eV 1) (aCons (eV 4) aNil))))
    sNil)))))
noncomputable def B_law_steps : Es := (sSeq (sFor (iR1 (aCons (eC (.int 8)) aNil)) (gN 1) L_law_steps_0)
    (sRet (eTup (aCons (eC (.int 0)) (aCons (eC (.int 0)) aNil)))))
noncomputable def F_law_steps : PF := pfOf 7 B_law_steps
def N_law_changed : List Str := ["_law_script", "_law_strokes_here", "_law_found", "_law_k", "_law_row_here", "_law_parts", "_law_at", "_law_ink", "_law_begin", "_law_end", "_law_heading", "_law_many", "_law_amid", "_law_one"]
abbrev s_law_changed : Stmt := topS 29
theorem sc_law_changed : FnScope N_law_changed ["_law_script", "_law_strokes_here"] (defScope s_law_changed) := ⟨rfl, rfl, rfl, by decide +kernel, rfl, by decide +kernel, by decide +kernel⟩
noncomputable def K_law_changed_0 : Ev := (eTup (aCons (eBin opIx (eV 13) (eC (.int 0))) (aCons (eBin opIx (eV 13) (eC (.int 2))) (aCons (eBin opIx (eV 13) (eC (.int 1))) aNil))))
noncomputable def L_law_changed_1 : Es := (sSeq (sSet 4 (eCall F_law_row (aCons (eCall F_law_cell (aCons (eV 0) (aCons (eV 3) aNil))) (aCons (eC (.int 1000)) (aCons (eC (.int 4)) aNil)))))
    (sSeq (sAsg (gTup' 3 (gCons' (gN 7) (gCons' (gN 8) (gCons' (gN 9) gNil')))) (eBin opIx (eV 1) (eV 3)))
    (sSeq (sAsg (gTup' 2 (gCons' (gN 10) (gCons' (gN 11) gNil'))) (eCall F_law_steps (aCons (eBin opIx (eV 1) (eV 3)) aNil)))
    (sSeq (sSet 5 (eLst false (aCons (eTup (aCons (eV 7) (aCons (eV 8) (aCons (eV 9) aNil)))) aNil)))
    (sSeq (sIf (bAnd (tBin opEq (eBin opMod (eBin opIx (eV 4) (eC (.int 0))) (eC (.int 3))) (eC (.int 1))) (tBin opGt (eV 11) (eC (.int 1))))
    (sSeq (sSet 12 (eCall F_law_moved (aCons (eV 8) (aCons (eV 10) (aCons (eBin (opAdd false) (eC (.int 1)) (eBin opMod (eBin opIx (eV 4) (eC (.int 1))) (eBin opSub (eV 11) (eC (.int 1))))) aNil)))))
    (sSet 5 (eLst false (aCons (eTup (aCons (eV 7) (aCons (eV 8) (aCons (eV 12) aNil)))) (aCons (eTup (aCons (eV 7) (aCons (eV 12) (aCons (eV 9) aNil)))) aNil)))))
    sNil)
    (sSeq (sIf (tBin opEq (eBin opMod (eBin opIx (eV 4) (eC (.int 2))) (eC (.int 2))) (eC (.int 1)))
    (sSet 5 (eLc false [13] (iSeq (eV 5)) (gN 13) cYes K_law_changed_0))
    sNil)
    (sSeq (sIf (tBin opEq (eBin opMod (eBin opIx (eV 4) (eC (.int 3))) (eC (.int 4))) (eC (.int 1)))
    (sSet 5 (eBin (opAdd false) (eV 5) (eV 5)))
    sNil)
    (sSeq (sSet 6 (eBin opMod (eBin opFdiv (eBin opIx (eV 4) (eC (.int 3))) (eC (.int 4))) (eBin (opAdd false) (eB fLen (aCons (eV 2) aNil)) (eC (.int 1)))))
    (sSet 2 (eBin (opAdd false) (eBin (opAdd false) (eSl false (eV 2) oNo (oSo (eV 6))) (eV 5)) (eSl false (eV 2) (oSo (eV 6)) oNo)))))))))))
noncomputable def B_law_changed : Es := (sSeq (sSet 2 (eLst false aNil))
    (sSeq (sFor (iR1 (aCons (eB fLen (aCons (eV 1) aNil)) aNil)) (gN 3) L_law_changed_1)
    (sRet (eV 2))))
noncomputable def F_law_changed : PF := pfOf 14 B_law_changed
def N_law_shifted : List Str := ["_law_form", "_law_by", "_law_found", "_law_ink", "_law_begin", "_law_end", "_law_ends", "_law_x", "_law_y"]
abbrev s_law_shifted : Stmt := topS 30
theorem sc_law_shifted : FnScope N_law_shifted ["_law_form", "_law_by"] (defScope s_law_shifted) := ⟨rfl, rfl, rfl, by decide +kernel, rfl, by decide +kernel, by decide +kernel⟩
noncomputable def L_law_shifted_0 : Es := (sExpr (eMl fApp (eV 6) (aCons (eTup (aCons (eTup (aCons (eBin (opAdd false) (eBin opIx (eV 7) (eC (.int 0))) (eBin opIx (eBin opIx (eV 1) (eC (.int 0))) (eC (.int 0)))) (aCons (eBin (opAdd false) (eBin opIx (eV 7) (eC (.int 1))) (eBin opIx (eBin opIx (eV 1) (eC (.int 0))) (eC (.int 1)))) aNil))) (aCons (eTup (aCons (eBin (opAdd false) (eBin opIx (eV 8) (eC (.int 0))) (eBin opIx (eBin opIx (eV 1) (eC (.int 1))) (eC (.int 0)))) (aCons (eBin (opAdd false) (eBin opIx (eV 8) (eC (.int 1))) (eBin opIx (eBin opIx (eV 1) (eC (.int 1))) (eC (.int 1)))) aNil))) aNil))) aNil)))
noncomputable def L_law_shifted_1 : Es := (sSeq (sSet 6 (eLst true aNil))
    (sSeq (sFor (iSeq (eLst false (aCons (eV 4) (aCons (eV 5) aNil)))) (gTup' 2 (gCons' (gN 7) (gCons' (gN 8) gNil'))) L_law_shifted_0)
    (sExpr (eMl fApp (eV 2) (aCons (eTup (aCons (eV 3) (aCons (eBin opIx (eV 6) (eC (.int 0))) (aCons (eBin opIx (eV 6) (eC (.int 1))) aNil)))) aNil)))))
noncomputable def B_law_shifted : Es := (sSeq (sSet 2 (eLst true aNil))
    (sSeq (sFor (iSeq (eV 0)) (gTup' 3 (gCons' (gN 3) (gCons' (gN 4) (gCons' (gN 5) gNil')))) L_law_shifted_1)
    (sRet (eFz (eV 2)))))
noncomputable def F_law_shifted : PF := pfOf 9 B_law_shifted
def N_law : List Str := ["_law_script", "_law_strokes_here", "_law_found", "_law_other", "_law_due", "_law_row_here", "_law_by", "_law_ink", "_law_begin", "_law_end"]
abbrev s_law : Stmt := topS 31
theorem sc_law : FnScope N_law ["_law_script"] (defScope s_law) := ⟨rfl, rfl, rfl, by decide +kernel, rfl, by decide +kernel, by decide +kernel⟩
noncomputable def K_law_0 : Ev := (eTup (aCons (eBin opIx (eLst false (aCons (eC (.int 1)) (aCons (eC (.int 0)) (aCons (eC (.int 2)) (aCons (eC (.int 3)) (aCons (eC (.int 4)) (aCons (eC (.int 5)) (aCons (eC (.int 6)) (aCons (eC (.int 7)) aNil))))))))) (eV 7)) (aCons (eV 8) (aCons (eV 9) aNil))))
noncomputable def K_law_1 : Ev := (eTup (aCons (eBin opIx (eLst false (aCons (eC (.int 1)) (aCons (eC (.int 0)) (aCons (eC (.int 2)) (aCons (eC (.int 3)) (aCons (eC (.int 4)) (aCons (eC (.int 5)) (aCons (eC (.int 6)) (aCons (eC (.int 7)) aNil))))))))) (eV 7)) (aCons (eV 8) (aCons (eV 9) aNil))))
noncomputable def B_law : Es := (sSeq (sSet 1 (eCall F_law_strokes (aCons (eV 0) (aCons (eC (.int 0)) (aCons (eC (.int 30)) aNil)))))
    (sSeq (sSet 2 (eCall F_form_of (aCons (eV 1) aNil)))
    (sSeq (sIf (bNot (tTru (eCall F_law_is_form (aCons (eV 2) (aCons (eV 1) aNil)))))
    (sRet (eC (.bool false)))
    sNil)
    (sSeq (sIf (bOr (tBin opNe (eCall F_form_of (aCons (eCall F_law_changed (aCons (eV 0) (aCons (eV 1) aNil))) aNil)) (eV 2)) (tBin opNe (eCall F_form_of (aCons (eB (fList false) (aCons (eV 2) aNil)) aNil)) (eV 2)))
    (sRet (eC (.bool false)))
    sNil)
    (sSeq (sSet 3 (eLc false [7, 8, 9] (iSeq (eV 1)) (gTup' 3 (gCons' (gN 7) (gCons' (gN 8) (gCons' (gN 9) gNil')))) cYes K_law_0))
    (sSeq (sSet 4 (eLc false [7, 8, 9] (iSeq (eV 2)) (gTup' 3 (gCons' (gN 7) (gCons' (gN 8) (gCons' (gN 9) gNil')))) cYes K_law_1))
    (sSeq (sIf (tBin opNe (eCall F_form_of (aCons (eV 3) aNil)) (eB fTuple (aCons (eB (fSorted false) (aCons (eV 4) aNil)) aNil)))
    (sRet (eC (.bool false)))
    sNil)
    (sSeq (sSet 5 (eCall F_law_row (aCons (eCall F_law_cell (aCons (eV 0) (aCons (eC (.int 1)) aNil))) (aCons (eC (.int 2001)) (aCons (eC (.int 4)) aNil)))))
    (sSeq (sSet 6 (eTup (aCons (eTup (aCons (eBin opSub (eBin opIx (eV 5) (eC (.int 0))) (eC (.int 1000))) (aCons (eBin opSub (eBin opIx (eV 5) (eC (.int 1))) (eC (.int 1000))) aNil))) (aCons (eTup (aCons (eBin opSub (eBin opIx (eV 5) (eC (.int 2))) (eC (.int 1000))) (aCons (eBin (opAdd false) (eBin opSub (eBin opIx (eV 5) (eC (.int 1))) (eC (.int 1000))) (eBin opMulY (eC (.int 2)) (eBin opMod (eBin opIx (eV 5) (eC (.int 3))) (eC (.int 7))))) aNil))) aNil))))
    (sRet (eBin opEq (eCall F_form_of (aCons (eCall F_law_shifted (aCons (eV 1) (aCons (eV 6) aNil))) aNil)) (eB fTuple (aCons (eB (fSorted false) (aCons (eCall F_law_shifted (aCons (eV 2) (aCons (eV 6) aNil))) aNil)) aNil)))))))))))))
noncomputable def F_law : PF := pfOf 10 B_law
structure Txt (K : PySem.W.Frag) (mg : Str → Option Value) : Prop where
  h_sign_of : Has K mg "sign_of" s_sign_of ["number"]
  h_plus : Has K mg "plus" s_plus ["one", "other"]
  h_minus : Has K mg "minus" s_minus ["one", "other"]
  h_is_below : Has K mg "is_below" s_is_below ["one", "other"]
  h_direction_of : Has K mg "direction_of" s_direction_of ["begin", "end"]
  h_line_of : Has K mg "line_of" s_line_of ["place", "direction"]
  h_along : Has K mg "along" s_along ["place", "direction"]
  h_is_ahead : Has K mg "is_ahead" s_is_ahead ["one", "other", "direction"]
  h_with_stretch : Has K mg "with_stretch" s_with_stretch ["stretches", "begin", "end", "direction"]
  h_form_of : Has K mg "form_of" s_form_of ["strokes"]
  h_law_cell : Has K mg "_law_cell" s_law_cell ["_law_script", "_law_k"]
  h_law_mixed : Has K mg "_law_mixed" s_law_mixed ["_law_cell_here", "_law_k"]
  h_law_row : Has K mg "_law_row" s_law_row ["_law_cell_here", "_law_most", "_law_many"]
  h_law_int : Has K mg "_law_int" s_law_int ["_law_found"]
  h_law_sign : Has K mg "_law_sign" s_law_sign ["_law_number"]
  h_law_moved : Has K mg "_law_moved" s_law_moved ["_law_place", "_law_heading", "_law_steps_here"]
  h_law_is_place : Has K mg "_law_is_place" s_law_is_place ["_law_found"]
  h_law_line : Has K mg "_law_line" s_law_line ["_law_begin", "_law_end"]
  h_law_far_on : Has K mg "_law_far_on" s_law_far_on ["_law_one", "_law_other", "_law_line_here"]
  h_law_key : Has K mg "_law_key" s_law_key ["_law_stroke"]
  h_law_strokes : Has K mg "_law_strokes" s_law_strokes ["_law_script", "_law_start", "_law_most"]
  h_law_is_stroke : Has K mg "_law_is_stroke" s_law_is_stroke ["_law_found"]
  h_law_within : Has K mg "_law_within" s_law_within ["_law_stroke", "_law_others"]
  h_law_gone : Has K mg "_law_gone" s_law_gone ["_law_stroke", "_law_strokes_here"]
  h_law_is_form : Has K mg "_law_is_form" s_law_is_form ["_law_form", "_law_strokes_here"]
  h_law_steps : Has K mg "_law_steps" s_law_steps ["_law_stroke"]
  h_law_changed : Has K mg "_law_changed" s_law_changed ["_law_script", "_law_strokes_here"]
  h_law_shifted : Has K mg "_law_shifted" s_law_shifted ["_law_form", "_law_by"]
  h_law : Has K mg "law" s_law ["_law_script"]
  b_abs : mg "abs" = none
  b_bool : mg "bool" = none
  b_int : mg "int" = none
  b_isinstance : mg "isinstance" = none
  b_len : mg "len" = none
  b_list : mg "list" = none
  b_max : mg "max" = none
  b_min : mg "min" = none
  b_range : mg "range" = none
  b_set : mg "set" = none
  b_sorted : mg "sorted" = none
  b_tuple : mg "tuple" = none
section
variable {P : Program} {w : World} {K : PySem.W.Frag} {mg : Str → Option Value} {base : Heap}
theorem ok_sign_of (T : Txt K mg) : FnA P w K mg base 1 "sign_of" s_sign_of ["number"] F_sign_of :=
  fn_priv (N := N_sign_of) (k := 0) (B := B_sign_of) sc_sign_of fun f cdv A outer s H E hr tk po => by
    have nd := sc_sign_of.nd
    exact (ss_cons (ss_asg (se_v 0) (sg_tup rfl (sgs_cons (sg_name 1 nd) (sgs_cons (sg_name 2 nd) sgs_nil))))
    (ss_cons (ss_if (sw_st (sw_and (st_cmp op_ge (ab_cmp _) (nomark _) (se_v 1) se_int) (sw_and1 (st_cmp op_ge (ab_cmp _) (nomark _) (se_v 2) se_int))))
    (ss_one (ss_ret (se_callTy call_int1 ab_intOf rfl T.b_int bt_int (sa_cons (se_cmp op_gt (ab_cmp _) (nomark _) (se_bin op_addA (ab_add false) (se_v 1) (se_v 2)) se_int) sa_nil))))
    ss_nil)
    (ss_cons (ss_if (sw_st (sw_and (st_cmp op_le (ab_cmp _) (nomark _) (se_v 1) se_int) (sw_and1 (st_cmp op_le (ab_cmp _) (nomark _) (se_v 2) se_int))))
    (ss_one (ss_ret (se_neg se_int)))
    ss_nil)
    (ss_cons (ss_if (st_cmp op_gt (ab_cmp _) (nomark _) (se_bin op_mulA ab_mul (se_bin op_mulA ab_mul se_int (se_v 1)) (se_v 1)) (se_bin op_mulA ab_mul (se_v 2) (se_v 2)))
    (ss_one (ss_ret (se_bin op_sub ab_sub se_int (se_bin op_mulA ab_mul se_int (se_callTy call_int1 ab_intOf rfl T.b_int bt_int (sa_cons (se_cmp op_lt (ab_cmp _) (nomark _) (se_v 1) se_int) sa_nil))))))
    ss_nil)
    (ss_one (ss_ret (se_bin op_sub ab_sub se_int (se_bin op_mulA ab_mul se_int (se_callTy call_int1 ab_intOf rfl T.b_int bt_int (sa_cons (se_cmp op_lt (ab_cmp _) (nomark _) (se_v 2) se_int) sa_nil))))))))))
theorem ok_plus (T : Txt K mg) : FnA P w K mg base 1 "plus" s_plus ["one", "other"] F_plus :=
  fn_priv (N := N_plus) (k := 0) (B := B_plus) sc_plus fun f cdv A outer s H E hr tk po => by
    have nd := sc_plus.nd
    exact (ss_one (ss_ret (se_tup (sa_cons (se_bin op_addA (ab_add false) (se_ix (fun _ _ => rfl) (se_v 0) se_int) (se_ix (fun _ _ => rfl) (se_v 1) se_int)) (sa_cons (se_bin op_addA (ab_add false) (se_ix (fun _ _ => rfl) (se_v 0) se_int) (se_ix (fun _ _ => rfl) (se_v 1) se_int)) sa_nil)))))
theorem ok_minus (T : Txt K mg) : FnA P w K mg base 1 "minus" s_minus ["one", "other"] F_minus :=
  fn_priv (N := N_minus) (k := 0) (B := B_minus) sc_minus fun f cdv A outer s H E hr tk po => by
    have nd := sc_minus.nd
    exact (ss_one (ss_ret (se_tup (sa_cons (se_bin op_sub ab_sub (se_ix (fun _ _ => rfl) (se_v 0) se_int) (se_ix (fun _ _ => rfl) (se_v 1) se_int)) (sa_cons (se_bin op_sub ab_sub (se_ix (fun _ _ => rfl) (se_v 0) se_int) (se_ix (fun _ _ => rfl) (se_v 1) se_int)) sa_nil)))))
theorem ok_is_below (T : Txt K mg) : FnA P w K mg base 2 "is_below" s_is_below ["one", "other"] F_is_below :=
  fn_priv (N := N_is_below) (k := 1) (B := B_is_below) sc_is_below fun f cdv A outer s H E hr tk po => by
    have nd := sc_is_below.nd
    exact (ss_one (ss_ret (se_cmp op_lt (ab_cmp _) (nomark _) (se_call tk.c ((ok_sign_of T).p T.h_sign_of) (hr.mono (by decide)) rfl (sa_cons (se_call tk.c ((ok_minus T).p T.h_minus) (hr.mono (by decide)) rfl (sa_cons (se_v 0) (sa_cons (se_v 1) sa_nil)) (aLen_cons (aLen_cons aLen_nil))) sa_nil) (aLen_cons aLen_nil)) se_int)))
theorem ok_direction_of (T : Txt K mg) : FnA P w K mg base 2 "direction_of" s_direction_of ["begin", "end"] F_direction_of :=
  fn_priv (N := N_direction_of) (k := 1) (B := B_direction_of) sc_direction_of fun f cdv A outer s H E hr tk po => by
    have nd := sc_direction_of.nd
    exact (ss_cons (ss_set 2 nd (se_call tk.c ((ok_minus T).p T.h_minus) (hr.mono (by decide)) rfl (sa_cons (se_ix (fun _ _ => rfl) (se_v 1) se_int) (sa_cons (se_ix (fun _ _ => rfl) (se_v 0) se_int) sa_nil)) (aLen_cons (aLen_cons aLen_nil))))
    (ss_cons (ss_set 3 nd (se_call tk.c ((ok_minus T).p T.h_minus) (hr.mono (by decide)) rfl (sa_cons (se_ix (fun _ _ => rfl) (se_v 1) se_int) (sa_cons (se_ix (fun _ _ => rfl) (se_v 0) se_int) sa_nil)) (aLen_cons (aLen_cons aLen_nil))))
    (ss_cons (ss_if (st_cmp (op_eqA hr.units) ab_eq (nomark _) (se_v 3) (se_tup (sa_cons se_int (sa_cons se_int sa_nil))))
    (ss_one (ss_ret se_int))
    ss_nil)
    (ss_cons (ss_if (st_cmp (op_eqA hr.units) ab_eq (nomark _) (se_v 2) (se_tup (sa_cons se_int (sa_cons se_int sa_nil))))
    (ss_one (ss_ret se_int))
    ss_nil)
    (ss_cons (ss_if (st_cmp (op_eqA hr.units) ab_eq (nomark _) (se_v 2) (se_v 3))
    (ss_one (ss_ret se_int))
    ss_nil)
    (ss_one (ss_ret se_int)))))))
theorem ok_line_of (T : Txt K mg) : FnA P w K mg base 2 "line_of" s_line_of ["place", "direction"] F_line_of :=
  fn_priv (N := N_line_of) (k := 1) (B := B_line_of) sc_line_of fun f cdv A outer s H E hr tk po => by
    have nd := sc_line_of.nd
    exact (ss_cons (ss_if (st_cmp (op_eqA hr.units) ab_eq (nomark _) (se_v 1) se_int)
    (ss_one (ss_ret (se_ix (fun _ _ => rfl) (se_v 0) se_int)))
    ss_nil)
    (ss_cons (ss_if (st_cmp (op_eqA hr.units) ab_eq (nomark _) (se_v 1) se_int)
    (ss_one (ss_ret (se_ix (fun _ _ => rfl) (se_v 0) se_int)))
    ss_nil)
    (ss_cons (ss_if (st_cmp (op_eqA hr.units) ab_eq (nomark _) (se_v 1) se_int)
    (ss_one (ss_ret (se_call tk.c ((ok_minus T).p T.h_minus) (hr.mono (by decide)) rfl (sa_cons (se_ix (fun _ _ => rfl) (se_v 0) se_int) (sa_cons (se_ix (fun _ _ => rfl) (se_v 0) se_int) sa_nil)) (aLen_cons (aLen_cons aLen_nil)))))
    ss_nil)
    (ss_one (ss_ret (se_call tk.c ((ok_plus T).p T.h_plus) (hr.mono (by decide)) rfl (sa_cons (se_ix (fun _ _ => rfl) (se_v 0) se_int) (sa_cons (se_ix (fun _ _ => rfl) (se_v 0) se_int) sa_nil)) (aLen_cons (aLen_cons aLen_nil))))))))
theorem ok_along (T : Txt K mg) : FnA P w K mg base 1 "along" s_along ["place", "direction"] F_along :=
  fn_priv (N := N_along) (k := 0) (B := B_along) sc_along fun f cdv A outer s H E hr tk po => by
    have nd := sc_along.nd
    exact (ss_cons (ss_if (st_cmp (op_eqA hr.units) ab_eq (nomark _) (se_v 1) se_int)
    (ss_one (ss_ret (se_ix (fun _ _ => rfl) (se_v 0) se_int)))
    ss_nil)
    (ss_one (ss_ret (se_ix (fun _ _ => rfl) (se_v 0) se_int))))
theorem ok_is_ahead (T : Txt K mg) : FnA P w K mg base 3 "is_ahead" s_is_ahead ["one", "other", "direction"] F_is_ahead :=
  fn_priv (N := N_is_ahead) (k := 2) (B := B_is_ahead) sc_is_ahead fun f cdv A outer s H E hr tk po => by
    have nd := sc_is_ahead.nd
    exact (ss_one (ss_ret (se_call tk.c ((ok_is_below T).p T.h_is_below) (hr.mono (by decide)) rfl (sa_cons (se_call tk.c ((ok_along T).p T.h_along) (hr.mono (by decide)) rfl (sa_cons (se_v 0) (sa_cons (se_v 2) sa_nil)) (aLen_cons (aLen_cons aLen_nil))) (sa_cons (se_call tk.c ((ok_along T).p T.h_along) (hr.mono (by decide)) rfl (sa_cons (se_v 1) (sa_cons (se_v 2) sa_nil)) (aLen_cons (aLen_cons aLen_nil))) sa_nil)) (aLen_cons (aLen_cons aLen_nil)))))
theorem ok_with_stretch (T : Txt K mg) : FnA P w K mg base 4 "with_stretch" s_with_stretch ["stretches", "begin", "end", "direction"] F_with_stretch :=
  fn_priv (N := N_with_stretch) (k := 3) (B := B_with_stretch) sc_with_stretch fun f cdv A outer s H E hr tk po => by
    have nd := sc_with_stretch.nd
    exact (ss_cons (ss_set 4 nd (se_lst true sa_nil))
    (ss_cons (ss_set 5 nd (se_lst true sa_nil))
    (ss_cons (ss_for po rfl (si_seq (se_v 0)) (sg_name 6 nd)
    (ss_one (ss_if (st_truth (se_call tk.c ((ok_is_ahead T).p T.h_is_ahead) (hr.mono (by decide)) rfl (sa_cons (se_ix (fun _ _ => rfl) (se_v 6) se_int) (sa_cons (se_v 1) (sa_cons (se_v 3) sa_nil))) (aLen_cons (aLen_cons (aLen_cons aLen_nil)))))
    (ss_one (ss_expr (se_ml PySem.F.slot_list_append PySem.F.type_list_append mt_append ab_app (se_v 4) (sa_cons (se_v 6) sa_nil))))
    (ss_one (ss_if (st_truth (se_call tk.c ((ok_is_ahead T).p T.h_is_ahead) (hr.mono (by decide)) rfl (sa_cons (se_v 2) (sa_cons (se_ix (fun _ _ => rfl) (se_v 6) se_int) (sa_cons (se_v 3) sa_nil))) (aLen_cons (aLen_cons (aLen_cons aLen_nil)))))
    (ss_one (ss_expr (se_ml PySem.F.slot_list_append PySem.F.type_list_append mt_append ab_app (se_v 5) (sa_cons (se_v 6) sa_nil))))
    (ss_cons (ss_if (st_truth (se_call tk.c ((ok_is_ahead T).p T.h_is_ahead) (hr.mono (by decide)) rfl (sa_cons (se_ix (fun _ _ => rfl) (se_v 6) se_int) (sa_cons (se_v 1) (sa_cons (se_v 3) sa_nil))) (aLen_cons (aLen_cons (aLen_cons aLen_nil)))))
    (ss_one (ss_set 1 nd (se_ix (fun _ _ => rfl) (se_v 6) se_int)))
    ss_nil)
    (ss_one (ss_if (st_truth (se_call tk.c ((ok_is_ahead T).p T.h_is_ahead) (hr.mono (by decide)) rfl (sa_cons (se_v 2) (sa_cons (se_ix (fun _ _ => rfl) (se_v 6) se_int) (sa_cons (se_v 3) sa_nil))) (aLen_cons (aLen_cons (aLen_cons aLen_nil)))))
    (ss_one (ss_set 2 nd (se_ix (fun _ _ => rfl) (se_v 6) se_int)))
    ss_nil))))))))
    (ss_one (ss_ret (se_fz (se_bin op_addA (ab_add false) (se_bin op_addA (ab_add false) (se_v 4) (se_lst false (sa_cons (se_tup (sa_cons (se_v 1) (sa_cons (se_v 2) sa_nil))) sa_nil))) (se_v 5))))))))
theorem ok_form_of (T : Txt K mg) : FnA P w K mg base 5 "form_of" s_form_of ["strokes"] F_form_of :=
  fn_priv (N := N_form_of) (k := 4) (B := B_form_of) sc_form_of fun f cdv A outer s H E hr tk po => by
    have nd := sc_form_of.nd
    exact (ss_cons (ss_set 1 nd se_nnew)
    (ss_cons (ss_for po rfl (si_seq (se_v 0)) (sg_tup rfl (sgs_cons (sg_name 3 nd) (sgs_cons (sg_name 4 nd) (sgs_cons (sg_name 5 nd) sgs_nil))))
    (ss_cons (ss_set 6 nd (se_call tk.c ((ok_direction_of T).p T.h_direction_of) (hr.mono (by decide)) rfl (sa_cons (se_v 4) (sa_cons (se_v 5) sa_nil)) (aLen_cons (aLen_cons aLen_nil))))
    (ss_cons (ss_if (st_truth (se_call tk.c ((ok_is_ahead T).p T.h_is_ahead) (hr.mono (by decide)) rfl (sa_cons (se_v 5) (sa_cons (se_v 4) (sa_cons (se_v 6) sa_nil))) (aLen_cons (aLen_cons (aLen_cons aLen_nil)))))
    (ss_one (ss_par 4 5 rfl nd (sa_cons (se_v 5) (sa_cons (se_v 4) sa_nil))))
    ss_nil)
    (ss_cons (ss_set 7 nd (se_tup (sa_cons (se_v 3) (sa_cons (se_v 6) (sa_cons (se_call tk.c ((ok_line_of T).p T.h_line_of) (hr.mono (by decide)) rfl (sa_cons (se_v 4) (sa_cons (se_v 6) sa_nil)) (aLen_cons (aLen_cons aLen_nil))) sa_nil)))))
    (ss_one (ss_nput hr.units (se_call tk.c ((ok_with_stretch T).p T.h_with_stretch) (hr.mono (by decide)) rfl (sa_cons (se_fz (se_nget2 hr.units (se_v 1) (se_v 7) (se_lst false sa_nil) ⟨rfl, rfl, rfl, rfl⟩)) (sa_cons (se_v 4) (sa_cons (se_v 5) (sa_cons (se_v 6) sa_nil)))) (aLen_cons (aLen_cons (aLen_cons (aLen_cons aLen_nil))))) (se_v 1) (se_v 7)))))))
    (ss_cons (ss_set 2 nd (se_lst true sa_nil))
    (ss_cons (ss_for po rfl (si_nitems (se_v 1)) (sg_tup rfl (sgs_cons (sg_name 7 nd) (sgs_cons (sg_name 8 nd) sgs_nil)))
    (ss_one (ss_for po rfl (si_seq (se_v 8)) (sg_tup rfl (sgs_cons (sg_name 4 nd) (sgs_cons (sg_name 5 nd) sgs_nil)))
    (ss_one (ss_expr (se_ml PySem.F.slot_list_append PySem.F.type_list_append mt_append ab_app (se_v 2) (sa_cons (se_tup (sa_cons (se_ix (fun _ _ => rfl) (se_v 7) se_int) (sa_cons (se_v 4) (sa_cons (se_v 5) sa_nil)))) sa_nil)))))))
    (ss_one (ss_ret (se_callTy call_tuple_of ab_tuple rfl T.b_tuple bt_tuple (sa_cons (se_callB (gh_call (cr_sortedN (units68 hr))) (ab_sorted false) rfl T.b_sorted bt_sorted (sa_cons (se_v 2) sa_nil)) sa_nil))))))))
theorem ok_law_cell (T : Txt K mg) : FnA P w K mg base 1 "_law_cell" s_law_cell ["_law_script", "_law_k"] F_law_cell :=
  fn_priv (N := N_law_cell) (k := 0) (B := B_law_cell) sc_law_cell fun f cdv A outer s H E hr tk po => by
    have nd := sc_law_cell.nd
    exact (ss_cons (ss_if (st_cmp op_lt (ab_cmp _) (nomark _) (se_v 1) (se_callB call_len ab_len rfl T.b_len bt_len (sa_cons (se_v 0) sa_nil)))
    (ss_one (ss_ret (se_ix (fun _ _ => rfl) (se_v 0) (se_v 1))))
    ss_nil)
    (ss_cons (ss_set 2 nd (se_bin op_addA (ab_add false) (se_bin op_mulA ab_mul (se_bin op_mulA ab_mul (se_v 1) (se_v 1)) se_int) se_int))
    (ss_cons (ss_if (st_cmp op_gt (ab_cmp _) (nomark _) (se_callB call_len ab_len rfl T.b_len bt_len (sa_cons (se_v 0) sa_nil)) se_int)
    (ss_one (ss_set 2 nd (se_bin op_addA (ab_add false) (se_v 2) (se_bin op_mulA ab_mul (se_bin op_mod ab_mod (se_ix (fun _ _ => rfl) (se_v 0) (se_bin op_mod ab_mod (se_bin op_mulA ab_mul (se_v 1) se_int) (se_callB call_len ab_len rfl T.b_len bt_len (sa_cons (se_v 0) sa_nil)))) (se_bin op_pow ab_pow se_int se_int)) (se_bin op_addA (ab_add false) se_int (se_v 1))))))
    ss_nil)
    (ss_one (ss_ret (se_bin op_mod ab_mod (se_bin op_mulA ab_mul (se_v 2) (se_v 2)) se_int))))))
theorem ok_law_mixed (T : Txt K mg) : FnA P w K mg base 1 "_law_mixed" s_law_mixed ["_law_cell_here", "_law_k"] F_law_mixed :=
  fn_priv (N := N_law_mixed) (k := 0) (B := B_law_mixed) sc_law_mixed fun f cdv A outer s H E hr tk po => by
    have nd := sc_law_mixed.nd
    exact (ss_cons (ss_set 2 nd (se_bin op_mod ab_mod (se_bin op_addA (ab_add false) (se_bin op_addA (ab_add false) (se_v 0) (se_bin op_mulA ab_mul (se_bin op_mulA ab_mul (se_v 1) (se_v 1)) se_int)) se_int) se_int))
    (ss_cons (ss_set 2 nd (se_bin op_mod ab_mod (se_bin op_mulA ab_mul (se_v 2) (se_v 2)) se_int))
    (ss_cons (ss_set 2 nd (se_bin op_mod ab_mod (se_bin op_mulA ab_mul (se_bin op_addA (ab_add false) (se_bin op_addA (ab_add false) (se_v 2) (se_bin op_mulA ab_mul (se_v 1) se_int)) se_int) se_int) se_int))
    (ss_one (ss_ret (se_bin op_fdivA ab_fdiv (se_bin op_mod ab_mod (se_bin op_mulA ab_mul (se_v 2) (se_v 2)) se_int) se_int))))))
theorem ok_law_row (T : Txt K mg) : FnA P w K mg base 2 "_law_row" s_law_row ["_law_cell_here", "_law_most", "_law_many"] F_law_row :=
  fn_priv (N := N_law_row) (k := 1) (B := B_law_row) sc_law_row fun f cdv A outer s H E hr tk po => by
    have nd := sc_law_row.nd
    exact (ss_cons (ss_set 3 nd (se_lst true sa_nil))
    (ss_cons (ss_set 4 nd (se_v 0))
    (ss_cons (ss_for po rfl (si_range1 rfl T.b_range (sa_cons (se_v 2) sa_nil)) (sg_name 5 nd)
    (ss_cons (ss_expr (se_ml PySem.F.slot_list_append PySem.F.type_list_append mt_append ab_app (se_v 3) (sa_cons (se_bin op_mod ab_mod (se_v 4) (se_v 1)) sa_nil)))
    (ss_one (ss_set 4 nd (se_bin op_fdivA ab_fdiv (se_v 4) (se_v 1))))))
    (ss_cons (ss_if (st_cmp op_gt (ab_cmp _) (nomark _) (se_v 4) se_int)
    (ss_one (ss_ret (se_fz (se_v 3))))
    ss_nil)
    (ss_one (ss_ret (se_lc false [("_law_k", 5)] rfl nd rfl (by decide) (si_range1 rfl T.b_range (sa_cons (se_v 2) sa_nil)) (blkOk_by (N := N_law_row) (sc := defScope s_law_row) (own := [("_law_k", 5)]) (by decide +kernel)) (fun _ _ _ _ _ => (sg_name 5 nd)) (fun _ _ _ _ _ => sts_nil) (fun _ _ _ _ _ => (se_bin op_mod ab_mod (se_call takes0.c ((ok_law_mixed T).p T.h_law_mixed) (hr.mono (by decide)) rfl (sa_cons (se_v 0) (sa_cons (se_v 5) sa_nil)) (aLen_cons (aLen_cons aLen_nil))) (se_v 1))))))))))
theorem ok_law_int (T : Txt K mg) : FnA P w K mg base 1 "_law_int" s_law_int ["_law_found"] F_law_int :=
  fn_priv (N := N_law_int) (k := 0) (B := B_law_int) sc_law_int fun f cdv A outer s H E hr tk po => by
    have nd := sc_law_int.nd
    exact (ss_one (ss_ret (se_and (se_isi .int rfl T.b_isinstance rfl T.b_int bt_int (se_v 0)) (se_one (se_not (se_isi .bool rfl T.b_isinstance rfl T.b_bool bt_bool (se_v 0)))))))
theorem ok_law_sign (T : Txt K mg) : FnA P w K mg base 1 "_law_sign" s_law_sign ["_law_number"] F_law_sign :=
  fn_priv (N := N_law_sign) (k := 0) (B := B_law_sign) sc_law_sign fun f cdv A outer s H E hr tk po => by
    have nd := sc_law_sign.nd
    exact (ss_cons (ss_asg (se_v 0) (sg_tup rfl (sgs_cons (sg_name 2 nd) (sgs_cons (sg_name 3 nd) sgs_nil))))
    (ss_cons (ss_if (st_cmp op_ge (ab_cmp _) (nomark _) (se_bin op_mulA ab_mul (se_v 2) (se_v 3)) se_int)
    (ss_one (ss_ret (se_bin op_sub ab_sub (se_callTy call_int1 ab_intOf rfl T.b_int bt_int (sa_cons (se_cmp op_gt (ab_cmp _) (nomark _) (se_bin op_addA (ab_add false) (se_v 2) (se_v 3)) se_int) sa_nil)) (se_callTy call_int1 ab_intOf rfl T.b_int bt_int (sa_cons (se_cmp op_lt (ab_cmp _) (nomark _) (se_bin op_addA (ab_add false) (se_v 2) (se_v 3)) se_int) sa_nil)))))
    ss_nil)
    (ss_cons (ss_set 1 nd (se_bin op_sub ab_sub (se_bin op_mulA ab_mul (se_bin op_mulA ab_mul se_int (se_v 2)) (se_v 2)) (se_bin op_mulA ab_mul (se_v 3) (se_v 3))))
    (ss_cons (ss_if (st_cmp op_gt (ab_cmp _) (nomark _) (se_v 2) se_int)
    (ss_one (ss_ret (se_bin op_sub ab_sub (se_callTy call_int1 ab_intOf rfl T.b_int bt_int (sa_cons (se_cmp op_gt (ab_cmp _) (nomark _) (se_v 1) se_int) sa_nil)) (se_callTy call_int1 ab_intOf rfl T.b_int bt_int (sa_cons (se_cmp op_lt (ab_cmp _) (nomark _) (se_v 1) se_int) sa_nil)))))
    ss_nil)
    (ss_one (ss_ret (se_bin op_sub ab_sub (se_callTy call_int1 ab_intOf rfl T.b_int bt_int (sa_cons (se_cmp op_lt (ab_cmp _) (nomark _) (se_v 1) se_int) sa_nil)) (se_callTy call_int1 ab_intOf rfl T.b_int bt_int (sa_cons (se_cmp op_gt (ab_cmp _) (nomark _) (se_v 1) se_int) sa_nil)))))))))
theorem ok_law_moved (T : Txt K mg) : FnA P w K mg base 1 "_law_moved" s_law_moved ["_law_place", "_law_heading", "_law_steps_here"] F_law_moved :=
  fn_priv (N := N_law_moved) (k := 0) (B := B_law_moved) sc_law_moved fun f cdv A outer s H E hr tk po => by
    have nd := sc_law_moved.nd
    exact (ss_cons (ss_set 3 nd (se_lst false (sa_cons (se_tup (sa_cons (se_tup (sa_cons se_int (sa_cons se_int sa_nil))) (sa_cons (se_tup (sa_cons se_int (sa_cons se_int sa_nil))) sa_nil))) (sa_cons (se_tup (sa_cons (se_tup (sa_cons se_int (sa_cons se_int sa_nil))) (sa_cons (se_tup (sa_cons se_int (sa_cons se_int sa_nil))) sa_nil))) (sa_cons (se_tup (sa_cons (se_tup (sa_cons se_int (sa_cons se_int sa_nil))) (sa_cons (se_tup (sa_cons se_int (sa_cons se_int sa_nil))) sa_nil))) (sa_cons (se_tup (sa_cons (se_tup (sa_cons se_int (sa_cons (se_neg se_int) sa_nil))) (sa_cons (se_tup (sa_cons se_int (sa_cons se_int sa_nil))) sa_nil))) sa_nil))))))
    (ss_cons (ss_if (st_cmp op_gt (ab_cmp _) (nomark _) (se_v 1) se_int)
    (ss_one (ss_set 2 nd (se_bin op_sub ab_sub se_int (se_v 2))))
    ss_nil)
    (ss_cons (ss_asg (se_ix (fun _ _ => rfl) (se_v 3) (se_bin op_mod ab_mod (se_v 1) se_int)) (sg_tup rfl (sgs_cons (sg_name 5 nd) (sgs_cons (sg_name 6 nd) sgs_nil))))
    (ss_cons (ss_asg (se_v 0) (sg_tup rfl (sgs_cons (sg_name 7 nd) (sgs_cons (sg_name 8 nd) sgs_nil))))
    (ss_cons (ss_set 4 nd (se_tup (sa_cons (se_bin op_addA (ab_add false) (se_ix (fun _ _ => rfl) (se_v 7) se_int) (se_bin op_mulA ab_mul (se_v 2) (se_ix (fun _ _ => rfl) (se_v 5) se_int))) (sa_cons (se_bin op_addA (ab_add false) (se_ix (fun _ _ => rfl) (se_v 7) se_int) (se_bin op_mulA ab_mul (se_v 2) (se_ix (fun _ _ => rfl) (se_v 5) se_int))) sa_nil))))
    (ss_one (ss_ret (se_tup (sa_cons (se_v 4) (sa_cons (se_tup (sa_cons (se_bin op_addA (ab_add false) (se_ix (fun _ _ => rfl) (se_v 8) se_int) (se_bin op_mulA ab_mul (se_v 2) (se_ix (fun _ _ => rfl) (se_v 6) se_int))) (sa_cons (se_bin op_addA (ab_add false) (se_ix (fun _ _ => rfl) (se_v 8) se_int) (se_bin op_mulA ab_mul (se_v 2) (se_ix (fun _ _ => rfl) (se_v 6) se_int))) sa_nil))) sa_nil))))))))))
theorem ok_law_is_place (T : Txt K mg) : FnA P w K mg base 2 "_law_is_place" s_law_is_place ["_law_found"] F_law_is_place :=
  fn_priv (N := N_law_is_place) (k := 1) (B := B_law_is_place) sc_law_is_place fun f cdv A outer s H E hr tk po => by
    have nd := sc_law_is_place.nd
    exact (ss_cons (ss_if (sw_st (sw_or (st_not (st_truth (se_isi .tuple rfl T.b_isinstance rfl T.b_tuple bt_tuple (se_v 0)))) (sw_or1 (st_cmp (op_neA hr.units) ab_ne (nomark _) (se_callB call_len ab_len rfl T.b_len bt_len (sa_cons (se_v 0) sa_nil)) se_int))))
    (ss_one (ss_ret se_bl))
    ss_nil)
    (ss_cons (ss_for po rfl (si_seq (se_v 0)) (sg_name 1 nd)
    (ss_cons (ss_if (sw_st (sw_or (st_not (st_truth (se_isi .tuple rfl T.b_isinstance rfl T.b_tuple bt_tuple (se_v 1)))) (sw_or1 (st_cmp (op_neA hr.units) ab_ne (nomark _) (se_callB call_len ab_len rfl T.b_len bt_len (sa_cons (se_v 1) sa_nil)) se_int))))
    (ss_one (ss_ret se_bl))
    ss_nil)
    (ss_one (ss_if (sw_st (sw_or (st_not (st_truth (se_call tk.c ((ok_law_int T).p T.h_law_int) (hr.mono (by decide)) rfl (sa_cons (se_ix (fun _ _ => rfl) (se_v 1) se_int) sa_nil) (aLen_cons aLen_nil)))) (sw_or1 (st_not (st_truth (se_call tk.c ((ok_law_int T).p T.h_law_int) (hr.mono (by decide)) rfl (sa_cons (se_ix (fun _ _ => rfl) (se_v 1) se_int) sa_nil) (aLen_cons aLen_nil)))))))
    (ss_one (ss_ret se_bl))
    ss_nil))))
    (ss_one (ss_ret (se_cmp (op_eqA hr.units) ab_eq (nomark _) (se_bin op_mod ab_mod (se_bin op_addA (ab_add false) (se_ix (fun _ _ => rfl) (se_ix (fun _ _ => rfl) (se_v 0) se_int) se_int) (se_ix (fun _ _ => rfl) (se_ix (fun _ _ => rfl) (se_v 0) se_int) se_int)) se_int) se_int)))))
theorem ok_law_line (T : Txt K mg) : FnA P w K mg base 1 "_law_line" s_law_line ["_law_begin", "_law_end"] F_law_line :=
  fn_priv (N := N_law_line) (k := 0) (B := B_law_line) sc_law_line fun f cdv A outer s H E hr tk po => by
    have nd := sc_law_line.nd
    exact (ss_cons (ss_set 2 nd (se_tup (sa_cons (se_bin op_sub ab_sub (se_ix (fun _ _ => rfl) (se_ix (fun _ _ => rfl) (se_v 1) se_int) se_int) (se_ix (fun _ _ => rfl) (se_ix (fun _ _ => rfl) (se_v 0) se_int) se_int)) (sa_cons (se_bin op_sub ab_sub (se_ix (fun _ _ => rfl) (se_ix (fun _ _ => rfl) (se_v 1) se_int) se_int) (se_ix (fun _ _ => rfl) (se_ix (fun _ _ => rfl) (se_v 0) se_int) se_int)) sa_nil))))
    (ss_cons (ss_set 3 nd (se_tup (sa_cons (se_bin op_sub ab_sub (se_ix (fun _ _ => rfl) (se_ix (fun _ _ => rfl) (se_v 1) se_int) se_int) (se_ix (fun _ _ => rfl) (se_ix (fun _ _ => rfl) (se_v 0) se_int) se_int)) (sa_cons (se_bin op_sub ab_sub (se_ix (fun _ _ => rfl) (se_ix (fun _ _ => rfl) (se_v 1) se_int) se_int) (se_ix (fun _ _ => rfl) (se_ix (fun _ _ => rfl) (se_v 0) se_int) se_int)) sa_nil))))
    (ss_cons (ss_if (st_cmp (op_eqA hr.units) ab_eq (nomark _) (se_v 3) (se_tup (sa_cons se_int (sa_cons se_int sa_nil))))
    (ss_one (ss_ret (se_tup (sa_cons se_int (sa_cons (se_ix (fun _ _ => rfl) (se_v 0) se_int) sa_nil)))))
    ss_nil)
    (ss_cons (ss_if (st_cmp (op_eqA hr.units) ab_eq (nomark _) (se_v 2) (se_tup (sa_cons se_int (sa_cons se_int sa_nil))))
    (ss_one (ss_ret (se_tup (sa_cons se_int (sa_cons (se_ix (fun _ _ => rfl) (se_v 0) se_int) sa_nil)))))
    ss_nil)
    (ss_cons (ss_if (st_cmp (op_eqA hr.units) ab_eq (nomark _) (se_v 2) (se_v 3))
    (ss_one (ss_ret (se_tup (sa_cons se_int (sa_cons (se_tup (sa_cons (se_bin op_sub ab_sub (se_ix (fun _ _ => rfl) (se_ix (fun _ _ => rfl) (se_v 0) se_int) se_int) (se_ix (fun _ _ => rfl) (se_ix (fun _ _ => rfl) (se_v 0) se_int) se_int)) (sa_cons (se_bin op_sub ab_sub (se_ix (fun _ _ => rfl) (se_ix (fun _ _ => rfl) (se_v 0) se_int) se_int) (se_ix (fun _ _ => rfl) (se_ix (fun _ _ => rfl) (se_v 0) se_int) se_int)) sa_nil))) sa_nil)))))
    ss_nil)
    (ss_cons (ss_if (st_cmp (op_eqA hr.units) ab_eq (nomark _) (se_v 2) (se_tup (sa_cons (se_bin op_sub ab_sub se_int (se_ix (fun _ _ => rfl) (se_v 3) se_int)) (sa_cons (se_bin op_sub ab_sub se_int (se_ix (fun _ _ => rfl) (se_v 3) se_int)) sa_nil))))
    (ss_one (ss_ret (se_tup (sa_cons se_int (sa_cons (se_tup (sa_cons (se_bin op_addA (ab_add false) (se_ix (fun _ _ => rfl) (se_ix (fun _ _ => rfl) (se_v 0) se_int) se_int) (se_ix (fun _ _ => rfl) (se_ix (fun _ _ => rfl) (se_v 0) se_int) se_int)) (sa_cons (se_bin op_addA (ab_add false) (se_ix (fun _ _ => rfl) (se_ix (fun _ _ => rfl) (se_v 0) se_int) se_int) (se_ix (fun _ _ => rfl) (se_ix (fun _ _ => rfl) (se_v 0) se_int) se_int)) sa_nil))) sa_nil)))))
    ss_nil)
    (ss_one (ss_ret (se_tup (sa_cons se_int (sa_cons (se_tup (sa_cons se_int (sa_cons se_int sa_nil))) sa_nil)))))))))))
theorem ok_law_far_on (T : Txt K mg) : FnA P w K mg base 2 "_law_far_on" s_law_far_on ["_law_one", "_law_other", "_law_line_here"] F_law_far_on :=
  fn_priv (N := N_law_far_on) (k := 1) (B := B_law_far_on) sc_law_far_on fun f cdv A outer s H E hr tk po => by
    have nd := sc_law_far_on.nd
    exact (ss_cons (ss_set 3 nd (se_callTy call_int1 ab_intOf rfl T.b_int bt_int (sa_cons (se_cmp (op_eqA hr.units) ab_eq (nomark _) (se_ix (fun _ _ => rfl) (se_v 2) se_int) se_int) sa_nil)))
    (ss_one (ss_ret (se_call tk.c ((ok_law_sign T).p T.h_law_sign) (hr.mono (by decide)) rfl (sa_cons (se_tup (sa_cons (se_bin op_sub ab_sub (se_ix (fun _ _ => rfl) (se_ix (fun _ _ => rfl) (se_v 0) (se_v 3)) se_int) (se_ix (fun _ _ => rfl) (se_ix (fun _ _ => rfl) (se_v 1) (se_v 3)) se_int)) (sa_cons (se_bin op_sub ab_sub (se_ix (fun _ _ => rfl) (se_ix (fun _ _ => rfl) (se_v 0) (se_v 3)) se_int) (se_ix (fun _ _ => rfl) (se_ix (fun _ _ => rfl) (se_v 1) (se_v 3)) se_int)) sa_nil))) sa_nil) (aLen_cons aLen_nil)))))
theorem ok_law_key (T : Txt K mg) : FnA P w K mg base 2 "_law_key" s_law_key ["_law_stroke"] F_law_key :=
  fn_priv (N := N_law_key) (k := 1) (B := B_law_key) sc_law_key fun f cdv A outer s H E hr tk po => by
    have nd := sc_law_key.nd
    exact (ss_one (ss_ret (se_bin op_addA (ab_add false) (se_tup (sa_cons (se_ix (fun _ _ => rfl) (se_v 0) se_int) sa_nil)) (se_call tk.c ((ok_law_line T).p T.h_law_line) (hr.mono (by decide)) rfl (sa_cons (se_ix (fun _ _ => rfl) (se_v 0) se_int) (sa_cons (se_ix (fun _ _ => rfl) (se_v 0) se_int) sa_nil)) (aLen_cons (aLen_cons aLen_nil))))))
theorem ok_law_strokes (T : Txt K mg) : FnA P w K mg base 3 "_law_strokes" s_law_strokes ["_law_script", "_law_start", "_law_most"] F_law_strokes :=
  fn_priv (N := N_law_strokes) (k := 2) (B := B_law_strokes) sc_law_strokes fun f cdv A outer s H E hr tk po => by
    have nd := sc_law_strokes.nd
    exact (ss_cons (ss_set 3 nd (se_call tk.c ((ok_law_cell T).p T.h_law_cell) (hr.mono (by decide)) rfl (sa_cons (se_v 0) (sa_cons (se_v 1) sa_nil)) (aLen_cons (aLen_cons aLen_nil))))
    (ss_cons (ss_set 4 nd (se_ix (fun _ _ => rfl) (se_lst false (sa_cons (se_lst false (sa_cons se_int (sa_cons se_int (sa_cons se_int (sa_cons se_int (sa_cons se_int (sa_cons se_int (sa_cons se_int (sa_cons se_int sa_nil))))))))) (sa_cons (se_lst false (sa_cons se_int (sa_cons se_int (sa_cons se_int (sa_cons se_int (sa_cons se_int sa_nil)))))) (sa_cons (se_lst false (sa_cons se_int (sa_cons se_int (sa_cons se_int (sa_cons se_int sa_nil))))) (sa_cons (se_lst false (sa_cons se_int (sa_cons se_int (sa_cons se_int (sa_cons se_int sa_nil))))) (sa_cons (se_lst false (sa_cons se_int (sa_cons se_int (sa_cons se_int (sa_cons se_int sa_nil))))) sa_nil)))))) (se_bin op_mod ab_mod (se_v 3) se_int)))
    (ss_cons (ss_set 5 nd (se_ix (fun _ _ => rfl) (se_lst false (sa_cons se_int (sa_cons se_int (sa_cons se_int (sa_cons se_int sa_nil))))) (se_bin op_mod ab_mod (se_bin op_fdivA ab_fdiv (se_v 3) se_int) se_int)))
    (ss_cons (ss_set 6 nd (se_ix (fun _ _ => rfl) (se_lst false (sa_cons se_int (sa_cons se_int (sa_cons se_int (sa_cons se_int sa_nil))))) (se_bin op_mod ab_mod (se_bin op_fdivA ab_fdiv (se_v 3) se_int) se_int)))
    (ss_cons (ss_set 7 nd (se_tup (sa_cons (se_tup (sa_cons se_int (sa_cons se_int sa_nil))) (sa_cons (se_tup (sa_cons se_int (sa_cons se_int sa_nil))) sa_nil))))
    (ss_cons (ss_set 8 nd (se_lst true sa_nil))
    (ss_cons (ss_for po rfl (si_range2 rfl T.b_range (sa_cons (se_bin op_addA (ab_add false) (se_v 1) se_int) (sa_cons (se_bin op_addA (ab_add false) (se_bin op_addA (ab_add false) (se_v 1) se_int) (se_callB (call_max2 rfl) (ab_i2 _) rfl T.b_max bt_max (sa_cons se_int (sa_cons (se_callB (call_min2 rfl) (ab_i2 _) rfl T.b_min bt_min (sa_cons (se_v 2) (sa_cons (se_bin op_sub ab_sub (se_bin op_sub ab_sub (se_callB call_len ab_len rfl T.b_len bt_len (sa_cons (se_v 0) sa_nil)) (se_v 1)) se_int) sa_nil))) sa_nil)))) sa_nil))) (sg_name 9 nd)
    (ss_cons (ss_set 10 nd (se_call tk.c ((ok_law_row T).p T.h_law_row) (hr.mono (by decide)) rfl (sa_cons (se_call tk.c ((ok_law_cell T).p T.h_law_cell) (hr.mono (by decide)) rfl (sa_cons (se_v 0) (sa_cons (se_v 9) sa_nil)) (aLen_cons (aLen_cons aLen_nil))) (sa_cons (se_bin op_pow ab_pow se_int se_int) (sa_cons se_int sa_nil))) (aLen_cons (aLen_cons (aLen_cons aLen_nil)))))
    (ss_cons (ss_set 11 nd (se_ix (fun _ _ => rfl) (se_v 4) (se_bin op_mod ab_mod (se_ix (fun _ _ => rfl) (se_v 10) se_int) (se_callB call_len ab_len rfl T.b_len bt_len (sa_cons (se_v 4) sa_nil)))))
    (ss_cons (ss_set 12 nd (se_call tk.c ((ok_law_moved T).p T.h_law_moved) (hr.mono (by decide)) rfl (sa_cons (se_v 7) (sa_cons (se_v 11) (sa_cons (se_bin op_addA (ab_add false) se_int (se_bin op_mod ab_mod (se_ix (fun _ _ => rfl) (se_v 10) se_int) (se_v 5))) sa_nil))) (aLen_cons (aLen_cons (aLen_cons aLen_nil)))))
    (ss_cons (ss_if (st_cmp op_gt (ab_cmp _) (nomark _) (se_bin op_mod ab_mod (se_ix (fun _ _ => rfl) (se_v 10) se_int) se_int) se_int)
    (ss_one (ss_expr (se_ml PySem.F.slot_list_append PySem.F.type_list_append mt_append ab_app (se_v 8) (sa_cons (se_tup (sa_cons (se_bin op_mod ab_mod (se_ix (fun _ _ => rfl) (se_v 10) se_int) (se_v 6)) (sa_cons (se_v 7) (sa_cons (se_v 12) sa_nil)))) sa_nil))))
    ss_nil)
    (ss_one (ss_set 7 nd (se_v 12))))))))
    (ss_one (ss_ret (se_fz (se_v 8)))))))))))
theorem ok_law_is_stroke (T : Txt K mg) : FnA P w K mg base 3 "_law_is_stroke" s_law_is_stroke ["_law_found"] F_law_is_stroke :=
  fn_priv (N := N_law_is_stroke) (k := 2) (B := B_law_is_stroke) sc_law_is_stroke fun f cdv A outer s H E hr tk po => by
    have nd := sc_law_is_stroke.nd
    exact (ss_cons (ss_if (sw_st (sw_or (st_not (st_truth (se_isi .tuple rfl T.b_isinstance rfl T.b_tuple bt_tuple (se_v 0)))) (sw_or (st_cmp (op_neA hr.units) ab_ne (nomark _) (se_callB call_len ab_len rfl T.b_len bt_len (sa_cons (se_v 0) sa_nil)) se_int) (sw_or (st_not (st_truth (se_call tk.c ((ok_law_int T).p T.h_law_int) (hr.mono (by decide)) rfl (sa_cons (se_ix (fun _ _ => rfl) (se_v 0) se_int) sa_nil) (aLen_cons aLen_nil)))) (sw_or1 (st_not (st_chain op_le op_lt (ab_cmp _) (ab_cmp _) se_int (se_ix (fun _ _ => rfl) (se_v 0) se_int) se_int)))))))
    (ss_one (ss_ret se_bl))
    ss_nil)
    (ss_cons (ss_if (sw_st (sw_or (st_not (st_truth (se_call tk.c ((ok_law_is_place T).p T.h_law_is_place) (hr.mono (by decide)) rfl (sa_cons (se_ix (fun _ _ => rfl) (se_v 0) se_int) sa_nil) (aLen_cons aLen_nil)))) (sw_or1 (st_not (st_truth (se_call tk.c ((ok_law_is_place T).p T.h_law_is_place) (hr.mono (by decide)) rfl (sa_cons (se_ix (fun _ _ => rfl) (se_v 0) se_int) sa_nil) (aLen_cons aLen_nil)))))))
    (ss_one (ss_ret se_bl))
    ss_nil)
    (ss_cons (ss_set 1 nd (se_call tk.c ((ok_law_line T).p T.h_law_line) (hr.mono (by decide)) rfl (sa_cons (se_ix (fun _ _ => rfl) (se_v 0) se_int) (sa_cons (se_ix (fun _ _ => rfl) (se_v 0) se_int) sa_nil)) (aLen_cons (aLen_cons aLen_nil))))
    (ss_one (ss_ret (se_and (se_cmp op_lt (ab_cmp _) (nomark _) (se_ix (fun _ _ => rfl) (se_v 1) se_int) se_int) (se_one (se_cmp op_lt (ab_cmp _) (nomark _) (se_call tk.c ((ok_law_far_on T).p T.h_law_far_on) (hr.mono (by decide)) rfl (sa_cons (se_ix (fun _ _ => rfl) (se_v 0) se_int) (sa_cons (se_ix (fun _ _ => rfl) (se_v 0) se_int) (sa_cons (se_v 1) sa_nil))) (aLen_cons (aLen_cons (aLen_cons aLen_nil)))) se_int))))))))
theorem ok_law_within (T : Txt K mg) : FnA P w K mg base 3 "_law_within" s_law_within ["_law_stroke", "_law_others"] F_law_within :=
  fn_priv (N := N_law_within) (k := 2) (B := B_law_within) sc_law_within fun f cdv A outer s H E hr tk po => by
    have nd := sc_law_within.nd
    exact (ss_cons (ss_set 2 nd (se_call tk.c ((ok_law_line T).p T.h_law_line) (hr.mono (by decide)) rfl (sa_cons (se_ix (fun _ _ => rfl) (se_v 0) se_int) (sa_cons (se_ix (fun _ _ => rfl) (se_v 0) se_int) sa_nil)) (aLen_cons (aLen_cons aLen_nil))))
    (ss_cons (ss_set 3 nd (se_lst false (sa_cons (se_ix (fun _ _ => rfl) (se_v 0) se_int) (sa_cons (se_ix (fun _ _ => rfl) (se_v 0) se_int) sa_nil))))
    (ss_cons (ss_if (st_cmp op_gt (ab_cmp _) (nomark _) (se_call tk.c ((ok_law_far_on T).p T.h_law_far_on) (hr.mono (by decide)) rfl (sa_cons (se_ix (fun _ _ => rfl) (se_v 3) se_int) (sa_cons (se_ix (fun _ _ => rfl) (se_v 3) se_int) (sa_cons (se_v 2) sa_nil))) (aLen_cons (aLen_cons (aLen_cons aLen_nil)))) se_int)
    (ss_one (ss_set 3 nd (se_lst false (sa_cons (se_ix (fun _ _ => rfl) (se_v 3) se_int) (sa_cons (se_ix (fun _ _ => rfl) (se_v 3) se_int) sa_nil)))))
    ss_nil)
    (ss_cons (ss_for po rfl (si_seq (se_v 1)) (sg_name 4 nd)
    (ss_one (ss_if (st_cmp (op_eqA hr.units) ab_eq (nomark _) (se_call tk.c ((ok_law_key T).p T.h_law_key) (hr.mono (by decide)) rfl (sa_cons (se_v 4) sa_nil) (aLen_cons aLen_nil)) (se_call tk.c ((ok_law_key T).p T.h_law_key) (hr.mono (by decide)) rfl (sa_cons (se_v 0) sa_nil) (aLen_cons aLen_nil)))
    (ss_one (ss_if (sw_st (sw_and (st_cmp op_le (ab_cmp _) (nomark _) (se_call tk.c ((ok_law_far_on T).p T.h_law_far_on) (hr.mono (by decide)) rfl (sa_cons (se_ix (fun _ _ => rfl) (se_v 4) se_int) (sa_cons (se_ix (fun _ _ => rfl) (se_v 3) se_int) (sa_cons (se_v 2) sa_nil))) (aLen_cons (aLen_cons (aLen_cons aLen_nil)))) se_int) (sw_and1 (st_cmp op_ge (ab_cmp _) (nomark _) (se_call tk.c ((ok_law_far_on T).p T.h_law_far_on) (hr.mono (by decide)) rfl (sa_cons (se_ix (fun _ _ => rfl) (se_v 4) se_int) (sa_cons (se_ix (fun _ _ => rfl) (se_v 3) se_int) (sa_cons (se_v 2) sa_nil))) (aLen_cons (aLen_cons (aLen_cons aLen_nil)))) se_int))))
    (ss_one (ss_ret se_bl))
    ss_nil))
    ss_nil)))
    (ss_one (ss_ret se_bl))))))
theorem ok_law_gone (T : Txt K mg) : FnA P w K mg base 3 "_law_gone" s_law_gone ["_law_stroke", "_law_strokes_here"] F_law_gone :=
  fn_priv (N := N_law_gone) (k := 2) (B := B_law_gone) sc_law_gone fun f cdv A outer s H E hr tk po => by
    have nd := sc_law_gone.nd
    exact (ss_cons (ss_set 2 nd (se_call tk.c ((ok_law_line T).p T.h_law_line) (hr.mono (by decide)) rfl (sa_cons (se_ix (fun _ _ => rfl) (se_v 0) se_int) (sa_cons (se_ix (fun _ _ => rfl) (se_v 0) se_int) sa_nil)) (aLen_cons (aLen_cons aLen_nil))))
    (ss_cons (ss_set 3 nd (se_ix (fun _ _ => rfl) (se_v 0) se_int))
    (ss_cons (ss_setLc false 4 (sw_true rfl rfl rfl (by decide +kernel)) [("_law_one", 7)] rfl nd rfl (by decide) (si_seq (se_v 1)) (blkOk_by (N := N_law_gone) (sc := defScope s_law_gone) (own := [("_law_one", 7)]) (by decide +kernel)) (fun _ _ _ _ _ => (sg_name 7 nd)) (fun _ _ _ _ _ => (sts_one (st_cmp (op_eqA hr.units) ab_eq (nomark _) (se_call takes0.c ((ok_law_key T).p T.h_law_key) (hr.mono (by decide)) rfl (sa_cons (se_v 7) sa_nil) (aLen_cons aLen_nil)) (se_call takes0.c ((ok_law_key T).p T.h_law_key) (hr.mono (by decide)) rfl (sa_cons (se_v 0) sa_nil) (aLen_cons aLen_nil))))) (fun _ _ _ _ _ => (se_v 7)))
    (ss_cons (ss_for po rfl (si_range1 rfl T.b_range (sa_cons (se_callB call_len ab_len rfl T.b_len bt_len (sa_cons (se_v 4) sa_nil)) sa_nil)) (sg_name 5 nd)
    (ss_one (ss_for po rfl (si_seq (se_v 4)) (sg_name 6 nd)
    (ss_cons (ss_set 8 nd (se_lst false (sa_cons (se_ix (fun _ _ => rfl) (se_v 6) se_int) (sa_cons (se_ix (fun _ _ => rfl) (se_v 6) se_int) sa_nil))))
    (ss_cons (ss_if (st_cmp op_gt (ab_cmp _) (nomark _) (se_call tk.c ((ok_law_far_on T).p T.h_law_far_on) (hr.mono (by decide)) rfl (sa_cons (se_ix (fun _ _ => rfl) (se_v 8) se_int) (sa_cons (se_ix (fun _ _ => rfl) (se_v 8) se_int) (sa_cons (se_v 2) sa_nil))) (aLen_cons (aLen_cons (aLen_cons aLen_nil)))) se_int)
    (ss_one (ss_set 8 nd (se_lst false (sa_cons (se_ix (fun _ _ => rfl) (se_v 8) se_int) (sa_cons (se_ix (fun _ _ => rfl) (se_v 8) se_int) sa_nil)))))
    ss_nil)
    (ss_one (ss_if (sw_st (sw_and (st_cmp op_le (ab_cmp _) (nomark _) (se_call tk.c ((ok_law_far_on T).p T.h_law_far_on) (hr.mono (by decide)) rfl (sa_cons (se_ix (fun _ _ => rfl) (se_v 8) se_int) (sa_cons (se_v 3) (sa_cons (se_v 2) sa_nil))) (aLen_cons (aLen_cons (aLen_cons aLen_nil)))) se_int) (sw_and1 (st_cmp op_gt (ab_cmp _) (nomark _) (se_call tk.c ((ok_law_far_on T).p T.h_law_far_on) (hr.mono (by decide)) rfl (sa_cons (se_ix (fun _ _ => rfl) (se_v 8) se_int) (sa_cons (se_v 3) (sa_cons (se_v 2) sa_nil))) (aLen_cons (aLen_cons (aLen_cons aLen_nil)))) se_int))))
    (ss_one (ss_set 3 nd (se_ix (fun _ _ => rfl) (se_v 8) se_int)))
    ss_nil)))))))
    (ss_one (ss_ret (se_cmp (op_eqA hr.units) ab_eq (nomark _) (se_v 3) (se_ix (fun _ _ => rfl) (se_v 0) se_int))))))))
theorem ok_law_is_form (T : Txt K mg) : FnA P w K mg base 4 "_law_is_form" s_law_is_form ["_law_form", "_law_strokes_here"] F_law_is_form :=
  fn_priv (N := N_law_is_form) (k := 3) (B := B_law_is_form) sc_law_is_form fun f cdv A outer s H E hr tk po => by
    have nd := sc_law_is_form.nd
    exact (ss_cons (ss_if (sw_st (sw_or (st_not (st_truth (se_isi .tuple rfl T.b_isinstance rfl T.b_tuple bt_tuple (se_v 0)))) (sw_or1 (st_cmp (op_neA hr.units) ab_ne (nomark _) (se_callTy (gh_call call_list_of) (ab_list false) rfl T.b_list bt_list (sa_cons (se_v 0) sa_nil)) (se_callB (gh_call (cr_sortedN (units68 hr))) (ab_sorted false) rfl T.b_sorted bt_sorted (sa_cons (se_v 0) sa_nil))))))
    (ss_one (ss_ret se_bl))
    ss_nil)
    (ss_cons (ss_for po rfl (si_seq (se_v 0)) (sg_name 2 nd)
    (ss_cons (ss_if (sw_st (sw_or (st_not (st_truth (se_call tk.c ((ok_law_is_stroke T).p T.h_law_is_stroke) (hr.mono (by decide)) rfl (sa_cons (se_v 2) sa_nil) (aLen_cons aLen_nil)))) (sw_or1 (st_not (st_truth (se_call tk.c ((ok_law_gone T).p T.h_law_gone) (hr.mono (by decide)) rfl (sa_cons (se_v 2) (sa_cons (se_v 1) sa_nil)) (aLen_cons (aLen_cons aLen_nil))))))))
    (ss_one (ss_ret se_bl))
    ss_nil)
    (ss_one (ss_for po rfl (si_seq (se_v 0)) (sg_name 3 nd)
    (ss_cons (ss_set 4 nd (se_call tk.c ((ok_law_line T).p T.h_law_line) (hr.mono (by decide)) rfl (sa_cons (se_ix (fun _ _ => rfl) (se_v 2) se_int) (sa_cons (se_ix (fun _ _ => rfl) (se_v 2) se_int) sa_nil)) (aLen_cons (aLen_cons aLen_nil))))
    (ss_one (ss_if (sw_st (sw_and (st_cmp (op_neA hr.units) ab_ne (nomark _) (se_v 3) (se_v 2)) (sw_and1 (st_cmp (op_eqA hr.units) ab_eq (nomark _) (se_call tk.c ((ok_law_key T).p T.h_law_key) (hr.mono (by decide)) rfl (sa_cons (se_v 3) sa_nil) (aLen_cons aLen_nil)) (se_call tk.c ((ok_law_key T).p T.h_law_key) (hr.mono (by decide)) rfl (sa_cons (se_v 2) sa_nil) (aLen_cons aLen_nil))))))
    (ss_one (ss_if (sw_st (sw_and (st_cmp op_le (ab_cmp _) (nomark _) (se_call tk.c ((ok_law_far_on T).p T.h_law_far_on) (hr.mono (by decide)) rfl (sa_cons (se_ix (fun _ _ => rfl) (se_v 3) se_int) (sa_cons (se_ix (fun _ _ => rfl) (se_v 2) se_int) (sa_cons (se_v 4) sa_nil))) (aLen_cons (aLen_cons (aLen_cons aLen_nil)))) se_int) (sw_and1 (st_cmp op_le (ab_cmp _) (nomark _) (se_call tk.c ((ok_law_far_on T).p T.h_law_far_on) (hr.mono (by decide)) rfl (sa_cons (se_ix (fun _ _ => rfl) (se_v 2) se_int) (sa_cons (se_ix (fun _ _ => rfl) (se_v 3) se_int) (sa_cons (se_v 4) sa_nil))) (aLen_cons (aLen_cons (aLen_cons aLen_nil)))) se_int))))
    (ss_one (ss_ret se_bl))
    ss_nil))
    ss_nil)))))))
    (ss_one (ss_ret (se_and (se_cmp (op_eqA hr.units) ab_eq (nomark _) (se_lenSet rfl (units68 hr) rfl T.b_len rfl T.b_set (se_v 0)) (se_callB call_len ab_len rfl T.b_len bt_len (sa_cons (se_v 0) sa_nil))) (se_one (se_cmp (op_eqA hr.units) ab_eq (nomark _) (se_callB call_len ab_len rfl T.b_len bt_len (sa_cons (se_lc false [("_law_one", 2)] rfl nd rfl (by decide) (si_seq (se_v 1)) (blkOk_by (N := N_law_is_form) (sc := defScope s_law_is_form) (own := [("_law_one", 2)]) (by decide +kernel)) (fun _ _ _ _ _ => (sg_name 2 nd)) (fun _ _ _ _ _ => (sts_one (st_not (st_truth (se_call takes0.c ((ok_law_within T).p T.h_law_within) (hr.mono (by decide)) rfl (sa_cons (se_v 2) (sa_cons (se_v 0) sa_nil)) (aLen_cons (aLen_cons aLen_nil))))))) (fun _ _ _ _ _ => (se_v 2))) sa_nil)) se_int)))))))
theorem ok_law_steps (T : Txt K mg) : FnA P w K mg base 2 "_law_steps" s_law_steps ["_law_stroke"] F_law_steps :=
  fn_priv (N := N_law_steps) (k := 1) (B := B_law_steps) sc_law_steps fun f cdv A outer s H E hr tk po => by
    have nd := sc_law_steps.nd
    exact (ss_cons (ss_for po rfl (si_range1 rfl T.b_range (sa_cons se_int sa_nil)) (sg_name 1 nd)
    (ss_cons (ss_asg (se_call tk.c ((ok_law_moved T).p T.h_law_moved) (hr.mono (by decide)) rfl (sa_cons (se_tup (sa_cons (se_tup (sa_cons se_int (sa_cons se_int sa_nil))) (sa_cons (se_tup (sa_cons se_int (sa_cons se_int sa_nil))) sa_nil))) (sa_cons (se_v 1) (sa_cons se_int sa_nil))) (aLen_cons (aLen_cons (aLen_cons aLen_nil)))) (sg_tup rfl (sgs_cons (sg_name 5 nd) (sgs_cons (sg_name 6 nd) sgs_nil))))
    (ss_cons (ss_set 2 nd (se_tup (sa_cons (se_bin op_sub ab_sub (se_ix (fun _ _ => rfl) (se_ix (fun _ _ => rfl) (se_ix (fun _ _ => rfl) (se_v 0) se_int) se_int) se_int) (se_ix (fun _ _ => rfl) (se_ix (fun _ _ => rfl) (se_ix (fun _ _ => rfl) (se_v 0) se_int) se_int) se_int)) (sa_cons (se_bin op_sub ab_sub (se_ix (fun _ _ => rfl) (se_ix (fun _ _ => rfl) (se_ix (fun _ _ => rfl) (se_v 0) se_int) se_int) se_int) (se_ix (fun _ _ => rfl) (se_ix (fun _ _ => rfl) (se_ix (fun _ _ => rfl) (se_v 0) se_int) se_int) se_int)) sa_nil))))
    (ss_cons (ss_set 3 nd (se_tup (sa_cons (se_bin op_sub ab_sub (se_ix (fun _ _ => rfl) (se_ix (fun _ _ => rfl) (se_ix (fun _ _ => rfl) (se_v 0) se_int) se_int) se_int) (se_ix (fun _ _ => rfl) (se_ix (fun _ _ => rfl) (se_ix (fun _ _ => rfl) (se_v 0) se_int) se_int) se_int)) (sa_cons (se_bin op_sub ab_sub (se_ix (fun _ _ => rfl) (se_ix (fun _ _ => rfl) (se_ix (fun _ _ => rfl) (se_v 0) se_int) se_int) se_int) (se_ix (fun _ _ => rfl) (se_ix (fun _ _ => rfl) (se_ix (fun _ _ => rfl) (se_v 0) se_int) se_int) se_int)) sa_nil))))
    (ss_cons (ss_set 4 nd (se_callB (call_max2 rfl) (ab_i2 _) rfl T.b_max bt_max (sa_cons (se_bin op_addA (ab_add false) (se_callB call_abs (ab_i1 _) rfl T.b_abs bt_abs (sa_cons (se_ix (fun _ _ => rfl) (se_v 2) se_int) sa_nil)) (se_callB call_abs (ab_i1 _) rfl T.b_abs bt_abs (sa_cons (se_ix (fun _ _ => rfl) (se_v 2) se_int) sa_nil))) (sa_cons (se_bin op_addA (ab_add false) (se_callB call_abs (ab_i1 _) rfl T.b_abs bt_abs (sa_cons (se_ix (fun _ _ => rfl) (se_v 3) se_int) sa_nil)) (se_callB call_abs (ab_i1 _) rfl T.b_abs bt_abs (sa_cons (se_ix (fun _ _ => rfl) (se_v 3) se_int) sa_nil))) sa_nil))))
    (ss_one (ss_if (st_cmp (op_eqA hr.units) ab_eq (nomark _) (se_call tk.c ((ok_law_moved T).p T.h_law_moved) (hr.mono (by decide)) rfl (sa_cons (se_ix (fun _ _ => rfl) (se_v 0) se_int) (sa_cons (se_v 1) (sa_cons (se_v 4) sa_nil))) (aLen_cons (aLen_cons (aLen_cons aLen_nil)))) (se_ix (fun _ _ => rfl) (se_v 0) se_int))
    (ss_one (ss_ret (se_tup (sa_cons (se_v 1) (sa_cons (se_v 4) sa_nil)))))
    ss_nil)))))))
    (ss_one (ss_ret (se_tup (sa_cons se_int (sa_cons se_int sa_nil))))))
theorem ok_law_changed (T : Txt K mg) : FnA P w K mg base 3 "_law_changed" s_law_changed ["_law_script", "_law_strokes_here"] F_law_changed :=
  fn_priv (N := N_law_changed) (k := 2) (B := B_law_changed) sc_law_changed fun f cdv A outer s H E hr tk po => by
    have nd := sc_law_changed.nd
    exact (ss_cons (ss_set 2 nd (se_lst false sa_nil))
    (ss_cons (ss_for po rfl (si_range1 rfl T.b_range (sa_cons (se_callB call_len ab_len rfl T.b_len bt_len (sa_cons (se_v 1) sa_nil)) sa_nil)) (sg_name 3 nd)
    (ss_cons (ss_set 4 nd (se_call tk.c ((ok_law_row T).p T.h_law_row) (hr.mono (by decide)) rfl (sa_cons (se_call tk.c ((ok_law_cell T).p T.h_law_cell) (hr.mono (by decide)) rfl (sa_cons (se_v 0) (sa_cons (se_v 3) sa_nil)) (aLen_cons (aLen_cons aLen_nil))) (sa_cons se_int (sa_cons se_int sa_nil))) (aLen_cons (aLen_cons (aLen_cons aLen_nil)))))
    (ss_cons (ss_asg (se_ix (fun _ _ => rfl) (se_v 1) (se_v 3)) (sg_tup rfl (sgs_cons (sg_name 7 nd) (sgs_cons (sg_name 8 nd) (sgs_cons (sg_name 9 nd) sgs_nil)))))
    (ss_cons (ss_asg (se_call tk.c ((ok_law_steps T).p T.h_law_steps) (hr.mono (by decide)) rfl (sa_cons (se_ix (fun _ _ => rfl) (se_v 1) (se_v 3)) sa_nil) (aLen_cons aLen_nil)) (sg_tup rfl (sgs_cons (sg_name 10 nd) (sgs_cons (sg_name 11 nd) sgs_nil))))
    (ss_cons (ss_set 5 nd (se_lst false (sa_cons (se_tup (sa_cons (se_v 7) (sa_cons (se_v 8) (sa_cons (se_v 9) sa_nil)))) sa_nil)))
    (ss_cons (ss_if (sw_st (sw_and (st_cmp (op_eqA hr.units) ab_eq (nomark _) (se_bin op_mod ab_mod (se_ix (fun _ _ => rfl) (se_v 4) se_int) se_int) se_int) (sw_and1 (st_cmp op_gt (ab_cmp _) (nomark _) (se_v 11) se_int))))
    (ss_cons (ss_set 12 nd (se_call tk.c ((ok_law_moved T).p T.h_law_moved) (hr.mono (by decide)) rfl (sa_cons (se_v 8) (sa_cons (se_v 10) (sa_cons (se_bin op_addA (ab_add false) se_int (se_bin op_mod ab_mod (se_ix (fun _ _ => rfl) (se_v 4) se_int) (se_bin op_sub ab_sub (se_v 11) se_int))) sa_nil))) (aLen_cons (aLen_cons (aLen_cons aLen_nil)))))
    (ss_one (ss_set 5 nd (se_lst false (sa_cons (se_tup (sa_cons (se_v 7) (sa_cons (se_v 8) (sa_cons (se_v 12) sa_nil)))) (sa_cons (se_tup (sa_cons (se_v 7) (sa_cons (se_v 12) (sa_cons (se_v 9) sa_nil)))) sa_nil))))))
    ss_nil)
    (ss_cons (ss_if (st_cmp (op_eqA hr.units) ab_eq (nomark _) (se_bin op_mod ab_mod (se_ix (fun _ _ => rfl) (se_v 4) se_int) se_int) se_int)
    (ss_one (ss_setLc false 5 (sw_true rfl rfl rfl (by decide +kernel)) [("_law_one", 13)] rfl nd rfl (by decide) (si_seq (se_v 5)) (blkOk_by (N := N_law_changed) (sc := defScope s_law_changed) (own := [("_law_one", 13)]) (by decide +kernel)) (fun _ _ _ _ _ => (sg_name 13 nd)) (fun _ _ _ _ _ => sts_nil) (fun _ _ _ _ _ => (se_tup (sa_cons (se_ix (fun _ _ => rfl) (se_v 13) se_int) (sa_cons (se_ix (fun _ _ => rfl) (se_v 13) se_int) (sa_cons (se_ix (fun _ _ => rfl) (se_v 13) se_int) sa_nil)))))))
    ss_nil)
    (ss_cons (ss_if (st_cmp (op_eqA hr.units) ab_eq (nomark _) (se_bin op_mod ab_mod (se_ix (fun _ _ => rfl) (se_v 4) se_int) se_int) se_int)
    (ss_one (ss_set 5 nd (se_bin op_addA (ab_add false) (se_v 5) (se_v 5))))
    ss_nil)
    (ss_cons (ss_set 6 nd (se_bin op_mod ab_mod (se_bin op_fdivA ab_fdiv (se_ix (fun _ _ => rfl) (se_v 4) se_int) se_int) (se_bin op_addA (ab_add false) (se_callB call_len ab_len rfl T.b_len bt_len (sa_cons (se_v 2) sa_nil)) se_int)))
    (ss_one (ss_set 2 nd (se_bin op_addA (ab_add false) (se_bin op_addA (ab_add false) (se_sl false (se_v 2) so_no (so_so (se_v 6))) (se_v 5)) (se_sl false (se_v 2) (so_so (se_v 6)) so_no)))))))))))))
    (ss_one (ss_ret (se_v 2)))))
theorem ok_law_shifted (T : Txt K mg) : FnA P w K mg base 1 "_law_shifted" s_law_shifted ["_law_form", "_law_by"] F_law_shifted :=
  fn_priv (N := N_law_shifted) (k := 0) (B := B_law_shifted) sc_law_shifted fun f cdv A outer s H E hr tk po => by
    have nd := sc_law_shifted.nd
    exact (ss_cons (ss_set 2 nd (se_lst true sa_nil))
    (ss_cons (ss_for po rfl (si_seq (se_v 0)) (sg_tup rfl (sgs_cons (sg_name 3 nd) (sgs_cons (sg_name 4 nd) (sgs_cons (sg_name 5 nd) sgs_nil))))
    (ss_cons (ss_set 6 nd (se_lst true sa_nil))
    (ss_cons (ss_for po rfl (si_seq (se_lst false (sa_cons (se_v 4) (sa_cons (se_v 5) sa_nil)))) (sg_tup rfl (sgs_cons (sg_name 7 nd) (sgs_cons (sg_name 8 nd) sgs_nil)))
    (ss_one (ss_expr (se_ml PySem.F.slot_list_append PySem.F.type_list_append mt_append ab_app (se_v 6) (sa_cons (se_tup (sa_cons (se_tup (sa_cons (se_bin op_addA (ab_add false) (se_ix (fun _ _ => rfl) (se_v 7) se_int) (se_ix (fun _ _ => rfl) (se_ix (fun _ _ => rfl) (se_v 1) se_int) se_int)) (sa_cons (se_bin op_addA (ab_add false) (se_ix (fun _ _ => rfl) (se_v 7) se_int) (se_ix (fun _ _ => rfl) (se_ix (fun _ _ => rfl) (se_v 1) se_int) se_int)) sa_nil))) (sa_cons (se_tup (sa_cons (se_bin op_addA (ab_add false) (se_ix (fun _ _ => rfl) (se_v 8) se_int) (se_ix (fun _ _ => rfl) (se_ix (fun _ _ => rfl) (se_v 1) se_int) se_int)) (sa_cons (se_bin op_addA (ab_add false) (se_ix (fun _ _ => rfl) (se_v 8) se_int) (se_ix (fun _ _ => rfl) (se_ix (fun _ _ => rfl) (se_v 1) se_int) se_int)) sa_nil))) sa_nil))) sa_nil)))))
    (ss_one (ss_expr (se_ml PySem.F.slot_list_append PySem.F.type_list_append mt_append ab_app (se_v 2) (sa_cons (se_tup (sa_cons (se_v 3) (sa_cons (se_ix (fun _ _ => rfl) (se_v 6) se_int) (sa_cons (se_ix (fun _ _ => rfl) (se_v 6) se_int) sa_nil)))) sa_nil)))))))
    (ss_one (ss_ret (se_fz (se_v 2))))))
theorem ok_law (T : Txt K mg) : FnA P w K mg base 6 "law" s_law ["_law_script"] F_law :=
  fn_priv (N := N_law) (k := 5) (B := B_law) sc_law fun f cdv A outer s H E hr tk po => by
    have nd := sc_law.nd
    exact (ss_cons (ss_set 1 nd (se_call tk.c ((ok_law_strokes T).p T.h_law_strokes) (hr.mono (by decide)) rfl (sa_cons (se_v 0) (sa_cons se_int (sa_cons se_int sa_nil))) (aLen_cons (aLen_cons (aLen_cons aLen_nil)))))
    (ss_cons (ss_set 2 nd (se_call tk.c ((ok_form_of T).p T.h_form_of) (hr.mono (by decide)) rfl (sa_cons (se_v 1) sa_nil) (aLen_cons aLen_nil)))
    (ss_cons (ss_if (st_not (st_truth (se_call tk.c ((ok_law_is_form T).p T.h_law_is_form) (hr.mono (by decide)) rfl (sa_cons (se_v 2) (sa_cons (se_v 1) sa_nil)) (aLen_cons (aLen_cons aLen_nil)))))
    (ss_one (ss_ret se_bl))
    ss_nil)
    (ss_cons (ss_if (sw_st (sw_or (st_cmp (op_neA hr.units) ab_ne (nomark _) (se_call tk.c ((ok_form_of T).p T.h_form_of) (hr.mono (by decide)) rfl (sa_cons (se_call tk.c ((ok_law_changed T).p T.h_law_changed) (hr.mono (by decide)) rfl (sa_cons (se_v 0) (sa_cons (se_v 1) sa_nil)) (aLen_cons (aLen_cons aLen_nil))) sa_nil) (aLen_cons aLen_nil)) (se_v 2)) (sw_or1 (st_cmp (op_neA hr.units) ab_ne (nomark _) (se_call tk.c ((ok_form_of T).p T.h_form_of) (hr.mono (by decide)) rfl (sa_cons (se_callTy (gh_call call_list_of) (ab_list false) rfl T.b_list bt_list (sa_cons (se_v 2) sa_nil)) sa_nil) (aLen_cons aLen_nil)) (se_v 2)))))
    (ss_one (ss_ret se_bl))
    ss_nil)
    (ss_cons (ss_setLc false 3 (sw_true rfl rfl rfl (by decide +kernel)) [("_law_ink", 7), ("_law_begin", 8), ("_law_end", 9)] rfl nd rfl (by decide) (si_seq (se_v 1)) (blkOk_by (N := N_law) (sc := defScope s_law) (own := [("_law_ink", 7), ("_law_begin", 8), ("_law_end", 9)]) (by decide +kernel)) (fun _ _ _ _ _ => (sg_tup rfl (sgs_cons (sg_name 7 nd) (sgs_cons (sg_name 8 nd) (sgs_cons (sg_name 9 nd) sgs_nil))))) (fun _ _ _ _ _ => sts_nil) (fun _ _ _ _ _ => (se_tup (sa_cons (se_ix (fun _ _ => rfl) (se_lst false (sa_cons se_int (sa_cons se_int (sa_cons se_int (sa_cons se_int (sa_cons se_int (sa_cons se_int (sa_cons se_int (sa_cons se_int sa_nil))))))))) (se_v 7)) (sa_cons (se_v 8) (sa_cons (se_v 9) sa_nil))))))
    (ss_cons (ss_setLc false 4 (sw_true rfl rfl rfl (by decide +kernel)) [("_law_ink", 7), ("_law_begin", 8), ("_law_end", 9)] rfl nd rfl (by decide) (si_seq (se_v 2)) (blkOk_by (N := N_law) (sc := defScope s_law) (own := [("_law_ink", 7), ("_law_begin", 8), ("_law_end", 9)]) (by decide +kernel)) (fun _ _ _ _ _ => (sg_tup rfl (sgs_cons (sg_name 7 nd) (sgs_cons (sg_name 8 nd) (sgs_cons (sg_name 9 nd) sgs_nil))))) (fun _ _ _ _ _ => sts_nil) (fun _ _ _ _ _ => (se_tup (sa_cons (se_ix (fun _ _ => rfl) (se_lst false (sa_cons se_int (sa_cons se_int (sa_cons se_int (sa_cons se_int (sa_cons se_int (sa_cons se_int (sa_cons se_int (sa_cons se_int sa_nil))))))))) (se_v 7)) (sa_cons (se_v 8) (sa_cons (se_v 9) sa_nil))))))
    (ss_cons (ss_if (st_cmp (op_neA hr.units) ab_ne (nomark _) (se_call tk.c ((ok_form_of T).p T.h_form_of) (hr.mono (by decide)) rfl (sa_cons (se_v 3) sa_nil) (aLen_cons aLen_nil)) (se_callTy call_tuple_of ab_tuple rfl T.b_tuple bt_tuple (sa_cons (se_callB (gh_call (cr_sortedN (units68 hr))) (ab_sorted false) rfl T.b_sorted bt_sorted (sa_cons (se_v 4) sa_nil)) sa_nil)))
    (ss_one (ss_ret se_bl))
    ss_nil)
    (ss_cons (ss_set 5 nd (se_call tk.c ((ok_law_row T).p T.h_law_row) (hr.mono (by decide)) rfl (sa_cons (se_call tk.c ((ok_law_cell T).p T.h_law_cell) (hr.mono (by decide)) rfl (sa_cons (se_v 0) (sa_cons se_int sa_nil)) (aLen_cons (aLen_cons aLen_nil))) (sa_cons se_int (sa_cons se_int sa_nil))) (aLen_cons (aLen_cons (aLen_cons aLen_nil)))))
    (ss_cons (ss_set 6 nd (se_tup (sa_cons (se_tup (sa_cons (se_bin op_sub ab_sub (se_ix (fun _ _ => rfl) (se_v 5) se_int) se_int) (sa_cons (se_bin op_sub ab_sub (se_ix (fun _ _ => rfl) (se_v 5) se_int) se_int) sa_nil))) (sa_cons (se_tup (sa_cons (se_bin op_sub ab_sub (se_ix (fun _ _ => rfl) (se_v 5) se_int) se_int) (sa_cons (se_bin op_addA (ab_add false) (se_bin op_sub ab_sub (se_ix (fun _ _ => rfl) (se_v 5) se_int) se_int) (se_bin op_mulY ab_mulY se_int (se_bin op_mod ab_mod (se_ix (fun _ _ => rfl) (se_v 5) se_int) se_int))) sa_nil))) sa_nil))))
    (ss_one (ss_ret (se_cmp (op_eqA hr.units) ab_eq (nomark _) (se_call tk.c ((ok_form_of T).p T.h_form_of) (hr.mono (by decide)) rfl (sa_cons (se_call tk.c ((ok_law_shifted T).p T.h_law_shifted) (hr.mono (by decide)) rfl (sa_cons (se_v 1) (sa_cons (se_v 6) sa_nil)) (aLen_cons (aLen_cons aLen_nil))) sa_nil) (aLen_cons aLen_nil)) (se_callTy call_tuple_of ab_tuple rfl T.b_tuple bt_tuple (sa_cons (se_callB (gh_call (cr_sortedN (units68 hr))) (ab_sorted false) rfl T.b_sorted bt_sorted (sa_cons (se_call tk.c ((ok_law_shifted T).p T.h_law_shifted) (hr.mono (by decide)) rfl (sa_cons (se_v 2) (sa_cons (se_v 6) sa_nil)) (aLen_cons (aLen_cons aLen_nil))) sa_nil)) sa_nil))))))))))))))
end
end Lw

namespace Lw
open PySem L2 Wk
theorem sign_ev (a b : Int) (ha : a.natAbs < 2 ^ 63) (hb : b.natAbs < 2 ^ 63) : F_sign_of [.tuple [.int a, .int b]] = .ok (.int (sgn a b)) := by
  have m1 : mulOk (2 * a) a = true := mulOk_of (.inr (by omega))
  have m2 : mulOk b b = true := mulOk_of (.inr (by omega))
  unfold F_sign_of B_sign_of sgn
  rw [pfOf_ap]
  by_cases h1 : 0 ≤ a <;> by_cases h2 : 0 ≤ b <;> by_cases h3 : a ≤ 0 <;> by_cases h4 : b ≤ 0 <;> by_cases h5 : b * b < 2 * a * a <;> by_cases h6 : 0 < a + b <;> by_cases h7 : a < 0 <;> by_cases h8 : b < 0 <;> simp [h1, h2, h3, h4, h5, h6, h7, h8, m1, m2] <;> first | done | (exfalso; omega)
theorem pminus_ev (x y : Nm) : F_minus [x.e, y.e] = .ok (x.sub y).e := minus_ev x.a x.b y.a y.b
theorem pplus_ev (x y : Nm) : F_plus [x.e, y.e] = .ok (x.add y).e := plus_ev x.a x.b y.a y.b
theorem below_ev {x y : Nm} (hx : x.bd big) (hy : y.bd big) : F_is_below [x.e, y.e] = .ok (.bool (decide (x < y))) := by
  have h := pminus_ev x y
  have k := sign_ev (x.a - y.a) (x.b - y.b) (by unfold Nm.bd big at *; omega) (by unfold Nm.bd big at *; omega)
  have e : (x.sub y).e = .tuple [.int (x.a - y.a), .int (x.b - y.b)] := rfl
  rw [e] at h
  unfold F_is_below B_is_below
  rw [pfOf_ap]
  generalize x.e = X at *
  generalize y.e = Y at *
  simp [h, k, Nm.lt_iff, Nm.sg]
theorem p_at0 (p : P4) : atI [p.x.e, p.y.e] 0 = some p.x.e := rfl
theorem p_e (p : P4) : p.e = .tuple [p.x.e, p.y.e] := rfl
theorem zero_e : Nm.zero.e = .tuple [.int 0, .int 0] := rfl
theorem direction_ev (p q : P4) : F_direction_of [p.e, q.e] = .ok (.int (dirS p q)) := by
  have m1 := pminus_ev q.x p.x
  have m2 := pminus_ev q.y p.y
  have e1 := fun h => ev_eqN false (q.y.sub p.y) Nm.zero h
  have e2 := fun h => ev_eqN false (q.x.sub p.x) Nm.zero h
  have e3 := fun h => ev_eqN false (q.x.sub p.x) (q.y.sub p.y) h
  rw [zero_e] at e1 e2
  rw [p_e p, p_e q]
  unfold F_direction_of B_direction_of dirS
  rw [pfOf_ap]
  generalize (q.x.sub p.x).e = A1 at *
  generalize (q.y.sub p.y).e = A2 at *
  generalize q.x.e = X1 at *
  generalize q.y.e = Y1 at *
  generalize p.x.e = X2 at *
  generalize p.y.e = Y2 at *
  by_cases h1 : q.y.sub p.y = Nm.zero
  · simp [m1, m2, e1, h1]
  · by_cases h2 : q.x.sub p.x = Nm.zero
    · simp [m1, m2, e1, h1, e2, h2]
    · by_cases h3 : q.x.sub p.x = q.y.sub p.y
      · simp [m1, m2, e1, h1, e2, h2, e3, h3]
      · simp [m1, m2, e1, h1, e2, h2, e3, h3]
theorem line_ev (p : P4) {d : Int} (hd : d = 0 ∨ d = 1 ∨ d = 2 ∨ d = 3) : F_line_of [p.e, .int d] = .ok (lineS p d).e := by
  have m1 := pminus_ev p.x p.y
  have m2 := pplus_ev p.x p.y
  rw [p_e p]
  unfold F_line_of B_line_of lineS
  rw [pfOf_ap]
  rcases hd with e | e | e | e <;> subst e <;> simp [m1, m2]
theorem along_ev (p : P4) {d : Int} (hd : d = 0 ∨ d = 1 ∨ d = 2 ∨ d = 3) : F_along [p.e, .int d] = .ok (alg p d).e := by
  rw [p_e p]
  unfold F_along B_along alg
  rw [pfOf_ap]
  rcases hd with e | e | e | e <;> subst e <;> simp
theorem ahead_ev {p q : P4} {d : Int} (hd : d = 0 ∨ d = 1 ∨ d = 2 ∨ d = 3) (hp : p.bd big) (hq : q.bd big) : F_is_ahead [p.e, q.e, .int d] = .ok (.bool (decide (alg p d < alg q d))) := by
  have a1 := along_ev p hd
  have a2 := along_ev q hd
  have b := below_ev (alg_bd hp d) (alg_bd hq d)
  unfold F_is_ahead B_is_ahead
  rw [pfOf_ap]
  generalize p.e = P at *
  generalize q.e = Q at *
  generalize (alg p d).e = A1 at *
  generalize (alg q d).e = A2 at *
  simp [a1, a2, b]
/-- places of a line that are not too far -/
def okZ (k : LK) (z : Nm) : Prop := (pt k.d k.l z).bd big
theorem ahead_pt {k : LK} (hk : k.fine) {x y : Nm} (hx : okZ k x) (hy : okZ k y) : F_is_ahead [(pt k.d k.l x).e, (pt k.d k.l y).e, .int k.d] = .ok (.bool (decide (x < y))) := by
  have := ahead_ev hk hx hy
  rw [pt_alg, pt_alg] at this
  exact this
theorem stretch_loop {k : LK} (hk : k.fine) (w0 : U) : ∀ (S A B : List Itv) (b e : Nm) (y6 : Option U), (∀ i ∈ S ++ A ++ B, okZ k i.1 ∧ okZ k i.2) → okZ k b → okZ k e → S.length + A.length + B.length ≤ 10000 → ∃ A' B' b' e' y6', forGo (gN 6) L_with_stretch_0 (S.map fun i => U.d (itE k i)) [some w0, some (.d (pt k.d k.l b).e), some (.d (pt k.d k.l e).e), some (.d (.int k.d)), some (.ref 0), some (.ref 1), y6] [.lst (A.map (itE k)), .lst (B.map (itE k))]
      = .next [some w0, some (.d (pt k.d k.l b').e), some (.d (pt k.d k.l e').e), some (.d (.int k.d)), some (.ref 0), some (.ref 1), y6'] [.lst (A'.map (itE k)), .lst (B'.map (itE k))] ∧ A' ++ [(b', e')] ++ B' = wst S A B b e ∧ A'.length + B'.length ≤ 10000
  | [], A, B, b, e, y6, _, _, _, hl => ⟨A, B, b, e, y6, rfl, rfl, by simpa using hl⟩
  | s :: S, A, B, b, e, y6, ho, hb, he, hl => by
    have os := ho s (by simp)
    have q1 := ahead_pt hk os.2 hb
    have q2 := ahead_pt hk he os.1
    have q3 := ahead_pt hk os.1 hb
    have q4 := ahead_pt hk he os.2
    have it : itE k s = .tuple [(pt k.d k.l s.1).e, (pt k.d k.l s.2).e] := rfl
    rw [List.length_cons] at hl
    have f1 : fits ((A.map (itE k)).length + 1) = true := fits_of (by rw [List.length_map]; omega)
    have f2 : fits ((B.map (itE k)).length + 1) = true := fits_of (by rw [List.length_map]; omega)
    have ia : ∀ X : List Itv, (X ++ [s]).map (itE k) = X.map (itE k) ++ [.tuple [(pt k.d k.l s.1).e, (pt k.d k.l s.2).e]] := fun X => by rw [List.map_append]; rfl
    rw [List.map_cons, forGo_cons, ev_gN]
    simp only [List.set_cons_succ, List.set_cons_zero]
    unfold wst
    by_cases c1 : s.2 < b
    · obtain ⟨A', B', b', e', y6', r1, r2, r3⟩ := stretch_loop hk w0 S (A ++ [s]) B b e (some (.d (itE k s))) (fun i hi => ho i (by simp only [List.mem_append, List.mem_cons, List.not_mem_nil, or_false] at *; grind)) hb he (by rw [List.length_append, List.length_singleton]; omega)
      refine ⟨A', B', b', e', y6', ?_, by rw [if_pos c1]; exact r2, r3⟩
      rw [← r1, ia A, it]
      generalize A.map (itE k) = AA at *
      generalize B.map (itE k) = BB at *
      generalize (pt k.d k.l s.1).e = S1 at *
      generalize (pt k.d k.l s.2).e = S2 at *
      unfold L_with_stretch_0
      simp [q1, c1, f1]
    · rw [if_neg c1]
      by_cases c2 : e < s.1
      · obtain ⟨A', B', b', e', y6', r1, r2, r3⟩ := stretch_loop hk w0 S A (B ++ [s]) b e (some (.d (itE k s))) (fun i hi => ho i (by simp only [List.mem_append, List.mem_cons, List.not_mem_nil, or_false] at *; grind)) hb he (by rw [List.length_append, List.length_singleton]; omega)
        refine ⟨A', B', b', e', y6', ?_, by rw [if_pos c2]; exact r2, r3⟩
        rw [← r1, ia B, it]
        generalize A.map (itE k) = AA at *
        generalize B.map (itE k) = BB at *
        generalize (pt k.d k.l s.1).e = S1 at *
        generalize (pt k.d k.l s.2).e = S2 at *
        unfold L_with_stretch_0
        simp [q1, c1, q2, c2, f2]
      · rw [if_neg c2]
        obtain ⟨A', B', b', e', y6', r1, r2, r3⟩ := stretch_loop hk w0 S A B (if s.1 < b then s.1 else b) (if e < s.2 then s.2 else e) (some (.d (itE k s))) (fun i hi => ho i (by simp only [List.mem_append, List.mem_cons, List.not_mem_nil, or_false] at *; grind)) (by by_cases c : s.1 < b <;> simp only [c, if_true, if_false] <;> first | exact os.1 | exact hb) (by by_cases c : e < s.2 <;> simp only [c, if_true, if_false] <;> first | exact os.2 | exact he) (by omega)
        refine ⟨A', B', b', e', y6', ?_, r2, r3⟩
        rw [← r1, it]
        generalize A.map (itE k) = AA at *
        generalize B.map (itE k) = BB at *
        unfold L_with_stretch_0
        by_cases c3 : s.1 < b
        · by_cases c4 : e < s.2
          · rw [if_pos c3, if_pos c4]
            generalize (pt k.d k.l s.1).e = S1 at *
            generalize (pt k.d k.l s.2).e = S2 at *
            simp [q1, c1, q2, c2, q3, c3, q4, c4]
          · rw [if_pos c3, if_neg c4]
            generalize (pt k.d k.l s.1).e = S1 at *
            generalize (pt k.d k.l s.2).e = S2 at *
            simp [q1, c1, q2, c2, q3, c3, q4, c4]
        · by_cases c4 : e < s.2
          · rw [if_neg c3, if_pos c4]
            generalize (pt k.d k.l s.1).e = S1 at *
            generalize (pt k.d k.l s.2).e = S2 at *
            simp [q1, c1, q2, c2, q3, c3, q4, c4]
          · rw [if_neg c3, if_neg c4]
            generalize (pt k.d k.l s.1).e = S1 at *
            generalize (pt k.d k.l s.2).e = S2 at *
            simp [q1, c1, q2, c2, q3, c3, q4, c4]
theorem addD_lst {b : Bool} {u w : U} {h : Sto} {xs ys : List D} (nu : intOf u = none) (nt : tupOf u = none) (ns : strOf u = none) (hu : listOf h u = some xs) (hw : listOf h w = some ys) (hl : xs.length + ys.length ≤ 16777216) : opAdd b u w h = mkL b (xs ++ ys) h := by
  unfold opAdd
  simp only [nu, nt, ns, hu, hw, fits_of hl, if_true]
theorem stretch_ev {k : LK} (hk : k.fine) {S : List Itv} {b e : Nm} (ho : ∀ i ∈ S, okZ k i.1 ∧ okZ k i.2) (hb : okZ k b) (he : okZ k e) (hl : S.length ≤ 9000) : F_with_stretch [.list (S.map (itE k)), (pt k.d k.l b).e, (pt k.d k.l e).e, .int k.d] = .ok (.list ((addI S b e).map (itE k))) := by
  obtain ⟨A', B', b', e', y6', r1, r2, r3⟩ := stretch_loop hk (.d (.list (S.map (itE k)))) S [] [] b e none (by simpa using ho) hb he (by simp; omega)
  rw [List.map_nil] at r1
  have hm : (S.map fun i => U.d (itE k i)) = (S.map (itE k)).map U.d := by rw [List.map_map]; rfl
  rw [hm] at r1
  have res : (addI S b e).map (itE k) = A'.map (itE k) ++ [.tuple [(pt k.d k.l b').e, (pt k.d k.l e').e]] ++ B'.map (itE k) := by
    unfold addI
    rw [← r2, List.map_append, List.map_append]
    rfl
  have lA : (A'.map (itE k)).length + (B'.map (itE k)).length ≤ 10000 := by rw [List.length_map, List.length_map]; exact r3
  rw [res]
  unfold F_with_stretch B_with_stretch
  rw [pfOf_ap]
  generalize A'.map (itE k) = AA at *
  generalize B'.map (itE k) = BB at *
  generalize (pt k.d k.l b').e = b1 at *
  generalize (pt k.d k.l e').e = e1 at *
  generalize (pt k.d k.l b).e = b0 at *
  generalize (pt k.d k.l e).e = e0 at *
  generalize S.map (itE k) = SS at *
  have ad1 : opAdd false (.ref 0) (.d (.list [.tuple [b1, e1]])) [.lst AA, .lst BB] = .ok (.d (.list (AA ++ [.tuple [b1, e1]]))) [.lst AA, .lst BB] := addD_lst rfl rfl rfl rfl rfl (by rw [List.length_singleton]; omega)
  have ad2 : opAdd false (.d (.list (AA ++ [.tuple [b1, e1]]))) (.ref 1) [.lst AA, .lst BB] = .ok (.d (.list (AA ++ [.tuple [b1, e1]] ++ BB))) [.lst AA, .lst BB] := addD_lst rfl rfl rfl rfl rfl (by rw [List.length_append, List.length_singleton]; omega)
  simp [r1, ad1, ad2]
end Lw

namespace Lw
open PySem L2 Wk
def bdS (s : Stk) : Prop := s.a.bd big ∧ s.b.bd big
theorem okZ_of {L : List Stk} {M : Tbl} (T : TOk L M) (hL : ∀ s ∈ L, s.ok ∧ bdS s) : ∀ x ∈ M, ∀ i ∈ x.2, okZ x.1 i.1 ∧ okZ x.1 i.2 := fun x hx i hi => by
  constructor
  · obtain ⟨s, hs, e1, e2⟩ := T.lo x hx i hi
    have h := (hL s hs).1.end_lo
    rw [e1, e2] at h
    unfold okZ
    rcases h with h | h
    · rw [← h]; exact (hL s hs).2.1
    · rw [← h]; exact (hL s hs).2.2
  · obtain ⟨s, hs, e1, e2⟩ := T.hi x hx i hi
    have h := (hL s hs).1.end_hi
    rw [e1, e2] at h
    unfold okZ
    rcases h with h | h
    · rw [← h]; exact (hL s hs).2.1
    · rw [← h]; exact (hL s hs).2.2
theorem getD_map_itE (M : Tbl) (k : LK) : ((valN (M.map enT) k.n).getD (.d (.list []))) = .d (.list (((tget M k).getD []).map (itE k))) := by
  rw [valN_en]
  cases tget M k <;> rfl
theorem stk_e (s : Stk) : s.e = .tuple [.int s.ink, s.a.e, s.b.e] := rfl
theorem form_step {L : List Stk} {M : Tbl} (T : TOk L M) (hL : ∀ s ∈ L, s.ok ∧ bdS s) {n : Nat} (tl : TLn n M) (hn : n < 4000) {s : Stk} (hs : s.ok) (hb : bdS s) (w0 : U) (y6 y7 y8 : Option U) :
    ∃ z4 z5 z6 z7, L_form_of_0 [some w0, some (.ref 0), none, some (.d (.int s.ink)), some (.d s.a.e), some (.d s.b.e), y6, y7, y8] [.dtp (M.map enT)] = .next [some w0, some (.ref 0), none, some (.d (.int s.ink)), z4, z5, z6, z7, y8] [.dtp ((tadd M s).map enT)] := by
  have d1 := direction_ev s.a s.b
  have hd := dirS_four s.a s.b
  have a1 := ahead_ev hd hb.2 hb.1
  have ka : s.a = pt s.key.d s.key.l s.za := hs.a_pt
  have kb : s.b = pt s.key.d s.key.l s.zb := hs.b_pt
  have kd : s.key.d = dirS s.a s.b := rfl
  have ok0 : ∀ i ∈ (tget M s.key).getD [], okZ s.key i.1 ∧ okZ s.key i.2 := fun i hi => by
    cases e : tget M s.key with
    | none => rw [e] at hi; cases hi
    | some S =>
      rw [e] at hi
      exact okZ_of T hL _ (tget_some e) i hi
  have ln0 : ((tget M s.key).getD []).length ≤ 9000 := by
    cases e : tget M s.key with
    | none => simp
    | some S => have := tl.s _ (tget_some e); simp at *; omega
  have oa : okZ s.key s.za := by unfold okZ; rw [← ka]; exact hb.1
  have ob : okZ s.key s.zb := by unfold okZ; rw [← kb]; exact hb.2
  have ask1 : ask ((M.map enT).length < sizeLine) = true := ask_t (by rw [List.length_map, sizeLine_eq]; have := tl.l; omega)
  have fine := s.key_fine
  have put : ∀ S : List Itv, nPut (.ref 0) (.d s.key.e) (.d (.list (S.map (itE s.key)))) [.dtp (M.map enT)] = some [.dtp ((tput M s.key S).map enT)] := fun S => by
    unfold nPut
    simp only [List.getElem?_cons_zero, LK.keyN, ask1, if_true, List.set_cons_zero]
    rw [putN_en]
  have gv := getD_map_itE M s.key
  have hkn := s.key.keyN
  have ke : s.key.e = .tuple [.int s.ink, .int (dirS s.a s.b), (lineS s.a (dirS s.a s.b)).e] := rfl
  have dn : dnOf [.dtp (M.map enT)] (.ref 0) = some (M.map enT) := rfl
  have par : ∀ (env : Env') (h : Sto), sPar 4 5 (aCons (eV 5) (aCons (eV 4) aNil)) env h = (aCons (eV 5) (aCons (eV 4) aNil) env h).then_ env fun us h1 => match us with | [u, w] => .next ((env.set 4 (some u)).set 5 (some w)) h1 | _ => .stuck := fun _ _ => rfl
  have l1 := line_ev s.a hd
  have l2 := line_ev s.b hd
  rw [hs.l] at l2
  unfold tadd
  by_cases c : s.zb < s.za
  · have hlo : s.lo = s.zb := by unfold Stk.lo; rw [if_pos c]
    have hhi : s.hi = s.za := by unfold Stk.hi; rw [if_pos c]
    have c' : alg s.b (dirS s.a s.b) < alg s.a (dirS s.a s.b) := c
    have w := stretch_ev fine ok0 ob oa ln0
    rw [← ka, ← kb] at w
    have pw := put (addI ((tget M s.key).getD []) s.lo s.hi)
    rw [hlo, hhi] at *
    refine ⟨some (.d s.b.e), some (.d s.a.e), some (.d (.int (dirS s.a s.b))), some (.d s.key.e), ?_⟩
    generalize (tput M s.key (addI ((tget M s.key).getD []) s.zb s.za)).map enT = M2 at *
    generalize (addI ((tget M s.key).getD []) s.zb s.za).map (itE s.key) = S2 at *
    generalize ((tget M s.key).getD []).map (itE s.key) = S1 at *
    generalize M.map enT = M1 at *
    rw [kd] at w
    rw [ke] at hkn pw ⊢
    generalize s.key.n = kn at *
    generalize s.a.e = sa at *
    generalize s.b.e = sb at *
    generalize (lineS s.a (dirS s.a s.b)).e = le at *
    unfold L_form_of_0
    simp [d1, a1, c', l2, dn, hkn, gv, w, ev_NPutS, pw, par]
  · have hlo : s.lo = s.za := by unfold Stk.lo; rw [if_neg c]
    have hhi : s.hi = s.zb := by unfold Stk.hi; rw [if_neg c]
    have c' : ¬ alg s.b (dirS s.a s.b) < alg s.a (dirS s.a s.b) := c
    have w := stretch_ev fine ok0 oa ob ln0
    rw [← ka, ← kb] at w
    have pw := put (addI ((tget M s.key).getD []) s.lo s.hi)
    rw [hlo, hhi] at *
    refine ⟨some (.d s.a.e), some (.d s.b.e), some (.d (.int (dirS s.a s.b))), some (.d s.key.e), ?_⟩
    generalize (tput M s.key (addI ((tget M s.key).getD []) s.za s.zb)).map enT = M2 at *
    generalize (addI ((tget M s.key).getD []) s.za s.zb).map (itE s.key) = S2 at *
    generalize ((tget M s.key).getD []).map (itE s.key) = S1 at *
    generalize M.map enT = M1 at *
    rw [kd] at w
    rw [ke] at hkn pw ⊢
    generalize s.key.n = kn at *
    generalize s.a.e = sa at *
    generalize s.b.e = sb at *
    generalize (lineS s.a (dirS s.a s.b)).e = le at *
    unfold L_form_of_0
    simp [d1, a1, c', l1, dn, hkn, gv, w, ev_NPutS, pw]
theorem form_loop (w0 : U) : ∀ (R P : List Stk) (M : Tbl) (y3 y4 y5 y6 y7 y8 : Option U), TOk P M → TLn P.length M → (∀ s ∈ P, s.ok ∧ bdS s) → (∀ s ∈ R, s.ok ∧ bdS s) → P.length + R.length ≤ 4000 →
    ∃ z3 z4 z5 z6 z7, forGo (gTup' 3 (gCons' (gN 3) (gCons' (gN 4) (gCons' (gN 5) gNil')))) L_form_of_0 (R.map fun s => U.d s.e) [some w0, some (.ref 0), none, y3, y4, y5, y6, y7, y8] [.dtp (M.map enT)] = .next [some w0, some (.ref 0), none, z3, z4, z5, z6, z7, y8] [.dtp ((R.foldl tadd M).map enT)]
  | [], P, M, y3, y4, y5, y6, y7, y8, _, _, _, _, _ => ⟨y3, y4, y5, y6, y7, rfl⟩
  | s :: R, P, M, y3, y4, y5, y6, y7, y8, T, tl, hP, hR, hl => by
    have hs := hR s List.mem_cons_self
    rw [List.length_cons] at hl
    obtain ⟨u4, u5, u6, u7, e1⟩ := form_step T hP tl (by omega) hs.1 hs.2 w0 y6 y7 y8
    obtain ⟨z3, z4, z5, z6, z7, e2⟩ := form_loop w0 R (P ++ [s]) (tadd M s) (some (.d (.int s.ink))) u4 u5 u6 u7 y8 (T.add hs.1) (by rw [List.length_append]; exact tl.add s) (fun t ht => by
      rcases List.mem_append.mp ht with q | q
      · exact hP t q
      · rw [List.mem_singleton.mp q]; exact hs) (fun t ht => hR t (List.mem_cons_of_mem _ ht)) (by rw [List.length_append, List.length_singleton]; omega)
    refine ⟨z3, z4, z5, z6, z7, ?_⟩
    rw [List.map_cons, forGo_cons]
    have tg : gTup' 3 (gCons' (gN 3) (gCons' (gN 4) (gCons' (gN 5) gNil'))) (.d s.e) [some w0, some (.ref 0), none, y3, y4, y5, y6, y7, y8] [.dtp (M.map enT)] = some [some w0, some (.ref 0), none, some (.d (.int s.ink)), some (.d s.a.e), some (.d s.b.e), y6, y7, y8] := rfl
    rw [tg]
    dsimp only
    rw [e1, SRes.seq_next, e2, List.foldl_cons]
theorem key_e (k : LK) : k.n.data = k.e := by
  unfold LK.n LK.e Nm.e
  simp [NestedKey.data, NestedKey.datas]
theorem form_in {k : LK} {F1 : Ob} (w0 : U) : ∀ (S : List Itv) (acc : List D) (y3 y4 y5 y6 : Option U) (y8 : Option U), acc.length + S.length ≤ 16777216 →
    ∃ z4 z5, forGo (gTup' 2 (gCons' (gN 4) (gCons' (gN 5) gNil'))) L_form_of_1 (S.map fun i => U.d (itE k i)) [some w0, some (.ref 0), some (.ref 1), y3, y4, y5, y6, some (.d k.e), y8] [F1, .lst acc] = .next [some w0, some (.ref 0), some (.ref 1), y3, z4, z5, y6, some (.d k.e), y8] [F1, .lst (acc ++ (S.map (mkS k)).map Stk.e)]
  | [], acc, y3, y4, y5, y6, y8, _ => ⟨y4, y5, by simp⟩
  | i :: S, acc, y3, y4, y5, y6, y8, hl => by
    rw [List.length_cons] at hl
    obtain ⟨z4, z5, e2⟩ := form_in w0 S (acc ++ [(mkS k i).e]) y3 (some (.d (pt k.d k.l i.1).e)) (some (.d (pt k.d k.l i.2).e)) y6 y8 (by rw [List.length_append, List.length_singleton]; omega)
    refine ⟨z4, z5, ?_⟩
    rw [List.map_cons, forGo_cons]
    have tg : gTup' 2 (gCons' (gN 4) (gCons' (gN 5) gNil')) (.d (itE k i)) [some w0, some (.ref 0), some (.ref 1), y3, y4, y5, y6, some (.d k.e), y8] [F1, .lst acc] = some [some w0, some (.ref 0), some (.ref 1), y3, some (.d (pt k.d k.l i.1).e), some (.d (pt k.d k.l i.2).e), y6, some (.d k.e), y8] := rfl
    rw [tg]
    dsimp only
    have ft : fits (acc.length + 1) = true := fits_of (by omega)
    have st : L_form_of_1 [some w0, some (.ref 0), some (.ref 1), y3, some (.d (pt k.d k.l i.1).e), some (.d (pt k.d k.l i.2).e), y6, some (.d k.e), y8] [F1, .lst acc] = .next [some w0, some (.ref 0), some (.ref 1), y3, some (.d (pt k.d k.l i.1).e), some (.d (pt k.d k.l i.2).e), y6, some (.d k.e), y8] [F1, .lst (acc ++ [(mkS k i).e])] := by
      have e1 : (mkS k i).e = .tuple [.int k.ink, (pt k.d k.l i.1).e, (pt k.d k.l i.2).e] := rfl
      rw [e1]
      unfold LK.e L_form_of_1
      generalize (pt k.d k.l i.1).e = p1
      generalize (pt k.d k.l i.2).e = p2
      simp [ft]
    rw [st, SRes.seq_next, e2, List.map_cons, List.map_cons, List.append_assoc]
    rfl
theorem form_out {F1 : Ob} (w0 : U) (n : Nat) : ∀ (M : Tbl) (acc : List D) (y3 y4 y5 y6 y7 y8 : Option U), (∀ x ∈ M, x.2.length ≤ n) → acc.length + M.length * n ≤ 16777216 →
    ∃ z4 z5 z7 z8, forGo (gTup' 2 (gCons' (gN 7) (gCons' (gN 8) gNil'))) L_form_of_2 ((M.map enT).map pairU) [some w0, some (.ref 0), some (.ref 1), y3, y4, y5, y6, y7, y8] [F1, .lst acc] = .next [some w0, some (.ref 0), some (.ref 1), y3, z4, z5, y6, z7, z8] [F1, .lst (acc ++ (tstk M).map Stk.e)]
  | [], acc, y3, y4, y5, y6, y7, y8, _, _ => ⟨y4, y5, y7, y8, by simp [tstk]⟩
  | x :: M, acc, y3, y4, y5, y6, y7, y8, hs, hl => by
    have hx := hs x List.mem_cons_self
    have hl2 : (M.length + 1) * n = M.length * n + n := by rw [Nat.add_mul, Nat.one_mul]
    rw [List.length_cons, hl2] at hl
    obtain ⟨u4, u5, e1⟩ := form_in (k := x.1) (F1 := F1) w0 x.2 acc y3 y4 y5 y6 (some (.d (.list (x.2.map (itE x.1))))) (by omega)
    obtain ⟨z4, z5, z7, z8, e2⟩ := form_out (F1 := F1) w0 n M (acc ++ (x.2.map (mkS x.1)).map Stk.e) y3 u4 u5 y6 (some (.d x.1.e)) (some (.d (.list (x.2.map (itE x.1))))) (fun y hy => hs y (List.mem_cons_of_mem _ hy)) (by rw [List.length_append, List.length_map, List.length_map]; omega)
    refine ⟨z4, z5, z7, z8, ?_⟩
    have pu : pairU (enT x) = .d (.tuple [x.1.e, .list (x.2.map (itE x.1))]) := by
      show U.d (.tuple [x.1.n.data, .list (x.2.map (itE x.1))]) = _
      rw [key_e]
    rw [List.map_cons, List.map_cons, forGo_cons, pu]
    have tg : gTup' 2 (gCons' (gN 7) (gCons' (gN 8) gNil')) (.d (.tuple [x.1.e, .list (x.2.map (itE x.1))])) [some w0, some (.ref 0), some (.ref 1), y3, y4, y5, y6, y7, y8] [F1, .lst acc] = some [some w0, some (.ref 0), some (.ref 1), y3, y4, y5, y6, some (.d x.1.e), some (.d (.list (x.2.map (itE x.1))))] := rfl
    rw [tg]
    dsimp only
    have hm : (x.2.map fun i => U.d (itE x.1 i)) = (x.2.map (itE x.1)).map U.d := by rw [List.map_map]; rfl
    rw [hm] at e1
    have st : L_form_of_2 [some w0, some (.ref 0), some (.ref 1), y3, y4, y5, y6, some (.d x.1.e), some (.d (.list (x.2.map (itE x.1))))] [F1, .lst acc] = .next [some w0, some (.ref 0), some (.ref 1), y3, u4, u5, y6, some (.d x.1.e), some (.d (.list (x.2.map (itE x.1))))] [F1, .lst (acc ++ (x.2.map (mkS x.1)).map Stk.e)] := by
      unfold L_form_of_2
      generalize x.2.map (itE x.1) = XX at *
      generalize (x.2.map (mkS x.1)).map Stk.e = YY at *
      generalize x.1.e = ke at *
      simp [e1]
    rw [st, SRes.seq_next, e2]
    have : (tstk (x :: M)).map Stk.e = (x.2.map (mkS x.1)).map Stk.e ++ (tstk M).map Stk.e := by
      show (x.2.map (mkS x.1) ++ tstk M).map Stk.e = _
      rw [List.map_append]
    rw [this, List.append_assoc]
theorem tbl_ln (L : List Stk) : TLn L.length (tbl L) := by
  have key : ∀ (R : List Stk) (n : Nat) (M : Tbl), TLn n M → TLn (n + R.length) (R.foldl tadd M) := fun R => by
    induction R with
    | nil => intro n M h; exact h
    | cons s R ih =>
      intro n M h
      have := ih (n + 1) (tadd M s) (h.add s)
      rw [List.length_cons, List.foldl_cons, show n + (R.length + 1) = n + 1 + R.length by omega]
      exact this
  have := key L 0 [] ⟨Nat.le_refl _, fun _ h => (nomatch h)⟩
  rw [Nat.zero_add] at this
  exact this
/-- form_of tells the form -/
theorem form_ev {L : List Stk} (hL : ∀ s ∈ L, s.ok ∧ bdS s) (hl : L.length ≤ 4000) : F_form_of [.list (L.map Stk.e)] = .ok (.tuple ((form L).map Stk.e)) := by
  obtain ⟨z3, z4, z5, z6, z7, e1⟩ := form_loop (.d (.list (L.map Stk.e))) L [] [] none none none none none none TOk.nil ⟨Nat.le_refl _, fun _ h => (nomatch h)⟩ (fun _ h => (nomatch h)) hL (by simpa using hl)
  have tl := tbl_ln L
  obtain ⟨u4, u5, u7, u8, e2⟩ := form_out (F1 := .fdt ((tbl L).map enT)) (.d (.list (L.map Stk.e))) L.length (tbl L) [] z3 z4 z5 z6 z7 none tl.s (by
    have h1 : (tbl L).length * L.length ≤ 4000 * 4000 := Nat.mul_le_mul (Nat.le_trans tl.l hl) hl
    rw [List.length_nil]
    omega)
  have hm : (L.map fun s => U.d s.e) = (L.map Stk.e).map U.d := by rw [List.map_map]; rfl
  rw [hm, List.map_nil] at e1
  rw [List.nil_append] at e2
  have hd : (L.foldl tadd []) = tbl L := rfl
  rw [hd] at e1
  have so : seqOf [.fdt ((tbl L).map enT), .lst ((tstk (tbl L)).map Stk.e)] (.ref 1) = some ((tstk (tbl L)).map Stk.e) := rfl
  have sr := ev_sorted (b := false) so (sortOk_sk (tstk (tbl L)))
  rw [sortD_sk] at sr
  have hf : sortS (tstk (tbl L)) = form L := rfl
  rw [hf] at sr
  have it : ∀ env, iNIt (eV 1) env [.dtp ((tbl L).map enT), .lst []] = (eV 1 env [.dtp ((tbl L).map enT), .lst []]).bind fun u h1 => match u with | .ref n => (match h1[n]? with | some (.dtp kvs) => .ok (kvs.map pairU) (h1.set n (.fdt kvs)) | some (.fdt kvs) => .ok (kvs.map pairU) h1 | _ => .stuck) | _ => .stuck := fun env => rfl
  unfold F_form_of B_form_of
  rw [pfOf_ap]
  generalize (form L).map Stk.e = FF at *
  generalize (tstk (tbl L)).map Stk.e = TT at *
  generalize hM : (tbl L).map enT = MM at *
  generalize L.map Stk.e = LL at *
  have tp : ∀ h, fTuple [.d (.list FF)] h = .ok (.d (.tuple FF)) h := fun h => rfl
  simp [e1, it, e2, sr, tp]
end Lw

namespace Lw
open PySem L2 Wk
theorem cell_ev' (ns : List Int) (hl : ns.length ≤ 63) (k : Int) (h0 : 0 ≤ k) (h1 : k < 1000) : ∃ r, F_law_cell [.list (ns.map .int), .int k] = .ok (.int r) := cell_ev ns k h0 (by omega) (by omega)
theorem lmoved_ev (p : P4) (h s : Int) (h0 : 0 ≤ h) (h1 : h < 8) : F_law_moved [p.e, .int h, .int s] = .ok (mv h s p).e := by
  unfold F_law_moved B_law_moved P4.e mv
  rw [pfOf_ap]
  rcases heads h0 h1 with z | z | z | z | z | z | z | z <;> subst z <;> simp [xa, xb, ya, yb] <;> omega
theorem strokes_ev (ns : List Int) (hl : ns.length ≤ 63) (most : Int) (m0 : 0 ≤ most) (m1 : most ≤ 60) : ∃ L : List Stk, F_law_strokes [.list (ns.map .int), .int 0, .int most] = .ok (.list (L.map Stk.e)) ∧ L.length ≤ 60 ∧ ∀ s ∈ L, WkS s := by
  obtain ⟨c, ec⟩ := cell_ev' ns hl 0 (by decide) (by decide)
  obtain ⟨hd, eh, hd0, hdb⟩ := heads5_at c
  obtain ⟨far, ef, f0, f1⟩ := far4_at (c / 5)
  obtain ⟨nk, ei, i0, i1⟩ := ink4_at (c / 20)
  have dv5 : divOk 5 = true := divOk_s (by decide) (by decide)
  have dv20 : divOk 20 = true := divOk_s (by decide) (by decide)
  generalize hcnt : (if (if (ns.length : Int) - 1 < most then (ns.length : Int) - 1 else most) > 5 then (if (ns.length : Int) - 1 < most then (ns.length : Int) - 1 else most) else 5) = cnt
  have hc4 : 5 ≤ cnt ∧ cnt ≤ 60 := by rw [← hcnt]; split <;> split <;> omega
  have r1 : rngOk 1 = true := rng_of (by decide) (by decide)
  have r2 : rngOk (1 + cnt) = true := rng_of (by omega) (by omega)
  obtain ⟨env', h', e, here, L, y9, y10, y11, y12, e1, e2, e3, e4, e5⟩ := forGo_inv (t := gN 9) (b := L_law_strokes_0) (us := iRange cnt.toNat 1)
    (fun i env h => ∃ (here : P4) (L : List Stk) (y9 y10 y11 y12 : Option U), env = [some (.d (.list (ns.map .int))), some (.d (.int 0)), some (.d (.int most)), some (.d (.int c)), some (.d (.list (hd.map .int))), some (.d (.int far)), some (.d (.int nk)), some (.d here.e), some (.ref 0), y9, y10, y11, y12] ∧
      h = [.lst (L.map Stk.e)] ∧ L.length ≤ i ∧ (here.bd (1000 * i) ∧ here.par) ∧ ∀ s ∈ L, WkS s) 0
    (env := [some (.d (.list (ns.map .int))), some (.d (.int 0)), some (.d (.int most)), some (.d (.int c)), some (.d (.list (hd.map .int))), some (.d (.int far)), some (.d (.int nk)), some (.d (P4.e ⟨0, 0, 0, 0⟩)), some (.ref 0), none, none, none, none]) (h := [.lst []])
    ⟨⟨0, 0, 0, 0⟩, [], none, none, none, none, rfl, rfl, Nat.le_refl _, by simp [P4.bd, P4.par], fun s hs => (nomatch hs)⟩ (fun i u env h eu hI => by
      obtain ⟨here, L, y9, y10, y11, y12, rfl, rfl, e3, e4, e5⟩ := hI
      obtain ⟨hi, rfl⟩ := iRange_get eu
      rw [Nat.zero_add] at *
      obtain ⟨cc, ecc⟩ := cell_ev' ns hl (1 + i) (by omega) (by omega)
      obtain ⟨row, er, lr, hr⟩ := row_ev cc 1000000 4 (by decide) (by decide) (by decide)
      have er' : F_law_row [.int cc, .int 1000000, .int 4] = .ok (.list (row.map .int)) := er
      obtain ⟨x0, x1, x2, x3, rfl⟩ := four lr
      simp only [List.map_cons, List.map_nil] at er'
      obtain ⟨hh, eh', hh0, hh1⟩ := pick hd0 hdb x0
      have em := lmoved_ev here hh (1 + x1 % far) hh0 hh1
      have s0 := Int.emod_nonneg x1 (show far ≠ 0 by omega)
      have s1 := Int.emod_lt_of_pos x1 (show 0 < far by omega)
      have bm : (mv hh (1 + x1 % far) here).bd (1000 * ((i + 1 : Nat) : Int)) := (mv_bd (m := 1000) hh0 hh1 e4.1 (by omega) (by omega)).mono (by omega)
      have pm : (mv hh (1 + x1 % far) here).par := mv_par' _ hh0 hh1 e4.2
      have hft : fits ((L.map Stk.e).length + 1) = true := fits_of (by rw [List.length_map]; omega)
      by_cases hz : 0 < x3 % 5
      · refine ⟨_, [some (.d (.list (ns.map .int))), some (.d (.int 0)), some (.d (.int most)), some (.d (.int c)), some (.d (.list (hd.map .int))), some (.d (.int far)), some (.d (.int nk)), some (.d (mv hh (1 + x1 % far) here).e), some (.ref 0), some (.d (.int (1 + i))), some (.d (.list [.int x0, .int x1, .int x2, .int x3])), some (.d (.int hh)), some (.d (mv hh (1 + x1 % far) here).e)], [.lst ((L ++ [Stk.mk (x2 % nk) here (mv hh (1 + x1 % far) here)]).map Stk.e)], rfl, ?_, _, L ++ [Stk.mk (x2 % nk) here (mv hh (1 + x1 % far) here)], _, _, _, _, rfl, rfl, by rw [List.length_append, List.length_singleton]; omega, ⟨bm, pm⟩, fun s hs => ?_⟩
        · rw [List.map_append, List.map_cons, List.map_nil, stk_e]
          generalize L.map Stk.e = LL at *
          generalize ns.map PyData.int = NS at *
          generalize here.e = he at *
          generalize (mv hh (1 + x1 % far) here).e = he2 at *
          unfold L_law_strokes_0
          simp [ecc, ev_pow6, er', hd0, eh', em, f0, hz, hft, i0]
        · rcases List.mem_append.mp hs with q | q
          · exact e5 s q
          · rw [List.mem_singleton.mp q]
            have n0 := Int.emod_nonneg x2 (show nk ≠ 0 by omega)
            have n1 := Int.emod_lt_of_pos x2 (show 0 < nk by omega)
            exact ⟨mv_ok hh0 hh1 (by omega) _ _, ⟨e4.1.mono (by omega), e4.2⟩, ⟨bm.mono (by omega), pm⟩, ⟨n0, by show x2 % nk < 8; omega⟩, hh, 1 + x1 % far, ⟨hh0, hh1⟩, ⟨by omega, by omega⟩, rfl⟩
      · refine ⟨_, [some (.d (.list (ns.map .int))), some (.d (.int 0)), some (.d (.int most)), some (.d (.int c)), some (.d (.list (hd.map .int))), some (.d (.int far)), some (.d (.int nk)), some (.d (mv hh (1 + x1 % far) here).e), some (.ref 0), some (.d (.int (1 + i))), some (.d (.list [.int x0, .int x1, .int x2, .int x3])), some (.d (.int hh)), some (.d (mv hh (1 + x1 % far) here).e)], [.lst (L.map Stk.e)], rfl, ?_, _, L, _, _, _, _, rfl, rfl, by omega, ⟨bm, pm⟩, e5⟩
        generalize L.map Stk.e = LL at *
        generalize ns.map PyData.int = NS at *
        generalize here.e = he at *
        generalize (mv hh (1 + x1 % far) here).e = he2 at *
        unfold L_law_strokes_0
        simp [ecc, ev_pow6, er', hd0, eh', em, f0, hz])
  subst e1 e2
  rw [iRange_len] at e3
  refine ⟨L, ?_, by omega, e5⟩
  have z0 : P4.e ⟨0, 0, 0, 0⟩ = .tuple [.tuple [.int 0, .int 0], .tuple [.int 0, .int 0]] := rfl
  rw [z0] at e
  unfold F_law_strokes B_law_strokes
  rw [pfOf_ap]
  generalize here.e = he at *
  generalize L.map Stk.e = LL at *
  have tn : (1 + cnt).toNat - 1 = cnt.toNat := by omega
  simp [ec, eh, ef, ei, dv5, dv20, hcnt, r1, r2, tn, e]
end Lw

namespace Lw
open PySem L2 Wk
theorem lsg_ev (a b : Int) (ha : a.natAbs < 2 ^ 63) (hb : b.natAbs < 2 ^ 63) : F_law_sign [.tuple [.int a, .int b]] = .ok (.int (sgn a b)) := by
  rw [sgn_lsg]
  have m1 : mulOk (2 * a) a = true := mulOk_of (.inr (by omega))
  have m2 : mulOk b b = true := mulOk_of (.inr (by omega))
  have m3 : mulOk a b = true := mulOk_of (.inr (by omega))
  unfold F_law_sign B_law_sign lsg
  rw [pfOf_ap]
  by_cases h1 : 0 ≤ a * b <;> by_cases h2 : 0 < a <;> simp [h1, h2, m1, m2, m3]
theorem zsub_e (p q : P4) : (q.x.sub p.x).e = .tuple [.int (q.a - p.a), .int (q.b - p.b)] ∧ (q.y.sub p.y).e = .tuple [.int (q.c - p.c), .int (q.d - p.d)] := ⟨rfl, rfl⟩
theorem lline_ev (p q : P4) : F_law_line [p.e, q.e] = .ok (llS p q).e := by
  have e1 := fun h => ev_eqN false (q.y.sub p.y) Nm.zero h
  have e2 := fun h => ev_eqN false (q.x.sub p.x) Nm.zero h
  have e3 := fun h => ev_eqN false (q.x.sub p.x) (q.y.sub p.y) h
  have e4 := fun h => ev_eqN false (q.x.sub p.x) (q.y.sub p.y).neg h
  have z : Nm.zero.e = .tuple [.int 0, .int 0] := rfl
  have n4 : (q.y.sub p.y).neg.e = .tuple [.int (0 - (q.c - p.c)), .int (0 - (q.d - p.d))] := rfl
  rw [z] at e1 e2
  rw [n4] at e4
  rw [(zsub_e p q).1] at e2 e3 e4
  rw [(zsub_e p q).2] at e1 e3
  simp only [Bool.false_xor] at e1 e2 e3 e4
  unfold F_law_line B_law_line llS P4.e
  rw [pfOf_ap]
  by_cases h1 : q.y.sub p.y = Nm.zero
  · rw [if_pos h1]
    simp only [decide_eq_true h1] at e1
    simp [e1, LN.e, Nm.e, P4.y]
  · rw [if_neg h1]
    simp only [decide_eq_false h1] at e1
    by_cases h2 : q.x.sub p.x = Nm.zero
    · rw [if_pos h2]
      simp only [decide_eq_true h2] at e2
      simp [e1, e2, LN.e, Nm.e, P4.x]
    · rw [if_neg h2]
      simp only [decide_eq_false h2] at e2
      by_cases h3 : q.x.sub p.x = q.y.sub p.y
      · rw [if_pos h3]
        simp only [decide_eq_true h3] at e3
        simp [e1, e2, e3, LN.e, Nm.e, P4.x, P4.y, Nm.sub]
      · rw [if_neg h3]
        simp only [decide_eq_false h3] at e3
        simp only [Int.zero_sub] at e4
        by_cases h4 : q.x.sub p.x = (q.y.sub p.y).neg
        · rw [if_pos h4]
          simp only [decide_eq_true h4] at e4
          simp [e1, e2, e3, e4, LN.e, Nm.e, P4.x, P4.y, Nm.add]
        · rw [if_neg h4]
          simp only [decide_eq_false h4] at e4
          simp [e1, e2, e3, e4, LN.e, Nm.e, Nm.zero]
theorem faron_ev {p q : P4} (hp : p.bd big) (hq : q.bd big) (l : LN) : F_law_far_on [p.e, q.e, l.e] = .ok (.int (Nm.sg (alg p l.d) (alg q l.d))) := by
  unfold P4.bd big at *
  unfold F_law_far_on B_law_far_on LN.e P4.e
  rw [pfOf_ap]
  by_cases h : l.d = 2
  · have s := lsg_ev (p.c - q.c) (p.d - q.d) (by omega) (by omega)
    simp [h, s, Nm.sg, alg, P4.y]
  · have s := lsg_ev (p.a - q.a) (p.b - q.b) (by omega) (by omega)
    simp [h, s, Nm.sg, alg, P4.x]
end Lw

namespace Lw
open PySem L2 Wk
theorem isInt_ev (i : Int) : F_law_int [.int i] = .ok (.bool true) := by
  unfold F_law_int B_law_int
  simp [pfOf_ap, isTy]
theorem isPlace_ev {p : P4} (hp : p.par) : F_law_is_place [p.e] = .ok (.bool true) := by
  have i1 := isInt_ev p.a
  have i2 := isInt_ev p.b
  have i3 := isInt_ev p.c
  have i4 := isInt_ev p.d
  unfold P4.par at hp
  unfold F_law_is_place B_law_is_place L_law_is_place_0 P4.e
  rw [pfOf_ap]
  simp [isTy, i1, i2, i3, i4, forGo_cons, forGo_nil, hp]
theorem LK.n_data (x : LK) : x.n.data = x.e := by unfold LK.n LK.e Nm.e; simp [NestedKey.data, NestedKey.datas]
theorem LK.n_pure (x : LK) : pureK x.n = true := by unfold LK.n; simp [pureK, pureKs]
theorem LK.eqv (x y : LK) : PyData.eqv x.e y.e = decide (x = y) := by
  rw [← LK.n_data, ← LK.n_data, eqv_dec (LK.n_pure x) (LK.n_pure y)]
  exact decide_eq_decide.mpr ⟨fun e => LK.n_inj e, fun e => by rw [e]⟩
theorem ev_eqLK (n : Bool) (x y : LK) (h : Sto) : opEqB n (.d x.e) (.d y.e) h = .ok (.d (.bool (xor n (decide (x = y))))) h := by
  rw [ev_eqD n h (fun s z => by cases z) (show SeqAt.shaped x.e = true from rfl) (show SeqAt.shaped y.e = true from rfl), LK.eqv]
theorem lkey_ev {s : Stk} (hs : s.ok) : F_law_key [s.e] = .ok s.key.e := by
  have l := lline_ev s.a s.b
  rw [hs.ll] at l
  have a := fun h => addTT [.int s.ink] [.int s.dr4, s.key.l.e] h (by simp)
  have e1 : LN.e ⟨s.dr4, s.key.l⟩ = .tuple [.int s.dr4, s.key.l.e] := rfl
  have e2 : s.key.e = .tuple [.int s.ink, .int s.dr4, s.key.l.e] := rfl
  rw [e1] at l
  rw [e2]
  unfold F_law_key B_law_key Stk.e
  rw [pfOf_ap]
  generalize s.key.l.e = kl at *
  generalize s.a.e = sa at *
  generalize s.b.e = sb at *
  simp [l, a]
/-- a stroke as it may stand in a form -/
structure FnS (s : Stk) : Prop where
  ok : s.ok
  bd : bdS s
  pa : s.a.par
  pb : s.b.par
  i : 0 ≤ s.ink ∧ s.ink < 8
theorem LN.e_d (l : LN) : l.e = .tuple [.int l.d, l.l.e] := rfl
theorem sg_neg_lt {x y : Nm} : Nm.sg x y < 0 ↔ x < y := Iff.rfl
theorem sg_le0 {x y : Nm} : Nm.sg x y ≤ 0 ↔ x ≤ y := Iff.rfl
theorem sg_pos {x y : Nm} : 0 < Nm.sg x y ↔ y < x := by rw [Nm.lt_iff, Nm.sg_neg x y]; omega
theorem sg_ge0 {x y : Nm} : 0 ≤ Nm.sg x y ↔ y ≤ x := by rw [Nm.le_iff, Nm.sg_neg x y]; omega
/-- how far on, along the line of a stroke -/
theorem faron_l {p q : P4} (hp : p.bd big) (hq : q.bd big) (d : Int) (l : Nm) : F_law_far_on [p.e, q.e, .tuple [.int d, l.e]] = .ok (.int (Nm.sg (alg p d) (alg q d))) := faron_ev hp hq ⟨d, l⟩
theorem lline_ok {s : Stk} (hs : s.ok) : F_law_line [s.a.e, s.b.e] = .ok (.tuple [.int s.dr4, s.key.l.e]) := by
  rw [lline_ev, hs.ll]
  rfl
theorem isStroke_ev {s : Stk} (hs : FnS s) (hf : s.fwd) : F_law_is_stroke [s.e] = .ok (.bool true) := by
  have i1 := isInt_ev s.ink
  have p1 := isPlace_ev hs.pa
  have p2 := isPlace_ev hs.pb
  have l := lline_ok hs.ok
  have fo := faron_l hs.bd.1 hs.bd.2 s.dr4 s.key.l
  have hl : Nm.sg (alg s.a s.dr4) (alg s.b s.dr4) < 0 := hf
  have hd : s.dr4 < 4 := by have : s.dr4 = 0 ∨ s.dr4 = 1 ∨ s.dr4 = 2 ∨ s.dr4 = 3 := dirS_four _ _; omega
  have hi := hs.i
  unfold F_law_is_stroke B_law_is_stroke Stk.e
  rw [pfOf_ap]
  generalize s.key.l.e = kl at *
  generalize s.a.e = sa at *
  generalize s.b.e = sb at *
  generalize Nm.sg (alg s.a s.dr4) (alg s.b s.dr4) = sg at *
  generalize s.dr4 = d at *
  generalize s.ink = ink at *
  simp [isTy, i1, p1, p2, l, fo, hl, hd, hi.1, hi.2, Wk.tChain]
end Lw

namespace Lw
open PySem L2 Wk
def Stk.pl (s : Stk) : P4 := if s.zb < s.za then s.b else s.a
def Stk.ph (s : Stk) : P4 := if s.zb < s.za then s.a else s.b
theorem pl_alg (s : Stk) : alg (Stk.pl s) s.dr4 = s.lo := by
  unfold Stk.pl Wk.Stk.lo
  split <;> rfl
theorem ph_alg (s : Stk) : alg (Stk.ph s) s.dr4 = s.hi := by
  unfold Stk.ph Wk.Stk.hi
  split <;> rfl
theorem pl_bd {s : Stk} (h : bdS s) : (Stk.pl s).bd big := by
  unfold Stk.pl
  split
  · exact h.2
  · exact h.1
theorem ph_bd {s : Stk} (h : bdS s) : (Stk.ph s).bd big := by
  unfold Stk.ph
  split
  · exact h.1
  · exact h.2
theorem ph_pt {s : Stk} (h : s.ok) : Stk.ph s = pt s.key.d s.key.l s.hi := by
  unfold Stk.ph Wk.Stk.hi
  split
  · exact h.a_pt
  · exact h.b_pt
/-- a comprehension with a test -/
theorem lcGo_flt {t : Tg} {c : Eb} {e : Ev} {env : Env'} {h : Sto} {α : Type} {g : α → D} {p : α → Bool} : ∀ {us : List α} {acc : List D}, (∀ u ∈ us, ∃ env1, t (.d (g u)) env h = some env1 ∧ c env1 h = .ok (p u) h ∧ e env1 h = .ok (.d (g u)) h) → acc.length + us.length ≤ 16777216 → lcGo t c e env ((us.map g).map .d) acc h = .ok (acc ++ (us.filter p).map g) h
  | [], acc, _, _ => by rw [List.map_nil, List.map_nil, lcGo_nil, List.filter_nil, List.map_nil, List.append_nil]
  | u :: us, acc, H, hl => by
    obtain ⟨env1, e1, e2, e3⟩ := H u List.mem_cons_self
    rw [List.length_cons] at hl
    rw [List.map_cons, List.map_cons]
    unfold lcGo
    cases q : p u with
    | true =>
      have ih := lcGo_flt (t := t) (c := c) (e := e) (env := env) (h := h) (g := g) (p := p) (us := us) (acc := acc ++ [g u]) (fun v hv => H v (List.mem_cons_of_mem _ hv)) (by rw [List.length_append, List.length_singleton]; omega)
      rw [q] at e2
      simp only [e1, e2, Res.bind_ok, e3]
      rw [if_pos (fits_of (by omega)), ih]
      simp [q]
    | false =>
      have ih := lcGo_flt (t := t) (c := c) (e := e) (env := env) (h := h) (g := g) (p := p) (us := us) (acc := acc) (fun v hv => H v (List.mem_cons_of_mem _ hv)) (by omega)
      rw [q] at e2
      simp only [e1, e2, Res.bind_ok]
      rw [ih]
      simp [q]
abbrev lnE (s : Stk) : D := .tuple [.int s.dr4, s.key.l.e]
theorem within_step {s f : Stk} (hs : FnS s) (hf : FnS f) (W : U) : L_law_within_0 [some (.d s.e), some W, some (.d (lnE s)), some (.d (.list [(Stk.pl s).e, (Stk.ph s).e])), some (.d f.e)] [] = if f.key = s.key ∧ alg f.a s.dr4 ≤ s.lo ∧ s.hi ≤ alg f.b s.dr4 then .ret (.d (.bool true)) [] else .next [some (.d s.e), some W, some (.d (lnE s)), some (.d (.list [(Stk.pl s).e, (Stk.ph s).e])), some (.d f.e)] [] := by
  have k1 := lkey_ev hs.ok
  have k2 := lkey_ev hf.ok
  have eq := fun h => ev_eqLK false f.key s.key h
  have f1 := faron_l hf.bd.1 (pl_bd hs.bd) s.dr4 s.key.l
  have f2 := faron_l hf.bd.2 (ph_bd hs.bd) s.dr4 s.key.l
  rw [pl_alg] at f1
  rw [ph_alg] at f2
  simp only [Bool.false_xor] at eq
  have c1 : Nm.sg (alg f.a s.dr4) s.lo ≤ 0 ↔ alg f.a s.dr4 ≤ s.lo := Iff.rfl
  have c2 : 0 ≤ Nm.sg (alg f.b s.dr4) s.hi ↔ s.hi ≤ alg f.b s.dr4 := sg_ge0
  simp only [← c1, ← c2]
  clear c1 c2
  rw [stk_e f] at k2 ⊢
  unfold L_law_within_0 lnE
  generalize Nm.sg (alg f.a s.dr4) s.lo = g1 at *
  generalize Nm.sg (alg f.b s.dr4) s.hi = g2 at *
  generalize (Stk.pl s).e = p1 at *
  generalize (Stk.ph s).e = p2 at *
  generalize s.key.l.e = kl at *
  generalize hk1 : s.key.e = ke1 at *
  generalize hk2 : f.key.e = ke2 at *
  generalize s.e = se at *
  generalize f.a.e = fa at *
  generalize f.b.e = fb at *
  by_cases hk : f.key = s.key
  · simp only [decide_eq_true hk] at eq
    by_cases h1 : g1 ≤ 0
    · by_cases h2 : 0 ≤ g2
      · rw [if_pos ⟨hk, h1, h2⟩]
        simp [k1, k2, eq, f1, f2, h1, h2]
      · rw [if_neg (fun z => h2 z.2.2)]
        simp [k1, k2, eq, f1, f2, h1, h2]
    · rw [if_neg (fun z => h1 z.2.1)]
      simp [k1, k2, eq, f1, f2, h1]
  · simp only [decide_eq_false hk] at eq
    rw [if_neg (fun z => hk z.1)]
    simp [k1, k2, eq]
theorem within_loop {s : Stk} (hs : FnS s) (W : U) : ∀ (F : List Stk) (y4 : Option U), (∀ f ∈ F, FnS f) → (∃ f ∈ F, f.key = s.key ∧ alg f.a s.dr4 ≤ s.lo ∧ s.hi ≤ alg f.b s.dr4) → forGo (gN 4) L_law_within_0 ((F.map Stk.e).map U.d) [some (.d s.e), some W, some (.d (lnE s)), some (.d (.list [(Stk.pl s).e, (Stk.ph s).e])), y4] [] = .ret (.d (.bool true)) []
  | [], _, _, ⟨_, h, _⟩ => nomatch h
  | f :: F, y4, hF, ⟨g, hg, c⟩ => by
    rw [List.map_cons, List.map_cons, forGo_cons]
    have tg : gN 4 (.d f.e) [some (.d s.e), some W, some (.d (lnE s)), some (.d (.list [(Stk.pl s).e, (Stk.ph s).e])), y4] [] = some [some (.d s.e), some W, some (.d (lnE s)), some (.d (.list [(Stk.pl s).e, (Stk.ph s).e])), some (.d f.e)] := rfl
    rw [tg]
    dsimp only
    rw [within_step hs (hF f List.mem_cons_self) W]
    split
    · rw [SRes.seq_ret]
    · rename_i no
      rw [SRes.seq_next]
      refine within_loop hs W F _ (fun x hx => hF x (List.mem_cons_of_mem _ hx)) ⟨g, ?_, c⟩
      rcases List.mem_cons.mp hg with z | z
      · subst z; exact absurd c no
      · exact z
theorem ends_ev {s : Stk} (hs : FnS s) : F_law_far_on [s.a.e, s.b.e, lnE s] = .ok (.int (Nm.sg s.za s.zb)) := faron_l hs.bd.1 hs.bd.2 s.dr4 s.key.l
theorem within_ev {s : Stk} (hs : FnS s) {F : List Stk} (hF : ∀ f ∈ F, FnS f) (h : ∃ f ∈ F, f.key = s.key ∧ alg f.a s.dr4 ≤ s.lo ∧ s.hi ≤ alg f.b s.dr4) : F_law_within [s.e, .tuple (F.map Stk.e)] = .ok (.bool true) := by
  have lp := within_loop hs (.d (.tuple (F.map Stk.e))) F none hF h
  have l := lline_ok hs.ok
  have en := ends_ev hs
  have ep : Stk.pl s = if s.zb < s.za then s.b else s.a := rfl
  have eh : Stk.ph s = if s.zb < s.za then s.a else s.b := rfl
  have c : 0 < Nm.sg s.za s.zb ↔ s.zb < s.za := sg_pos
  rw [ep, eh] at lp
  unfold lnE at *
  rw [stk_e s] at lp ⊢
  unfold F_law_within B_law_within
  rw [pfOf_ap]
  generalize F.map Stk.e = FF at *
  by_cases q : s.zb < s.za
  · rw [if_pos q, if_pos q] at lp
    have c' := c.mpr q
    generalize Nm.sg s.za s.zb = sg at *
    generalize s.key.l.e = kl at *
    generalize s.a.e = sa at *
    generalize s.b.e = sb at *
    simp [l, en, c', lp]
  · rw [if_neg q, if_neg q] at lp
    have c' : ¬ 0 < Nm.sg s.za s.zb := fun z => q (c.mp z)
    generalize Nm.sg s.za s.zb = sg at *
    generalize s.key.l.e = kl at *
    generalize s.a.e = sa at *
    generalize s.b.e = sb at *
    simp [l, en, c', lp]
theorem grd_succ (S : List Itv) : ∀ (n : Nat) (x : Nm), grd S (n + 1) x = gst S (grd S n x)
  | 0, x => rfl
  | n + 1, x => by
    rw [grd, grd_succ S n (gst S x)]
    rfl
def ivS (s : Stk) : Itv := (s.lo, s.hi)
theorem gone_step {f t : Stk} (hf : FnS f) (ht : FnS t) (hk : t.key = f.key) {x : Nm} (hx : (pt f.key.d f.key.l x).bd big) (w1 w4 : U) (y5 y7 y8 : Option U) : ∃ z8, L_law_gone_2 [some (.d f.e), some w1, some (.d (lnE f)), some (.d (pt f.key.d f.key.l x).e), some w4, y5, some (.d t.e), y7, y8] [] = .next [some (.d f.e), some w1, some (.d (lnE f)), some (.d (pt f.key.d f.key.l (if t.lo ≤ x ∧ x < t.hi then t.hi else x)).e), some w4, y5, some (.d t.e), y7, z8] [] := by
  have hd : t.dr4 = f.dr4 := congrArg LK.d hk
  have hln : lnE f = lnE t := by unfold lnE; rw [hd, hk]
  have en := ends_ev ht
  have f1 := faron_l (pl_bd ht.bd) hx t.dr4 t.key.l
  have f2 := faron_l (ph_bd ht.bd) hx t.dr4 t.key.l
  have al : alg (pt f.key.d f.key.l x) t.dr4 = x := by rw [hd]; exact pt_alg _ _ _
  rw [pl_alg, al] at f1
  rw [ph_alg, al] at f2
  have hp := ph_pt ht.ok
  rw [hk] at hp
  have c1 : Nm.sg t.lo x ≤ 0 ↔ t.lo ≤ x := Iff.rfl
  have c2 : 0 < Nm.sg t.hi x ↔ x < t.hi := sg_pos
  refine ⟨some (.d (.list [(Stk.pl t).e, (Stk.ph t).e])), ?_⟩
  have ifp : (pt f.key.d f.key.l (if t.lo ≤ x ∧ x < t.hi then t.hi else x)).e = if Nm.sg t.lo x ≤ 0 ∧ 0 < Nm.sg t.hi x then (Stk.ph t).e else (pt f.key.d f.key.l x).e := by
    simp only [c1, c2, hp]
    split <;> rfl
  rw [ifp, hln]
  clear ifp c1 c2 hp al
  have c : 0 < Nm.sg t.za t.zb ↔ t.zb < t.za := sg_pos
  have ep : Stk.pl t = if t.zb < t.za then t.b else t.a := rfl
  have eh : Stk.ph t = if t.zb < t.za then t.a else t.b := rfl
  rw [ep] at f1 ⊢
  rw [eh] at f2 ⊢
  rw [stk_e t]
  unfold L_law_gone_2
  unfold lnE at *
  generalize (pt f.key.d f.key.l x).e = he at *
  generalize Nm.sg t.lo x = g1 at *
  generalize Nm.sg t.hi x = g2 at *
  generalize t.key.l.e = kl at *
  by_cases q : t.zb < t.za
  · rw [if_pos q] at *
    rw [if_pos q]
    have c' := c.mpr q
    clear c ep eh
    generalize Nm.sg t.za t.zb = sg at *
    generalize t.a.e = sa at *
    generalize t.b.e = sb at *
    by_cases h1 : g1 ≤ 0
    · by_cases h2 : 0 < g2
      · rw [if_pos ⟨h1, h2⟩]; simp [en, c', f1, f2, h1, h2]
      · rw [if_neg (fun z => h2 z.2)]; simp [en, c', f1, f2, h1, h2]
    · rw [if_neg (fun z => h1 z.1)]; simp [en, c', f1, f2, h1]
  · rw [if_neg q] at *
    rw [if_neg q]
    have c' : ¬ 0 < Nm.sg t.za t.zb := fun z => q (c.mp z)
    clear c ep eh
    generalize Nm.sg t.za t.zb = sg at *
    generalize t.a.e = sa at *
    generalize t.b.e = sb at *
    by_cases h1 : g1 ≤ 0
    · by_cases h2 : 0 < g2
      · rw [if_pos ⟨h1, h2⟩]; simp [en, c', f1, f2, h1, h2]
      · rw [if_neg (fun z => h2 z.2)]; simp [en, c', f1, f2, h1, h2]
    · rw [if_neg (fun z => h1 z.1)]; simp [en, c', f1, f2, h1]
theorem gone_in {f : Stk} (hf : FnS f) (w1 w4 : U) : ∀ (R : List Stk) (x : Nm) (y5 y6 y7 y8 : Option U), (∀ t ∈ R, FnS t ∧ t.key = f.key) → (pt f.key.d f.key.l x).bd big → ∃ z6 z8, forGo (gN 6) L_law_gone_2 ((R.map Stk.e).map U.d) [some (.d f.e), some w1, some (.d (lnE f)), some (.d (pt f.key.d f.key.l x).e), some w4, y5, y6, y7, y8] [] = .next [some (.d f.e), some w1, some (.d (lnE f)), some (.d (pt f.key.d f.key.l (gst (R.map ivS) x)).e), some w4, y5, z6, y7, z8] [] ∧ (pt f.key.d f.key.l (gst (R.map ivS) x)).bd big
  | [], x, y5, y6, y7, y8, _, hx => ⟨y6, y8, rfl, hx⟩
  | t :: R, x, y5, y6, y7, y8, hR, hx => by
    obtain ⟨ht, hk⟩ := hR t List.mem_cons_self
    obtain ⟨u8, e1⟩ := gone_step hf ht hk hx w1 w4 y5 y7 y8
    have hx' : (pt f.key.d f.key.l (if t.lo ≤ x ∧ x < t.hi then t.hi else x)).bd big := by
      split
      · have := ph_bd ht.bd
        rw [ph_pt ht.ok, hk] at this
        exact this
      · exact hx
    obtain ⟨z6, z8, e2, b2⟩ := gone_in hf w1 w4 R _ y5 (some (.d t.e)) y7 u8 (fun u hu => hR u (List.mem_cons_of_mem _ hu)) hx'
    refine ⟨z6, z8, ?_, b2⟩
    rw [List.map_cons, List.map_cons, forGo_cons]
    have tg : gN 6 (.d t.e) [some (.d f.e), some w1, some (.d (lnE f)), some (.d (pt f.key.d f.key.l x).e), some w4, y5, y6, y7, y8] [] = some [some (.d f.e), some w1, some (.d (lnE f)), some (.d (pt f.key.d f.key.l x).e), some w4, y5, some (.d t.e), y7, y8] := rfl
    rw [tg]
    dsimp only
    rw [e1, SRes.seq_next, e2]
    rfl
theorem gone_ev {f : Stk} (hf : FnS f) {L : List Stk} (hL : ∀ s ∈ L, FnS s) (hl : L.length ≤ 4000) (hfw : f.fwd) (cp : Comp (Cv L f.key) (f.za, f.zb)) : F_law_gone [f.e, .list (L.map Stk.e)] = .ok (.bool true) := by
  have l := lline_ok hf.ok
  have kf := lkey_ev hf.ok
  have lc : lcGo (gN 7) C_law_gone_1 K_law_gone_0 [some (.d f.e), some (.d (.list (L.map Stk.e))), some (.d (lnE f)), some (.d f.a.e), none, none, none, none, none] ((L.map Stk.e).map U.d) [] [] = .ok ([] ++ (L.filter fun s => decide (s.key = f.key)).map Stk.e) [] := lcGo_flt (fun s hs => by
    refine ⟨_, rfl, ?_, ?_⟩
    · have ks := lkey_ev (hL s hs).ok
      have eq := fun h => ev_eqLK false s.key f.key h
      simp only [Bool.false_xor] at eq
      unfold C_law_gone_1
      generalize s.key.e = ke1 at *
      generalize f.key.e = ke2 at *
      generalize s.e = se at *
      generalize f.e = fe at *
      generalize decide (s.key = f.key) = bb at *
      simp [ks, kf, eq]
    · unfold K_law_gone_0
      simp) (by simp; omega)
  rw [List.nil_append] at lc
  generalize hR : (L.filter fun s => decide (s.key = f.key)) = R at *
  have mR : ∀ t, t ∈ R ↔ t ∈ L ∧ t.key = f.key := fun t => by rw [← hR, List.mem_filter, decide_eq_true_iff]
  have lR : R.length ≤ L.length := by rw [← hR]; exact List.length_filter_le _ _
  have cv : ∀ z, Cv L f.key z ↔ cov (R.map ivS) z := fun z => by
    unfold Cv cov
    constructor
    · rintro ⟨s, h1, h2, h3⟩
      exact ⟨ivS s, List.mem_map.mpr ⟨s, (mR s).mpr ⟨h1, h2⟩, rfl⟩, h3⟩
    · rintro ⟨i, h1, h2⟩
      obtain ⟨s, h3, rfl⟩ := List.mem_map.mp h1
      exact ⟨s, ((mR s).mp h3).1, ((mR s).mp h3).2, h2⟩
  have ga := grd_all cp cv
  rw [List.length_map] at ga
  obtain ⟨env', h', e, z5, z6, z8, e1, e2, e3⟩ := forGo_inv (t := gN 5) (b := L_law_gone_3) (us := iRange R.length 0)
    (fun i env h => ∃ z5 z6 z8, env = [some (.d f.e), some (.d (.list (L.map Stk.e))), some (.d (lnE f)), some (.d (pt f.key.d f.key.l (grd (R.map ivS) i f.za)).e), some (.d (.list (R.map Stk.e))), z5, z6, none, z8] ∧ h = [] ∧ (pt f.key.d f.key.l (grd (R.map ivS) i f.za)).bd big) 0
    (env := [some (.d f.e), some (.d (.list (L.map Stk.e))), some (.d (lnE f)), some (.d f.a.e), some (.d (.list (R.map Stk.e))), none, none, none, none]) (h := []) ⟨none, none, none, by rw [show f.a = pt f.key.d f.key.l f.za from hf.ok.a_pt]; rfl, rfl, by have := hf.bd.1; rw [show f.a = pt f.key.d f.key.l f.za from hf.ok.a_pt] at this; exact this⟩ (fun i u env h eu hI => by
      obtain ⟨z5, z6, z8, rfl, rfl, hb⟩ := hI
      obtain ⟨hi, rfl⟩ := iRange_get eu
      rw [Nat.zero_add] at *
      obtain ⟨u6, u8, e4, b4⟩ := gone_in hf (.d (.list (L.map Stk.e))) (.d (.list (R.map Stk.e))) R (grd (R.map ivS) i f.za) (some (.d (.int (0 + i)))) z6 none z8 (fun t ht => ⟨hL t ((mR t).mp ht).1, ((mR t).mp ht).2⟩) hb
      rw [← grd_succ] at e4 b4
      refine ⟨_, _, _, rfl, ?_, some (.d (.int (0 + i))), u6, u8, rfl, rfl, b4⟩
      · unfold L_law_gone_3
        generalize R.map Stk.e = RR at *
        generalize L.map Stk.e = LL at *
        generalize (pt f.key.d f.key.l (grd (R.map ivS) i f.za)).e = p1 at *
        generalize (pt f.key.d f.key.l (grd (R.map ivS) (i + 1) f.za)).e = p2 at *
        generalize f.e = fe at *
        generalize lnE f = lf at *
        simp only [Int.zero_add] at e4
        simp [e4])
  subst e1 e2
  rw [iRange_len, Nat.zero_add] at e
  have ge : (pt f.key.d f.key.l (grd (R.map ivS) R.length f.za)).e = f.b.e := by
    rw [ga]
    show (pt f.key.d f.key.l f.zb).e = _
    rw [← hf.ok.b_pt]
  rw [ge] at e
  have rg : rngOk (R.length : Int) = true := rng_of (by omega) (by omega)
  have eq := fun h => ev_eqP4 false f.b f.b h
  simp only [decide_true, Bool.false_xor] at eq
  have lnn : (R.map Stk.e).length = R.length := List.length_map _
  rw [stk_e f] at *
  unfold F_law_gone B_law_gone
  rw [pfOf_ap]
  unfold lnE at *
  generalize R.map Stk.e = RR at *
  generalize L.map Stk.e = LL at *
  generalize f.key.l.e = kl at *
  generalize f.a.e = fa at *
  generalize f.b.e = fb at *
  simp [l, wipeE, lc, lnn, rg, e, eq]
end Lw

namespace Lw
open PySem L2 Wk
theorem FnS.form {L : List Stk} (hL : ∀ s ∈ L, FnS s) : ∀ f ∈ form L, FnS f := fun f hf => by
  have F := form_isF fun s hs => (hL s hs).ok
  have cp := F.cp f hf
  obtain ⟨s, hs, hk, _⟩ := cp.i f.za (by show f.za ≤ f.za; grind) (by have := cp.l; show f.za ≤ f.zb; change f.za < f.zb at this; grind)
  obtain ⟨s1, h1, e1⟩ := F.lo f hf
  obtain ⟨s2, h2, e2⟩ := F.hi f hf
  have fs := hL s hs
  have f1 := hL s1 h1
  have f2 := hL s2 h2
  have ik : s.ink = f.ink := congrArg LK.ink hk
  refine ⟨F.ok f hf, ⟨?_, ?_⟩, ?_, ?_, by rw [← ik]; exact fs.i⟩
  · rcases e1 with e | e <;> rw [← e]
    · exact f1.bd.1
    · exact f1.bd.2
  · rcases e2 with e | e <;> rw [← e]
    · exact f2.bd.1
    · exact f2.bd.2
  · rcases e1 with e | e <;> rw [← e]
    · exact f1.pa
    · exact f1.pb
  · rcases e2 with e | e <;> rw [← e]
    · exact f2.pa
    · exact f2.pb
/-- two strokes of a form on one line do not meet -/
theorem isF_apart {F L : List Stk} (h : IsF F L) {f g : Stk} (hf : f ∈ F) (hg : g ∈ F) (ne : g ≠ f) (hk : g.key = f.key) : ¬ (g.za ≤ f.zb ∧ f.za ≤ g.zb) := fun ⟨h1, h2⟩ => ne (by
  have cf := h.cp f hf
  have cg := h.cp g hg
  rw [hk] at cg
  have l1 := cf.l
  have l2 := cg.l
  change f.za < f.zb at l1
  change g.za < g.zb at l2
  have u : (f.za, f.zb) = (g.za, g.zb) := by
    by_cases q : f.za ≤ g.za
    · exact Comp.uniq cf cg (z := g.za) q h1 (by show g.za ≤ g.za; grind) (by show g.za ≤ g.zb; grind)
    · exact Comp.uniq cf cg (z := f.za) (by show f.za ≤ f.za; grind) (by show f.za ≤ f.zb; grind) (by show g.za ≤ f.za; grind) h2
  rw [(h.ok f hf).is, (h.ok g hg).is, hk, u])
theorem isform_step {F L : List Stk} (h : IsF F L) (hF : ∀ f ∈ F, FnS f) {f g : Stk} (hf : f ∈ F) (hg : g ∈ F) (w0 w1 : U) (y4 : Option U) : L_law_is_form_0 [some w0, some w1, some (.d f.e), some (.d g.e), y4] [] = .next [some w0, some w1, some (.d f.e), some (.d g.e), some (.d (lnE f))] [] := by
  have l := lline_ok (hF f hf).ok
  have k1 := lkey_ev (hF f hf).ok
  have k2 := lkey_ev (hF g hg).ok
  have ne := fun h => ev_eqSk true g f h
  have eq := fun h => ev_eqLK false g.key f.key h
  simp only [Bool.false_xor, Bool.true_xor] at eq ne
  have f1 := faron_l (hF g hg).bd.1 (hF f hf).bd.2 f.dr4 f.key.l
  have f2 := faron_l (hF f hf).bd.1 (hF g hg).bd.2 f.dr4 f.key.l
  have ap : g ≠ f → g.key = f.key → ¬ (Nm.sg (alg g.a f.dr4) (alg f.b f.dr4) ≤ 0 ∧ Nm.sg (alg f.a f.dr4) (alg g.b f.dr4) ≤ 0) := fun n k z => by
    have hd : g.dr4 = f.dr4 := congrArg LK.d k
    refine isF_apart h hf hg n k ⟨?_, ?_⟩
    · have := z.1; rw [← hd] at this; rw [Nm.le_iff]; unfold Wk.Stk.za Wk.Stk.zb; rw [← hd]; exact this
    · have := z.2; rw [← hd] at this; rw [Nm.le_iff]; unfold Wk.Stk.za Wk.Stk.zb; rw [← hd]; exact this
  generalize Nm.sg (alg g.a f.dr4) (alg f.b f.dr4) = g1 at *
  generalize Nm.sg (alg f.a f.dr4) (alg g.b f.dr4) = g2 at *
  unfold L_law_is_form_0
  unfold lnE at *
  generalize f.key.e = ke1 at *
  generalize g.key.e = ke2 at *
  generalize f.key.l.e = kl at *
  rw [stk_e f, stk_e g] at *
  generalize f.a.e = fa at *
  generalize f.b.e = fb at *
  generalize g.a.e = ga at *
  generalize g.b.e = gb at *
  by_cases c1 : g = f
  · simp only [decide_eq_true c1, Bool.not_true] at ne
    simp [l, ne]
  · simp only [decide_eq_false c1, Bool.not_false] at ne
    by_cases c2 : g.key = f.key
    · simp only [decide_eq_true c2] at eq
      have c3 := ap c1 c2
      by_cases c4 : g1 ≤ 0
      · have c5 : ¬ g2 ≤ 0 := fun z => c3 ⟨c4, z⟩
        simp [l, ne, k1, k2, eq, f1, f2, c4, c5]
      · simp [l, ne, k1, k2, eq, f1, f2, c4]
    · simp only [decide_eq_false c2] at eq
      simp [l, ne, k1, k2, eq]
theorem isform_in {F L : List Stk} (h : IsF F L) (hF : ∀ f ∈ F, FnS f) {f : Stk} (hf : f ∈ F) (w0 w1 : U) : ∀ (R : List Stk) (y3 y4 : Option U), (∀ g ∈ R, g ∈ F) → ∃ z3 z4, forGo (gN 3) L_law_is_form_0 ((R.map Stk.e).map U.d) [some w0, some w1, some (.d f.e), y3, y4] [] = .next [some w0, some w1, some (.d f.e), z3, z4] []
  | [], y3, y4, _ => ⟨y3, y4, rfl⟩
  | g :: R, y3, y4, hR => by
    obtain ⟨z3, z4, e⟩ := isform_in h hF hf w0 w1 R (some (.d g.e)) (some (.d (lnE f))) fun x hx => hR x (List.mem_cons_of_mem _ hx)
    refine ⟨z3, z4, ?_⟩
    rw [List.map_cons, List.map_cons, forGo_cons]
    have tg : gN 3 (.d g.e) [some w0, some w1, some (.d f.e), y3, y4] [] = some [some w0, some w1, some (.d f.e), some (.d g.e), y4] := rfl
    rw [tg]
    dsimp only
    rw [isform_step h hF hf (hR g List.mem_cons_self) w0 w1 y4, SRes.seq_next, e]
theorem isform_out {F L : List Stk} (h : IsF F L) (hF : ∀ f ∈ F, FnS f) (hL : ∀ s ∈ L, FnS s) (hl : L.length ≤ 4000) : ∀ (R : List Stk) (y2 y3 y4 : Option U), (∀ g ∈ R, g ∈ F) → ∃ z2 z3 z4, forGo (gN 2) L_law_is_form_1 ((R.map Stk.e).map U.d) [some (.d (.tuple (F.map Stk.e))), some (.d (.list (L.map Stk.e))), y2, y3, y4] [] = .next [some (.d (.tuple (F.map Stk.e))), some (.d (.list (L.map Stk.e))), z2, z3, z4] []
  | [], y2, y3, y4, _ => ⟨y2, y3, y4, rfl⟩
  | f :: R, y2, y3, y4, hR => by
    have hf := hR f List.mem_cons_self
    have s1 := isStroke_ev (hF f hf) (h.fw f hf)
    have s2 := gone_ev (hF f hf) hL hl (h.fw f hf) (h.cp f hf)
    obtain ⟨u3, u4, e1⟩ := isform_in h hF hf (.d (.tuple (F.map Stk.e))) (.d (.list (L.map Stk.e))) F y3 y4 fun x hx => hx
    obtain ⟨z2, z3, z4, e2⟩ := isform_out h hF hL hl R (some (.d f.e)) u3 u4 fun x hx => hR x (List.mem_cons_of_mem _ hx)
    refine ⟨z2, z3, z4, ?_⟩
    rw [List.map_cons, List.map_cons, forGo_cons]
    have tg : gN 2 (.d f.e) [some (.d (.tuple (F.map Stk.e))), some (.d (.list (L.map Stk.e))), y2, y3, y4] [] = some [some (.d (.tuple (F.map Stk.e))), some (.d (.list (L.map Stk.e))), some (.d f.e), y3, y4] := rfl
    rw [tg]
    dsimp only
    have st : L_law_is_form_1 [some (.d (.tuple (F.map Stk.e))), some (.d (.list (L.map Stk.e))), some (.d f.e), y3, y4] [] = .next [some (.d (.tuple (F.map Stk.e))), some (.d (.list (L.map Stk.e))), some (.d f.e), u3, u4] [] := by
      unfold L_law_is_form_1
      generalize F.map Stk.e = FF at *
      generalize L.map Stk.e = LL at *
      generalize f.e = fe at *
      simp [s1, s2, e1]
    rw [st, SRes.seq_next, e2]
theorem skKey_dp (s : Stk) : (skKey s).depth ≤ 8 := by
  unfold skKey
  simp [NestedKey.depth, NestedKey.depthAll]
theorem setOk_sk {F : List Stk} (nd : F.Nodup) (hl : F.length < 64) : setOk (F.map Stk.e) = true := by
  refine ask_t ⟨F.map skKey, ?_, ⟨fun k hk => ?_, fun k hk => ?_, fun k hk => ?_, ?_, by rw [List.length_map]; exact hl⟩⟩
  · rw [List.map_map]
    exact List.map_congr_left fun s _ => (skKey_data s).symm
  · obtain ⟨s, _, rfl⟩ := List.mem_map.mp hk
    exact skKey_pure s
  · obtain ⟨s, _, rfl⟩ := List.mem_map.mp hk
    exact ⟨_, rfl⟩
  · obtain ⟨s, _, rfl⟩ := List.mem_map.mp hk
    exact skKey_dp s
  · exact List.pairwise_map.mpr (List.Pairwise.imp (fun n e => n (skKey_inj e)) nd)
theorem isF_within {F L : List Stk} (h : IsF F L) {s : Stk} (hs : s ∈ L) (ok : s.ok) : ∃ f ∈ F, f.key = s.key ∧ alg f.a s.dr4 ≤ s.lo ∧ s.hi ≤ alg f.b s.dr4 := by
  have lt := ok.lt
  obtain ⟨f, hf, hk, h1, h2⟩ := h.cv s.key s.lo ⟨s, hs, rfl, by grind, by grind⟩
  have hd : f.dr4 = s.dr4 := congrArg LK.d hk
  refine ⟨f, hf, hk, by rw [← hd]; exact h1, ?_⟩
  rw [← hd]
  show s.hi ≤ f.zb
  have cp := h.cp f hf
  rw [hk] at cp
  by_cases q : f.zb < s.hi
  · obtain ⟨z, z1, z2, z3⟩ := cp.e s.hi q
    change f.zb < z at z1
    exact absurd ⟨s, hs, rfl, by grind, by grind⟩ z3
  · grind
theorem isform_ev {L : List Stk} (hL : ∀ s ∈ L, FnS s) (hl : L.length < 64) : F_law_is_form [.tuple ((form L).map Stk.e), .list (L.map Stk.e)] = .ok (.bool true) := by
  have okL : ∀ s ∈ L, s.ok := fun s hs => (hL s hs).ok
  have h := form_isF okL
  have hF := FnS.form hL
  have hlF := h.len okL
  have srt := form_sorted L
  generalize form L = F at *
  obtain ⟨z2, z3, z4, e⟩ := isform_out h hF hL (by omega) F none none none fun x hx => hx
  have sr := fun st => ev_sorted (b := false) (u := .d (.tuple (F.map Stk.e))) (h := st) (xs := F.map Stk.e) rfl (sortOk_sk F)
  simp only [sortD_sk, srt] at sr
  have ls : ∀ st, fList false [.d (.tuple (F.map Stk.e))] st = .ok (.d (.list (F.map Stk.e))) st := fun st => rfl
  have eq := fun st => ev_eqLS true F F st
  simp only [decide_true, Bool.true_xor, Bool.not_true] at eq
  have so := fun st => ev_lenSet (h := st) (setOk_sk h.nd (by omega))
  have lc : lcGo (gN 2) C_law_is_form_3 K_law_is_form_2 [some (.d (.tuple (F.map Stk.e))), some (.d (.list (L.map Stk.e))), none, z3, z4] ((L.map Stk.e).map U.d) [] [] = .ok ([] ++ (L.filter fun s => false).map Stk.e) [] := lcGo_flt (fun s hs => by
    have w := within_ev (hL s hs) hF (isF_within h hs (okL s hs))
    refine ⟨_, rfl, ?_, ?_⟩
    · unfold C_law_is_form_3
      generalize F.map Stk.e = FF at *
      generalize s.e = se at *
      simp [w]
    · unfold K_law_is_form_2
      simp) (by simp; omega)
  have fe : ([] ++ (L.filter fun s => false).map Stk.e) = ([] : List D) := by simp
  rw [fe] at lc
  unfold F_law_is_form B_law_is_form
  rw [pfOf_ap]
  generalize F.map Stk.e = FF at *
  generalize L.map Stk.e = LL at *
  simp [isTy, ls, sr, eq, e, so, wipeE, lc]
end Lw

namespace Lw
open PySem L2 Wk
def ab1 (i : Int) : Int := if i < 0 then -i else i
def mny (p q : P4) : Int := if ab1 (q.a - p.a) + ab1 (q.b - p.b) < ab1 (q.c - p.c) + ab1 (q.d - p.d) then ab1 (q.c - p.c) + ab1 (q.d - p.d) else ab1 (q.a - p.a) + ab1 (q.b - p.b)
theorem steps_many {h t : Int} (h0 : 0 ≤ h) (h1 : h < 8) (ht : 0 < t) (p : P4) : mny p (mv h t p) = t := by
  unfold mny ab1
  rcases heads h0 h1 with z | z | z | z | z | z | z | z <;> subst z <;> simp [mv, xa, xb, ya, yb] <;> omega
theorem steps_loop {s : Stk} {t : Int} (hm : mny s.a s.b = t) : ∀ (hs : List Int) (y1 y2 y3 y4 y5 y6 : Option U), (∀ k ∈ hs, 0 ≤ k ∧ k < 8) → (∃ k ∈ hs, mv k t s.a = s.b) → ∃ k, (0 ≤ k ∧ k < 8) ∧ mv k t s.a = s.b ∧ forGo (gN 1) L_law_steps_0 (hs.map fun k => U.d (.int k)) [some (.d s.e), y1, y2, y3, y4, y5, y6] [] = .ret (.d (.tuple [.int k, .int t])) []
  | [], _, _, _, _, _, _, _, ⟨_, h, _⟩ => nomatch h
  | k :: hs, y1, y2, y3, y4, y5, y6, hb, ⟨j, hj, ej⟩ => by
    obtain ⟨k0, k1⟩ := hb k List.mem_cons_self
    have m0 := lmoved_ev ⟨0, 0, 0, 0⟩ k 1 k0 k1
    have m1 := lmoved_ev s.a k t k0 k1
    have z0 : P4.e ⟨0, 0, 0, 0⟩ = .tuple [.tuple [.int 0, .int 0], .tuple [.int 0, .int 0]] := rfl
    have z1 : (mv k 1 ⟨0, 0, 0, 0⟩).e = .tuple [(mv k 1 ⟨0, 0, 0, 0⟩).x.e, (mv k 1 ⟨0, 0, 0, 0⟩).y.e] := rfl
    rw [z0, z1] at m0
    have eq := fun h => ev_eqP4 false (mv k t s.a) s.b h
    simp only [Bool.false_xor] at eq
    have pa : s.a.e = .tuple [.tuple [.int s.a.a, .int s.a.b], .tuple [.int s.a.c, .int s.a.d]] := rfl
    have pb : s.b.e = .tuple [.tuple [.int s.b.a, .int s.b.b], .tuple [.int s.b.c, .int s.b.d]] := rfl
    rw [List.map_cons, forGo_cons]
    have tg : gN 1 (.d (.int k)) [some (.d s.e), y1, y2, y3, y4, y5, y6] [] = some [some (.d s.e), some (.d (.int k)), y2, y3, y4, y5, y6] := rfl
    rw [tg]
    dsimp only
    have hm' := hm
    unfold mny ab1 at hm'
    by_cases c : mv k t s.a = s.b
    · refine ⟨k, ⟨k0, k1⟩, c, ?_⟩
      simp only [decide_eq_true c] at eq
      have st : L_law_steps_0 [some (.d s.e), some (.d (.int k)), y2, y3, y4, y5, y6] [] = .ret (.d (.tuple [.int k, .int t])) [] := by
        rw [stk_e s]
        unfold L_law_steps_0
        rw [pa] at m1 ⊢
        rw [pb] at eq ⊢
        generalize (mv k 1 ⟨0, 0, 0, 0⟩).x.e = u1 at *
        generalize (mv k 1 ⟨0, 0, 0, 0⟩).y.e = u2 at *
        generalize (mv k t s.a).e = u3 at *
        simp [m0, hm', m1, eq]
      rw [st, SRes.seq_ret]
    · simp only [decide_eq_false c] at eq
      have hj' : j ∈ hs := by
        rcases List.mem_cons.mp hj with z | z
        · rw [z] at ej; exact absurd ej c
        · exact z
      obtain ⟨r, hr, er, e⟩ := steps_loop hm hs (some (.d (.int k))) (some (.d (.tuple [.int (s.b.a - s.a.a), .int (s.b.b - s.a.b)]))) (some (.d (.tuple [.int (s.b.c - s.a.c), .int (s.b.d - s.a.d)]))) (some (.d (.int t))) (some (.d (mv k 1 ⟨0, 0, 0, 0⟩).x.e)) (some (.d (mv k 1 ⟨0, 0, 0, 0⟩).y.e)) (fun x hx => hb x (List.mem_cons_of_mem _ hx)) ⟨j, hj', ej⟩
      refine ⟨r, hr, er, ?_⟩
      have st : L_law_steps_0 [some (.d s.e), some (.d (.int k)), y2, y3, y4, y5, y6] [] = .next [some (.d s.e), some (.d (.int k)), some (.d (.tuple [.int (s.b.a - s.a.a), .int (s.b.b - s.a.b)])), some (.d (.tuple [.int (s.b.c - s.a.c), .int (s.b.d - s.a.d)])), some (.d (.int t)), some (.d (mv k 1 ⟨0, 0, 0, 0⟩).x.e), some (.d (mv k 1 ⟨0, 0, 0, 0⟩).y.e)] [] := by
        clear e tg
        rw [stk_e s]
        unfold L_law_steps_0
        rw [pa] at m1 ⊢
        rw [pb] at eq ⊢
        generalize (mv k 1 ⟨0, 0, 0, 0⟩).x.e = u1 at *
        generalize (mv k 1 ⟨0, 0, 0, 0⟩).y.e = u2 at *
        generalize (mv k t s.a).e = u3 at *
        simp [m0, hm', m1, eq]
      rw [st, SRes.seq_next, e]
theorem steps_ev {s : Stk} (hs : WkS s) : ∃ k t : Int, (0 ≤ k ∧ k < 8) ∧ (0 < t ∧ t ≤ 1000) ∧ s.b = mv k t s.a ∧ F_law_steps [s.e] = .ok (.tuple [.int k, .int t]) := by
  obtain ⟨h, t, hh, ht, eb⟩ := hs.m
  have hm : mny s.a s.b = t := by rw [eb]; exact steps_many hh.1 hh.2 (by omega) s.a
  obtain ⟨k, hk, ek, e⟩ := steps_loop hm [0, 1, 2, 3, 4, 5, 6, 7] none none none none none none (by decide) ⟨h, by rcases heads hh.1 hh.2 with z | z | z | z | z | z | z | z <;> subst z <;> decide, eb.symm⟩
  refine ⟨k, t, hk, ⟨by omega, ht.2⟩, ek.symm, ?_⟩
  have r8 : rngOk 8 = true := rng_of (by decide) (by decide)
  have ir : iRange 8 0 = [0, 1, 2, 3, 4, 5, 6, 7].map fun k => U.d (.int k) := rfl
  unfold F_law_steps B_law_steps
  rw [pfOf_ap]
  generalize s.e = se at *
  simp only [List.map_cons, List.map_nil] at e ir
  simp [r8, ir, e]
/-- strokes that cover the same as one -/
structure Parts (s : Stk) (P : List Stk) : Prop where
  ok : ∀ p ∈ P, p.ok ∧ bdS p
  cv : ∀ q z, Cv P q z ↔ Cv [s] q z
  ln : P.length ≤ 4
theorem Parts.fl {s : Stk} {P : List Stk} (h : Parts s P) : Parts s (P.map Wk.Stk.fl) := ⟨fun p hp => by
  obtain ⟨q, hq, rfl⟩ := List.mem_map.mp hp
  exact ⟨fl_ok (h.ok q hq).1, (h.ok q hq).2.2, (h.ok q hq).2.1⟩, fun q z => by rw [Cv_fl fun p hp => (h.ok p hp).1]; exact h.cv q z, by rw [List.length_map]; exact h.ln⟩
theorem parts_two {i k t u : Int} {p : P4} (k0 : 0 ≤ k) (k1 : k < 8) (hu : 0 < u) (ht : u < t) (h2 : t ≤ 1000) (hp : p.bd 1000000) : Parts ⟨i, p, mv k t p⟩ [⟨i, p, mv k u p⟩, ⟨i, mv k u p, mv k t p⟩] := by
  have e : mv k t p = mv k (t - u) (mv k u p) := by rw [mv_mv]; congr 1; omega
  have b0 : p.bd big := hp.mono (by decide)
  have b1 : (mv k u p).bd big := (mv_bd (m := 1000) k0 k1 hp (by omega) (by omega)).mono (by decide)
  have b2 : (mv k t p).bd big := (mv_bd (m := 1000) k0 k1 hp (by omega) (by omega)).mono (by decide)
  refine ⟨fun q hq => ?_, fun q z => Cv_parts k0 k1 hu ht i p, by simp⟩
  rcases List.mem_cons.mp hq with z | z
  · rw [z]; exact ⟨mv_ok k0 k1 (by omega) i p, b0, b1⟩
  · rw [List.mem_singleton.mp z]
    refine ⟨?_, b1, b2⟩
    rw [e]
    exact mv_ok k0 k1 (by omega) i _
end Lw

namespace Lw
open PySem L2 Wk
noncomputable def R3_chg : Es := (sSeq (sSet 6 (eBin opMod (eBin opFdiv (eBin opIx (eV 4) (eC (.int 3))) (eC (.int 4))) (eBin (opAdd false) (eB fLen (aCons (eV 2) aNil)) (eC (.int 1)))))
    (sSet 2 (eBin (opAdd false) (eBin (opAdd false) (eSl false (eV 2) oNo (oSo (eV 6))) (eV 5)) (eSl false (eV 2) (oSo (eV 6)) oNo))))
noncomputable def R2_chg : Es := (sSeq (sIf (tBin opEq (eBin opMod (eBin opIx (eV 4) (eC (.int 3))) (eC (.int 4))) (eC (.int 1)))
    (sSet 5 (eBin (opAdd false) (eV 5) (eV 5)))
    sNil) R3_chg)
noncomputable def R1_chg : Es := (sSeq (sIf (tBin opEq (eBin opMod (eBin opIx (eV 4) (eC (.int 2))) (eC (.int 2))) (eC (.int 1)))
    (sSet 5 (eLc false [13] (iSeq (eV 5)) (gN 13) cYes K_law_changed_0))
    sNil) R2_chg)
theorem chg_is : L_law_changed_1 = (sSeq (sSet 4 (eCall F_law_row (aCons (eCall F_law_cell (aCons (eV 0) (aCons (eV 3) aNil))) (aCons (eC (.int 1000)) (aCons (eC (.int 4)) aNil)))))
    (sSeq (sAsg (gTup' 3 (gCons' (gN 7) (gCons' (gN 8) (gCons' (gN 9) gNil')))) (eBin opIx (eV 1) (eV 3)))
    (sSeq (sAsg (gTup' 2 (gCons' (gN 10) (gCons' (gN 11) gNil'))) (eCall F_law_steps (aCons (eBin opIx (eV 1) (eV 3)) aNil)))
    (sSeq (sSet 5 (eLst false (aCons (eTup (aCons (eV 7) (aCons (eV 8) (aCons (eV 9) aNil)))) aNil)))
    (sSeq (sIf (bAnd (tBin opEq (eBin opMod (eBin opIx (eV 4) (eC (.int 0))) (eC (.int 3))) (eC (.int 1))) (tBin opGt (eV 11) (eC (.int 1))))
    (sSeq (sSet 12 (eCall F_law_moved (aCons (eV 8) (aCons (eV 10) (aCons (eBin (opAdd false) (eC (.int 1)) (eBin opMod (eBin opIx (eV 4) (eC (.int 1))) (eBin opSub (eV 11) (eC (.int 1))))) aNil)))))
    (sSet 5 (eLst false (aCons (eTup (aCons (eV 7) (aCons (eV 8) (aCons (eV 12) aNil)))) (aCons (eTup (aCons (eV 7) (aCons (eV 12) (aCons (eV 9) aNil)))) aNil)))))
    sNil) R1_chg))))) := rfl
abbrev cE (w0 w1 : U) (M : List Stk) (k : U) (r : List D) (P : List Stk) (y6 a b c d e y12 y13 : Option U) : Env' := [some w0, some w1, some (.d (.list (M.map Stk.e))), some k, some (.d (.list r)), some (.d (.list (P.map Stk.e))), y6, a, b, c, d, e, y12, y13]
theorem chg_3 {M P : List Stk} (w0 w1 k : U) (x0 x1 x2 x3 : Int) (hl : M.length + P.length ≤ 100000) (y6 a b c d e y12 y13 : Option U) : ∃ n z6, n ≤ M.length ∧ R3_chg (cE w0 w1 M k [.int x0, .int x1, .int x2, .int x3] P y6 a b c d e y12 y13) [] = .next (cE w0 w1 (M.take n ++ P ++ M.drop n) k [.int x0, .int x1, .int x2, .int x3] P z6 a b c d e y12 y13) [] := by
  have a0 := Int.emod_nonneg (x3 / 4) (show (M.length : Int) + 1 ≠ 0 by omega)
  have a1 := Int.emod_lt_of_pos (x3 / 4) (show 0 < (M.length : Int) + 1 by omega)
  obtain ⟨n, hn⟩ := Int.eq_ofNat_of_zero_le a0
  have hn1 : n ≤ M.length := by omega
  refine ⟨n, some (.d (.int n)), hn1, ?_⟩
  have lm : (M.map Stk.e).length = M.length := List.length_map _
  have t1 := cut_to (M.map Stk.e) n (by omega)
  have t2 := cut_from (M.map Stk.e) n (by omega)
  rw [← List.map_take] at t1
  rw [← List.map_drop] at t2
  have slE : ∀ (f : Ev) (lo hi : Eo) (env : Env') (h : Sto), eSl false f lo hi env h = (f env h).bind fun u h1 => (lo env h1).bind fun l h2 => (hi env h2).bind fun r h3 => opSl false u l r h3 := fun _ _ _ _ _ => rfl
  have soE : ∀ (f : Ev) (env : Env') (h : Sto), oSo f env h = (f env h).bind fun u h1 => match intOf u with | some i => .ok (some i) h1 | none => .stuck := fun _ _ _ => rfl
  have noE : ∀ (env : Env') (h : Sto), oNo env h = .ok none h := fun _ _ => rfl
  have slL : ∀ (xs : List D) (lo hi : Option Int) (h : Sto), opSl false (.d (.list xs)) lo hi h = .ok (.d (.list (cutD xs lo hi))) h := fun _ _ _ _ => rfl
  have ad1 := fun h => addLL ((M.take n).map Stk.e) (P.map Stk.e) h (by rw [List.length_map, List.length_map, List.length_take]; omega)
  have ad2 := fun h => addLL ((M.take n).map Stk.e ++ P.map Stk.e) ((M.drop n).map Stk.e) h (by rw [List.length_append, List.length_map, List.length_map, List.length_map, List.length_take, List.length_drop]; omega)
  have mp : (M.take n ++ P ++ M.drop n).map Stk.e = (M.take n).map Stk.e ++ P.map Stk.e ++ (M.drop n).map Stk.e := by rw [List.map_append, List.map_append]
  have dv : divOk 4 = true := divOk_s (by decide) (by decide)
  have pz : (0 : Int) < (M.length : Int) + 1 := by omega
  unfold cE R3_chg
  rw [mp]
  generalize (M.take n).map Stk.e = A at *
  generalize (M.drop n).map Stk.e = B at *
  generalize P.map Stk.e = C at *
  generalize M.map Stk.e = MM at *
  have lm' : (MM.length : Int) = (M.length : Int) := by rw [lm]
  generalize (M.length : Int) = ml at *
  simp [dv, lm', pz, hn, slE, soE, noE, slL, t1, t2, ad1, ad2]
theorem chg_2 {s : Stk} {M P : List Stk} (hP : Parts s P) (h2 : P.length ≤ 2) (w0 w1 k : U) (x0 x1 x2 x3 : Int) (y6 a b c d e y12 y13 : Option U) : ∃ Q, Parts s Q ∧ R2_chg (cE w0 w1 M k [.int x0, .int x1, .int x2, .int x3] P y6 a b c d e y12 y13) [] = R3_chg (cE w0 w1 M k [.int x0, .int x1, .int x2, .int x3] Q y6 a b c d e y12 y13) [] := by
  have ad := fun h => addLL (P.map Stk.e) (P.map Stk.e) h (by rw [List.length_map]; omega)
  unfold R2_chg
  generalize R3_chg = R at *
  by_cases c1 : x3 % 4 = 1
  · refine ⟨P ++ P, ⟨fun p hp => (List.mem_append.mp hp).elim (hP.ok p) (hP.ok p), fun q z => by rw [Cv_app, or_self]; exact hP.cv q z, by rw [List.length_append]; omega⟩, ?_⟩
    unfold cE
    rw [List.map_append]
    generalize P.map Stk.e = PP at *
    simp [c1, ad]
  · refine ⟨P, hP, ?_⟩
    unfold cE
    generalize P.map Stk.e = PP at *
    simp [c1]
theorem chg_1 {s : Stk} {M P : List Stk} (hP : Parts s P) (h2 : P.length ≤ 2) (w0 w1 k : U) (x0 x1 x2 x3 : Int) (y6 a b c d e y12 : Option U) : ∃ Q, Parts s Q ∧ Q.length ≤ 2 ∧ R1_chg (cE w0 w1 M k [.int x0, .int x1, .int x2, .int x3] P y6 a b c d e y12 none) [] = R2_chg (cE w0 w1 M k [.int x0, .int x1, .int x2, .int x3] Q y6 a b c d e y12 none) [] := by
  unfold R1_chg
  by_cases c1 : x2 % 2 = 1
  · refine ⟨P.map Wk.Stk.fl, hP.fl, by rw [List.length_map]; exact h2, ?_⟩
    have lc : lcGo (gN 13) cYes K_law_changed_0 (cE w0 w1 M k [.int x0, .int x1, .int x2, .int x3] P y6 a b c d e y12 none) ((P.map Stk.e).map U.d) [] [] = .ok ((P.map Wk.Stk.fl).map Stk.e) [] := by
      have := lcGo_mapF (t := gN 13) (e := K_law_changed_0) (env := cE w0 w1 M k [.int x0, .int x1, .int x2, .int x3] P y6 a b c d e y12 none) (h := []) (fun p : Stk => U.d p.e) (fun p => p.fl.e) P [] (fun p hp => by
        refine ⟨_, rfl, ?_⟩
        rw [stk_e p, stk_e p.fl]
        show _ = Res.ok (U.d (.tuple [.int p.ink, p.b.e, p.a.e])) []
        unfold K_law_changed_0 cE
        generalize p.a.e = pa
        generalize p.b.e = pb
        simp) (by simp; omega)
      rw [List.nil_append] at this
      rw [List.map_map, List.map_map]
      exact this
    unfold cE at *
    generalize R2_chg = R at *
    generalize (P.map Wk.Stk.fl).map Stk.e = QQ at *
    generalize P.map Stk.e = PP at *
    simp [c1, wipeE, lc]
  · refine ⟨P, hP, h2, ?_⟩
    unfold cE at *
    generalize R2_chg = R at *
    generalize P.map Stk.e = PP at *
    simp [c1]
theorem chg_step (ns : List Int) (hl : ns.length ≤ 63) {L : List Stk} (hL : ∀ s ∈ L, WkS s) {i : Nat} (hi : i < L.length) (lL : L.length ≤ 60) {M : List Stk} (hM : M.length ≤ 10000) (y4 y5 y6 a b c d e y12 : Option U) : ∃ n P z4 z5 z6 a' b' c' d' e' z12, n ≤ M.length ∧ Parts L[i] P ∧ L_law_changed_1 [some (.d (.list (ns.map .int))), some (.d (.list (L.map Stk.e))), some (.d (.list (M.map Stk.e))), some (.d (.int i)), y4, y5, y6, a, b, c, d, e, y12, none] [] = .next [some (.d (.list (ns.map .int))), some (.d (.list (L.map Stk.e))), some (.d (.list ((M.take n ++ P ++ M.drop n).map Stk.e))), some (.d (.int i)), z4, z5, z6, a', b', c', d', e', z12, none] [] := by
  obtain ⟨cc, ecc⟩ := cell_ev' ns hl i (by omega) (by omega)
  obtain ⟨row, er, lr, hr⟩ := row_ev cc 1000 4 (by decide) (by decide) (by decide)
  have er' : F_law_row [.int cc, .int 1000, .int 4] = .ok (.list (row.map .int)) := er
  obtain ⟨x0, x1, x2, x3, rfl⟩ := four lr
  simp only [List.map_cons, List.map_nil] at er'
  have gi : L[i]? = some L[i] := List.getElem?_eq_getElem hi
  have ws := hL _ (List.mem_of_getElem? gi)
  have at1 : atI (L.map Stk.e) (i : Int) = some L[i].e := atI_nat (by rw [List.getElem?_map, gi]; rfl)
  generalize L[i] = s at *
  obtain ⟨k, t, hk, ht, eb, es⟩ := steps_ev ws
  have fin : ∀ P : List Stk, Parts s P → P.length ≤ 2 → ∀ (y6 a b c d e y12 : Option U), ∃ n Q z6, n ≤ M.length ∧ Parts s Q ∧ R1_chg (cE (.d (.list (ns.map .int))) (.d (.list (L.map Stk.e))) M (.d (.int i)) [.int x0, .int x1, .int x2, .int x3] P y6 a b c d e y12 none) [] = .next (cE (.d (.list (ns.map .int))) (.d (.list (L.map Stk.e))) (M.take n ++ Q ++ M.drop n) (.d (.int i)) [.int x0, .int x1, .int x2, .int x3] Q z6 a b c d e y12 none) [] := fun P hP h2 y6 a b c d e y12 => by
    obtain ⟨Q1, p1, l1, e1⟩ := chg_1 hP h2 (M := M) (.d (.list (ns.map .int))) (.d (.list (L.map Stk.e))) (.d (.int i)) x0 x1 x2 x3 y6 a b c d e y12
    obtain ⟨Q2, p2, e2⟩ := chg_2 p1 l1 (M := M) (.d (.list (ns.map .int))) (.d (.list (L.map Stk.e))) (.d (.int i)) x0 x1 x2 x3 y6 a b c d e y12 none
    obtain ⟨n, z6, hn, e3⟩ := chg_3 (M := M) (P := Q2) (.d (.list (ns.map .int))) (.d (.list (L.map Stk.e))) (.d (.int i)) x0 x1 x2 x3 (by have := p2.ln; omega) y6 a b c d e y12 none
    exact ⟨n, Q2, z6, hn, p2, by rw [e1, e2, e3]⟩
  have single : Parts s [s] := ⟨fun p hp => by rw [List.mem_singleton.mp hp]; exact ⟨ws.ok, ws.a.1.mono (by decide), ws.b.1.mono (by decide)⟩, fun q z => Iff.rfl, by simp⟩
  rw [chg_is]
  by_cases c1 : x0 % 3 = 1 ∧ 1 < t
  · have u0 := Int.emod_nonneg x1 (show t - 1 ≠ 0 by omega)
    have u1 := Int.emod_lt_of_pos x1 (show 0 < t - 1 by omega)
    have em := lmoved_ev s.a k (1 + x1 % (t - 1)) hk.1 hk.2
    have two := parts_two (i := s.ink) hk.1 hk.2 (show 0 < 1 + x1 % (t - 1) by omega) (show 1 + x1 % (t - 1) < t by omega) ht.2 ws.a.1
    rw [← eb] at two
    have two' : Parts s [⟨s.ink, s.a, mv k (1 + x1 % (t - 1)) s.a⟩, ⟨s.ink, mv k (1 + x1 % (t - 1)) s.a, s.b⟩] := two
    obtain ⟨n, Q, z6, hn, pQ, e3⟩ := fin _ two' (by simp) y6 (some (.d (.int s.ink))) (some (.d s.a.e)) (some (.d s.b.e)) (some (.d (.int k))) (some (.d (.int t))) (some (.d (mv k (1 + x1 % (t - 1)) s.a).e))
    refine ⟨n, Q, some (.d (.list [.int x0, .int x1, .int x2, .int x3])), some (.d (.list (Q.map Stk.e))), z6, some (.d (.int s.ink)), some (.d s.a.e), some (.d s.b.e), some (.d (.int k)), some (.d (.int t)), some (.d (mv k (1 + x1 % (t - 1)) s.a).e), hn, pQ, ?_⟩
    ·
      unfold cE at e3
      have pe : ([⟨s.ink, s.a, mv k (1 + x1 % (t - 1)) s.a⟩, ⟨s.ink, mv k (1 + x1 % (t - 1)) s.a, s.b⟩] : List Stk).map Stk.e = [.tuple [.int s.ink, s.a.e, (mv k (1 + x1 % (t - 1)) s.a).e], .tuple [.int s.ink, (mv k (1 + x1 % (t - 1)) s.a).e, s.b.e]] := rfl
      rw [pe] at e3
      have lt : (0 : Int) < t - 1 := by omega
      rw [← e3]
      clear e3 pe
      rw [stk_e s] at at1 es
      generalize R1_chg = R at *
      generalize ns.map PyData.int = NS at *
      generalize M.map Stk.e = MM at *
      generalize L.map Stk.e = LL at *
      generalize (mv k (1 + x1 % (t - 1)) s.a).e = am at *
      generalize s.a.e = sa at *
      generalize s.b.e = sb at *
      simp [ecc, er', at1, es, c1.1, c1.2, lt, em]
  · obtain ⟨n, Q, z6, hn, pQ, e3⟩ := fin _ single (by simp) y6 (some (.d (.int s.ink))) (some (.d s.a.e)) (some (.d s.b.e)) (some (.d (.int k))) (some (.d (.int t))) y12
    refine ⟨n, Q, some (.d (.list [.int x0, .int x1, .int x2, .int x3])), some (.d (.list (Q.map Stk.e))), z6, some (.d (.int s.ink)), some (.d s.a.e), some (.d s.b.e), some (.d (.int k)), some (.d (.int t)), y12, hn, pQ, ?_⟩
    ·
      unfold cE at e3
      have pe : [s].map Stk.e = [.tuple [.int s.ink, s.a.e, s.b.e]] := rfl
      rw [pe] at e3
      rw [← e3]
      clear e3 pe
      rw [stk_e s] at at1 es
      generalize R1_chg = R at *
      generalize ns.map PyData.int = NS at *
      generalize M.map Stk.e = MM at *
      generalize L.map Stk.e = LL at *
      generalize s.a.e = sa at *
      generalize s.b.e = sb at *
      by_cases c2 : x0 % 3 = 1
      · have c3 : ¬ 1 < t := fun z => c1 ⟨c2, z⟩
        simp [ecc, er', at1, es, c2, c3]
      · simp [ecc, er', at1, es, c2]
end Lw

namespace Lw
open PySem L2 Wk
theorem changed_ev (ns : List Int) (hl : ns.length ≤ 63) {L : List Stk} (hL : ∀ s ∈ L, WkS s) (lL : L.length ≤ 60) : ∃ M : List Stk, F_law_changed [.list (ns.map .int), .list (L.map Stk.e)] = .ok (.list (M.map Stk.e)) ∧ M.length ≤ 4000 ∧ (∀ s ∈ M, s.ok ∧ bdS s) ∧ ∀ q z, Cv M q z ↔ Cv L q z := by
  have rg : rngOk (L.length : Int) = true := rng_of (by omega) (by omega)
  obtain ⟨env', h', e, M, z3, z4, z5, z6, a, b, c, d, e', z12, e1, e2, e3, e4, e5⟩ := forGo_inv (t := gN 3) (b := L_law_changed_1) (us := iRange L.length 0)
    (fun i env h => ∃ (M : List Stk) (z3 z4 z5 z6 a b c d e z12 : Option U), env = [some (.d (.list (ns.map .int))), some (.d (.list (L.map Stk.e))), some (.d (.list (M.map Stk.e))), z3, z4, z5, z6, a, b, c, d, e, z12, none] ∧ h = [] ∧ M.length ≤ 4 * i ∧ (∀ s ∈ M, s.ok ∧ bdS s) ∧ ∀ q z, Cv M q z ↔ Cv (L.take i) q z) 0
    (env := [some (.d (.list (ns.map .int))), some (.d (.list (L.map Stk.e))), some (.d (.list [])), none, none, none, none, none, none, none, none, none, none, none]) (h := []) ⟨[], none, none, none, none, none, none, none, none, none, none, rfl, rfl, by simp, fun _ h => (nomatch h), fun q z => by rw [List.take_zero]⟩ (fun i u env h eu hI => by
      obtain ⟨M, z3, z4, z5, z6, a, b, c, d, e, z12, rfl, rfl, hM, okM, cvM⟩ := hI
      obtain ⟨hi, rfl⟩ := iRange_get eu
      rw [Nat.zero_add] at *
      obtain ⟨n, P, w4, w5, w6, a', b', c', d', e', w12, hn, pP, st⟩ := chg_step ns hl hL hi lL (M := M) (by omega) z4 z5 z6 a b c d e z12
      refine ⟨_, _, _, rfl, ?_, M.take n ++ P ++ M.drop n, some (.d (.int i)), w4, w5, w6, a', b', c', d', e', w12, rfl, rfl, ?_, fun s hs => ?_, fun q z => ?_⟩
      · rw [Int.zero_add]
        exact st
      · have := pP.ln
        rw [List.length_append, List.length_append, List.length_take, List.length_drop]
        omega
      · rcases List.mem_append.mp hs with x | x
        · rcases List.mem_append.mp x with x | x
          · exact okM s (List.mem_of_mem_take x)
          · exact pP.ok s x
        · exact okM s (List.mem_of_mem_drop x)
      · have e1 : Cv M q z ↔ Cv (M.take n) q z ∨ Cv (M.drop n) q z := by
          rw [← Cv_app, List.take_append_drop]
        have e2 : L.take (i + 1) = L.take i ++ [L[i]] := by rw [List.take_add_one, List.getElem?_eq_getElem hi]; rfl
        rw [Cv_app, Cv_app, e2, Cv_app, ← cvM, e1, pP.cv]
        grind)
  subst e1 e2
  rw [iRange_len] at e3 e5
  rw [Nat.zero_add, List.take_length] at e5
  refine ⟨M, ?_, by omega, e4, e5⟩
  unfold F_law_changed B_law_changed
  rw [pfOf_ap]
  have lm : (L.map Stk.e).length = L.length := List.length_map _
  generalize M.map Stk.e = MM at *
  generalize L.map Stk.e = LL at *
  generalize ns.map PyData.int = NS at *
  simp [lm, rg, e]
theorem ap_get (h0 : Sto) (o : Ob) : (h0 ++ [o])[h0.length]? = some o := by simp
theorem ap_set (h0 : Sto) (o o' : Ob) : (h0 ++ [o]).set h0.length o' = h0 ++ [o'] := by simp
theorem ixRef (n : Nat) (xs : List D) (i : Int) (h : Sto) (e : h[n]? = some (.lst xs)) : opIx (.ref n) (.d (.int i)) h = match atI xs i with | some x => .ok (.d x) h | none => .stuck := by
  unfold opIx
  simp only [ev_intOf, tupOf, ev_lstR, e]
  all_goals (cases atI xs i <;> rfl)
theorem shift_in (v p : P4) (h0 : Sto) (acc : List D) (ha : acc.length ≤ 10) (w0 : U) (e2 e3 e4 e5 e7 e8 : Option U) (rest : List U) : forGo (gTup' 2 (gCons' (gN 7) (gCons' (gN 8) gNil'))) L_law_shifted_0 (.d p.e :: rest) [some w0, some (.d v.e), e2, e3, e4, e5, some (.ref h0.length), e7, e8] (h0 ++ [Ob.lst acc]) = forGo (gTup' 2 (gCons' (gN 7) (gCons' (gN 8) gNil'))) L_law_shifted_0 rest [some w0, some (.d v.e), e2, e3, e4, e5, some (.ref h0.length), some (.d p.x.e), some (.d p.y.e)] (h0 ++ [Ob.lst (acc ++ [(shP v p).e])]) := by
  have ft : fits (acc.length + 1) = true := fits_of (by omega)
  have g1 := ap_get h0 (.lst acc)
  have s1 := fun o' => ap_set h0 (.lst acc) o'
  have pe : (shP v p).e = .tuple [.tuple [.int (p.a + v.a), .int (p.b + v.b)], .tuple [.int (p.c + v.c), .int (p.d + v.d)]] := rfl
  rw [forGo_cons]
  have tg : gTup' 2 (gCons' (gN 7) (gCons' (gN 8) gNil')) (.d p.e) [some w0, some (.d v.e), e2, e3, e4, e5, some (.ref h0.length), e7, e8] (h0 ++ [Ob.lst acc]) = some [some w0, some (.d v.e), e2, e3, e4, e5, some (.ref h0.length), some (.d p.x.e), some (.d p.y.e)] := rfl
  rw [tg]
  dsimp only
  have st : L_law_shifted_0 [some w0, some (.d v.e), e2, e3, e4, e5, some (.ref h0.length), some (.d p.x.e), some (.d p.y.e)] (h0 ++ [Ob.lst acc]) = .next [some w0, some (.d v.e), e2, e3, e4, e5, some (.ref h0.length), some (.d p.x.e), some (.d p.y.e)] (h0 ++ [Ob.lst (acc ++ [(shP v p).e])]) := by
    rw [pe]
    unfold L_law_shifted_0 P4.e P4.x P4.y Nm.e
    simp [ft]
  rw [st, SRes.seq_next]
def shS (v : P4) (s : Stk) : Stk := mot id (shP v) s
theorem shift_step (v : P4) (s : Stk) (R : Sto) (acc : List D) (ha : acc.length ≤ 10000) (w0 : U) (y6 y7 y8 : Option U) : ∃ z6 z7 z8, L_law_shifted_1 [some w0, some (.d v.e), some (.ref 0), some (.d (.int s.ink)), some (.d s.a.e), some (.d s.b.e), y6, y7, y8] (.lst acc :: R) = .next [some w0, some (.d v.e), some (.ref 0), some (.d (.int s.ink)), some (.d s.a.e), some (.d s.b.e), z6, z7, z8] (.lst (acc ++ [(shS v s).e]) :: (R ++ [.lst [(shP v s.a).e, (shP v s.b).e]])) := by
  have i1 := shift_in v s.a (.lst acc :: R) [] (by simp) w0 (some (.ref 0)) (some (.d (.int s.ink))) (some (.d s.a.e)) (some (.d s.b.e)) y7 y8 [.d s.b.e]
  have i2 := shift_in v s.b (.lst acc :: R) [(shP v s.a).e] (by simp) w0 (some (.ref 0)) (some (.d (.int s.ink))) (some (.d s.a.e)) (some (.d s.b.e)) (some (.d s.a.x.e)) (some (.d s.a.y.e)) []
  rw [List.nil_append] at i1
  have i3 := i1.trans i2
  rw [forGo_nil] at i3
  refine ⟨some (.ref (Ob.lst acc :: R).length), some (.d s.b.x.e), some (.d s.b.y.e), ?_⟩
  have ft : fits (acc.length + 1) = true := fits_of (by omega)
  have se : (shS v s).e = .tuple [.int s.ink, (shP v s.a).e, (shP v s.b).e] := rfl
  rw [se]
  have two : [(shP v s.a).e] ++ [(shP v s.b).e] = [(shP v s.a).e, (shP v s.b).e] := rfl
  rw [two] at i3
  have ga := ap_get (.lst acc :: R) (.lst [(shP v s.a).e, (shP v s.b).e])
  have x0 := ixRef (Ob.lst acc :: R).length [(shP v s.a).e, (shP v s.b).e] 0 _ ga
  have x1 := ixRef (Ob.lst acc :: R).length [(shP v s.a).e, (shP v s.b).e] 1 _ ga
  rw [atI_0] at x0
  rw [atI_1] at x1
  dsimp only at x0 x1
  clear i1 i2 two se ga
  unfold L_law_shifted_1
  generalize (shP v s.a).e = qa at *
  generalize (shP v s.b).e = qb at *
  generalize s.a.e = sa at *
  generalize s.b.e = sb at *
  generalize s.b.x.e = bx at *
  generalize s.b.y.e = by_ at *
  generalize v.e = ve at *
  simp only [List.length_cons, List.cons_append] at *
  simp [i3, x0, x1, ft]
theorem shift_loop (v : P4) (w0 : U) : ∀ (S : List Stk) (R : Sto) (acc : List D) (y3 y4 y5 y6 y7 y8 : Option U), acc.length + S.length ≤ 10000 → ∃ z3 z4 z5 z6 z7 z8 R', forGo (gTup' 3 (gCons' (gN 3) (gCons' (gN 4) (gCons' (gN 5) gNil')))) L_law_shifted_1 ((S.map Stk.e).map U.d) [some w0, some (.d v.e), some (.ref 0), y3, y4, y5, y6, y7, y8] (.lst acc :: R) = .next [some w0, some (.d v.e), some (.ref 0), z3, z4, z5, z6, z7, z8] (.lst (acc ++ (S.map (shS v)).map Stk.e) :: R')
  | [], R, acc, y3, y4, y5, y6, y7, y8, _ => ⟨y3, y4, y5, y6, y7, y8, R, by simp [forGo_nil]⟩
  | s :: S, R, acc, y3, y4, y5, y6, y7, y8, hl => by
    rw [List.length_cons] at hl
    obtain ⟨u6, u7, u8, e1⟩ := shift_step v s R acc (by omega) w0 y6 y7 y8
    obtain ⟨z3, z4, z5, z6, z7, z8, R', e2⟩ := shift_loop v w0 S (R ++ [.lst [(shP v s.a).e, (shP v s.b).e]]) (acc ++ [(shS v s).e]) (some (.d (.int s.ink))) (some (.d s.a.e)) (some (.d s.b.e)) u6 u7 u8 (by rw [List.length_append, List.length_singleton]; omega)
    refine ⟨z3, z4, z5, z6, z7, z8, R', ?_⟩
    rw [List.map_cons, List.map_cons, forGo_cons]
    have tg : gTup' 3 (gCons' (gN 3) (gCons' (gN 4) (gCons' (gN 5) gNil'))) (.d s.e) [some w0, some (.d v.e), some (.ref 0), y3, y4, y5, y6, y7, y8] (.lst acc :: R) = some [some w0, some (.d v.e), some (.ref 0), some (.d (.int s.ink)), some (.d s.a.e), some (.d s.b.e), y6, y7, y8] := rfl
    rw [tg]
    dsimp only
    rw [e1, SRes.seq_next, e2, List.map_cons, List.map_cons, List.append_assoc]
    rfl
theorem shiftL_ev (v : P4) (S : List Stk) (hl : S.length ≤ 4000) : F_law_shifted [.list (S.map Stk.e), v.e] = .ok (.list ((S.map (shS v)).map Stk.e)) := by
  obtain ⟨z3, z4, z5, z6, z7, z8, R', e⟩ := shift_loop v (.d (.list (S.map Stk.e))) S [] [] none none none none none none (by simp; omega)
  rw [List.nil_append] at e
  unfold F_law_shifted B_law_shifted
  rw [pfOf_ap]
  generalize (S.map (shS v)).map Stk.e = QQ at *
  generalize S.map Stk.e = SS at *
  generalize v.e = ve at *
  simp [e]
theorem shiftT_ev (v : P4) (S : List Stk) (hl : S.length ≤ 4000) : F_law_shifted [.tuple (S.map Stk.e), v.e] = .ok (.list ((S.map (shS v)).map Stk.e)) := by
  obtain ⟨z3, z4, z5, z6, z7, z8, R', e⟩ := shift_loop v (.d (.tuple (S.map Stk.e))) S [] [] none none none none none none (by simp; omega)
  rw [List.nil_append] at e
  unfold F_law_shifted B_law_shifted
  rw [pfOf_ap]
  generalize (S.map (shS v)).map Stk.e = QQ at *
  generalize S.map Stk.e = SS at *
  generalize v.e = ve at *
  simp [e]
end Lw

namespace Lw
open PySem L2 Wk
theorem WkS.fn {s : Stk} (h : WkS s) : FnS s := ⟨h.ok, ⟨h.a.1.mono (by decide), h.b.1.mono (by decide)⟩, h.a.2, h.b.2, h.i⟩
def swS (s : Stk) : Stk := mot swI id s
theorem sw_at {i : Int} (h0 : 0 ≤ i) (h1 : i < 8) : atI [PyData.int 1, .int 0, .int 2, .int 3, .int 4, .int 5, .int 6, .int 7] i = some (.int (swI i)) := by
  rcases heads h0 h1 with z | z | z | z | z | z | z | z <;> subst z
  · exact atI_nat (j := 0) rfl
  · exact atI_nat (j := 1) rfl
  · exact atI_nat (j := 2) rfl
  · exact atI_nat (j := 3) rfl
  · exact atI_nat (j := 4) rfl
  · exact atI_nat (j := 5) rfl
  · exact atI_nat (j := 6) rfl
  · exact atI_nat (j := 7) rfl
theorem sw_lc0 {S : List Stk} (hS : ∀ s ∈ S, 0 ≤ s.ink ∧ s.ink < 8) (hl : S.length ≤ 4000) (e0 e1 e2 e3 e4 e5 e6 : Option U) : lcGo (gTup' 3 (gCons' (gN 7) (gCons' (gN 8) (gCons' (gN 9) gNil')))) cYes K_law_0 [e0, e1, e2, e3, e4, e5, e6, none, none, none] ((S.map Stk.e).map U.d) [] [] = .ok ((S.map swS).map Stk.e) [] := by
  have := lcGo_mapF (t := gTup' 3 (gCons' (gN 7) (gCons' (gN 8) (gCons' (gN 9) gNil')))) (e := K_law_0) (env := [e0, e1, e2, e3, e4, e5, e6, none, none, none]) (h := []) (fun p : Stk => U.d p.e) (fun p => (swS p).e) S [] (fun s hs => by
    refine ⟨_, rfl, ?_⟩
    have a := sw_at (hS s hs).1 (hS s hs).2
    show _ = Res.ok (U.d (.tuple [.int (swI s.ink), s.a.e, s.b.e])) []
    unfold K_law_0
    generalize s.a.e = pa
    generalize s.b.e = pb
    simp [a]) (by simp; omega)
  rw [List.nil_append] at this
  rw [List.map_map, List.map_map]
  exact this
theorem law_true : ∀ ns : List Int, ns.length ≤ 63 → (∀ z ∈ ns, PySem.Builtin.Int.intBits z ≤ 1048576) → F_law [.list (ns.map .int)] = .ok (.bool true) := by
  intro ns hl _
  obtain ⟨L, eL, lL, hL⟩ := strokes_ev ns hl 30 (by decide) (by decide)
  have fL : ∀ s ∈ L, FnS s := fun s hs => WkS.fn (hL s hs)
  have okL : ∀ s ∈ L, s.ok := fun s hs => (fL s hs).ok
  have e1 := form_ev (L := L) (fun s hs => ⟨(fL s hs).ok, (fL s hs).bd⟩) (by omega)
  have i1 := isform_ev fL (by omega)
  have IF := form_isF okL
  have fF := FnS.form fL
  have lF : (form L).length ≤ 60 := Nat.le_trans (IF.len okL) lL
  obtain ⟨M, eM, lM, okM, cvM⟩ := changed_ev ns hl hL lL
  have e2 := form_ev okM lM
  rw [form_same (fun s hs => (okM s hs).1) okL cvM] at e2
  have e3 := form_ev (L := form L) (fun s hs => ⟨(fF s hs).ok, (fF s hs).bd⟩) (by omega)
  rw [form_form okL] at e3
  have ls : ∀ st, fList false [.d (.tuple ((form L).map Stk.e))] st = .ok (.d (.list ((form L).map Stk.e))) st := fun st => rfl
  have eq1 := fun h => ev_eqTS true (form L) (form L) h
  simp only [decide_true, Bool.true_xor, Bool.not_true] at eq1
  -- two inks exchanged
  have c0 := fun e2 e3 e4 e5 e6 => sw_lc0 (S := L) (fun s hs => (fL s hs).i) (by omega) (some (.d (.list (ns.map .int)))) (some (.d (.list (L.map Stk.e)))) e2 e3 e4 e5 e6
  have c1 := fun e3 e4 e5 e6 => sw_lc0 (S := form L) (fun s hs => (fF s hs).i) (by omega) (some (.d (.list (ns.map .int)))) (some (.d (.list (L.map Stk.e)))) (some (.d (.tuple ((form L).map Stk.e)))) e3 e4 e5 e6
  have kk : K_law_1 = K_law_0 := rfl
  have e4 := form_ev (L := L.map swS) (fun s hs => by
    obtain ⟨t, ht, rfl⟩ := List.mem_map.mp hs
    exact ⟨(swM.kk t (okL t ht)).1, (fL t ht).bd⟩) (by rw [List.length_map]; omega)
  have m1 : form (L.map swS) = sortS ((form L).map swS) := swM.form okL
  have s1 := fun st => ev_sorted (b := false) (u := .d (.list (((form L).map swS).map Stk.e))) (h := st) (xs := ((form L).map swS).map Stk.e) rfl (sortOk_sk _)
  simp only [sortD_sk] at s1
  rw [← m1] at s1
  have eq2 := fun h => ev_eqTS true (form (L.map swS)) (form (L.map swS)) h
  simp only [decide_true, Bool.true_xor, Bool.not_true] at eq2
  have tp : ∀ (xs : List D) h, fTuple [.d (.list xs)] h = .ok (.d (.tuple xs)) h := fun xs h => rfl
  have mk : ∀ (xs : List D) (h : Sto), mkL false xs h = .ok (.d (.list xs)) h := fun _ _ => rfl
  -- moved
  obtain ⟨cc, ecc⟩ := cell_ev' ns hl 1 (by omega) (by omega)
  obtain ⟨row, er, lr, hr⟩ := row_ev cc 2001 4 (by decide) (by decide) (by decide)
  have er' : F_law_row [.int cc, .int 2001, .int 4] = .ok (.list (row.map .int)) := er
  obtain ⟨x0, x1, x2, x3, rfl⟩ := four lr
  simp only [List.map_cons, List.map_nil] at er'
  have b0 := hr x0 (by simp)
  have b1 := hr x1 (by simp)
  have b2 := hr x2 (by simp)
  have b3 := hr x3 (by simp)
  generalize hv : P4.mk (x0 - 1000) (x1 - 1000) (x2 - 1000) (x1 - 1000 + 2 * (x3 % 7)) = v at *
  have ve : v.e = .tuple [.tuple [.int (x0 - 1000), .int (x1 - 1000)], .tuple [.int (x2 - 1000), .int (x1 - 1000 + 2 * (x3 % 7))]] := by rw [← hv]; rfl
  have vb : v.bd 10000 := by rw [← hv]; unfold P4.bd; dsimp only; omega
  have shb : ∀ p : P4, p.bd 1000000 → (shP v p).bd big := fun p hp => by unfold P4.bd shP big at *; dsimp only; omega
  have h1 := shiftL_ev v L (by omega)
  have h2 := shiftT_ev v (form L) (by omega)
  rw [ve] at h1 h2
  have e5 := form_ev (L := L.map (shS v)) (fun s hs => by
    obtain ⟨t, ht, rfl⟩ := List.mem_map.mp hs
    exact ⟨((shM v).kk t (okL t ht)).1, shb _ (hL t ht).a.1, shb _ (hL t ht).b.1⟩) (by rw [List.length_map]; omega)
  have m2 : form (L.map (shS v)) = sortS ((form L).map (shS v)) := (shM v).form okL
  have s2 := fun st => ev_sorted (b := false) (u := .d (.list (((form L).map (shS v)).map Stk.e))) (h := st) (xs := ((form L).map (shS v)).map Stk.e) rfl (sortOk_sk _)
  simp only [sortD_sk] at s2
  rw [← m2] at s2
  have eq3 := fun h => ev_eqTS false (form (L.map (shS v))) (form (L.map (shS v))) h
  simp only [decide_true, Bool.false_xor] at eq3
  have mo : mulOk 2 (x3 % 7) = true := mulOk_of (.inl (by decide))
  unfold F_law B_law
  rw [kk, pfOf_ap]
  clear m1 m2 IF fF hr hv ve vb shb
  generalize (form (L.map (shS v))).map Stk.e = G5 at *
  generalize (form (L.map swS)).map Stk.e = G4 at *
  generalize ((form L).map (shS v)).map Stk.e = G3 at *
  generalize ((form L).map swS).map Stk.e = G2 at *
  generalize (L.map (shS v)).map Stk.e = G1 at *
  generalize (L.map swS).map Stk.e = G0 at *
  generalize (form L).map Stk.e = FF at *
  generalize L.map Stk.e = LL at *
  generalize M.map Stk.e = MM at *
  generalize ns.map PyData.int = NS at *
  simp [eL, e1, i1, eM, e2, eq1, ls, e3, wipeE, c0, c1, e4, s1, mk, tp, eq2, ecc, er', mo, h1, e5, h2, s2, eq3]
end Lw

open PySem PySem.W PyProof.Rows in
set_option maxHeartbeats 0 in
theorem PySem.Challenge.cw_turtlehouse_k32_whole_one_form_holds : PySem.Challenge.rw_turtlehouse_k32_whole_one_form.Holds := by
  w_on; o_law; k_head; (case hw => w_witness2)
  k_fill
  refine Wk.end_of (l := PySem.Challenge.rw_turtlehouse_k32_whole_one_form) (n := 63) (k := 6) (x := "_law_script") (st := Lw.s_law) (F := Lw.F_law) rfl (by decide) rfl ⟨rfl, by decide, by decide⟩ (fun w h Y => PySem.W.kIn_of Y) ?F Lw.law_true
  case F =>
    intro w mg h KX G
    refine (fun (T : Lw.Txt _ mg) => ⟨T.h_law, fun base => Lw.ok_law T⟩) ?T
    case T =>
      refine' ⟨Wk.has_mk KX G (fun _ _ _ _ _ _ us hl => match us, hl with | [_], _ => rfl) ?g1 ?g2 ?g3 ?g4,
        Wk.has_mk KX G (fun _ _ _ _ _ _ us hl => match us, hl with | [_, _], _ => rfl) ?g5 ?g6 ?g7 ?g8,
        Wk.has_mk KX G (fun _ _ _ _ _ _ us hl => match us, hl with | [_, _], _ => rfl) ?g9 ?g10 ?g11 ?g12,
        Wk.has_mk KX G (fun _ _ _ _ _ _ us hl => match us, hl with | [_, _], _ => rfl) ?g13 ?g14 ?g15 ?g16,
        Wk.has_mk KX G (fun _ _ _ _ _ _ us hl => match us, hl with | [_, _], _ => rfl) ?g17 ?g18 ?g19 ?g20,
        Wk.has_mk KX G (fun _ _ _ _ _ _ us hl => match us, hl with | [_, _], _ => rfl) ?g21 ?g22 ?g23 ?g24,
        Wk.has_mk KX G (fun _ _ _ _ _ _ us hl => match us, hl with | [_, _], _ => rfl) ?g25 ?g26 ?g27 ?g28,
        Wk.has_mk KX G (fun _ _ _ _ _ _ us hl => match us, hl with | [_, _, _], _ => rfl) ?g29 ?g30 ?g31 ?g32,
        Wk.has_mk KX G (fun _ _ _ _ _ _ us hl => match us, hl with | [_, _, _, _], _ => rfl) ?g33 ?g34 ?g35 ?g36,
        Wk.has_mk KX G (fun _ _ _ _ _ _ us hl => match us, hl with | [_], _ => rfl) ?g37 ?g38 ?g39 ?g40,
        Wk.has_mk KX G (fun _ _ _ _ _ _ us hl => match us, hl with | [_, _], _ => rfl) ?g41 ?g42 ?g43 ?g44,
        Wk.has_mk KX G (fun _ _ _ _ _ _ us hl => match us, hl with | [_, _], _ => rfl) ?g45 ?g46 ?g47 ?g48,
        Wk.has_mk KX G (fun _ _ _ _ _ _ us hl => match us, hl with | [_, _, _], _ => rfl) ?g49 ?g50 ?g51 ?g52,
        Wk.has_mk KX G (fun _ _ _ _ _ _ us hl => match us, hl with | [_], _ => rfl) ?g53 ?g54 ?g55 ?g56,
        Wk.has_mk KX G (fun _ _ _ _ _ _ us hl => match us, hl with | [_], _ => rfl) ?g57 ?g58 ?g59 ?g60,
        Wk.has_mk KX G (fun _ _ _ _ _ _ us hl => match us, hl with | [_, _, _], _ => rfl) ?g61 ?g62 ?g63 ?g64,
        Wk.has_mk KX G (fun _ _ _ _ _ _ us hl => match us, hl with | [_], _ => rfl) ?g65 ?g66 ?g67 ?g68,
        Wk.has_mk KX G (fun _ _ _ _ _ _ us hl => match us, hl with | [_, _], _ => rfl) ?g69 ?g70 ?g71 ?g72,
        Wk.has_mk KX G (fun _ _ _ _ _ _ us hl => match us, hl with | [_, _, _], _ => rfl) ?g73 ?g74 ?g75 ?g76,
        Wk.has_mk KX G (fun _ _ _ _ _ _ us hl => match us, hl with | [_], _ => rfl) ?g77 ?g78 ?g79 ?g80,
        Wk.has_mk KX G (fun _ _ _ _ _ _ us hl => match us, hl with | [_, _, _], _ => rfl) ?g81 ?g82 ?g83 ?g84,
        Wk.has_mk KX G (fun _ _ _ _ _ _ us hl => match us, hl with | [_], _ => rfl) ?g85 ?g86 ?g87 ?g88,
        Wk.has_mk KX G (fun _ _ _ _ _ _ us hl => match us, hl with | [_, _], _ => rfl) ?g89 ?g90 ?g91 ?g92,
        Wk.has_mk KX G (fun _ _ _ _ _ _ us hl => match us, hl with | [_, _], _ => rfl) ?g93 ?g94 ?g95 ?g96,
        Wk.has_mk KX G (fun _ _ _ _ _ _ us hl => match us, hl with | [_, _], _ => rfl) ?g97 ?g98 ?g99 ?g100,
        Wk.has_mk KX G (fun _ _ _ _ _ _ us hl => match us, hl with | [_], _ => rfl) ?g101 ?g102 ?g103 ?g104,
        Wk.has_mk KX G (fun _ _ _ _ _ _ us hl => match us, hl with | [_, _], _ => rfl) ?g105 ?g106 ?g107 ?g108,
        Wk.has_mk KX G (fun _ _ _ _ _ _ us hl => match us, hl with | [_, _], _ => rfl) ?g109 ?g110 ?g111 ?g112,
        Wk.has_mk KX G (fun _ _ _ _ _ _ us hl => match us, hl with | [_], _ => rfl) ?g113 ?g114 ?g115 ?g116,
        PySem.W.mg_none_of KX G ?g117,
        PySem.W.mg_none_of KX G ?g118,
        PySem.W.mg_none_of KX G ?g119,
        PySem.W.mg_none_of KX G ?g120,
        PySem.W.mg_none_of KX G ?g121,
        PySem.W.mg_none_of KX G ?g122,
        PySem.W.mg_none_of KX G ?g123,
        PySem.W.mg_none_of KX G ?g124,
        PySem.W.mg_none_of KX G ?g125,
        PySem.W.mg_none_of KX G ?g126,
        PySem.W.mg_none_of KX G ?g127,
        PySem.W.mg_none_of KX G ?g128⟩
      (case g1 => k_is)
      (case g2 => k_is)
      (case g3 => k_is)
      (case g4 => k_is)
      (case g5 => k_is)
      (case g6 => k_is)
      (case g7 => k_is)
      (case g8 => k_is)
      (case g9 => k_is)
      (case g10 => k_is)
      (case g11 => k_is)
      (case g12 => k_is)
      (case g13 => k_is)
      (case g14 => k_is)
      (case g15 => k_is)
      (case g16 => k_is)
      (case g17 => k_is)
      (case g18 => k_is)
      (case g19 => k_is)
      (case g20 => k_is)
      (case g21 => k_is)
      (case g22 => k_is)
      (case g23 => k_is)
      (case g24 => k_is)
      (case g25 => k_is)
      (case g26 => k_is)
      (case g27 => k_is)
      (case g28 => k_is)
      (case g29 => k_is)
      (case g30 => k_is)
      (case g31 => k_is)
      (case g32 => k_is)
      (case g33 => k_is)
      (case g34 => k_is)
      (case g35 => k_is)
      (case g36 => k_is)
      (case g37 => k_is)
      (case g38 => k_is)
      (case g39 => k_is)
      (case g40 => k_is)
      (case g41 => k_is)
      (case g42 => k_is)
      (case g43 => k_is)
      (case g44 => k_is)
      (case g45 => k_is)
      (case g46 => k_is)
      (case g47 => k_is)
      (case g48 => k_is)
      (case g49 => k_is)
      (case g50 => k_is)
      (case g51 => k_is)
      (case g52 => k_is)
      (case g53 => k_is)
      (case g54 => k_is)
      (case g55 => k_is)
      (case g56 => k_is)
      (case g57 => k_is)
      (case g58 => k_is)
      (case g59 => k_is)
      (case g60 => k_is)
      (case g61 => k_is)
      (case g62 => k_is)
      (case g63 => k_is)
      (case g64 => k_is)
      (case g65 => k_is)
      (case g66 => k_is)
      (case g67 => k_is)
      (case g68 => k_is)
      (case g69 => k_is)
      (case g70 => k_is)
      (case g71 => k_is)
      (case g72 => k_is)
      (case g73 => k_is)
      (case g74 => k_is)
      (case g75 => k_is)
      (case g76 => k_is)
      (case g77 => k_is)
      (case g78 => k_is)
      (case g79 => k_is)
      (case g80 => k_is)
      (case g81 => k_is)
      (case g82 => k_is)
      (case g83 => k_is)
      (case g84 => k_is)
      (case g85 => k_is)
      (case g86 => k_is)
      (case g87 => k_is)
      (case g88 => k_is)
      (case g89 => k_is)
      (case g90 => k_is)
      (case g91 => k_is)
      (case g92 => k_is)
      (case g93 => k_is)
      (case g94 => k_is)
      (case g95 => k_is)
      (case g96 => k_is)
      (case g97 => k_is)
      (case g98 => k_is)
      (case g99 => k_is)
      (case g100 => k_is)
      (case g101 => k_is)
      (case g102 => k_is)
      (case g103 => k_is)
      (case g104 => k_is)
      (case g105 => k_is)
      (case g106 => k_is)
      (case g107 => k_is)
      (case g108 => k_is)
      (case g109 => k_is)
      (case g110 => k_is)
      (case g111 => k_is)
      (case g112 => k_is)
      (case g113 => k_is)
      (case g114 => k_is)
      (case g115 => k_is)
      (case g116 => k_is)
      (case g117 => k_is)
      (case g118 => k_is)
      (case g119 => k_is)
      (case g120 => k_is)
      (case g121 => k_is)
      (case g122 => k_is)
      (case g123 => k_is)
      (case g124 => k_is)
      (case g125 => k_is)
      (case g126 => k_is)
      (case g127 => k_is)
      (case g128 => k_is)


import PyProof.Rows.All
import HandS.ForMost
import HandS.ForExc
import HandS.CallSlots
import HandS.IsInst
import HandS.Flow
import HandS.ExcCtx
import HandS.HotCalls
import HandS.ExcInit
import HandS.ExcField
import HandS.ExcIs
import HandS.TupAny
import HandS.TupLe
import HandS.Deep
import HandS.WideBits
import HandS.Conv
import KE.DataCmp
import HandS.Text
import HandS.SetFor
import HandS.Walk
import HandS.SortInts
import HandS.TupSets
import KE.SortData
import HandS.Zip
import HandS.Steps
import KE.KRevSl
import KE.KExcIs
import KE.DataFind
import HandS.ExcInitHot
import HandS.Iter
import HandS.Hot
import HandS.Comp
import KE.GoesMore
import PyProof.EnumMake
import HandS.TupMul
import HandS.Strs
import PySem.Challenge.RW_coverclocks_k37_whole_splits_and_joins
set_option Elab.async false
set_option linter.all false
set_option autoImplicit false
set_option maxRecDepth 100000
set_option maxHeartbeats 4000000
/-! The D layer, 1: data by value over the abstract heap; slots; what relates them; judgements. -/
namespace L2
namespace Dl
open PySem PySem.Spec PyProof.Rows

/-! ### data that stand still in F -/
mutual
inductive Rp (K : PySem.W.Frag) (F : Hp) : V → PyData → Prop
  | non : Rp K F .non .none
  | bl (b : Bool) : Rp K F (.bl b) (.bool b)
  | int (i : Int) : Rp K F (.int i) (.int i)
  | str (x : Str) : Rp K F (.str x) (.str x)
  | lst {a : Addr} {xs : List V} {ds : List PyData} : SqL K F a xs → RpAll K F xs ds → Rp K F (.ref a) (.list ds)
  | tup {a : Addr} {xs : List V} {ds : List PyData} {o : Obj} : F a = some (.frz o (.tup xs)) → o.dict = none → RpAll K F xs ds → Rp K F (.ref a) (.tuple ds)
  | dct {a : Addr} : F a = some (.dK []) → Rp K F (.ref a) (.dict [])
inductive RpAll (K : PySem.W.Frag) (F : Hp) : List V → List PyData → Prop
  | nil : RpAll K F [] []
  | cons {v : V} {vs : List V} {d : PyData} {ds : List PyData} : Rp K F v d → RpAll K F vs ds → RpAll K F (v :: vs) (d :: ds)
end
theorem sqT_same {K : PySem.W.Frag} {H H' : Hp} {a : Addr} {xs : List V} (e : Same H H') (h : SqT K H a xs) : SqT K H' a xs := by
  rcases h with (h | ⟨o, h⟩) | h
  · exact .inl (.inl (e _ _ h))
  · exact .inl (.inr ⟨o, e _ _ h⟩)
  · exact .inr h
theorem SqT.of {K : PySem.W.Frag} {F : Hp} {a : Addr} {xs : List V} {o : Obj} (h : F a = some (.frz o (.tup xs))) : SqT K F a xs := .inl (.inr ⟨o, h⟩)
/-- a tuple that has no dict -/
def ZT (F : Hp) (a : Addr) (xs : List V) : Prop := ∃ o : Obj, F a = some (.frz o (.tup xs)) ∧ o.dict = none
theorem SqT.ofZ {K : PySem.W.Frag} {F : Hp} {a : Addr} {xs : List V} (h : ZT F a xs) : SqT K F a xs := let ⟨_, h, _⟩ := h; SqT.of h
section
variable {K : PySem.W.Frag} {F F' H : Hp}
mutual
theorem Rp.mono (s : Same F F') : ∀ (d : PyData) (v : V), Rp K F v d → Rp K F' v d
  | .none, _, h => by cases h; exact .non
  | .bool b, _, h => by cases h; exact .bl b
  | .int b, _, h => by cases h; exact .int b
  | .str b, _, h => by cases h; exact .str b
  | .list ds, _, h => by
    cases h with
    | lst a b => exact .lst (s.seq a) (RpAll.mono s ds _ b)
  | .tuple ds, _, h => by
    cases h with
    | tup a e b => exact .tup (s _ _ a) e (RpAll.mono s ds _ b)
  | .dict _, _, h => by
    cases h with
    | dct a => exact .dct (s _ _ a)
theorem RpAll.mono (s : Same F F') : ∀ (ds : List PyData) (vs : List V), RpAll K F vs ds → RpAll K F' vs ds
  | [], _, h => by cases h; exact .nil
  | d :: ds, _, h => by
    cases h with
    | cons a b => exact .cons (Rp.mono s d _ a) (RpAll.mono s ds _ b)
end
theorem RpAll.length : ∀ {vs : List V} {ds : List PyData}, RpAll K F vs ds → vs.length = ds.length
  | _, [], h => by cases h; rfl
  | _, d :: ds, h => by
    cases h with
    | cons a b => rw [List.length_cons, List.length_cons, b.length]
theorem RpAll.append : ∀ {vs : List V} {ds : List PyData} {ws : List V} {es : List PyData}, RpAll K F vs ds → RpAll K F ws es → RpAll K F (vs ++ ws) (ds ++ es)
  | _, [], _, _, h, k => by cases h; exact k
  | _, d :: ds, _, _, h, k => by
    cases h with
    | cons a b => exact .cons a (RpAll.append b k)
theorem RpAll.get : ∀ {vs : List V} {ds : List PyData} {i : Nat} {d : PyData}, RpAll K F vs ds → ds[i]? = some d → ∃ v, vs[i]? = some v ∧ Rp K F v d
  | _, [], _, _, _, e => by simp at e
  | _, x :: ds, 0, d, h, e => by
    cases h with
    | cons a b =>
      have e' : x = d := by simpa using e
      subst e'
      exact ⟨_, rfl, a⟩
  | _, x :: ds, i + 1, d, h, e => by
    cases h with
    | cons a b =>
      obtain ⟨v, h1, h2⟩ := RpAll.get (i := i) b (by simpa using e)
      exact ⟨v, by simpa using h1, h2⟩
theorem RpAll.get2 : ∀ {vs : List V} {ds : List PyData} {i : Nat} {v : V}, RpAll K F vs ds → vs[i]? = some v → ∃ d, ds[i]? = some d ∧ Rp K F v d := fun {vs ds i v} h e => by
  have hl := h.length
  have hi : i < vs.length := (List.getElem?_eq_some_iff.mp e).1
  obtain ⟨w, e2, r⟩ := h.get (i := i) (d := ds[i]'(by omega)) (by simp [← hl, hi])
  rw [e] at e2
  cases e2
  exact ⟨_, by simp [← hl, hi], r⟩
theorem RpAll.take : ∀ {vs : List V} {ds : List PyData} (n : Nat), RpAll K F vs ds → RpAll K F (vs.take n) (ds.take n)
  | _, [], n, h => by cases h; cases n <;> exact .nil
  | _, d :: ds, 0, h => .nil
  | _, d :: ds, n + 1, h => by
    cases h with
    | cons a b => exact .cons a (b.take n)
theorem RpAll.drop : ∀ {vs : List V} {ds : List PyData} (n : Nat), RpAll K F vs ds → RpAll K F (vs.drop n) (ds.drop n)
  | _, [], n, h => by cases h; cases n <;> exact .nil
  | _, d :: ds, 0, h => h
  | _, d :: ds, n + 1, h => by
    cases h with
    | cons a b => exact b.drop n
theorem RpAll.set : ∀ {vs : List V} {ds : List PyData} (n : Nat) {v : V} {d : PyData}, RpAll K F vs ds → Rp K F v d → RpAll K F (vs.set n v) (ds.set n d)
  | _, [], n, _, _, h, r => by cases h; exact .nil
  | _, _ :: ds, 0, _, _, h, r => by
    cases h with
    | cons a b => exact .cons r b
  | _, _ :: ds, n + 1, _, _, h, r => by
    cases h with
    | cons a b => exact .cons a (b.set n r)
theorem RpAll.erase : ∀ {vs : List V} {ds : List PyData} (n : Nat), RpAll K F vs ds → RpAll K F (vs.eraseIdx n) (ds.eraseIdx n)
  | _, [], n, h => by cases h; exact .nil
  | _, d :: ds, 0, h => by
    cases h with
    | cons a b => exact b
  | _, d :: ds, n + 1, h => by
    cases h with
    | cons a b => exact .cons a (b.erase n)
theorem RpAll.reverse : ∀ {vs : List V} {ds : List PyData}, RpAll K F vs ds → RpAll K F vs.reverse ds.reverse
  | _, [], h => by cases h; exact .nil
  | _, d :: ds, h => by
    cases h with
    | cons a b =>
      rw [List.reverse_cons, List.reverse_cons]
      exact b.reverse.append (.cons a .nil)
theorem RpAll.ints : ∀ {ns : List Int} {vs : List V}, RpAll K F vs (ns.map .int) → vs = ns.map .int
  | [], _, h => by cases h; rfl
  | n :: ns, _, h => by
    cases h with
    | cons a b =>
      cases a
      rw [b.ints]
      rfl
theorem RpAll.of_ints : ∀ (ns : List Int), RpAll K F (ns.map .int) (ns.map .int)
  | [] => .nil
  | n :: ns => .cons (.int n) (RpAll.of_ints ns)
theorem RpAll.bools : ∀ {bs : List Bool} {vs : List V}, RpAll K F vs (bs.map .bool) → vs = bs.map .bl
  | [], _, h => by cases h; rfl
  | n :: ns, _, h => by
    cases h with
    | cons a b =>
      cases a
      rw [b.bools]
      rfl
end

/-! ### slots -/
inductive Sl where
  | un
  | val (d : PyData)
  | own (l : Bool) (ds : List PyData)
  | dct (kvs : List (List Int × PyData))
abbrev Ev := List Sl
inductive Rs where
  | val (d : PyData)
  | slot (i : Nat)
  | tmp (ds : List PyData)
/-- an exception: its class's name, its fields -/
structure XD where
  name : Str
  fs : List (Str × PyData)
/-- the ground of a def's run: the heap and the frozen part at its entry, the lent slots with their addresses, the module's names -/
structure Bs where
  H0 : Hp
  F0 : Hp
  lent : List (Nat × Addr)
  mg : Str → Option Value
  fns : List (Nat × Addr) := []
/-- the places that hold what they held -/
abbrev Bs.all (B : Bs) : List (Nat × Addr) := B.lent ++ B.fns

/-- a value of a dict: no object -/
def vOf : PyData → V
  | .int i => .int i
  | .bool b => .bl b
  | .str x => .str x
  | _ => .non
def kvO (kvs : List (List Int × PyData)) : List (List Key × V) := kvs.map fun p => (p.1.map Sum.inl, vOf p.2)
/-- nothing stood there, or the thing is a tuple -/
def Nw0 (H : Hp) (b : Addr) (x : HO) : Prop := H b = none ∨ ∃ o ys, x = .frz o (.tup ys)
/-- nothing stood there, or just this tuple -/
def Nw1 (H : Hp) (b : Addr) (x : HO) : Prop := H b = none ∨ (H b = some x ∧ ∃ o ys, x = .frz o (.tup ys))
theorem Nw1.lst {H : Hp} {b : Addr} {x : HO} {vs : List V} (h : Nw1 H b x) (e : H b = some (.lst vs)) : False := by
  rcases h with h | ⟨h, o, ys, rfl⟩
  · rw [e] at h; cases h
  · rw [e] at h; cases h
theorem Nw1.dT {H : Hp} {b : Addr} {x : HO} {ks : List (List Key × V)} (h : Nw1 H b x) (e : H b = some (.dT ks)) : False := by
  rcases h with h | ⟨h, o, ys, rfl⟩
  · rw [e] at h; cases h
  · rw [e] at h; cases h
def slR (K : PySem.W.Frag) (F H : Hp) : Option Sl → Option (Option V) → Prop
  | some (.val d), o => ∃ v, o = some (some v) ∧ Rp K F v d
  | some (.own _ ds), o => ∃ a vs, o = some (some (.ref a)) ∧ H a = some (.lst vs) ∧ F a = none ∧ RpAll K F vs ds
  | some (.dct kvs), o => ∃ a, o = some (some (.ref a)) ∧ H a = some (.dT (kvO kvs)) ∧ F a = none
  | _, _ => True
def ownL (env : Ev) (σ : St) (a : Addr) : Prop := ∃ (i : Nat) (l : Bool) (ds : List PyData), env[i]? = some (Sl.own l ds) ∧ σ[i]? = some (some (.ref a))
def ownAt (env : Ev) (σ : St) (a : Addr) : Prop := ownL env σ a ∨ ∃ (i : Nat) (kvs : List (List Int × PyData)), env[i]? = some (Sl.dct kvs) ∧ σ[i]? = some (some (.ref a))
structure Rl (K : PySem.W.Frag) (B : Bs) (F H : Hp) (env : Ev) (σ : St) : Prop where
  len : env.length = σ.length
  sub : Same F H
  sl : ∀ i : Nat, slR K F H env[i]? σ[i]?
  dist : ∀ (i j : Nat) (l m : Bool) (ds es : List PyData) (a : Addr), env[i]? = some (Sl.own l ds) → env[j]? = some (Sl.own m es) → σ[i]? = some (some (.ref a)) → σ[j]? = some (some (.ref a)) → i = j
  sub0 : Same B.F0 F
  new : ∀ b x, F b = some x → B.F0 b = some x ∨ Nw0 B.H0 b x
  frm : ∀ b x, B.H0 b = some x → (∀ p ∈ B.lent, p.2 ≠ b) → H b = some x
  dom : ∀ b, B.H0 b ≠ none → H b ≠ none
  own0 : ∀ (i : Nat) (ds : List PyData) (a : Addr), env[i]? = some (Sl.own false ds) → σ[i]? = some (some (.ref a)) → B.H0 a = none
  own1 : ∀ (i : Nat) (ds : List PyData) (a : Addr), env[i]? = some (Sl.own true ds) → σ[i]? = some (some (.ref a)) → ∃ p ∈ B.lent, p.2 = a
  lsl : ∀ p ∈ B.all, σ[p.1]? = some (some (.ref p.2))
  dd : ∀ (i j : Nat) (kv kw : List (List Int × PyData)) (a : Addr), env[i]? = some (Sl.dct kv) → env[j]? = some (Sl.dct kw) → σ[i]? = some (some (.ref a)) → σ[j]? = some (some (.ref a)) → i = j
  d0 : ∀ (i : Nat) (kv : List (List Int × PyData)) (a : Addr), env[i]? = some (Sl.dct kv) → σ[i]? = some (some (.ref a)) → B.H0 a = none
structure Fm (env : Ev) (σ : St) (F H : Hp) (env' : Ev) (F' H' : Hp) : Prop where
  keep : ∀ b x, H b = some x → ¬ ownAt env σ b → H' b = some x
  sub : Same F F'
  new : ∀ b x, F' b = some x → F b = some x ∨ Nw1 H b x ∨ ownAt env σ b
  own : ∀ (i : Nat) (l : Bool) (ds : List PyData), env'[i]? = some (Sl.own l ds) → ∃ ds0, env[i]? = some (Sl.own l ds0)
  dom : ∀ b, H b ≠ none → H' b ≠ none
  od : ∀ (i : Nat) (kv : List (List Int × PyData)), env'[i]? = some (Sl.dct kv) → ∃ kw, env[i]? = some (Sl.dct kw)
section
variable {env env1 env2 : Ev} {σ : St} {F F1 F2 H H1 H2 : Hp}
theorem Fm.refl : Fm env σ F H env F H := ⟨fun _ _ h _ => h, fun _ _ h => h, fun _ _ h => .inl h, fun _ _ _ h => ⟨_, h⟩, fun _ h => h, fun _ _ h => ⟨_, h⟩⟩
theorem Fm.ownAt (f : Fm env σ F H env1 F1 H1) {a : Addr} (h : L2.Dl.ownAt env1 σ a) : L2.Dl.ownAt env σ a := by
  rcases h with ⟨i, l, ds, h1, h2⟩ | ⟨i, kv, h1, h2⟩
  · obtain ⟨ds0, h3⟩ := f.own i l ds h1
    exact .inl ⟨i, l, ds0, h3, h2⟩
  · obtain ⟨kw, h3⟩ := f.od i kv h1
    exact .inr ⟨i, kw, h3, h2⟩
theorem Fm.trans (f : Fm env σ F H env1 F1 H1) (g : Fm env1 σ F1 H1 env2 F2 H2) : Fm env σ F H env2 F2 H2 where
  keep := fun b x h n => g.keep b x (f.keep b x h n) fun q => n (f.ownAt q)
  sub := f.sub.trans g.sub
  new := fun b x h => by
    rcases g.new b x h with h | h | h
    · exact f.new b x h
    · cases q : H b with
      | none => exact .inr (.inl (.inl q))
      | some y =>
        by_cases o : L2.Dl.ownAt env σ b
        · exact .inr (.inr o)
        · rcases h with h | ⟨h, z⟩
          · rw [f.keep b y q o] at h
            cases h
          · rw [f.keep b y q o] at h
            exact .inr (.inl (.inr ⟨q.trans h, z⟩))
    · exact .inr (.inr (f.ownAt h))
  own := fun i l ds h => by
    obtain ⟨ds0, h1⟩ := g.own i l ds h
    exact f.own i l ds0 h1
  dom := fun b h => g.dom b (f.dom b h)
  od := fun i kv h => by
    obtain ⟨kw, h1⟩ := g.od i kv h
    exact f.od i kw h1
end

def Res (K : PySem.W.Frag) (B : Bs) (F H : Hp) (env : Ev) (σ : St) (v : V) : Rs → Prop
  | .val d => Rp K F v d
  | .slot i => σ[i]? = some (some v)
  | .tmp ds => ∃ p vs, v = .ref p ∧ H p = some (.lst vs) ∧ F p = none ∧ B.H0 p = none ∧ ¬ ownAt env σ p ∧ RpAll K F vs ds
/-- what a result is worth now -/
def rd (env : Ev) : Rs → Option PyData
  | .val d => some d
  | .slot i => match env[i]? with
    | some (.val d) => some d
    | some (.own _ ds) => some (.list ds)
    | _ => none
  | .tmp ds => some (.list ds)
/-- data at v: in F, or a list in H of data in F -/
def Rt (K : PySem.W.Frag) (F H : Hp) (v : V) (d : PyData) : Prop := Rp K F v d ∨ ∃ a vs ds, v = .ref a ∧ d = .list ds ∧ H a = some (.lst vs) ∧ RpAll K F vs ds
section
variable {K : PySem.W.Frag} {B : Bs} {env env' : Ev} {σ : St} {F F' H H' : Hp} {v : V} {r : Rs} {d : PyData}
theorem Res.step (f : Fm env σ F H env' F' H') (h : Res K B F H env σ v r) : Res K B F' H' env' σ v r := by
  cases r with
  | val d => exact Rp.mono f.sub d v h
  | slot i => exact h
  | tmp ds =>
    obtain ⟨p, vs, h1, h2, h3, h4, h5, h6⟩ := h
    refine ⟨p, vs, h1, f.keep _ _ h2 h5, ?_, h4, fun q => h5 (f.ownAt q), RpAll.mono f.sub _ _ h6⟩
    cases q : F' p with
    | none => rfl
    | some x =>
      rcases f.new p x q with z | z | z
      · rw [h3] at z; cases z
      · exact (z.lst h2).elim
      · exact absurd z h5
theorem Res.rt (R : Rl K B F H env σ) (h : Res K B F H env σ v r) (e : rd env r = some d) : Rt K F H v d := by
  cases r with
  | val d' =>
    have e' : d' = d := by simpa [rd] using e
    subst e'
    exact .inl h
  | slot i =>
    have s := R.sl i
    have h' : σ[i]? = some (some v) := h
    simp only [rd] at e
    split at e
    · rename_i d' q
      cases e
      rw [q] at s
      obtain ⟨w, h1, h2⟩ := s
      rw [h'] at h1
      cases h1
      exact .inl h2
    · rename_i l ds q
      cases e
      rw [q] at s
      obtain ⟨a, vs, h1, h2, _, h4⟩ := s
      rw [h'] at h1
      cases h1
      exact .inr ⟨a, vs, ds, rfl, rfl, h2, h4⟩
    · cases e
  | tmp ds =>
    obtain ⟨p, vs, h1, h2, h3, h4, h5, h6⟩ := h
    have e' : PyData.list ds = d := by simpa [rd] using e
    subst e'
    exact .inr ⟨p, vs, ds, h1, rfl, h2, h6⟩
theorem Rt.h (s : Same F H) (h : Rt K F H v d) : Rp K H v d := by
  rcases h with h | ⟨a, vs, ds, rfl, rfl, h1, h2⟩
  · exact Rp.mono s d v h
  · exact .lst (SqL.of h1) (RpAll.mono s _ _ h2)
/-- a list, its items in F -/
theorem Rt.list {ds : List PyData} (s : Same F H) (h : Rt K F H v (.list ds)) : ∃ a vs, v = .ref a ∧ SqL K H a vs ∧ RpAll K F vs ds := by
  rcases h with h | ⟨a, vs, ds', rfl, e, h1, h2⟩
  · cases h with
    | lst h1 h2 => exact ⟨_, _, rfl, s.seq h1, h2⟩
  · cases e
    exact ⟨a, vs, rfl, SqL.of h1, h2⟩
theorem Rt.tuple {ds : List PyData} (s : Same F H) (h : Rt K F H v (.tuple ds)) : ∃ a vs, v = .ref a ∧ SqT K H a vs ∧ RpAll K F vs ds := by
  rcases h with h | ⟨a, vs, ds', rfl, e, h1, h2⟩
  · cases h with
    | tup h1 _ h2 => exact ⟨_, _, rfl, SqT.of (s _ _ h1), h2⟩
  · cases e
theorem Rt.int {i : Int} (h : Rt K F H v (.int i)) : v = .int i := by
  rcases h with h | ⟨a, vs, ds', rfl, e, h1, h2⟩
  · cases h; rfl
  · cases e
theorem Rt.bool {i : Bool} (h : Rt K F H v (.bool i)) : v = .bl i := by
  rcases h with h | ⟨a, vs, ds', rfl, e, h1, h2⟩
  · cases h; rfl
  · cases e
theorem Rt.str {i : Str} (h : Rt K F H v (.str i)) : v = .str i := by
  rcases h with h | ⟨a, vs, ds', rfl, e, h1, h2⟩
  · cases h; rfl
  · cases e
theorem Rt.none (h : Rt K F H v .none) : v = .non := by
  rcases h with h | ⟨a, vs, ds', rfl, e, h1, h2⟩
  · cases h; rfl
  · cases e
theorem Rt.dict {kvs : List (PyData × PyData)} (s : Same F H) (h : Rt K F H v (.dict kvs)) : kvs = [] ∧ ∃ a, v = .ref a ∧ H a = some (.dK []) := by
  rcases h with h | ⟨a, vs, ds', rfl, e, h1, h2⟩
  · cases h with
    | dct h => exact ⟨rfl, _, rfl, s _ _ h⟩
  · cases e
/-- a new address is not of the entry -/
theorem Rl.free0 (R : Rl K B F H env σ) {p : Addr} (h : H p = none) : B.H0 p = none := by
  cases q : B.H0 p with
  | none => rfl
  | some x => exact absurd h (R.dom p (by rw [q]; simp))
theorem Rl.freeF (R : Rl K B F H env σ) {p : Addr} (h : H p = none) : F p = none := R.sub.free h
theorem Rl.ownH (R : Rl K B F H env σ) {p : Addr} (h : ownAt env σ p) : ∃ ob, H p = some ob ∧ F p = none ∧ ((∃ vs, ob = .lst vs) ∨ ∃ ks, ob = .dT ks) := by
  rcases h with ⟨i, l, ds, h1, h2⟩ | ⟨i, kv, h1, h2⟩
  · have s := R.sl i
    rw [h1] at s
    obtain ⟨a, vs, h3, h4, h5, _⟩ := s
    rw [h2] at h3
    cases h3
    exact ⟨_, h4, h5, .inl ⟨_, rfl⟩⟩
  · have s := R.sl i
    rw [h1] at s
    obtain ⟨a, h3, h4, h5⟩ := s
    rw [h2] at h3
    cases h3
    exact ⟨_, h4, h5, .inr ⟨_, rfl⟩⟩
theorem Rl.notOwn (R : Rl K B F H env σ) {p : Addr} (h : H p = none) : ¬ ownAt env σ p := fun q => by
  obtain ⟨vs, h1, _⟩ := R.ownH q
  rw [h] at h1
  cases h1
/-- F grows by an address that is not owned and not of the entry -/
theorem Rl.grow (R : Rl K B F H env σ) {p : Addr} {o : HO} (hF : F p = none) (h0 : B.H0 p = none) (ho : ¬ ownAt env σ p) (hH : H p = some o) : Rl K B (upd F p o) H env σ := by
  have s1 : Same F (upd F p o) := fun b x e => by rw [upd_ne (ne_of_none e hF)]; exact e
  refine ⟨R.len, fun b x e => ?_, fun i => ?_, R.dist, R.sub0.trans s1, fun b x e => ?_, R.frm, R.dom, R.own0, R.own1, R.lsl, R.dd, R.d0⟩
  · by_cases hb : b = p
    · subst hb
      rw [upd_same] at e
      cases e
      exact hH
    · rw [upd_ne hb] at e
      exact R.sub b x e
  · have s := R.sl i
    cases q : env[i]? with
    | none => trivial
    | some z =>
      rw [q] at s
      cases z with
      | un => trivial
      | val d =>
        obtain ⟨v, h1, h2⟩ := s
        exact ⟨v, h1, Rp.mono s1 _ _ h2⟩
      | own l ds =>
        obtain ⟨a, vs, h1, h2, h3, h4⟩ := s
        refine ⟨a, vs, h1, h2, ?_, RpAll.mono s1 _ _ h4⟩
        rw [upd_ne (fun z => ho (.inl ⟨i, l, ds, q, by rw [← z]; exact h1⟩))]
        exact h3
      | dct kv =>
        obtain ⟨a, h1, h2, h3⟩ := s
        refine ⟨a, h1, h2, ?_⟩
        rw [upd_ne (fun z => ho (.inr ⟨i, kv, q, by rw [← z]; exact h1⟩))]
        exact h3
  · by_cases hb : b = p
    · subst hb
      exact .inr (.inl h0)
    · rw [upd_ne hb] at e
      exact R.new b x e
/-- a new object is laid, not frozen -/
theorem Rl.lay (R : Rl K B F H env σ) {p : Addr} {o : HO} (hp : H p = none) : Rl K B F (upd H p o) env σ := by
  have s1 : Same H (upd H p o) := fun b x e => by rw [upd_ne (ne_of_none e hp)]; exact e
  refine ⟨R.len, R.sub.trans s1, fun i => ?_, R.dist, R.sub0, R.new, fun b x e n => s1 b x (R.frm b x e n), fun b e => ?_, R.own0, R.own1, R.lsl, R.dd, R.d0⟩
  · have s := R.sl i
    cases q : env[i]? with
    | none => trivial
    | some z =>
      rw [q] at s
      cases z with
      | un => trivial
      | val d => exact s
      | own l ds =>
        obtain ⟨a, vs, h1, h2, h3, h4⟩ := s
        exact ⟨a, vs, h1, s1 _ _ h2, h3, h4⟩
      | dct kv =>
        obtain ⟨a, h1, h2, h3⟩ := s
        exact ⟨a, h1, s1 _ _ h2, h3⟩
  · cases q : H b with
    | none => exact absurd q (R.dom b e)
    | some x => rw [s1 b x q]; simp
theorem fm_lay {p : Addr} {o : HO} (hp : H p = none) : Fm env σ F H env F (upd H p o) :=
  ⟨fun b x e _ => by rw [upd_ne (ne_of_none e hp)]; exact e, fun _ _ h => h, fun _ _ h => .inl h, fun _ _ _ h => ⟨_, h⟩, fun b e => by
    cases q : H b with
    | none => exact absurd q e
    | some x => rw [upd_ne (ne_of_none q hp), q]; simp, fun _ _ h => ⟨_, h⟩⟩
/-- a new object is laid and frozen -/
theorem Rl.layF (R : Rl K B F H env σ) {p : Addr} {o : HO} (hp : H p = none) : Rl K B (upd F p o) (upd H p o) env σ :=
  (R.lay (o := o) hp).grow (R.freeF hp) (R.free0 hp) (fun q => (R.notOwn hp) q) upd_same
theorem Rl.fmLayF (R : Rl K B F H env σ) {p : Addr} {o : HO} (hp : H p = none) : Fm env σ F H env (upd F p o) (upd H p o) := by
  have hF := R.freeF hp
  refine ⟨fun b x e _ => by rw [upd_ne (ne_of_none e hp)]; exact e, fun b x e => by rw [upd_ne (ne_of_none e hF)]; exact e, fun b x e => ?_, fun _ _ _ h => ⟨_, h⟩, fun b e => ?_, fun _ _ h => ⟨_, h⟩⟩
  · by_cases hb : b = p
    · subst hb; exact .inr (.inl (.inl hp))
    · rw [upd_ne hb] at e; exact .inl e
  · cases q : H b with
    | none => exact absurd q e
    | some x => rw [upd_ne (ne_of_none q hp), q]; simp
end
end Dl
end L2

/-! The D layer, 2: judgements, names, constants, operators, comparisons, tests. -/
namespace L2
namespace Dl
open PySem PySem.Spec PyProof.Rows

abbrev KE := Ev → Rs → Prop
abbrev KT := Ev → Bool → Prop
abbrev KXc := Ev → XD → Prop
abbrev WE := Ev → KE → KXc → Prop
abbrev WT := Ev → KT → KXc → Prop

def fsR (K : PySem.W.Frag) (F : Hp) (fs : List (Str × V)) (gs : List (Str × PyData)) : Prop := Paired (fun p q => p.1 = q.1 ∧ Rp K F p.2 q.2) fs gs
/-- an exception as it lies: its class, its dict -/
def XR (K : PySem.W.Frag) (B : Bs) (F H : Hp) (x : XD) (cls : Value) (d : Option Addr) : Prop :=
  B.mg x.name = some cls ∧ match d with
    | none => x.fs = []
    | some dx => ∃ fs, F dx = some (.xd fs) ∧ fsR K F fs x.fs
/-- what is wished of exceptions is so wherever Kx is -/
def XC (K : PySem.W.Frag) (B : Bs) (W : WX) (Kx : KXc) : Prop :=
  ∀ (σ : St) (env : Ev) (x : XD) (cls : Value) (d : Option Addr) (F H : Hp), Kx env x → Rl K B F H env σ → XR K B F H x cls d → W cls d σ H
/-- a temporary list is new -/
def Nw (H : Hp) (v : V) : Rs → Prop
  | .tmp _ => ∀ p, v = .ref p → H p = none
  | _ => True
theorem Nw.up {H H1 : Hp} {v : V} {r : Rs} (dom : ∀ b, H b ≠ none → H1 b ≠ none) (h : Nw H1 v r) : Nw H v r := by
  cases r with
  | val d => trivial
  | slot i => trivial
  | tmp ds =>
    intro p e
    cases q : H p with
    | none => rfl
    | some x => exact absurd (h p e) (dom p (by rw [q]; simp))
def DP (X : Cx) (B : Bs) (pins : List (Addr × Obj)) (σ : St) (F H : Hp) (env : Ev) (Ke : KE) (u : Value) (s' : Shared) : Prop :=
  ∃ v env' r F' H', Inv X pins σ H' s' ∧ RelV v u ∧ Rl X.K B F' H' env' σ ∧ Fm env σ F H env' F' H' ∧ Res X.K B F' H' env' σ v r ∧ Nw H v r ∧ Ke env' r
def DPT (X : Cx) (B : Bs) (pins : List (Addr × Obj)) (σ : St) (F H : Hp) (env : Ev) (Kt : KT) (b : Bool) (s' : Shared) : Prop :=
  ∃ env' F' H', Inv X pins σ H' s' ∧ Rl X.K B F' H' env' σ ∧ Fm env σ F H env' F' H' ∧ Kt env' b
structure DE (B : Bs) (W : WX) (X : Cx) (e : Expr) (w : WE) : Prop where
  run : ∀ (pins : List (Addr × Obj)) (s : Shared) (σ : St) (F H : Hp) (env : Ev) (Ke : KE) (Kx : KXc), Inv X pins σ H s → Rl X.K B F H env σ → w env Ke Kx → XC X.K B W Kx →
    wpAny (model X.prog X.w) X.A (eval e X.env) (DP X B pins σ F H env Ke) X.xe s
structure DT (B : Bs) (W : WX) (X : Cx) (e : Expr) (w : WT) : Prop where
  run : ∀ (pins : List (Addr × Obj)) (s : Shared) (σ : St) (F H : Hp) (env : Ev) (Kt : KT) (Kx : KXc), Inv X pins σ H s → Rl X.K B F H env σ → w env Kt Kx → XC X.K B W Kx →
    wpAny (model X.prog X.w) X.A (isTrue e X.env (eval e X.env)) (DPT X B pins σ F H env Kt) X.xe s
structure DW (B : Bs) (W : WX) (X : Cx) (e : Expr) (w : WT) : Prop where
  run : ∀ (whole : Sem Value) (pins : List (Addr × Obj)) (s : Shared) (σ : St) (F H : Hp) (env : Ev) (Kt : KT) (Kx : KXc), Inv X pins σ H s → Rl X.K B F H env σ → w env Kt Kx → XC X.K B W Kx →
    wpAny (model X.prog X.w) X.A (isTrue e X.env whole) (DPT X B pins σ F H env Kt) X.xe s
theorem DW.dt {B : Bs} {W : WX} {X : Cx} {e : Expr} {w : WT} (h : DW B W X e w) : DT B W X e w := ⟨h.run _⟩

section
variable {B : Bs} {W : WX} {X : Cx} {pins : List (Addr × Obj)} {σ : St} {F H F1 H1 : Hp} {env env1 : Ev} {Ke : KE} {Kt : KT} {u : Value} {s s' : Shared}
theorem DP.up (f : Fm env σ F H env1 F1 H1) (h : DP X B pins σ F1 H1 env1 Ke u s') : DP X B pins σ F H env Ke u s' := by
  obtain ⟨v, e', r, F', H', h1, h2, h3, h4, h5, h6, h7⟩ := h
  exact ⟨v, e', r, F', H', h1, h2, h3, f.trans h4, h5, h6.up f.dom, h7⟩
theorem DPT.up {b : Bool} (f : Fm env σ F H env1 F1 H1) (h : DPT X B pins σ F1 H1 env1 Kt b s') : DPT X B pins σ F H env Kt b s' := by
  obtain ⟨e', F', H', h1, h3, h4, h6⟩ := h
  exact ⟨e', F', H', h1, h3, f.trans h4, h6⟩
end

/-! ### names, constants -/
def wVar (i : Nat) : WE := fun env Ke _ => match env[i]? with
  | some (.val d) => Ke env (.val d)
  | some (.own _ _) => Ke env (.slot i)
  | _ => False
def wC (d : PyData) : WE := fun env Ke _ => Ke env (.val d)
section
variable {B : Bs} {W : WX} {X : Cx} {pos : Pos}
theorem de_var (i : Nat) {x : Str} (hN : X.N[i]? = some x) (hv : Vis X.env.scope x) (hd : (x == ("__debug__" : Str)) = false) (hcd : (x == ("__classdict__" : Str)) = false) : DE B W X (.Name x pos) (wVar i) := by
  refine ⟨fun pins s σ F H env Ke Kx I R h hx => ?_⟩
  have sl := R.sl i
  cases q : env[i]? with
  | none => simp only [wVar, q] at h
  | some z =>
    cases z with
    | un => simp only [wVar, q] at h
    | val d =>
      simp only [wVar, q] at h
      rw [q] at sl
      obtain ⟨v, e1, rp⟩ := sl
      exact (pe_var hN hv hd hcd).run pins s σ H (fun v H' => H' = H ∧ Rp X.K F v d) I ⟨v, e1, rfl, rp⟩ |> fun z => thn z fun u s1 ⟨v, H', I', r, e, rp⟩ => by
        subst e
        exact ⟨v, env, .val d, F, _, I', r, R, Fm.refl, rp, trivial, h⟩
    | own l ds =>
      simp only [wVar, q] at h
      rw [q] at sl
      obtain ⟨a, vs, e1, _⟩ := sl
      exact (pe_var hN hv hd hcd).run pins s σ H (fun v H' => H' = H ∧ v = .ref a) I ⟨_, e1, rfl, rfl⟩ |> fun z => thn z fun u s1 ⟨v, H', I', r, e, rp⟩ => by
        subst e rp
        exact ⟨_, env, .slot i, F, _, I', r, R, Fm.refl, e1, trivial, h⟩
    | dct kv => simp only [wVar, q] at h
theorem dv (i : Nat) {x : Str} (hN : X.N[i]? = some x := by rfl) (hv : Vis X.env.scope x := by first | exact Or.inl rfl | exact Or.inr (Or.inl rfl) | exact Or.inr (Or.inr rfl)) (hd : (x == ("__debug__" : Str)) = false := by decide)
    (hcd : (x == ("__classdict__" : Str)) = false := by decide) : DE B W X (.Name x pos) (wVar i) := de_var i hN hv hd hcd
/-- a constant, by HandS's rule -/
theorem de_const {e : Expr} {v : V} {d : PyData} (h : PE X e (tC v)) (r : ∀ F, Rp X.K F v d) : DE B W X e (wC d) := by
  refine ⟨fun pins s σ F H env Ke Kx I R hw hx => ?_⟩
  exact thn (h.run pins s σ H (fun w H' => H' = H ∧ w = v) I ⟨rfl, rfl⟩) fun u s1 ⟨w, H', I', rv, e, ev⟩ => by
    subst e ev
    exact ⟨_, env, .val d, F, _, I', rv, R, Fm.refl, r F, trivial, hw⟩
theorem de_int {i : Int} {j : Nat} : DE B W X (.Constant (.int i) j pos) (wC (.int i)) := de_const pe_int fun _ => .int i
theorem de_bl {b : Bool} {j : Nat} : DE B W X (.Constant (.bool b) j pos) (wC (.bool b)) := de_const pe_bl fun _ => .bl b
theorem de_non {j : Nat} : DE B W X (.Constant .none j pos) (wC .none) := de_const pe_non fun _ => .non
/-- a module's constant -/
theorem de_glob {x : Str} {v : V} {d : PyData} {u : Value} (hg : Gl X x) (hm : X.mg x = some u) (rv : RelV v u) (r : ∀ F, Rp X.K F v d) (hd : (x == ("__debug__" : Str)) = false := by decide) : DE B W X (.Name x pos) (wC d) := de_const (pe_glob hg hm rv hd) r
end

/-! ### operators -/
def RP (X : Cx) (B : Bs) (pins : List (Addr × Obj)) (σ : St) (F H : Hp) (env : Ev) (Kr : Rs → Prop) (u : Value) (s' : Shared) : Prop :=
  ∃ v r F' H', Inv X pins σ H' s' ∧ RelV v u ∧ Rl X.K B F' H' env σ ∧ Fm env σ F H env F' H' ∧ Res X.K B F' H' env σ v r ∧ Nw H v r ∧ Kr r
theorem RP.dp {X : Cx} {B : Bs} {pins : List (Addr × Obj)} {σ : St} {F H : Hp} {env : Ev} {Ke : KE} {u : Value} {s' : Shared} (h : RP X B pins σ F H env (Ke env) u s') : DP X B pins σ F H env Ke u s' := by
  obtain ⟨v, r, F', H', h1, h2, h3, h4, h5, h6, h7⟩ := h
  exact ⟨v, env, r, F', H', h1, h2, h3, h4, h5, h6, h7⟩
abbrev Op2 := PyData → PyData → (Rs → Prop) → Prop
structure DOp (X : Cx) (f : Value → Value → Sem Value) (o : Op2) : Prop where
  run : ∀ (B : Bs) (F : Hp) (env : Ev) (pins : List (Addr × Obj)) (s : Shared) (σ : St) (H : Hp) (x y : V) (v u : Value) (d e : PyData) (Kr : Rs → Prop), Inv X pins σ H s → RelV x v → RelV y u → Rl X.K B F H env σ → Rt X.K F H x d → Rt X.K F H y e → o d e Kr →
    wpAny (model X.prog X.w) X.A (f v u) (RP X B pins σ F H env Kr) X.xe s
def rdK (env : Ev) (r : Rs) (k : PyData → Prop) : Prop := ∃ d, rd env r = some d ∧ k d
def wBin (o : Op2) (wa wb : WE) : WE := fun env Ke Kx => wa env (fun env1 r1 => wb env1 (fun env2 r2 => rdK env2 r1 fun d1 => rdK env2 r2 fun d2 => o d1 d2 (Ke env2)) Kx) Kx
section
variable {B : Bs} {W : WX} {X : Cx} {pos : Pos} {a b c : Expr} {wa wb wc : WE}
theorem dbin {f : Value → Value → Sem Value} {o : Op2} (ho : DOp X f o) (ha : DE B W X a wa) (hb : DE B W X b wb) {pins : List (Addr × Obj)} {s : Shared} {σ : St} {F H : Hp} {env : Ev} {Ke : KE} {Kx : KXc} (I : Inv X pins σ H s) (R : Rl X.K B F H env σ) (h : wBin o wa wb env Ke Kx) (hx : XC X.K B W Kx) :
    wpAny (model X.prog X.w) X.A (eval a X.env) (fun v s₁ => wpAny (model X.prog X.w) X.A (eval b X.env) (fun u s₂ => wpAny (model X.prog X.w) X.A (f v u) (DP X B pins σ F H env Ke) X.xe s₂) X.xe s₁) X.xe s := by
  refine thn (ha.run pins s σ F H env _ Kx I R h hx) fun v s1 ⟨x, env1, r1, F1, H1, I1, rx, R1, f1, q1, n1, h1⟩ => ?_
  refine thn (hb.run pins s1 σ F1 H1 env1 _ Kx I1 R1 h1 hx) fun u s2 ⟨y, env2, r2, F2, H2, I2, ry, R2, f2, q2, n2, h2⟩ => ?_
  obtain ⟨d1, e1, d2, e2, h2⟩ := h2
  exact thn (ho.run B F2 env2 pins s2 σ H2 x y v u d1 d2 _ I2 rx ry R2 ((q1.step f2).rt R2 e1) (q2.rt R2 e2) h2) fun w s3 h3 => (h3.dp.up f2).up f1
theorem de_op {op : Operator} {o : Op2} (ho : DOp X (binaryOp op) o) (ha : DE B W X a wa) (hb : DE B W X b wb) : DE B W X (.BinOp a op b pos) (wBin o wa wb) :=
  ⟨fun pins s σ F H env Ke Kx I R h hx => wpAny_BinOp (dbin ho ha hb I R h hx)⟩
theorem de_cmp {op : CmpOp} {o : Op2} (ho : DOp X (compareOp op) o) (ha : DE B W X a wa) (hb : DE B W X b wb) (hm : behindInMarks op b = false := by first | exact nomark _ | rfl) : DE B W X (.Compare a [op] [b] pos) (wBin o wa wb) :=
  ⟨fun pins s σ F H env Ke Kx I R h hx => wpAny_Compare1 (dbin ho ha hb I R h hx) hm⟩
/-- a value as a test: a bool -/
def wTB (w : WE) : WT := fun env Kt Kx => w env (fun env' r => ∃ b, r = .val (.bool b) ∧ Kt env' b) Kx
theorem tb_end {pins : List (Addr × Obj)} {σ : St} {F H : Hp} {env : Ev} {Kt : KT} {u : Value} {s' : Shared} (h : DP X B pins σ F H env (fun env' r => ∃ b, r = .val (.bool b) ∧ Kt env' b) u s') :
    wpAny (model X.prog X.w) X.A (truthy u) (DPT X B pins σ F H env Kt) X.xe s' := by
  obtain ⟨v, env', r, F', H', I', rv, R', f', q', _, b, e, k⟩ := h
  subst e
  cases (show Rp X.K F' v (.bool b) from q')
  cases rv
  exact wpAny_truthy_bool ⟨env', F', H', I', R', f', k⟩
theorem dt_cmp {op : CmpOp} {o : Op2} (ho : DOp X (compareOp op) o) (ha : DE B W X a wa) (hb : DE B W X b wb) (hm : behindInMarks op b = false := by first | exact nomark _ | rfl) : DT B W X (.Compare a [op] [b] pos) (wTB (wBin o wa wb)) :=
  ⟨fun pins s σ F H env Kt Kx I R h hx => wpAny_isTrue_Compare1 (thn (dbin ho ha hb I R h hx) fun v s1 h1 => thn h1 fun u s2 h2 => thn h2 fun w s3 h3 => tb_end h3) hm⟩
/-- an expression whose value is a bool, as a test -/
theorem dt_val {e : Expr} {w : WE} (h : DE B W X e w) (he : ∀ whole, isTrue e X.env whole = (do let v ← whole; standAt e.pos; holding [v] (truthy v)) := by intro _; rfl) : DT B W X e (wTB w) :=
  ⟨fun pins s σ F H env Kt Kx I R hw hx => isTrue_plain (thn (h.run pins s σ F H env _ Kx I R hw hx) fun v s1 h1 => tb_end h1) (he _)⟩
/-! and, or, not as tests -/
variable {rest : List Expr} {ta tb : WT}
def wAnd (t u : WT) : WT := fun env Kt Kx => t env (fun env1 c => if c = true then u env1 Kt Kx else Kt env1 false) Kx
def wOr (t u : WT) : WT := fun env Kt Kx => t env (fun env1 c => if c = true then Kt env1 true else u env1 Kt Kx) Kx
def wNot (t : WT) : WT := fun env Kt Kx => t env (fun env1 c => Kt env1 (!c)) Kx
theorem dw_and1 (ha : DT B W X a ta) : DW B W X (.BoolOp .And [a] pos) ta := by
  refine ⟨fun wh pins s σ F H env Kt Kx I R h hx => ?_⟩
  refine isTrue_and (thn (ha.run pins s σ F H env Kt Kx I R h hx) fun c s1 e => ?_)
  cases c with
  | true => exact isTrue_and_nil e
  | false => exact e
theorem dw_or1 (ha : DT B W X a ta) : DW B W X (.BoolOp .Or [a] pos) ta := by
  refine ⟨fun wh pins s σ F H env Kt Kx I R h hx => ?_⟩
  refine isTrue_or (thn (ha.run pins s σ F H env Kt Kx I R h hx) fun c s1 e => ?_)
  cases c with
  | false => exact isTrue_or_nil e
  | true => exact e
theorem dw_and (ha : DT B W X a ta) (hb : DW B W X (.BoolOp .And (b :: rest) pos) tb) : DW B W X (.BoolOp .And (a :: b :: rest) pos) (wAnd ta tb) := by
  refine ⟨fun wh pins s σ F H env Kt Kx I R h hx => ?_⟩
  refine isTrue_and (thn (ha.run pins s σ F H env _ Kx I R h hx) fun c s1 ⟨env1, F1, H1, I1, R1, f1, q1⟩ => ?_)
  cases c with
  | true =>
    rw [if_pos rfl] at q1
    exact thn (hb.run _ pins s1 σ F1 H1 env1 Kt Kx I1 R1 q1 hx) fun b s2 h2 => h2.up f1
  | false =>
    rw [if_neg Bool.false_ne_true] at q1
    exact ⟨env1, F1, H1, I1, R1, f1, q1⟩
theorem dw_or (ha : DT B W X a ta) (hb : DW B W X (.BoolOp .Or (b :: rest) pos) tb) : DW B W X (.BoolOp .Or (a :: b :: rest) pos) (wOr ta tb) := by
  refine ⟨fun wh pins s σ F H env Kt Kx I R h hx => ?_⟩
  refine isTrue_or (thn (ha.run pins s σ F H env _ Kx I R h hx) fun c s1 ⟨env1, F1, H1, I1, R1, f1, q1⟩ => ?_)
  cases c with
  | false =>
    rw [if_neg Bool.false_ne_true] at q1
    exact thn (hb.run _ pins s1 σ F1 H1 env1 Kt Kx I1 R1 q1 hx) fun b s2 h2 => h2.up f1
  | true =>
    rw [if_pos rfl] at q1
    exact ⟨env1, F1, H1, I1, R1, f1, q1⟩
end
end Dl
end L2

/-! The D layer, 3: operators, comparisons, not/and/or as values, displays, subscripts. -/
namespace L2
namespace Dl
open PySem PySem.Spec PyProof.Rows

section
variable {B : Bs} {W : WX} {X : Cx} {pos : Pos} {a b c : Expr} {wa wb wc : WE} {ta tb : WT} {rest : List Expr}
theorem dt_not (ha : DT B W X a ta) : DT B W X (.UnaryOp .Not a pos) (wNot ta) := by
  refine ⟨fun pins s σ F H env Kt Kx I R h hx => ?_⟩
  exact isTrue_not (thn (ha.run pins s σ F H env _ Kx I R h hx) fun c s1 h1 => h1)
def wNotV (w : WE) : WE := fun env Ke Kx => w env (fun env1 r => ∃ c, r = .val (.bool c) ∧ Ke env1 (.val (.bool (!c)))) Kx
theorem de_not (ha : DE B W X a wa) : DE B W X (.UnaryOp .Not a pos) (wNotV wa) := by
  refine ⟨fun pins s σ F H env Ke Kx I R h hx => ?_⟩
  refine UnaryOp_ (thn (ha.run pins s σ F H env _ Kx I R h hx) fun v s1 ⟨x, env1, r1, F1, H1, I1, rx, R1, f1, q1, _, c, e, h1⟩ => ?_)
  subst e
  cases (show Rp X.K F1 x (.bool c) from q1)
  cases rx
  exact not_of (wpAny_truthy_bool ⟨.bl (!c), env1, .val (.bool (!c)), F1, H1, I1, rfl, R1, f1, Rp.bl _, trivial, h1⟩)
/-- a test's answer as a value: and, or of bools -/
def wBV (t : WT) : WE := fun env Ke Kx => t env (fun env1 b => Ke env1 (.val (.bool b))) Kx
def wAndV (wa wb : WE) : WE := fun env Ke Kx => wa env (fun env1 r => ∃ c, r = .val (.bool c) ∧ if c = true then wb env1 Ke Kx else Ke env1 (.val (.bool false))) Kx
def wOrV (wa wb : WE) : WE := fun env Ke Kx => wa env (fun env1 r => ∃ c, r = .val (.bool c) ∧ if c = true then Ke env1 (.val (.bool true)) else wb env1 Ke Kx) Kx
theorem de_one {op : BoolOp} (h : DE B W X a wa) : DE B W X (.BoolOp op [a] pos) wa := ⟨fun pins s σ F H env Ke Kx I R hw hx => BoolOp_one (h.run pins s σ F H env Ke Kx I R hw hx)⟩
theorem de_and (ha : DE B W X a wa) (hb : DE B W X (.BoolOp .And (b :: rest) pos) wb) : DE B W X (.BoolOp .And (a :: b :: rest) pos) (wAndV wa wb) := by
  refine ⟨fun pins s σ F H env Ke Kx I R h hx => ?_⟩
  refine BoolOp_and (thn (ha.run pins s σ F H env _ Kx I R h hx) fun v s1 ⟨x, env1, r1, F1, H1, I1, rx, R1, f1, q1, _, c, e, h1⟩ => ?_)
  subst e
  cases (show Rp X.K F1 x (.bool c) from q1)
  cases rx
  refine wpAny_truthy_bool ?_
  cases c with
  | true =>
    rw [if_pos rfl] at h1
    exact thn (hb.run pins s1 σ F1 H1 env1 Ke Kx I1 R1 h1 hx) fun u s2 h2 => h2.up f1
  | false =>
    rw [if_neg Bool.false_ne_true] at h1
    exact ⟨.bl false, env1, .val (.bool false), F1, H1, I1, rfl, R1, f1, Rp.bl _, trivial, h1⟩
def wIf (t : WT) (wa wb : WE) : WE := fun env Ke Kx => t env (fun env1 c => if c = true then wa env1 Ke Kx else wb env1 Ke Kx) Kx
def wNeg (w : WE) : WE := fun env Ke Kx => w env (fun env1 r => ∃ i, r = .val (.int i) ∧ Ke env1 (.val (.int (-i)))) Kx
theorem de_neg (ha : DE B W X a wa) : DE B W X (.UnaryOp .USub a pos) (wNeg wa) := by
  refine ⟨fun pins s σ F H env Ke Kx I R h hx => ?_⟩
  refine UnaryOp_ (thn (ha.run pins s σ F H env _ Kx I R h hx) fun v s1 ⟨x, env1, r1, F1, H1, I1, rx, R1, f1, q1, _, c, e, h1⟩ => ?_)
  subst e
  cases (show Rp X.K F1 x (.int c) from q1)
  exact thn (un_neg pins s1 σ H1 (.int c) v (fun w H' => H' = H1 ∧ w = .int (-c)) I1 rx ⟨c, rfl, rfl, rfl⟩) fun u s2 ⟨w, H', I', rv, e1, e2⟩ => by
    subst e1 e2
    exact ⟨_, env1, .val (.int (-c)), F1, _, I', rv, R1, f1, Rp.int _, trivial, h1⟩
end

/-! ### operators on data -/
def oAdd : Op2 := fun d e K => match d, e with
  | .int i, .int j => K (.val (.int (i + j)))
  | .str x, .str y => x.length + y.length ≤ sizeLine ∧ K (.val (.str (x ++ y)))
  | .list x, .list y => x.length + y.length ≤ sizeLine ∧ K (.tmp (x ++ y))
  | .tuple x, .tuple y => x.length + y.length ≤ sizeLine ∧ K (.val (.tuple (x ++ y)))
  | _, _ => False
def oI (C : Int → Int → Prop) (f : Int → Int → Int) : Op2 := fun d e K => match d, e with
  | .int i, .int j => C i j ∧ K (.val (.int (f i j)))
  | _, _ => False
abbrev CT : Int → Int → Prop := fun _ _ => True
def oSub : Op2 := fun d e K => match d, e with
  | .int i, .int j => K (.val (.int (i - j)))
  | _, _ => False
def oMul : Op2 := oI CMulX fun i j => i * j
def CFd (_ j : Int) : Prop := 0 < j ∧ j.natAbs.log2 < 9000
def oFdiv : Op2 := oI CFd fun i j => i / j
def oMod : Op2 := oI (fun _ j => 0 < j) fun i j => i % j
def oPow : Op2 := oI CPow fun i j => i ^ j.toNat
def oShl : Op2 := oI CShl fun i j => i * 2 ^ j.toNat
def oShr : Op2 := oI (fun _ j => 0 ≤ j) fun i j => i / 2 ^ j.toNat
def oOr : Op2 := oI CT fun i j => Builtin.bitOr i j
def oAndB : Op2 := oI CT fun i j => Builtin.bitAnd i j
/-- an order: of ints by f, of alike tuples by g -/
def oOrd (f : Int → Int → Bool) (g : PyData → PyData → Bool) : Op2 := fun d e K => match d, e with
  | .int i, .int j => K (.val (.bool (f i j)))
  | .tuple x, .tuple y => PySem.W.alike (.tuple x) (.tuple y) = true ∧ SeqAt.shaped (.tuple x) = true ∧ SeqAt.shaped (.tuple y) = true ∧ K (.val (.bool (g (.tuple x) (.tuple y))))
  | _, _ => False
def oLt : Op2 := oOrd (fun i j => decide (i < j)) (fun d e => PySem.W.dataLt d e)
def oLe : Op2 := oOrd (fun i j => decide (i ≤ j)) (fun d e => !PySem.W.dataLt e d)
def oGt : Op2 := oOrd (fun i j => decide (j < i)) (fun d e => PySem.W.dataLt e d)
def oGe : Op2 := oOrd (fun i j => decide (j ≤ i)) (fun d e => !PySem.W.dataLt d e)
def oEq : Op2 := fun d e K => SeqAt.shaped d = true ∧ SeqAt.shaped e = true ∧ K (.val (.bool (PyData.eqv d e)))
def oNe : Op2 := fun d e K => SeqAt.shaped d = true ∧ SeqAt.shaped e = true ∧ K (.val (.bool (!PyData.eqv d e)))
def isNone : PyData → Bool
  | .none => true
  | _ => false
def oIs : Op2 := fun d e K => match e with
  | .none => K (.val (.bool (isNone d)))
  | .bool b => match d with
    | .bool a => K (.val (.bool (decide (a = b))))
    | _ => False
  | _ => False
def oIsNot : Op2 := fun d e K => match e with
  | .none => K (.val (.bool (!isNone d)))
  | .bool b => match d with
    | .bool a => K (.val (.bool (!decide (a = b))))
    | _ => False
  | _ => False
def oIn (neg : Bool) : Op2 := fun d e K => match e with
  | .list ds => SeqAt.shaped d = true ∧ SeqAt.shaped (.list ds) = true ∧ K (.val (.bool (if neg then !ds.any fun z => PyData.eqv z d else ds.any fun z => PyData.eqv z d)))
  | .tuple ds => SeqAt.shaped d = true ∧ SeqAt.shaped (.tuple ds) = true ∧ K (.val (.bool (if neg then !ds.any fun z => PyData.eqv z d else ds.any fun z => PyData.eqv z d)))
  | _ => False

mutual
theorem dp_of {K : PySem.W.Frag} {H : Hp} : ∀ (d : PyData) (v : V), Rp K H v d → d.canLay0 = true → Dp K H v d
  | .none, _, h, _ => by cases h; exact .non
  | .bool b, _, h, _ => by cases h; exact .bl b
  | .int b, _, h, _ => by cases h; exact .int b
  | .str b, _, h, _ => by cases h; exact .str b
  | .list ds, _, h, c => by
    cases h with
    | lst a b => exact .lst a (dpAll_of ds _ b (by simpa [PyData.canLay0] using c))
  | .tuple ds, _, h, c => by
    cases h with
    | tup a e b => exact .tup (SqT.of a) (dpAll_of ds _ b (by simpa [PyData.canLay0] using c))
  | .dict _, _, h, c => by simp [PyData.canLay0] at c
theorem dpAll_of {K : PySem.W.Frag} {H : Hp} : ∀ (ds : List PyData) (vs : List V), RpAll K H vs ds → PyData.canLayAll0 ds = true → DpAll K H vs ds
  | [], _, h, _ => by cases h; exact .nil
  | d :: ds, _, h, c => by
    have c' : d.canLay0 = true ∧ PyData.canLayAll0 ds = true := by simpa [PyData.canLayAll0] using c
    cases h with
    | cons a b => exact .cons (dp_of d _ a c'.1) (dpAll_of ds _ b c'.2)
end
section
variable {K : PySem.W.Frag} {F H : Hp} {v : V} {d : PyData}
theorem Rt.dp (s : Same F H) (h : Rt K F H v d) (c : SeqAt.shaped d = true) : Dp K H v d := dp_of d v (h.h s) (SeqAt.canLay_of_shaped c)
end

section
variable {X : Cx}
/-- a result that changes nothing -/
theorem same_res {B : Bs} {F H : Hp} {env : Ev} {σ : St} {K : PySem.W.Frag} {v : V} {d : PyData} {Kr : Rs → Prop} (R : Rl K B F H env σ) (r : Rp K F v d) (q : Kr (.val d)) : ∃ r F', Rl K B F' H env σ ∧ Fm env σ F H env F' H ∧ Res K B F' H env σ v r ∧ Nw H v r ∧ Kr r :=
  ⟨.val d, F, R, Fm.refl, r, trivial, q⟩
/-- a new list -/
theorem new_lst {B : Bs} {F H : Hp} {env : Ev} {σ : St} {K : PySem.W.Frag} {p : Addr} {vs : List V} {ds : List PyData} {Kr : Rs → Prop} (R : Rl K B F H env σ) (hp : H p = none) (r : RpAll K F vs ds) (q : Kr (.tmp ds)) :
    ∃ r F', Rl K B F' (upd H p (.lst vs)) env σ ∧ Fm env σ F H env F' (upd H p (.lst vs)) ∧ Res K B F' (upd H p (.lst vs)) env σ (.ref p) r ∧ Nw H (.ref p) r ∧ Kr r :=
  ⟨.tmp ds, F, R.lay hp, fm_lay hp, ⟨p, vs, rfl, upd_same, R.freeF hp, R.free0 hp, R.notOwn hp, r⟩, fun q e => by cases e; exact hp, q⟩
/-- a new tuple, that has no dict -/
theorem new_tup {B : Bs} {F H : Hp} {env : Ev} {σ : St} {K : PySem.W.Frag} {p : Addr} {o : Obj} {vs : List V} {ds : List PyData} {Kr : Rs → Prop} (R : Rl K B F H env σ) (hp : H p = none) (ho : o.dict = none) (r : RpAll K F vs ds) (q : Kr (.val (.tuple ds))) :
    ∃ r F', Rl K B F' (upd H p (.frz o (.tup vs))) env σ ∧ Fm env σ F H env F' (upd H p (.frz o (.tup vs))) ∧ Res K B F' (upd H p (.frz o (.tup vs))) env σ (.ref p) r ∧ Nw H (.ref p) r ∧ Kr r :=
  ⟨.val (.tuple ds), upd F p (.frz o (.tup vs)), R.layF hp, R.fmLayF hp, .tup upd_same ho (RpAll.mono (fun b x e => by rw [upd_ne (ne_of_none e (R.freeF hp))]; exact e) _ _ r), trivial, q⟩
/-- the object that a new tuple is -/
abbrev tzO (its : List Value) : Obj := { cls := .type "tuple", data := .seq its.toArray }
theorem zOk {P : Program} {w : World} {H : Hp} {h : Heap} {vs : List V} {its : List Value} {x : HO} (hz : vs.length ≤ sizeLine) (r : Vals vs its) : ObjOk P w (upd H h.objs.size x) (h.push (tzO its)) h.objs.size (.frz (tzO its) (.tup vs)) :=
  ⟨Heap.get?_push_size _ rfl, hz, its, r, IsTup.new _ _⟩
def rCatZ (K : PySem.W.Frag) : R2 := fun x y H Q => ∃ a b xs ys, x = .ref a ∧ y = .ref b ∧ SqT K H a xs ∧ SqT K H b ys ∧ xs.length + ys.length ≤ sizeLine ∧
  (xs = [] → Q (.ref b) H) ∧ (xs ≠ [] → ys = [] → Q (.ref a) H) ∧ (xs ≠ [] → ys ≠ [] → ∀ p o, H p = none → o.dict = none → Q (.ref p) (upd H p (.frz o (.tup (xs ++ ys)))))
theorem op_catZ : OpR X (binaryOp .Add) (rCatZ X.K) := by
  intro pins s σ H x y v u Q I rx ry ⟨a, b, xs, ys, ex, ey, ha, hb, hz, q0, q1, q2⟩
  subst ex ey
  cases rx
  cases ry
  obtain ⟨us, r1, p1, _⟩ := I.tuple ha
  obtain ⟨ws, r2, p2, _⟩ := I.tuple hb
  cases xs with
  | nil =>
    cases r1
    exact cat_tup0 p1 p2 ⟨.ref b, H, I, rfl, q0 rfl⟩
  | cons x0 xs =>
    have nx : x0 :: xs ≠ [] := List.cons_ne_nil _ _
    refine HT.cat_tup p1 p2 (fun z => nx (r1.nil_iff.mp z)) (fun z => ⟨.ref a, H, I, rfl, q1 nx (r2.nil_iff.mp z)⟩) (fun z => ?_) (by rw [← r1.length, ← r2.length]; exact hz)
    exact ⟨.ref s.heap.objs.size, _, I.laid (t' := s.toks) (fun b ob q => Heap.get?_push_of_some _ q) (Nat.le_refl _) (zOk (by rw [List.length_append]; exact hz) (r1.append r2)), rfl, q2 nx (fun w => z (r2.nil_iff.mpr w)) _ _ (I.hok.fresh (Nat.le_refl _)) rfl⟩
def rCatL (K : PySem.W.Frag) : R2 := fun x y H Q => ∃ l b xs zs, x = .ref l ∧ y = .ref b ∧ SqL K H l xs ∧ SqL K H b zs ∧ xs.length + zs.length ≤ sizeLine ∧ ∀ p, H p = none → Q (.ref p) (upd H p (.lst (xs ++ zs)))
theorem op_catL : OpR X (binaryOp .Add) (rCatL X.K) := by
  intro pins s σ H x y v u Q I rx ry h
  obtain ⟨l, b, xs, zs, rfl, rfl, hH, hB, hz, q⟩ := h
  cases rx
  cases ry
  obtain ⟨its, r, ⟨⟨cls, dd, data, sl⟩, n, ho, hc, hdn, hd⟩, hl⟩ := I.list hH
  obtain ⟨its2, r2, ⟨⟨cls2, dd2, data2, sl2⟩, n2, ho2, hc2, hdn2, hd2⟩, hl2⟩ := I.list hB
  simp only at hc hd hc2 hd2
  subst hc hd hc2 hd2
  have e1 := r.length
  have e2 := r2.length
  refine concat_meets ⟨_, ho, rfl⟩ ⟨_, ho2, rfl⟩ noFill_list_add seq_list_add PySem.F.slot_list_add PySem.F.entry_list_add (PySem.F.args_list_add_2 _ _) (list_addW l b its.toArray its2.toArray n n2 dd dd2 sl sl2 (by rw [List.size_toArray, List.size_toArray]; omega)) ⟨ho, ho2, ?_⟩
  have ea : its.toArray ++ its2.toArray = (its ++ its2).toArray := by simp
  rw [ea]
  exact ⟨.ref _, _, I.lnew (t' := s.toks) (r.append r2) (by rw [List.length_append]; omega), rfl, q _ I.fresh⟩
theorem opr_run {f : Value → Value → Sem Value} {r : R2} (ho : OpR X f r) {B : Bs} {F : Hp} {env : Ev} {pins : List (Addr × Obj)} {s : Shared} {σ : St} {H : Hp} {x y : V} {v u : Value} {Kr : Rs → Prop} (I : Inv X pins σ H s) (rx : RelV x v) (ry : RelV y u)
    (h : r x y H (fun v H' => ∃ r F', Rl X.K B F' H' env σ ∧ Fm env σ F H env F' H' ∧ Res X.K B F' H' env σ v r ∧ Nw H v r ∧ Kr r)) : wpAny (model X.prog X.w) X.A (f v u) (RP X B pins σ F H env Kr) X.xe s :=
  thn (ho pins s σ H x y v u _ I rx ry h) fun w s1 ⟨v', H', I', rv, r, F', h1, h2, h3, h4, h5⟩ => ⟨v', r, F', H', I', rv, h1, h2, h3, h4, h5⟩
theorem dop_add : DOp X (binaryOp .Add) oAdd := by
  refine ⟨fun B F env pins s σ H x y v u d e Kr I rx ry R hx hy q => ?_⟩
  unfold oAdd at q
  split at q
  · rename_i i j
    obtain rfl := hx.int
    obtain rfl := hy.int
    exact opr_run op_add I rx ry ⟨_, _, rfl, rfl, same_res R (.int _) q⟩
  · rename_i i j
    obtain rfl := hx.str
    obtain rfl := hy.str
    exact opr_run op_add_str I rx ry ⟨_, _, rfl, rfl, q.1, same_res R (.str _) q.2⟩
  · rename_i i j
    obtain ⟨a, xs, rfl, h1, h2⟩ := hx.list R.sub
    obtain ⟨b, ys, rfl, h3, h4⟩ := hy.list R.sub
    have e1 := h2.length
    have e2 := h4.length
    exact opr_run op_catL I rx ry ⟨_, _, _, _, rfl, rfl, h1, h3, by omega, fun p hp => new_lst R hp (h2.append h4) q.2⟩
  · rename_i i j
    obtain ⟨a, xs, rfl, h1, h2⟩ := hx.tuple R.sub
    obtain ⟨b, ys, rfl, h3, h4⟩ := hy.tuple R.sub
    have e1 := h2.length
    have e2 := h4.length
    refine opr_run op_catZ I rx ry ⟨_, _, _, _, rfl, rfl, h1, h3, by omega, fun ex => ?_, fun nx ey => ?_, fun nx ny p o hp ho => new_tup R hp ho (h2.append h4) q.2⟩
    · subst ex
      cases h2
      rcases hy with hy | ⟨_, _, _, _, z, _⟩
      · exact same_res R hy (by simpa using q.2)
      · cases z
    · subst ey
      cases h4
      rcases hx with hx | ⟨_, _, _, _, z, _⟩
      · exact same_res R hx (by simpa using q.2)
      · cases z
  · exact q.elim
theorem dop_I {f : Value → Value → Sem Value} {C : Int → Int → Prop} {g : Int → Int → Int} (h : OpR X f (rI C fun i j => .int (g i j))) : DOp X f (oI C g) := by
  refine ⟨fun B F env pins s σ H x y v u d e Kr I rx ry R hx hy q => ?_⟩
  unfold oI at q
  split at q
  · obtain rfl := hx.int
    obtain rfl := hy.int
    exact opr_run h I rx ry ⟨_, _, rfl, rfl, q.1, same_res R (.int _) q.2⟩
  · exact q.elim
theorem dop_sub : DOp X (binaryOp .Sub) oSub := by
  refine ⟨fun B F env pins s σ H x y v u d e Kr I rx ry R hx hy q => ?_⟩
  unfold oSub at q
  split at q
  · obtain rfl := hx.int
    obtain rfl := hy.int
    exact opr_run op_sub I rx ry ⟨_, _, rfl, rfl, same_res R (.int _) q⟩
  · exact q.elim
theorem dop_mul : DOp X (binaryOp .Mult) oMul := dop_I op_mulX
theorem dop_fdiv : DOp X (binaryOp .FloorDiv) oFdiv := dop_I op_fdivW
theorem dop_mod : DOp X (binaryOp .Mod) oMod := dop_I op_mod
theorem dop_pow : DOp X (binaryOp .Pow) oPow := dop_I op_pow
theorem room_sh {A : Around} {d e : PyData} (hu : A.units + 65 < cLine) (h : SeqAt.shaped d = true) : A.units + min d.depth e.depth < cLine := by
  have h1 := SeqAt.depth_of_shaped h
  have h2 : min d.depth e.depth ≤ d.depth := Nat.min_le_left _ _
  omega
theorem dop_ord {op : CmpOp} {f : Int → Int → Bool} {g : PyData → PyData → Bool} (h1 : OpR X (compareOp op) (rI0 fun i j => .bl (f i j)))
    (h2 : ∀ (s : Shared) (a b : Value) (da db : PyData) (as bs : List Addr) (Q : Value → Shared → Prop), Reads s.heap a da as → Reads s.heap b db bs → PySem.W.alike da db = true → da ≠ .none → SeqAt.shaped da = true → Q (.bool (g da db)) s → wpAny (model X.prog X.w) X.A (compareOp op a b) Q X.xe s) :
    DOp X (compareOp op) (oOrd f g) := by
  refine ⟨fun B F env pins s σ H x y v u d e Kr I rx ry R hx hy q => ?_⟩
  unfold oOrd at q
  split at q
  · obtain rfl := hx.int
    obtain rfl := hy.int
    exact opr_run h1 I rx ry ⟨_, _, rfl, rfl, same_res R (.bl _) q⟩
  · obtain ⟨q1, q2, q3, q4⟩ := q
    obtain ⟨as, r1⟩ := Dp.reads I _ x v (hx.dp R.sub q2) rx
    obtain ⟨bs, r2⟩ := Dp.reads I _ y u (hy.dp R.sub q3) ry
    exact h2 s v u _ _ as bs _ r1 r2 q1 (fun z => by cases z) q2 ⟨.bl _, .val (.bool _), F, H, I, rfl, R, Fm.refl, .bl _, trivial, q4⟩
  · exact q.elim
theorem dop_lt (hu : X.A.units + 65 < cLine) : DOp X (compareOp .Lt) oLt := dop_ord op_lt fun s a b da db as bs Q r1 r2 h n sh q => PySem.W.lt_data r1 r2 h n (room_sh hu sh) q
theorem dop_le (hu : X.A.units + 65 < cLine) : DOp X (compareOp .LtE) oLe := dop_ord op_le fun s a b da db as bs Q r1 r2 h n sh q => PySem.W.le_data r1 r2 h n (room_sh hu sh) q
theorem dop_gt (hu : X.A.units + 65 < cLine) : DOp X (compareOp .Gt) oGt := dop_ord op_gt fun s a b da db as bs Q r1 r2 h n sh q => PySem.W.gt_data r1 r2 h n (room_sh hu sh) q
theorem dop_ge (hu : X.A.units + 65 < cLine) : DOp X (compareOp .GtE) oGe := dop_ord op_ge fun s a b da db as bs Q r1 r2 h n sh q => PySem.W.ge_data r1 r2 h n (room_sh hu sh) q
theorem dop_eq (hu : X.A.units + 65 < cLine) : DOp X (compareOp .Eq) oEq := by
  refine ⟨fun B F env pins s σ H x y v u d e Kr I rx ry R hx hy q => ?_⟩
  obtain ⟨q1, q2, q3⟩ := q
  exact opr_run (op_eqD (by omega)) I rx ry ⟨_, _, hx.dp R.sub q1, hy.dp R.sub q2, q1, q2, same_res R (.bl _) q3⟩
theorem dop_ne (hu : X.A.units + 65 < cLine) : DOp X (compareOp .NotEq) oNe := by
  refine ⟨fun B F env pins s σ H x y v u d e Kr I rx ry R hx hy q => ?_⟩
  obtain ⟨q1, q2, q3⟩ := q
  exact opr_run (op_neD (by omega)) I rx ry ⟨_, _, hx.dp R.sub q1, hy.dp R.sub q2, q1, q2, same_res R (.bl _) q3⟩
theorem Rt.isNone {K : PySem.W.Frag} {F H : Hp} {v : V} {d : PyData} (h : Rt K F H v d) : decide (v = .non) = Dl.isNone d := by
  rcases h with h | ⟨a, vs, ds, rfl, rfl, _⟩
  · cases h <;> rfl
  · rfl
theorem dop_is : DOp X (compareOp .Is) oIs := by
  refine ⟨fun B F env pins s σ H x y v u d e Kr I rx ry R hx hy q => ?_⟩
  unfold oIs at q
  split at q
  · exact opr_run op_isN I rx ry ⟨hy.none, by rw [hx.isNone]; exact same_res R (.bl _) q⟩
  · split at q
    · obtain rfl := hx.bool
      obtain rfl := hy.bool
      exact opr_run op_is_bl I rx ry ⟨_, _, rfl, rfl, same_res R (.bl _) q⟩
    · exact q.elim
  · exact q.elim
theorem dop_isNot : DOp X (compareOp .IsNot) oIsNot := by
  refine ⟨fun B F env pins s σ H x y v u d e Kr I rx ry R hx hy q => ?_⟩
  unfold oIsNot at q
  split at q
  · exact opr_run op_notN I rx ry ⟨hy.none, by rw [hx.isNone]; exact same_res R (.bl _) q⟩
  · split at q
    · obtain rfl := hx.bool
      obtain rfl := hy.bool
      exact opr_run op_isnot_bl I rx ry ⟨_, _, rfl, rfl, same_res R (.bl _) q⟩
    · exact q.elim
  · exact q.elim
theorem dop_in (hu : X.A.units + 65 < cLine) : DOp X (compareOp .In) (oIn false) := by
  refine ⟨fun B F env pins s σ H x y v u d e Kr I rx ry R hx hy q => ?_⟩
  unfold oIn at q
  split at q
  · obtain ⟨q1, q2, q3⟩ := q
    exact opr_run (op_inD hu) I rx ry ⟨_, _, hx.dp R.sub q1, hy.dp R.sub q2, q1, q2, same_res R (.bl _) (by simpa using q3)⟩
  · obtain ⟨q1, q2, q3⟩ := q
    obtain ⟨as, r1⟩ := Dp.reads I _ x v (hx.dp R.sub q1) rx
    obtain ⟨bs, r2⟩ := Dp.reads I _ y u (hy.dp R.sub q2) ry
    exact SeqAt.in_tuple_reads r2 r1 (SeqAt.canLay_of_shaped q2) (SeqAt.canLay_of_shaped q1) (room_in_shaped q1 hu) ⟨.bl _, .val (.bool _), F, H, I, rfl, R, Fm.refl, .bl _, trivial, by simpa using q3⟩
  · exact q.elim
theorem dop_notIn (hu : X.A.units + 65 < cLine) : DOp X (compareOp .NotIn) (oIn true) := by
  refine ⟨fun B F env pins s σ H x y v u d e Kr I rx ry R hx hy q => ?_⟩
  unfold oIn at q
  split at q
  · obtain ⟨q1, q2, q3⟩ := q
    exact opr_run (op_notInD hu) I rx ry ⟨_, _, hx.dp R.sub q1, hy.dp R.sub q2, q1, q2, same_res R (.bl _) (by simpa using q3)⟩
  · obtain ⟨q1, q2, q3⟩ := q
    obtain ⟨as, r1⟩ := Dp.reads I _ x v (hx.dp R.sub q1) rx
    obtain ⟨bs, r2⟩ := Dp.reads I _ y u (hy.dp R.sub q2) ry
    exact SeqAt.notIn_tuple_reads r2 r1 (SeqAt.canLay_of_shaped q2) (SeqAt.canLay_of_shaped q1) (room_in_shaped q1 hu) ⟨.bl _, .val (.bool _), F, H, I, rfl, R, Fm.refl, .bl _, trivial, by simpa using q3⟩
  · exact q.elim
end
end Dl
end L2

/-! The D layer, 4: freezing, argument lists, displays, subscripts, slices, calls of built-ins. -/
namespace L2
namespace Dl
open PySem PySem.Spec PyProof.Rows

/-! ### what is frozen -/
def fz (env : Ev) : Rs → Option (Ev × PyData)
  | .val d => some (env, d)
  | .tmp ds => some (env, .list ds)
  | .slot i => match env[i]? with
    | some (.val d) => some (env, d)
    | some (.own false ds) => some (env.set i (.val (.list ds)), .list ds)
    | _ => none
theorem own_set_val {env : Ev} {i j : Nat} {d : PyData} {l : Bool} {ds : List PyData} (h : (env.set i (.val d))[j]? = some (Sl.own l ds)) : env[j]? = some (Sl.own l ds) := by
  by_cases hj : i = j
  · subst hj
    by_cases hl : i < env.length
    · rw [List.getElem?_set_self hl] at h; cases h
    · rw [List.getElem?_eq_none (by simpa using hl)] at h; cases h
  · rw [List.getElem?_set_ne hj] at h; exact h
theorem dct_set_val {env : Ev} {i j : Nat} {d : PyData} {kv : List (List Int × PyData)} (h : (env.set i (.val d))[j]? = some (Sl.dct kv)) : env[j]? = some (Sl.dct kv) := by
  by_cases hj : i = j
  · subst hj
    by_cases hl : i < env.length
    · rw [List.getElem?_set_self hl] at h; cases h
    · rw [List.getElem?_eq_none (by simpa using hl)] at h; cases h
  · rw [List.getElem?_set_ne hj] at h; exact h
/-- an owned slot is frozen -/
theorem Rl.freezeSlot {K : PySem.W.Frag} {B : Bs} {F H : Hp} {env : Ev} {σ : St} (R : Rl K B F H env σ) {i : Nat} {ds : List PyData} (e : env[i]? = some (Sl.own false ds)) :
    ∃ F' v, σ[i]? = some (some v) ∧ Rl K B F' H (env.set i (.val (.list ds))) σ ∧ Fm env σ F H (env.set i (.val (.list ds))) F' H ∧ Rp K F' v (.list ds) := by
  have s := R.sl i
  rw [e] at s
  obtain ⟨a, vs, h1, h2, h3, h4⟩ := s
  have h0 := R.own0 i ds a e h1
  have s1 : Same F (upd F a (.lst vs)) := fun b x q => by rw [upd_ne (ne_of_none q h3)]; exact q
  have rp : Rp K (upd F a (.lst vs)) (.ref a) (.list ds) := .lst (SqL.of upd_same) (RpAll.mono s1 _ _ h4)
  have il : i < env.length := (List.getElem?_eq_some_iff.mp e).1
  -- the relation
  refine ⟨upd F a (.lst vs), .ref a, h1, ⟨by rw [List.length_set]; exact R.len, fun b x q => ?_, fun j => ?_, fun j k l m ds es a h1 h2 h3 h4 => R.dist j k l m ds es a (own_set_val h1) (own_set_val h2) h3 h4, R.sub0.trans s1, fun b x q => ?_, R.frm, R.dom,
    fun j ds a h1 h2 => R.own0 j ds a (own_set_val h1) h2, fun j ds a h1 h2 => R.own1 j ds a (own_set_val h1) h2, R.lsl, fun j k kv kw a h1 h2 h3 h4 => R.dd j k kv kw a (dct_set_val h1) (dct_set_val h2) h3 h4, fun j kv a h1 h2 => R.d0 j kv a (dct_set_val h1) h2⟩, ⟨fun _ _ h _ => h, s1, fun b x q => ?_, fun j l es h => ⟨es, own_set_val h⟩, fun _ h => h, fun j kv h => ⟨kv, dct_set_val h⟩⟩, rp⟩
  · by_cases hb : b = a
    · subst hb
      rw [upd_same] at q
      cases q
      exact h2
    · rw [upd_ne hb] at q
      exact R.sub b x q
  · by_cases hj : i = j
    · subst hj
      rw [List.getElem?_set_self il]
      exact ⟨.ref a, h1, rp⟩
    · rw [List.getElem?_set_ne hj]
      have sj := R.sl j
      cases q : env[j]? with
      | none => trivial
      | some z =>
        rw [q] at sj
        cases z with
        | un => trivial
        | val d =>
          obtain ⟨v, g1, g2⟩ := sj
          exact ⟨v, g1, Rp.mono s1 _ _ g2⟩
        | own l es =>
          obtain ⟨b, ws, g1, g2, g3, g4⟩ := sj
          refine ⟨b, ws, g1, g2, ?_, RpAll.mono s1 _ _ g4⟩
          rw [upd_ne]
          · exact g3
          · intro z
            subst z
            exact hj (R.dist i j false l ds es b e q h1 g1)
        | dct kv =>
          obtain ⟨b, g1, g2, g3⟩ := sj
          refine ⟨b, g1, g2, ?_⟩
          rw [upd_ne]
          · exact g3
          · intro z
            subst z
            rw [h2] at g2
            cases g2
  · by_cases hb : b = a
    · subst hb
      exact .inr (.inl h0)
    · rw [upd_ne hb] at q
      exact R.new b x q
  · by_cases hb : b = a
    · subst hb
      exact .inr (.inr (.inl ⟨i, false, ds, e, h1⟩))
    · rw [upd_ne hb] at q
      exact .inl q
/-- a result is frozen; the frame from where the result's expression began -/
theorem freeze {K : PySem.W.Frag} {B : Bs} {F F1 H H1 : Hp} {env env1 env2 : Ev} {σ : St} {v : V} {r : Rs} {d : PyData} (R : Rl K B F1 H1 env1 σ) (f : Fm env σ F H env1 F1 H1) (q : Res K B F1 H1 env1 σ v r) (n : Nw H v r) (e : fz env1 r = some (env2, d)) :
    ∃ F2, Rl K B F2 H1 env2 σ ∧ Fm env σ F H env2 F2 H1 ∧ Rp K F2 v d := by
  cases r with
  | val d' =>
    have e' : (env1, d') = (env2, d) := by simpa [fz] using e
    cases e'
    exact ⟨F1, R, f, q⟩
  | slot i =>
    have q' : σ[i]? = some (some v) := q
    simp only [fz] at e
    split at e
    · rename_i d' g
      cases e
      have s := R.sl i
      rw [g] at s
      obtain ⟨w, h1, h2⟩ := s
      rw [q'] at h1
      cases h1
      exact ⟨F1, R, f, h2⟩
    · rename_i ds g
      cases e
      obtain ⟨F2, w, h1, h2, h3, h4⟩ := R.freezeSlot g
      rw [q'] at h1
      cases h1
      exact ⟨F2, h2, f.trans h3, h4⟩
    · cases e
  | tmp ds =>
    have e' : (env1, PyData.list ds) = (env2, d) := by simpa [fz] using e
    cases e'
    obtain ⟨p, vs, rfl, h2, h3, h4, h5, h6⟩ := q
    have s1 : Same F1 (upd F1 p (.lst vs)) := fun b x q => by rw [upd_ne (ne_of_none q h3)]; exact q
    refine ⟨upd F1 p (.lst vs), R.grow h3 h4 h5 h2, ⟨f.keep, f.sub.trans s1, fun b x q => ?_, f.own, f.dom, f.od⟩, .lst (SqL.of upd_same) (RpAll.mono s1 _ _ h6)⟩
    by_cases hb : b = p
    · subst hb
      exact .inr (.inl (.inl (n b rfl)))
    · rw [upd_ne hb] at q
      exact f.new b x q
def wFz (w : WE) (env : Ev) (Kd : Ev → PyData → Prop) (Kx : KXc) : Prop := w env (fun env' r => ∃ p, fz env' r = some p ∧ Kd p.1 p.2) Kx

/-! ### argument lists, held: read at the call -/
abbrev WA := Ev → (Ev → List Rs → Prop) → KXc → Prop
abbrev WF := Ev → (Ev → List PyData → Prop) → KXc → Prop
structure DA (B : Bs) (W : WX) (X : Cx) (es : List Expr) (w : WA) : Prop where
  run : ∀ (pos : Pos) (pins : List (Addr × Obj)) (s : Shared) (σ : St) (F H : Hp) (env : Ev) (Ka : Ev → List Rs → Prop) (Kx : KXc), Inv X pins σ H s → Rl X.K B F H env σ → w env Ka Kx → XC X.K B W Kx →
    wpAny (model X.prog X.w) X.A (spliced (backTo pos (starEach es X.env))) (fun us s' => ∃ vs env' rs F' H', Inv X pins σ H' s' ∧ Vals vs us ∧ Rl X.K B F' H' env' σ ∧ Fm env σ F H env' F' H' ∧ Paired (fun v r => Res X.K B F' H' env' σ v r) vs rs ∧ Ka env' rs) X.xe s
/-- frozen one by one -/
structure DF (B : Bs) (W : WX) (X : Cx) (es : List Expr) (w : WF) : Prop where
  run : ∀ (pos : Pos) (pins : List (Addr × Obj)) (s : Shared) (σ : St) (F H : Hp) (env : Ev) (Ka : Ev → List PyData → Prop) (Kx : KXc), Inv X pins σ H s → Rl X.K B F H env σ → w env Ka Kx → XC X.K B W Kx →
    wpAny (model X.prog X.w) X.A (spliced (backTo pos (starEach es X.env))) (fun us s' => ∃ vs env' ds F' H', Inv X pins σ H' s' ∧ Vals vs us ∧ Rl X.K B F' H' env' σ ∧ Fm env σ F H env' F' H' ∧ RpAll X.K F' vs ds ∧ Ka env' ds) X.xe s
def wANil : WA := fun env Ka _ => Ka env []
def wACons (w : WE) (wr : WA) : WA := fun env Ka Kx => w env (fun env1 r => wr env1 (fun env2 rs => Ka env2 (r :: rs)) Kx) Kx
def wFNil : WF := fun env Ka _ => Ka env []
def wFCons (w : WE) (wr : WF) : WF := fun env Ka Kx => wFz w env (fun env1 d => wr env1 (fun env2 ds => Ka env2 (d :: ds)) Kx) Kx
section
variable {B : Bs} {W : WX} {X : Cx} {e : Expr} {es : List Expr} {w : WE} {wr : WA} {wf : WF} {pos : Pos}
theorem da_nil : DA B W X [] wANil := ⟨fun _ _ _ _ F H env Ka _ I R h _ => Calls.spliced_nil ⟨[], env, [], F, H, I, .nil, R, Fm.refl, .nil, h⟩⟩
theorem da_cons (ha : DE B W X e w) (hr : DA B W X es wr) (hs : starEach (e :: es) X.env = (false, eval e X.env) :: starEach es X.env := by rfl) : DA B W X (e :: es) (wACons w wr) := by
  refine ⟨fun pos pins s σ F H env Ka Kx I R h hx => ?_⟩
  rw [hs]
  show wpAny _ _ (spliced ((false, eval e X.env) :: backTo pos (starEach es X.env))) _ _ s
  refine Calls.spliced_cons (thn (ha.run pins s σ F H env _ Kx I R h hx) fun u s1 ⟨x, env1, r1, F1, H1, I1, rx, R1, f1, q1, n1, h1⟩ => ?_)
  exact thn (hr.run pos pins s1 σ F1 H1 env1 _ Kx I1 R1 h1 hx) fun us s2 ⟨vs, env2, rs, F2, H2, I2, rv, R2, f2, q2, h2⟩ => ⟨x :: vs, env2, r1 :: rs, F2, H2, I2, .cons rx rv, R2, f1.trans f2, .cons (q1.step f2) q2, h2⟩
theorem df_nil : DF B W X [] wFNil := ⟨fun _ _ _ _ F H env Ka _ I R h _ => Calls.spliced_nil ⟨[], env, [], F, H, I, .nil, R, Fm.refl, .nil, h⟩⟩
theorem df_cons (ha : DE B W X e w) (hr : DF B W X es wf) (hs : starEach (e :: es) X.env = (false, eval e X.env) :: starEach es X.env := by rfl) : DF B W X (e :: es) (wFCons w wf) := by
  refine ⟨fun pos pins s σ F H env Ka Kx I R h hx => ?_⟩
  rw [hs]
  show wpAny _ _ (spliced ((false, eval e X.env) :: backTo pos (starEach es X.env))) _ _ s
  refine Calls.spliced_cons (thn (ha.run pins s σ F H env _ Kx I R h hx) fun u s1 ⟨x, env1, r1, F1, H1, I1, rx, R1, f1, q1, n1, p, e1, h1⟩ => ?_)
  obtain ⟨F2, R2, f2, rp⟩ := freeze (env2 := p.1) (d := p.2) R1 f1 q1 n1 e1
  exact thn (hr.run pos pins s1 σ F2 H1 p.1 _ Kx I1 R2 h1 hx) fun us s2 ⟨vs, env2, ds, F3, H3, I3, rv, R3, f3, q3, h3⟩ => ⟨x :: vs, env2, p.2 :: ds, F3, H3, I3, .cons rx rv, R3, f2.trans f3, .cons (Rp.mono f3.sub _ _ rp) q3, h3⟩

/-! ### displays -/
def wTup (wf : WF) : WE := fun env Ke Kx => wf env (fun env' ds => ds.length ≤ sizeLine ∧ Ke env' (.val (.tuple ds))) Kx
def wLst (wf : WF) : WE := fun env Ke Kx => wf env (fun env' ds => ds.length ≤ sizeLine ∧ Ke env' (.tmp ds)) Kx
theorem de_tup {k : Nat} (h : DF B W X es wf) : DE B W X (.Tuple es k pos) (wTup wf) := by
  refine ⟨fun pins s σ F H env Ke Kx I R hq hx => ?_⟩
  refine wpAny_Tuple_spliced (thn (h.run pos pins s σ F H env _ Kx I R hq hx) fun us s1 ⟨vs, env1, ds, F1, H1, I1, rv, R1, f1, q1, z, k1⟩ => ⟨by rw [← rv.length, q1.length]; exact z, ?_⟩)
  have hf : H1 s1.heap.objs.size = none := I1.hok.fresh (Nat.le_refl _)
  obtain ⟨r, F', g1, g2, g3, g4, g5⟩ := new_tup (o := tzO us) (Kr := Ke env1) R1 hf rfl q1 k1
  exact ⟨.ref s1.heap.objs.size, env1, r, F', upd H1 s1.heap.objs.size (.frz (tzO us) (.tup vs)), I1.laid (t' := s1.toks) (fun b u e => Heap.get?_push_of_some _ e) (Nat.le_refl _) (zOk (by rw [q1.length]; exact z) rv), rfl, g1, f1.trans g2, g3, g4.up f1.dom, g5⟩
theorem de_lst (h : DF B W X es wf) : DE B W X (.List es pos) (wLst wf) := by
  refine ⟨fun pins s σ F H env Ke Kx I R hq hx => ?_⟩
  refine wpAny_List_spliced (thn (h.run pos pins s σ F H env _ Kx I R hq hx) fun us s1 ⟨vs, env1, ds, F1, H1, I1, rv, R1, f1, q1, z, k1⟩ => ⟨by rw [← rv.length, q1.length]; exact z, ?_⟩)
  have hf : H1 s1.heap.objs.size = none := I1.hok.fresh (Nat.le_refl _)
  obtain ⟨r, F', g1, g2, g3, g4, g5⟩ := new_lst (Kr := Ke env1) R1 hf q1 k1
  exact ⟨.ref s1.heap.objs.size, env1, r, F', upd H1 s1.heap.objs.size (.lst vs), I1.laid (t' := s1.toks) (fun b u e => Heap.get?_push_of_some _ e) (Nat.le_refl _) ⟨by rw [q1.length]; exact z, us, 0, rv, Heap.get?_push_size _ rfl⟩, rfl, g1, f1.trans g2, g3, g4.up f1.dom, g5⟩

/-! ### subscripts -/
def oIx : Op2 := fun d e K => match d, e with
  | .list ds, .int i => ∃ x, atI ds i = some x ∧ K (.val x)
  | .tuple ds, .int i => ∃ x, atI ds i = some x ∧ K (.val x)
  | .str z, .int i => z.length ≤ sizeLine ∧ ∃ c, atI z.cps.toList i = some c ∧ K (.val (.str ⟨#[c]⟩))
  | _, _ => False
theorem RpAll.at {K : PySem.W.Frag} {F : Hp} {vs : List V} {ds : List PyData} {i : Int} {x : PyData} (h : RpAll K F vs ds) (e : atI ds i = some x) : ∃ v, atI vs i = some v ∧ Rp K F v x := by
  unfold atI at e ⊢
  rw [h.length]
  cases q : ixN ds.length i with
  | none => rw [q] at e; cases e
  | some j =>
    rw [q] at e
    exact h.get (i := j) e
theorem de_ix {a b : Expr} {wa wb : WE} (ha : DE B W X a wa) (hb : DE B W X b wb) (hs : PlainIx b := by exact fun _ _ => rfl) : DE B W X (.Subscript a b pos) (wBin oIx wa wb) := by
  refine ⟨fun pins s σ F H env Ke Kx I R h hx => ?_⟩
  refine Subscript_ (thn (ha.run pins s σ F H env _ Kx I R h hx) fun v s1 ⟨x, env1, r1, F1, H1, I1, rx, R1, f1, q1, n1, h1⟩ => ?_)
  refine thn (hb.run pins s1 σ F1 H1 env1 _ Kx I1 R1 h1 hx) fun u s2 ⟨y, env2, r2, F2, H2, I2, ry, R2, f2, q2, n2, h2⟩ => ?_
  obtain ⟨d1, e1, d2, e2, h2⟩ := h2
  have g1 := (q1.step f2).rt R2 e1
  have g2 := q2.rt R2 e2
  have go : ∀ (r : L2.R2), IxR X r → r x y H2 (fun v' H' => ∃ r F', Rl X.K B F' H' env2 σ ∧ Fm env2 σ F2 H2 env2 F' H' ∧ Res X.K B F' H' env2 σ v' r ∧ Nw H2 v' r ∧ Ke env2 r) → wpAny (model X.prog X.w) X.A (subscriptTail a b v u) (DP X B pins σ F H env Ke) X.xe s2 := fun r hr q =>
    thn (hr a b pins s2 σ H2 x y v u _ I2 rx ry q (hs _ _)) fun w s3 ⟨v', H', I', rv, r, F', k1, k2, k3, k4, k5⟩ => (DP.up f2 ⟨v', env2, r, F', H', I', rv, k1, k2, k3, k4, k5⟩).up f1
  unfold oIx at h2
  split at h2
  · obtain ⟨z, e3, k⟩ := h2
    obtain ⟨p, vs, rfl, g3, g4⟩ := g1.list R2.sub
    obtain rfl := g2.int
    obtain ⟨w, e4, rp⟩ := g4.at e3
    exact go _ ix_list ⟨p, vs, _, w, rfl, rfl, g3, e4, same_res R2 rp k⟩
  · obtain ⟨z, e3, k⟩ := h2
    obtain ⟨p, vs, rfl, g3, g4⟩ := g1.tuple R2.sub
    obtain rfl := g2.int
    obtain ⟨w, e4, rp⟩ := g4.at e3
    exact go _ ix_tup ⟨p, vs, _, w, rfl, rfl, g3, e4, same_res R2 rp k⟩
  · obtain ⟨z0, z, e3, k⟩ := h2
    obtain rfl := g1.str
    obtain rfl := g2.int
    exact go _ ix_str ⟨_, _, z, rfl, rfl, z0, e3, same_res R2 (.str _) k⟩
  · exact h2.elim
end
end Dl
end L2

/-! The D layer, 5: slices, calls of built-ins by values. -/
namespace L2
namespace Dl
open PySem PySem.Spec PyProof.Rows
/-! new tuples, that have no dict -/
section
variable {X : Cx}
def rSlZ (K : PySem.W.Frag) : V → Option Int → Option Int → Hp → VK → Prop := fun x lo hi H Q => ∃ a xs, x = .ref a ∧ SqT K H a xs ∧
  (HT.sIx xs.length 0 lo = 0 ∧ HT.sIx xs.length xs.length hi = xs.length → Q (.ref a) H) ∧ (¬ (HT.sIx xs.length 0 lo = 0 ∧ HT.sIx xs.length xs.length hi = xs.length) → ∀ p o, H p = none → o.dict = none → Q (.ref p) (upd H p (.frz o (.tup (cutV xs lo hi)))))
theorem sl_tupZ : SlR X (rSlZ X.K) := by
  intro pins s σ H x v vl vu lo hi sl Q I rx hs pl pu ⟨a, xs, ex, hx, q1, q2⟩
  subst ex
  cases rx
  obtain ⟨us, r, ht, hz⟩ := I.tuple hx
  have many : us.toArray.size = xs.length := by rw [List.size_toArray]; exact r.length.symm
  refine ⟨"tuple", _, PyProof.Rows.slot_tuple_getitem.lookup, ht.typeIs, ?_⟩
  by_cases hw : HT.sIx xs.length 0 lo = 0 ∧ HT.sIx xs.length xs.length hi = xs.length
  · exact getItem_tuple_whole ht hs pl pu (by rw [many]; exact hw) ⟨.ref a, H, I, rfl, q1 hw⟩
  · refine HT.getItem_tuple_cut ht hs pl pu (by rw [many]; exact hw) ?_ (by rw [many]; exact hz)
    rw [many]
    have rr := (r.drop (HT.sIx xs.length 0 lo)).take (HT.sIx xs.length xs.length hi - HT.sIx xs.length 0 lo)
    exact ⟨.ref s.heap.objs.size, _, I.laid (t' := s.toks) (fun b ob q => Heap.get?_push_of_some _ q) (Nat.le_refl _) (zOk (Nat.le_trans (cutV_length xs lo hi) hz) rr), rfl, q2 hw _ _ (I.hok.fresh (Nat.le_refl _)) rfl⟩
theorem call_tuple_ofZ : CallR X (.type "tuple") (fun xs H Q => ∃ p ys, xs = [.ref p] ∧ ((SqL X.K H p ys ∧ ∀ l o, H l = none → o.dict = none → Q (.ref l) (upd H l (.frz o (.tup ys)))) ∨ (SqT X.K H p ys ∧ Q (.ref p) H))) := by
  intro pins s σ H xs us Q I r ⟨p, ys, ex, h⟩
  subst ex
  obtain ⟨u, rfl, rx⟩ := vals1 r
  cases rx
  rcases h with ⟨hq, q⟩ | ⟨hq, q⟩
  · obtain ⟨ws, r2, pl, hz⟩ := I.list hq
    have many := r2.length
    refine call_tuple_list pl.isList (fun h2 kp => ?_) (by simp only [List.size_toArray] <;> omega)
    have I1 : Inv X pins σ H { s with heap := h2 } := I.kept (t' := s.toks) kp
    exact ⟨.ref h2.objs.size, _, I1.laid (t' := s.toks) (fun b o e => Heap.get?_push_of_some _ e) (Nat.le_refl _) (zOk hz r2), rfl, q _ _ (I1.hok.fresh (Nat.le_refl _)) rfl⟩
  · obtain ⟨ws, r2, pl, hz⟩ := I.tuple hq
    exact call_tuple_same pl ⟨.ref p, H, I, rfl, q⟩
end

/-! ### slices -/
abbrev WO := Ev → (Ev → Option Int → Prop) → KXc → Prop
structure DO (B : Bs) (W : WX) (X : Cx) (e : Option Expr) (w : WO) : Prop where
  run : ∀ (pins : List (Addr × Obj)) (s : Shared) (σ : St) (F H : Hp) (env : Ev) (Ko : Ev → Option Int → Prop) (Kx : KXc), Inv X pins σ H s → Rl X.K B F H env σ → w env Ko Kx → XC X.K B W Kx →
    wpAny (model X.prog X.w) X.A (evalPart e X.env) (fun u s' => ∃ o env' F' H', Inv X pins σ H' s' ∧ IsPart u o ∧ Rl X.K B F' H' env' σ ∧ Fm env σ F H env' F' H' ∧ Ko env' o) X.xe s
def wONo : WO := fun env Ko _ => Ko env none
def wOSo (w : WE) : WO := fun env Ko Kx => w env (fun env' r => ∃ i, r = .val (.int i) ∧ Ko env' (some i)) Kx
def cutD {α : Type} (ds : List α) (lo hi : Option Int) : List α := (ds.drop (HT.sIx ds.length 0 lo)).take (HT.sIx ds.length ds.length hi - HT.sIx ds.length 0 lo)
def oSl (d : PyData) (lo hi : Option Int) (K : Rs → Prop) : Prop := match d with
  | .list ds => K (.tmp (cutD ds lo hi))
  | .tuple ds => K (.val (.tuple (cutD ds lo hi)))
  | .str z => z.length ≤ sizeLine ∧ K (.val (.str (cutS z lo hi)))
  | _ => False
def wSl (wa : WE) (wl wh : WO) : WE := fun env Ke Kx => wa env (fun env1 r1 => wl env1 (fun env2 lo => wh env2 (fun env3 hi => rdK env3 r1 fun d => oSl d lo hi (Ke env3)) Kx) Kx) Kx
section
variable {B : Bs} {W : WX} {X : Cx} {e : Expr} {w : WE} {lo hi : Option Expr} {wl wh : WO} {pos p2 : Pos}
theorem do_none : DO B W X none wONo := by
  refine ⟨fun pins s σ F H env Ko Kx I R h hx => ?_⟩
  exact thn (po_none.run pins s σ H (fun o H' => H' = H ∧ o = none) I ⟨rfl, rfl⟩) fun u s1 ⟨o, H', I', ip, e1, e2⟩ => by
    subst e1 e2
    exact ⟨none, env, F, _, I', ip, R, Fm.refl, h⟩
/-- from a DE to HandS's PE, for one run -/
theorem DE.pe {a : Expr} {wa : WE} (h : DE B W X a wa) : PE X a (fun σ H Q => ∃ F env Ke Kx, Rl X.K B F H env σ ∧ wa env Ke Kx ∧ XC X.K B W Kx ∧
    ∀ v env' r F' H', Rl X.K B F' H' env' σ → Fm env σ F H env' F' H' → Res X.K B F' H' env' σ v r → Nw H v r → Ke env' r → Q v H') := by
  refine ⟨fun pins s σ H Q I ⟨F, env, Ke, Kx, R, hw, hx, q⟩ => ?_⟩
  exact thn (h.run pins s σ F H env Ke Kx I R hw hx) fun u s1 ⟨v, env', r, F', H', I', rv, h1, h2, h3, h4, h5⟩ => ⟨v, H', I', rv, q v env' r F' H' h1 h2 h3 h4 h5⟩
theorem do_some (h : DE B W X e w) : DO B W X (some e) (wOSo w) := by
  refine ⟨fun pins s σ F H env Ko Kx I R hw hx => ?_⟩
  refine thn ((po_some h.pe).run pins s σ H (fun o H' => ∃ env' F', Rl X.K B F' H' env' σ ∧ Fm env σ F H env' F' H' ∧ Ko env' o) I ⟨F, env, _, Kx, R, hw, hx, fun v env' r F' H' h1 h2 h3 h4 ⟨i, e1, k⟩ => ?_⟩) fun u s1 ⟨o, H', I', ip, env', F', h1, h2, h3⟩ => ⟨o, env', F', H', I', ip, h1, h2, h3⟩
  subst e1
  cases (show Rp X.K F' v (.int i) from h3)
  exact ⟨i, rfl, env', F', h1, h2, k⟩
theorem RpAll.cut {K : PySem.W.Frag} {F : Hp} {vs : List V} {ds : List PyData} (h : RpAll K F vs ds) (lo hi : Option Int) : RpAll K F (cutV vs lo hi) (cutD ds lo hi) := by
  unfold cutV cutD
  rw [h.length]
  exact (h.drop _).take _
theorem cutD_whole {α : Type} {ds : List α} {lo hi : Option Int} (h : HT.sIx ds.length 0 lo = 0 ∧ HT.sIx ds.length ds.length hi = ds.length) : cutD ds lo hi = ds := by
  unfold cutD
  rw [h.1, h.2]
  simp
theorem de_sl (ha : DE B W X e w) (hl : DO B W X lo wl) (hu : DO B W X hi wh) : DE B W X (.Subscript e (.Slice lo hi none p2) pos) (wSl w wl wh) := by
  refine ⟨fun pins s σ F H env Ke Kx I R h hx => ?_⟩
  refine Subscript_ (thn (ha.run pins s σ F H env _ Kx I R h hx) fun v s1 ⟨x, env1, r1, F1, H1, I1, rx, R1, f1, q1, n1, h1⟩ => ?_)
  refine wpAny_Slice (thn (hl.run pins s1 σ F1 H1 env1 _ Kx I1 R1 h1 hx) fun vl s2 ⟨l, env2, F2, H2, I2, pl, R2, f2, h2⟩ => thn (hu.run pins s2 σ F2 H2 env2 _ Kx I2 R2 h2 hx) fun vu s3 ⟨u, env3, F3, H3, I3, pu, R3, f3, d, e3, h3⟩ => ?_)
  rw [evalPart_none]
  refine wpAny_pure ?_
  have g := ((q1.step f2).step f3).rt R3 e3
  have ff := (f1.trans f2).trans f3
  have I4 : Inv X pins σ H3 { s3 with heap := s3.heap.push { cls := .type "slice", data := .fields #[vl, vu, .none] } } := I3.kept (t' := s3.toks) fun b ob q => Heap.get?_push_of_some _ q
  have go : ∀ (r : V → Option Int → Option Int → Hp → VK → Prop), SlR X r → r x l u H3 (fun v' H' => ∃ r F', Rl X.K B F' H' env3 σ ∧ Fm env3 σ F3 H3 env3 F' H' ∧ Res X.K B F' H' env3 σ v' r ∧ Nw H3 v' r ∧ Ke env3 r) →
      wpAny (model X.prog X.w) X.A (subscriptTail e (.Slice lo hi none p2) v (.ref s3.heap.objs.size)) (DP X B pins σ F H env Ke) X.xe { s3 with heap := s3.heap.push { cls := .type "slice", data := .fields #[vl, vu, .none] } } := fun r hr q => by
    obtain ⟨T, id, hT, ht, hg⟩ := hr pins { s3 with heap := s3.heap.push { cls := .type "slice", data := .fields #[vl, vu, .none] } } σ H3 x v vl vu l u s3.heap.objs.size _ I4 rx (Heap.IsSliceOf.new ..) pl pu q
    exact thn (tail_any (ops := [.ref s3.heap.objs.size, v]) ht hT hg (by with_unfolding_all rfl)) fun w s4 ⟨v', H', I', rv, r, F', k1, k2, k3, k4, k5⟩ => DP.up ff ⟨v', env3, r, F', H', I', rv, k1, k2, k3, k4, k5⟩
  show wpAny (model X.prog X.w) X.A (subscriptTail e (.Slice lo hi none p2) v (.ref s3.heap.objs.size)) (DP X B pins σ F H env Ke) X.xe { s3 with heap := s3.heap.push { cls := .type "slice", data := .fields #[vl, vu, .none] } }
  have h3 : oSl d l u (Ke env3) := h3
  unfold oSl at h3
  split at h3
  · obtain ⟨p, vs, rfl, g3, g4⟩ := g.list R3.sub
    exact go _ sl_list ⟨p, vs, rfl, g3, fun p hp => new_lst R3 hp (g4.cut l u) h3⟩
  · obtain ⟨p, vs, rfl, g3, g4⟩ := g.tuple R3.sub
    refine go _ sl_tupZ ⟨p, vs, rfl, g3, fun hw => ?_, fun _ p o hp ho => new_tup R3 hp ho (g4.cut l u) h3⟩
    rcases g with g | ⟨_, _, _, _, z, _⟩
    · rename_i ds _
      rw [g4.length] at hw
      rw [cutD_whole hw] at h3
      exact same_res R3 g h3
    · cases z
  · obtain rfl := g.str
    exact go _ sl_str ⟨_, rfl, h3.1, same_res R3 (.str _) h3.2⟩
  · exact h3.elim
end

/-! ### calls of built-ins -/
abbrev OpN := List PyData → (Rs → Prop) → Prop
inductive RtAll (K : PySem.W.Frag) (F H : Hp) : List V → List PyData → Prop
  | nil : RtAll K F H [] []
  | cons {v : V} {vs : List V} {d : PyData} {ds : List PyData} : Rt K F H v d → RtAll K F H vs ds → RtAll K F H (v :: vs) (d :: ds)
structure DCl (X : Cx) (f : Value) (o : OpN) : Prop where
  run : ∀ (B : Bs) (F : Hp) (env : Ev) (pins : List (Addr × Obj)) (s : Shared) (σ : St) (H : Hp) (xs : List V) (us : List Value) (ds : List PyData) (Kr : Rs → Prop), Inv X pins σ H s → Vals xs us → Rl X.K B F H env σ → RtAll X.K F H xs ds → o ds Kr →
    wpAny (model X.prog X.w) X.A (call f us) (RP X B pins σ F H env Kr) X.xe s
def rdAll (env : Ev) : List Rs → Option (List PyData)
  | [] => some []
  | r :: rs => match rd env r, rdAll env rs with
    | some d, some ds => some (d :: ds)
    | _, _ => none
def wCallB (o : OpN) (wa : WA) : WE := fun env Ke Kx => wa env (fun env' rs => ∃ ds, rdAll env' rs = some ds ∧ o ds (Ke env')) Kx
theorem rts_of {K : PySem.W.Frag} {B : Bs} {F H : Hp} {env : Ev} {σ : St} (R : Rl K B F H env σ) : ∀ {vs : List V} {rs : List Rs} {ds : List PyData}, Paired (fun v r => Res K B F H env σ v r) vs rs → rdAll env rs = some ds → RtAll K F H vs ds
  | _, _, ds, .nil, e => by
    have e' : [] = ds := by simpa [rdAll] using e
    subst e'
    exact .nil
  | _, _, ds, .cons (b := r) (l₂ := rs) h t, e => by
    unfold rdAll at e
    split at e
    · rename_i d es e1 e2
      cases e
      exact .cons (h.rt R e1) (rts_of R t e2)
    · cases e
section
variable {B : Bs} {W : WX} {X : Cx} {x : Str} {p pos : Pos} {e : Expr} {es : List Expr} {wa : WA} {id T : String} {o : OpN}
theorem de_callB (hc : DCl X (.builtin id) o) (ha : DA B W X (e :: es) wa) (hg : Gl X x) (hm : X.mg x = none) (hv : bootBuiltins x = some (.builtin id)) (hn : x ≠ "__name__" := by decide) (hdb : (x == ("__debug__" : Str)) = false := by decide)
    (he : starEach (e :: es) X.env = (false, eval e X.env) :: starEach es X.env := by rfl) (hpl : (backTo pos (starEach es X.env)).any (·.1) = false := by rfl) : DE B W X (.Call (.Name x p) (e :: es) [] pos) (wCallB o wa) := by
  refine ⟨fun pins s σ F H env Ke Kx I R h hx => ?_⟩
  refine wpAny_Call_Name_kw (ld_blt I hg hm hv ?_ hn hdb)
  exact PyProof.Rows.callWith_builtin1 (thn (ha.run pos pins s σ F H env _ Kx I R h hx) fun us s1 ⟨vs, env1, rs, F1, H1, I1, rv, R1, f1, q1, ds, e1, k⟩ => thn (hc.run B F1 env1 pins s1 σ H1 vs us ds _ I1 rv R1 (rts_of R1 q1 e1) k) fun w s2 h2 => h2.dp.up f1) he hpl
theorem de_callTy (hc : DCl X (.type T) o) (ha : DA B W X (e :: es) wa) (hg : Gl X x) (hm : X.mg x = none) (hv : bootBuiltins x = some (.type T)) (hn : x ≠ "__name__" := by decide) (hdb : (x == ("__debug__" : Str)) = false := by decide)
    (he : starEach (e :: es) X.env = (false, eval e X.env) :: starEach es X.env := by rfl) (hpl : (backTo pos (starEach es X.env)).any (·.1) = false := by rfl) : DE B W X (.Call (.Name x p) (e :: es) [] pos) (wCallB o wa) := by
  refine ⟨fun pins s σ F H env Ke Kx I R h hx => ?_⟩
  refine wpAny_Call_Name_kw (ld_blt I hg hm hv ?_ hn hdb)
  exact PyProof.Rows.callWith_type1 (thn (ha.run pos pins s σ F H env _ Kx I R h hx) fun us s1 ⟨vs, env1, rs, F1, H1, I1, rv, R1, f1, q1, ds, e1, k⟩ => thn (hc.run B F1 env1 pins s1 σ H1 vs us ds _ I1 rv R1 (rts_of R1 q1 e1) k) fun w s2 h2 => h2.dp.up f1) he hpl
end
section
variable {X : Cx}
theorem clr_run {f : Value} {r : List V → Hp → VK → Prop} (ho : CallR X f r) {B : Bs} {F : Hp} {env : Ev} {pins : List (Addr × Obj)} {s : Shared} {σ : St} {H : Hp} {xs : List V} {us : List Value} {Kr : Rs → Prop} (I : Inv X pins σ H s) (rx : Vals xs us)
    (h : r xs H (fun v H' => ∃ r F', Rl X.K B F' H' env σ ∧ Fm env σ F H env F' H' ∧ Res X.K B F' H' env σ v r ∧ Nw H v r ∧ Kr r)) : wpAny (model X.prog X.w) X.A (call f us) (RP X B pins σ F H env Kr) X.xe s :=
  thn (ho pins s σ H xs us _ I rx h) fun w s1 ⟨v', H', I', rv, r, F', h1, h2, h3, h4, h5⟩ => ⟨v', r, F', H', I', rv, h1, h2, h3, h4, h5⟩
theorem RtAll.one {K : PySem.W.Frag} {F H : Hp} {vs : List V} {d : PyData} (h : RtAll K F H vs [d]) : ∃ v, vs = [v] ∧ Rt K F H v d := by
  cases h with
  | cons a b => cases b; exact ⟨_, rfl, a⟩
theorem RtAll.two {K : PySem.W.Frag} {F H : Hp} {vs : List V} {d e : PyData} (h : RtAll K F H vs [d, e]) : ∃ v w, vs = [v, w] ∧ Rt K F H v d ∧ Rt K F H w e := by
  cases h with
  | cons a b =>
    obtain ⟨w, rfl, h2⟩ := b.one
    exact ⟨_, w, rfl, a, h2⟩
def oLen : OpN := fun ds K => match ds with
  | [.list xs] => K (.val (.int xs.length))
  | [.tuple xs] => K (.val (.int xs.length))
  | [.str z] => z.length ≤ sizeLine ∧ K (.val (.int z.length))
  | _ => False
theorem dcl_len : DCl X (.builtin "len") oLen := by
  refine ⟨fun B F env pins s σ H xs us ds Kr I rx R hx q => ?_⟩
  unfold oLen at q
  split at q
  · obtain ⟨v, rfl, h⟩ := hx.one
    obtain ⟨a, vs, rfl, h1, h2⟩ := h.list R.sub
    exact clr_run call_len_seq I rx ⟨a, vs, rfl, .inl h1, by rw [h2.length]; exact same_res R (.int _) q⟩
  · obtain ⟨v, rfl, h⟩ := hx.one
    obtain ⟨a, vs, rfl, h1, h2⟩ := h.tuple R.sub
    exact clr_run call_len_seq I rx ⟨a, vs, rfl, .inr h1, by rw [h2.length]; exact same_res R (.int _) q⟩
  · obtain ⟨v, rfl, h⟩ := hx.one
    obtain rfl := h.str
    exact clr_run call_len_str I rx ⟨_, rfl, q.1, same_res R (.int _) q.2⟩
  · exact q.elim
def oInt : OpN := fun ds K => match ds with
  | [.int i] => K (.val (.int i))
  | [.bool b] => K (.val (.int (if b then 1 else 0)))
  | _ => False
theorem dcl_int : DCl X (.type "int") oInt := by
  refine ⟨fun B F env pins s σ H xs us ds Kr I rx R hx q => ?_⟩
  unfold oInt at q
  split at q
  · obtain ⟨v, rfl, h⟩ := hx.one
    obtain rfl := h.int
    exact clr_run call_int1 I rx (.inl ⟨_, rfl, same_res R (.int _) q⟩)
  · obtain ⟨v, rfl, h⟩ := hx.one
    obtain rfl := h.bool
    exact clr_run call_int1 I rx (.inr ⟨_, rfl, same_res R (.int _) q⟩)
  · exact q.elim
def oMax : OpN := fun ds K => match ds with
  | [.int i, .int j] => K (.val (.int (if j > i then j else i)))
  | [.list xs] => ∃ ns : List Int, xs = ns.map .int ∧ 0 < ns.length ∧ ∀ m, m ∈ ns → (∀ n ∈ ns, n ≤ m) → K (.val (.int m))
  | _ => False
def oMin : OpN := fun ds K => match ds with
  | [.int i, .int j] => K (.val (.int (if j < i then j else i)))
  | [.list xs] => ∃ ns : List Int, xs = ns.map .int ∧ 0 < ns.length ∧ ∀ m, m ∈ ns → (∀ n ∈ ns, m ≤ n) → K (.val (.int m))
  | _ => False
theorem dcl_max (hc : X.calm = true) : DCl X (.builtin "max") oMax := by
  refine ⟨fun B F env pins s σ H xs us ds Kr I rx R hx q => ?_⟩
  unfold oMax at q
  split at q
  · obtain ⟨v, w, rfl, h1, h2⟩ := hx.two
    obtain rfl := h1.int
    obtain rfl := h2.int
    exact clr_run (call_max2 hc) I rx ⟨_, _, rfl, same_res R (.int _) q⟩
  · obtain ⟨v, rfl, h⟩ := hx.one
    obtain ⟨ns, rfl, hl, q⟩ := q
    obtain ⟨a, vs, rfl, h1, h2⟩ := h.list R.sub
    have e := h2.ints
    subst e
    exact clr_run (cr_max hc) I rx ⟨a, ns, rfl, h1, hl, fun m hm hle => same_res R (.int _) (q m hm hle)⟩
  · exact q.elim
theorem dcl_min (hc : X.calm = true) : DCl X (.builtin "min") oMin := by
  refine ⟨fun B F env pins s σ H xs us ds Kr I rx R hx q => ?_⟩
  unfold oMin at q
  split at q
  · obtain ⟨v, w, rfl, h1, h2⟩ := hx.two
    obtain rfl := h1.int
    obtain rfl := h2.int
    exact clr_run (call_min2 hc) I rx ⟨_, _, rfl, same_res R (.int _) q⟩
  · obtain ⟨v, rfl, h⟩ := hx.one
    obtain ⟨ns, rfl, hl, q⟩ := q
    obtain ⟨a, vs, rfl, h1, h2⟩ := h.list R.sub
    have e := h2.ints
    subst e
    exact clr_run (cr_min hc) I rx ⟨a, ns, rfl, h1, hl, fun m hm hle => same_res R (.int _) (q m hm hle)⟩
  · exact q.elim
def oSum : OpN := fun ds K => match ds with
  | [.list xs] => ∃ ns : List Int, xs = ns.map .int ∧ K (.val (.int ns.sum))
  | _ => False
theorem dcl_sum (hc : X.calm = true) : DCl X (.builtin "sum") oSum := by
  refine ⟨fun B F env pins s σ H xs us ds Kr I rx R hx q => ?_⟩
  unfold oSum at q
  split at q
  · obtain ⟨v, rfl, h⟩ := hx.one
    obtain ⟨ns, rfl, q⟩ := q
    obtain ⟨a, vs, rfl, h1, h2⟩ := h.list R.sub
    have e := h2.ints
    subst e
    exact clr_run (cr_sum hc) I rx ⟨a, ns, rfl, h1, same_res R (.int _) q⟩
  · exact q.elim
def oAll : OpN := fun ds K => match ds with
  | [.list xs] => ∃ bs : List Bool, xs = bs.map .bool ∧ K (.val (.bool (bs.all id)))
  | _ => False
theorem dcl_all (hc : X.calm = true) : DCl X (.builtin "all") oAll := by
  refine ⟨fun B F env pins s σ H xs us ds Kr I rx R hx q => ?_⟩
  unfold oAll at q
  split at q
  · obtain ⟨v, rfl, h⟩ := hx.one
    obtain ⟨bs, rfl, q⟩ := q
    obtain ⟨a, vs, rfl, h1, h2⟩ := h.list R.sub
    have e := h2.bools
    subst e
    exact clr_run (cr_all hc) I rx ⟨a, bs, rfl, h1, same_res R (.bl _) q⟩
  · exact q.elim
def oList : OpN := fun ds K => match ds with
  | [.list xs] => K (.tmp xs)
  | [.tuple xs] => K (.tmp xs)
  | _ => False
theorem dcl_list : DCl X (.type "list") oList := by
  refine ⟨fun B F env pins s σ H xs us ds Kr I rx R hx q => ?_⟩
  unfold oList at q
  split at q
  · obtain ⟨v, rfl, h⟩ := hx.one
    obtain ⟨a, vs, rfl, h1, h2⟩ := h.list R.sub
    exact clr_run call_list_of I rx ⟨a, vs, rfl, .inl h1, fun p hp => new_lst R hp h2 q⟩
  · obtain ⟨v, rfl, h⟩ := hx.one
    obtain ⟨a, vs, rfl, h1, h2⟩ := h.tuple R.sub
    exact clr_run call_list_of I rx ⟨a, vs, rfl, .inr h1, fun p hp => new_lst R hp h2 q⟩
  · exact q.elim
def oTuple : OpN := fun ds K => match ds with
  | [.list xs] => K (.val (.tuple xs))
  | [.tuple xs] => K (.val (.tuple xs))
  | _ => False
theorem dcl_tuple : DCl X (.type "tuple") oTuple := by
  refine ⟨fun B F env pins s σ H xs us ds Kr I rx R hx q => ?_⟩
  unfold oTuple at q
  split at q
  · obtain ⟨v, rfl, h⟩ := hx.one
    obtain ⟨a, vs, rfl, h1, h2⟩ := h.list R.sub
    exact clr_run call_tuple_ofZ I rx ⟨a, vs, rfl, .inl ⟨h1, fun p o hp ho => new_tup R hp ho h2 q⟩⟩
  · obtain ⟨v, rfl, h⟩ := hx.one
    obtain ⟨a, vs, rfl, h1, h2⟩ := id (h.tuple R.sub)
    rcases h with h | ⟨_, _, _, _, z, _⟩
    · exact clr_run call_tuple_ofZ I rx ⟨a, vs, rfl, .inr ⟨h1, same_res R h q⟩⟩
    · cases z
  · exact q.elim
end

/-! ### isinstance with a built-in class -/
def tyN : PyData → String
  | .none => "NoneType"
  | .bool _ => "bool"
  | .int _ => "int"
  | .str _ => "str"
  | .list _ => "list"
  | .tuple _ => "tuple"
  | .dict _ => "dict"
/-- isinstance(d, T) of the built-in classes asked here -/
def isTy (T : String) (d : PyData) : Bool := tyN d == T || (T == "int" && tyN d == "bool")
def wIsi (T : String) (wa : WE) : WE := fun env Ke Kx => wa env (fun env' r => rdK env' r fun d => Ke env' (.val (.bool (isTy T d)))) Kx
theorem Rt.tyX {K : PySem.W.Frag} {F H : Hp} {v : V} {d : PyData} (s : Same F H) (h : Rt K F H v d) : TyX K H v (.type (tyN d)) := by
  cases d with
  | none => obtain rfl := h.none; exact .base .non
  | bool b => obtain rfl := h.bool; exact .base (.bl b)
  | int b => obtain rfl := h.int; exact .base (.int b)
  | str b => obtain rfl := h.str; exact .base (.str b)
  | list ds =>
    obtain ⟨a, vs, rfl, h1, _⟩ := h.list s
    rcases h1 with (h1 | ⟨o, h1⟩) | ⟨o, its, n, h1, h2, _⟩
    · exact .base (.lst h1)
    · exact .base (.frz h1)
    · exact .kList h1 h2
  | tuple ds =>
    obtain ⟨a, vs, rfl, h1, _⟩ := h.tuple s
    rcases h1 with (h1 | ⟨o, h1⟩) | ⟨o, its, n, h1, h2, _⟩
    · exact .base (.tup h1)
    · exact .fTuple h1
    · exact .kTuple h1 h2
  | dict kvs =>
    obtain ⟨_, a, rfl, h1⟩ := h.dict s
    exact .base (.dK h1)
theorem kit_isTy {T : String} (hT : T = "int" ∨ T = "bool" ∨ T = "tuple" ∨ T = "list" ∨ T = "str") (d : PyData) : kitB (tyN d) T = some (isTy T d) := by
  rcases hT with rfl | rfl | rfl | rfl | rfl <;> cases d <;> simp only [tyN, isTy] <;> decide +kernel
theorem de_isi {B : Bs} {W : WX} {X : Cx} {e : Expr} {w : WE} {T : String} {x : Str} {p p2 pos : Pos} (ha : DE B W X e w) (hg : Gl X "isinstance") (hm : X.mg "isinstance" = none) (hg2 : Gl X x) (hm2 : X.mg x = none) (hv : bootBuiltins x = some (.type T)) (hT : T = "int" ∨ T = "bool" ∨ T = "tuple" ∨ T = "list" ∨ T = "str")
    (hn : x ≠ "__name__" := by decide) (hdb : (x == ("__debug__" : Str)) = false := by decide) (hs : starEach [e, .Name x p2] X.env = (false, eval e X.env) :: starEach [.Name x p2] X.env := by rfl) (hs2 : starEach [.Name x p2] X.env = (false, eval (.Name x p2) X.env) :: starEach [] X.env := by rfl)
    (hpl : (backTo pos (starEach [.Name x p2] X.env)).any (·.1) = false := by rfl) : DE B W X (.Call (.Name "isinstance" p) [e, .Name x p2] [] pos) (wIsi T w) := by
  refine ⟨fun pins s σ F H env Ke Kx I R h hx => ?_⟩
  have hb : PE X (.Name x p2) (tC (.ty T)) := pe_bltn hg2 hm2 hv rfl hn hdb
  have pe := pe_callB (pos := pos) (p := p) (call_isi (X := X)) hg hm (by decide +kernel) (pa_cons ha.pe (pa_cons hb pa_nil hs2) hs) (by decide) (by decide) hs hpl
  refine thn (pe.run pins s σ H (fun v H' => ∃ env' F', Rl X.K B F' H' env' σ ∧ Fm env σ F H env' F' H' ∧ ∃ b, v = .bl b ∧ Ke env' (.val (.bool b))) I ?_) fun u s1 ⟨v, H', I', rv, env', F', h1, h2, b, h3, h4⟩ => by
    subst h3
    exact ⟨_, env', .val (.bool b), F', H', I', rv, h1, h2, .bl b, trivial, h4⟩
  refine ⟨F, env, _, Kx, R, h, hx, fun v env' r F' H' k1 k2 k3 _ ⟨d, e1, k4⟩ => ?_⟩
  exact ⟨v, .ty T, .type (tyN d), .type T, isTy T d, rfl, .ty T, (k3.rt k1 e1).tyX k1.sub, kit_ty (kit_isTy hT d), env', F', k1, k2, isTy T d, rfl, k4⟩
end Dl
end L2

/-! The D layer, 6: what a def promises over data; its call. -/
namespace L2
namespace Dl
open PySem PySem.Spec PyProof.Rows

inductive AV where
  | val (d : PyData)
  | own (ds : List PyData)
inductive Rv where
  | val (d : PyData)
  | own (ds : List PyData)
/-- a promise over data: the arguments; what is wanted of the lent lists' ends and the answer; of them and an exception -/
abbrev Spc := List AV → (List (List PyData) → Rv → Prop) → (List (List PyData) → XD → Prop) → Prop
def lentAs : List V → List AV → List Addr
  | .ref a :: vs, .own _ :: avs => a :: lentAs vs avs
  | _ :: vs, _ :: avs => lentAs vs avs
  | _, _ => []
inductive ArgsR (K : PySem.W.Frag) (F H : Hp) : List V → List AV → Prop
  | nil : ArgsR K F H [] []
  | val {v : V} {vs : List V} {d : PyData} {as : List AV} : Rp K F v d → ArgsR K F H vs as → ArgsR K F H (v :: vs) (.val d :: as)
  | own {a : Addr} {ws vs : List V} {ds : List PyData} {as : List AV} : H a = some (.lst ws) → F a = none → RpAll K F ws ds → ArgsR K F H vs as → ArgsR K F H (.ref a :: vs) (.own ds :: as)
/-- the lent lists at the end -/
def OutsR (K : PySem.W.Frag) (F H : Hp) (as : List Addr) (outs : List (List PyData)) : Prop := Paired (fun a ds => ∃ ws, H a = some (.lst ws) ∧ F a = none ∧ RpAll K F ws ds) as outs
def RvR (K : PySem.W.Frag) (H0 F H : Hp) (v : V) : Rv → Prop
  | .val d => Rp K F v d
  | .own ds => ∃ p ws, v = .ref p ∧ H p = some (.lst ws) ∧ F p = none ∧ H0 p = none ∧ RpAll K F ws ds
structure Aft (K : PySem.W.Frag) (F H : Hp) (ls : List Addr) (F' H' : Hp) (outs : List (List PyData)) : Prop where
  subF : Same F F'
  sub : Same F' H'
  keep : ∀ b x, H b = some x → b ∉ ls → H' b = some x
  dom : ∀ b, H b ≠ none → H' b ≠ none
  new : ∀ b x, F' b = some x → F b = some x ∨ Nw0 H b x
  outs : OutsR K F' H' ls outs
/-- what an exception is, by its class's name -/
def XRm (K : PySem.W.Frag) (mg : Str → Option Value) (F H : Hp) (x : XD) (cls : Value) (d : Option Addr) : Prop :=
  mg x.name = some cls ∧ match d with
    | none => x.fs = []
    | some dx => ∃ fs, F dx = some (.xd fs) ∧ fsR K F fs x.fs
def low (K : PySem.W.Frag) (mg : Str → Option Value) (n : Nat) (S : Spc) : Sp := fun vs H Q E => ∃ F avs Kr Kx, Same F H ∧ ArgsR K F H vs avs ∧ (lentAs vs avs).Nodup ∧ avs.length = n ∧ S avs Kr Kx ∧
  (∀ outs r F' H' v, Aft K F H (lentAs vs avs) F' H' outs → RvR K H F' H' v r → Kr outs r → Q v H') ∧
  (∀ outs x cls d F' H', Aft K F H (lentAs vs avs) F' H' outs → XRm K mg F' H' x cls d → Kx outs x → E cls d H')
theorem ArgsR.length {K : PySem.W.Frag} {F H : Hp} : ∀ {vs : List V} {as : List AV}, ArgsR K F H vs as → vs.length = as.length
  | _, _, .nil => rfl
  | _, _, .val _ t => by rw [List.length_cons, List.length_cons, t.length]
  | _, _, .own _ _ _ t => by rw [List.length_cons, List.length_cons, t.length]

/-! ### argument lists of own defs: frozen ones and lent names -/
inductive Ar where
  | fz (d : PyData)
  | ln (i : Nat)
abbrev WM := Ev → (Ev → List Ar → Prop) → KXc → Prop
def ArR (K : PySem.W.Frag) (F : Hp) (σ : St) (v : V) : Ar → Prop
  | .fz d => Rp K F v d
  | .ln i => σ[i]? = some (some v)
structure DM (B : Bs) (W : WX) (X : Cx) (es : List Expr) (w : WM) : Prop where
  run : ∀ (pos : Pos) (pins : List (Addr × Obj)) (s : Shared) (σ : St) (F H : Hp) (env : Ev) (Ka : Ev → List Ar → Prop) (Kx : KXc), Inv X pins σ H s → Rl X.K B F H env σ → w env Ka Kx → XC X.K B W Kx →
    wpAny (model X.prog X.w) X.A (spliced (backTo pos (starEach es X.env))) (fun us s' => ∃ vs env' as F' H', Inv X pins σ H' s' ∧ Vals vs us ∧ Rl X.K B F' H' env' σ ∧ Fm env σ F H env' F' H' ∧ Paired (fun v a => ArR X.K F' σ v a) vs as ∧ Ka env' as) X.xe s
def wMNil : WM := fun env Ka _ => Ka env []
def wMCons (w : WE) (wr : WM) : WM := fun env Ka Kx => wFz w env (fun env1 d => wr env1 (fun env2 as => Ka env2 (.fz d :: as)) Kx) Kx
def wMLend (i : Nat) (wr : WM) : WM := fun env Ka Kx => wr env (fun env2 as => Ka env2 (.ln i :: as)) Kx
theorem ArR.mono {K : PySem.W.Frag} {F F' : Hp} {σ : St} {v : V} {a : Ar} (s : Same F F') (h : ArR K F σ v a) : ArR K F' σ v a := by
  cases a with
  | fz d => exact Rp.mono s d v h
  | ln i => exact h
section
variable {B : Bs} {W : WX} {X : Cx} {e : Expr} {es : List Expr} {w : WE} {wm : WM} {pos : Pos}
theorem dm_nil : DM B W X [] wMNil := ⟨fun _ _ _ _ F H env Ka _ I R h _ => Calls.spliced_nil ⟨[], env, [], F, H, I, .nil, R, Fm.refl, .nil, h⟩⟩
theorem dm_cons (ha : DE B W X e w) (hr : DM B W X es wm) (hs : starEach (e :: es) X.env = (false, eval e X.env) :: starEach es X.env := by rfl) : DM B W X (e :: es) (wMCons w wm) := by
  refine ⟨fun pos pins s σ F H env Ka Kx I R h hx => ?_⟩
  rw [hs]
  show wpAny _ _ (spliced ((false, eval e X.env) :: backTo pos (starEach es X.env))) _ _ s
  refine Calls.spliced_cons (thn (ha.run pins s σ F H env _ Kx I R h hx) fun u s1 ⟨x, env1, r1, F1, H1, I1, rx, R1, f1, q1, n1, p, e1, h1⟩ => ?_)
  obtain ⟨F2, R2, f2, rp⟩ := freeze (env2 := p.1) (d := p.2) R1 f1 q1 n1 e1
  exact thn (hr.run pos pins s1 σ F2 H1 p.1 _ Kx I1 R2 h1 hx) fun us s2 ⟨vs, env2, as, F3, H3, I3, rv, R3, f3, q3, h3⟩ => ⟨x :: vs, env2, .fz p.2 :: as, F3, H3, I3, .cons rx rv, R3, f2.trans f3, .cons (Rp.mono f3.sub _ _ rp) q3, h3⟩
/-- the slot i holds a list of its own, lent -/
def wLd (i : Nat) (wm : WM) : WM := fun env Ka Kx => (∃ ds l, env[i]? = some (Sl.own l ds)) ∧ wMLend i wm env Ka Kx
/-- a name that holds a list of its own is lent -/
theorem dm_lend (i : Nat) {x : Str} {p : Pos} (hr : DM B W X es wm) (hN : X.N[i]? = some x := by rfl) (hv : Vis X.env.scope x := by first | exact Or.inl rfl | exact Or.inr (Or.inl rfl) | exact Or.inr (Or.inr rfl)) (hd : (x == ("__debug__" : Str)) = false := by decide)
    (hcd : (x == ("__classdict__" : Str)) = false := by decide) (hs : starEach (.Name x p :: es) X.env = (false, eval (.Name x p) X.env) :: starEach es X.env := by rfl) : DM B W X (.Name x p :: es) (wLd i wm) := by
  refine ⟨fun pos pins s σ F H env Ka Kx I R h hx => ?_⟩
  obtain ⟨⟨ds, l, e0⟩, h⟩ := h
  rw [hs]
  show wpAny _ _ (spliced ((false, eval (.Name x p) X.env) :: backTo pos (starEach es X.env))) _ _ s
  have sl := R.sl i
  rw [e0] at sl
  obtain ⟨a, ws, g1, g2, g3, g4⟩ := sl
  refine Calls.spliced_cons (thn ((pe_var hN hv hd hcd).run pins s σ H (fun v H' => H' = H ∧ v = .ref a) I ⟨_, g1, rfl, rfl⟩) fun u s1 ⟨v, H', I', rv, e1, e2⟩ => ?_)
  subst e1 e2
  exact thn (hr.run pos pins s1 σ F _ env _ Kx I' R h hx) fun us s2 ⟨vs, env2, as, F3, H3, I3, rv', R3, f3, q3, h3⟩ => ⟨.ref a :: vs, env2, .ln i :: as, F3, H3, I3, .cons rv rv', R3, f3, .cons g1 q3, h3⟩
end

/-! ### the call -/
/-- the arguments' data now; lent slots -/
def avsOf (env : Ev) : List Ar → Option (List AV)
  | [] => some []
  | .fz d :: as => (avsOf env as).map (.val d :: ·)
  | .ln i :: as => match env[i]? with
    | some (.own _ ds) => (avsOf env as).map (.own ds :: ·)
    | _ => none
def lnsOf : List Ar → List Nat
  | [] => []
  | .fz _ :: as => lnsOf as
  | .ln i :: as => i :: lnsOf as
/-- the lent slots hold their new lists -/
def putOuts (env : Ev) : List Nat → List (List PyData) → Ev
  | i :: is, ds :: outs => putOuts (match env[i]? with
    | some (.own l _) => env.set i (.own l ds)
    | _ => env) is outs
  | _, _ => env
def rsOf : Rv → Rs
  | .val d => .val d
  | .own ds => .tmp ds
def wCall (n : Nat) (S : Spc) (wm : WM) : WE := fun env Ke Kx => wm env (fun env' as => (lnsOf as).Nodup ∧ ∃ avs, avsOf env' as = some avs ∧ avs.length = n ∧ S avs (fun outs r => Ke (putOuts env' (lnsOf as) outs) (rsOf r)) (fun outs x => Kx (putOuts env' (lnsOf as) outs) x)) Kx
/-- a def by its name in the module -/
def Cal (P : Program) (w : World) (K : PySem.W.Frag) (mg : Str → Option Value) (base : Heap) (k : Nat) (x : Str) (n : Nat) (S : Spc) : Prop :=
  ∃ f fd ps, ps.length = n ∧ mg x = some (.ref f) ∧ PySem.W.keepIn K (.ref f) = true ∧ Binds K fd ps [] ∧ FnOk P w K mg base (L2N.CX P w) k f fd ps (low K mg n S)

section
variable {K : PySem.W.Frag} {B : Bs} {F H F' H' : Hp} {env : Ev} {σ : St}
/-- one own slot's list is another -/
theorem putOuts_len (env : Ev) : ∀ (is : List Nat) (outs : List (List PyData)), (putOuts env is outs).length = env.length := by
  intro is
  induction is generalizing env with
  | nil => intro outs; cases outs <;> rfl
  | cons i is ih =>
    intro outs
    cases outs with
    | nil => rfl
    | cons ds outs =>
      show (putOuts _ is outs).length = _
      rw [ih]
      split <;> simp
/-- which lists stand where behind the call -/
theorem putOuts_own : ∀ (is : List Nat) (outs : List (List PyData)) (env : Ev) (j : Nat) (l : Bool) (ds : List PyData), (putOuts env is outs)[j]? = some (Sl.own l ds) →
    ∃ ds0, env[j]? = some (Sl.own l ds0) := by
  intro is
  induction is with
  | nil => intro outs env j l ds h; cases outs <;> exact ⟨ds, h⟩
  | cons i is ih =>
    intro outs env j l ds h
    cases outs with
    | nil => exact ⟨ds, h⟩
    | cons d outs =>
      have h' : (putOuts (match env[i]? with
        | some (.own l _) => env.set i (.own l d)
        | _ => env) is outs)[j]? = some (Sl.own l ds) := h
      obtain ⟨ds0, h1⟩ := ih outs _ j l ds h'
      split at h1
      · rename_i l' ds' e
        by_cases hj : i = j
        · subst hj
          rw [List.getElem?_set_self (List.getElem?_eq_some_iff.mp e).1] at h1
          cases h1
          exact ⟨ds', e⟩
        · rw [List.getElem?_set_ne hj] at h1
          exact ⟨ds0, h1⟩
      · exact ⟨ds0, h1⟩
theorem putOuts_dct : ∀ (is : List Nat) (outs : List (List PyData)) (env : Ev) (j : Nat) (kv : List (List Int × PyData)), (putOuts env is outs)[j]? = some (Sl.dct kv) → env[j]? = some (Sl.dct kv) := by
  intro is
  induction is with
  | nil => intro outs env j kv h; cases outs <;> exact h
  | cons i is ih =>
    intro outs env j kv h
    cases outs with
    | nil => exact h
    | cons d outs =>
      have h' : (putOuts (match env[i]? with
        | some (.own l _) => env.set i (.own l d)
        | _ => env) is outs)[j]? = some (Sl.dct kv) := h
      have h1 := ih outs _ j kv h'
      split at h1
      · rename_i l' ds' e
        by_cases hj : i = j
        · subst hj
          rw [List.getElem?_set_self (List.getElem?_eq_some_iff.mp e).1] at h1
          cases h1
        · rw [List.getElem?_set_ne hj] at h1
          exact h1
      · exact h1
theorem putOuts_val : ∀ (is : List Nat) (outs : List (List PyData)) (env : Ev) (j : Nat) (d : PyData), (putOuts env is outs)[j]? = some (Sl.val d) → env[j]? = some (Sl.val d) := by
  intro is
  induction is with
  | nil => intro outs env j d h; cases outs <;> exact h
  | cons i is ih =>
    intro outs env j d h
    cases outs with
    | nil => exact h
    | cons e outs =>
      have h' : (putOuts (match env[i]? with
        | some (.own l _) => env.set i (.own l e)
        | _ => env) is outs)[j]? = some (Sl.val d) := h
      have h1 := ih outs _ j d h'
      split at h1
      · by_cases hj : i = j
        · subst hj
          rename_i e0
          rw [List.getElem?_set_self (List.getElem?_eq_some_iff.mp e0).1] at h1
          cases h1
        · rw [List.getElem?_set_ne hj] at h1
          exact h1
      · exact h1
theorem putOuts_out : ∀ (is : List Nat) (outs : List (List PyData)) (env : Ev) (j : Nat), j ∉ is → (putOuts env is outs)[j]? = env[j]? := by
  intro is
  induction is with
  | nil => intro outs env j h; cases outs <;> rfl
  | cons i is ih =>
    intro outs env j h
    cases outs with
    | nil => rfl
    | cons e outs =>
      show (putOuts _ is outs)[j]? = _
      rw [ih outs _ j fun z => h (List.mem_cons_of_mem _ z)]
      have hj : i ≠ j := fun z => h (by rw [z]; exact List.mem_cons_self)
      split
      · rw [List.getElem?_set_ne hj]
      · rfl
/-- the lent ones: place, address, list -/
theorem putOuts_at : ∀ (as : List Ar) (vs : List V) (avs : List AV) (outs : List (List PyData)) (env : Ev), Paired (fun v a => ArR K F σ v a) vs as → avsOf env as = some avs → (lnsOf as).Nodup →
    OutsR K F' H' (lentAs vs avs) outs → (∀ (i : Nat) (l : Bool) (ds : List PyData), env[i]? = some (Sl.own l ds) → ∃ a : Addr, σ[i]? = some (some (V.ref a))) → ∀ (j : Nat) (l : Bool) (ds : List PyData), j ∈ lnsOf as → (putOuts env (lnsOf as) outs)[j]? = some (Sl.own l ds) →
      ∃ a ws, σ[j]? = some (some (.ref a)) ∧ a ∈ lentAs vs avs ∧ H' a = some (.lst ws) ∧ F' a = none ∧ RpAll K F' ws ds
  | [], _, _, _, _, _, _, _, _, _, _, _, _, hj, _ => by cases hj
  | .fz d :: as, _, avs, outs, env, .cons (a := v) (l₁ := vs) hp tp, e, nd, ho, hs, j, l, ds, hj, h => by
    simp only [avsOf, Option.map_eq_some_iff] at e
    obtain ⟨avs', e1, rfl⟩ := e
    have hl : lentAs (v :: vs) (.val d :: avs') = lentAs vs avs' := by cases v <;> rfl
    rw [hl] at ho ⊢
    exact putOuts_at as vs avs' outs env tp e1 nd ho hs j l ds hj h
  | .ln i :: as, _, avs, outs, env, .cons (a := v) (l₁ := vs) hp tp, e, nd, ho, hs, j, l, ds, hj, h => by
    simp only [avsOf] at e
    split at e
    · rename_i l0 ds0 e0
      simp only [Option.map_eq_some_iff] at e
      obtain ⟨avs', e1, rfl⟩ := e
      obtain ⟨a, ha⟩ := hs i l0 ds0 e0
      have hv : σ[i]? = some (some v) := hp
      rw [ha] at hv
      cases hv
      have ho' : OutsR K F' H' (a :: lentAs vs avs') outs := ho
      have nd' : i ∉ lnsOf as ∧ (lnsOf as).Nodup := List.nodup_cons.mp nd
      cases ho' with
      | cons ho1 ho2 =>
        rename_i o1 outs'
        have h' : (putOuts (match env[i]? with
          | some (.own l _) => env.set i (.own l o1)
          | _ => env) (lnsOf as) outs')[j]? = some (Sl.own l ds) := h
        rw [e0] at h'
        by_cases hji : j = i
        · subst hji
          rw [putOuts_out _ _ _ _ nd'.1, List.getElem?_set_self (List.getElem?_eq_some_iff.mp e0).1] at h'
          cases h'
          obtain ⟨ws, g1, g2, g3⟩ := ho1
          exact ⟨a, ws, ha, List.mem_cons_self, g1, g2, g3⟩
        · have hj' : j ∈ lnsOf as := by
            rcases List.mem_cons.mp hj with z | z
            · exact absurd z hji
            · exact z
          have ea : avsOf (env.set i (.own l0 o1)) as = some avs' := by
            have gen : ∀ (as : List Ar), i ∉ lnsOf as → avsOf (env.set i (.own l0 o1)) as = avsOf env as := by
              intro as
              induction as with
              | nil => intro _; rfl
              | cons b as ih =>
                intro hn
                cases b with
                | fz d => simp only [avsOf]; rw [ih hn]
                | ln k =>
                  have hk : i ≠ k := fun z => hn (by rw [z]; exact List.mem_cons_self)
                  simp only [avsOf]
                  rw [List.getElem?_set_ne hk, ih fun z => hn (List.mem_cons_of_mem _ z)]
            rw [gen as nd'.1]
            exact e1
          have hs' : ∀ (k : Nat) (l : Bool) (ds : List PyData), (env.set i (.own l0 o1))[k]? = some (Sl.own l ds) → ∃ a : Addr, σ[k]? = some (some (V.ref a)) := by
            intro k l1 ds1 hk
            by_cases hik : i = k
            · subst hik
              exact ⟨a, ha⟩
            · rw [List.getElem?_set_ne hik] at hk
              exact hs k l1 ds1 hk
          obtain ⟨a', ws, g1, g2, g3⟩ := putOuts_at as vs avs' outs' _ tp ea nd'.2 ho2 hs' j l ds hj' h'
          exact ⟨a', ws, g1, List.mem_cons_of_mem _ g2, g3⟩
    · cases e
/-- the arguments as the callee takes them -/
theorem argsR_of (R : Rl K B F H env σ) : ∀ (as : List Ar) (vs : List V) (avs : List AV), Paired (fun v a => ArR K F σ v a) vs as → avsOf env as = some avs → ArgsR K F H vs avs ∧ (∀ a ∈ lentAs vs avs, ∃ i ∈ lnsOf as, σ[i]? = some (some (.ref a)) ∧ ownL env σ a)
  | [], _, avs, .nil, e => by
    simp only [avsOf] at e
    cases e
    exact ⟨.nil, fun a h => by cases h⟩
  | .fz d :: as, _, avs, .cons (a := v) (l₁ := vs) hp tp, e => by
    simp only [avsOf, Option.map_eq_some_iff] at e
    obtain ⟨avs', e1, rfl⟩ := e
    obtain ⟨h1, h2⟩ := argsR_of R as vs avs' tp e1
    have hl : lentAs (v :: vs) (.val d :: avs') = lentAs vs avs' := by cases v <;> rfl
    rw [hl]
    exact ⟨.val hp h1, h2⟩
  | .ln i :: as, _, avs, .cons (a := v) (l₁ := vs) hp tp, e => by
    simp only [avsOf] at e
    split at e
    · rename_i l0 ds0 e0
      simp only [Option.map_eq_some_iff] at e
      obtain ⟨avs', e1, rfl⟩ := e
      obtain ⟨h1, h2⟩ := argsR_of R as vs avs' tp e1
      have s := R.sl i
      rw [e0] at s
      obtain ⟨a, ws, g1, g2, g3, g4⟩ := s
      have hv : σ[i]? = some (some v) := hp
      rw [g1] at hv
      cases hv
      refine ⟨.own g2 g3 g4 h1, fun b hb => ?_⟩
      rcases List.mem_cons.mp hb with z | z
      · subst z
        exact ⟨i, List.mem_cons_self, g1, i, l0, ds0, e0, g1⟩
      · obtain ⟨k, h3, h4⟩ := h2 b z
        exact ⟨k, List.mem_cons_of_mem _ h3, h4⟩
    · cases e
theorem lent_nodup (R : Rl K B F H env σ) : ∀ (as : List Ar) (vs : List V) (avs : List AV), Paired (fun v a => ArR K F σ v a) vs as → avsOf env as = some avs → (lnsOf as).Nodup → (lentAs vs avs).Nodup
  | [], _, avs, .nil, e, _ => by
    simp only [avsOf] at e
    cases e
    exact List.Pairwise.nil
  | .fz d :: as, _, avs, .cons (a := v) (l₁ := vs) hp tp, e, nd => by
    simp only [avsOf, Option.map_eq_some_iff] at e
    obtain ⟨avs', e1, rfl⟩ := e
    have hl : lentAs (v :: vs) (.val d :: avs') = lentAs vs avs' := by cases v <;> rfl
    rw [hl]
    exact lent_nodup R as vs avs' tp e1 nd
  | .ln i :: as, _, avs, .cons (a := v) (l₁ := vs) hp tp, e, nd => by
    simp only [avsOf] at e
    split at e
    · rename_i l0 ds0 e0
      simp only [Option.map_eq_some_iff] at e
      obtain ⟨avs', e1, rfl⟩ := e
      have s := R.sl i
      rw [e0] at s
      obtain ⟨a, ws, g1, g2, g3, g4⟩ := s
      have hv : σ[i]? = some (some v) := hp
      rw [g1] at hv
      cases hv
      have nd' : i ∉ lnsOf as ∧ (lnsOf as).Nodup := List.nodup_cons.mp nd
      refine List.nodup_cons.mpr ⟨fun hm => ?_, lent_nodup R as vs avs' tp e1 nd'.2⟩
      obtain ⟨k, h1, h2, k', l', ds', h3, h4⟩ := (argsR_of R as vs avs' tp e1).2 a hm
      -- k is a lent slot of the rest with the same address
      have own_k : ∃ l ds, env[k]? = some (Sl.own l ds) := by
        clear nd nd' h2
        have gen : ∀ (as : List Ar) (avs : List AV), avsOf env as = some avs → k ∈ lnsOf as → ∃ l ds, env[k]? = some (Sl.own l ds) := by
          intro as
          induction as with
          | nil => intro _ _ h; cases h
          | cons b as ih =>
            intro avs e h
            cases b with
            | fz d =>
              simp only [avsOf, Option.map_eq_some_iff] at e
              obtain ⟨avs', e1, _⟩ := e
              exact ih avs' e1 h
            | ln m =>
              simp only [avsOf] at e
              split at e
              · rename_i l1 d1 e5
                simp only [Option.map_eq_some_iff] at e
                obtain ⟨avs', e1, _⟩ := e
                rcases List.mem_cons.mp h with z | z
                · subst z
                  exact ⟨l1, d1, e5⟩
                · exact ih avs' e1 z
              · cases e
        exact gen as avs' e1 h1
      obtain ⟨l2, ds2, e2⟩ := own_k
      have hik := R.dist i k l0 l2 ds0 ds2 a e0 e2 g1 h2
      subst hik
      exact nd'.1 h1
    · cases e
/-- behind the call -/
theorem rl_after (R : Rl K B F H env σ) {as : List Ar} {vs : List V} {avs : List AV} {outs : List (List PyData)} (hp : Paired (fun v a => ArR K F σ v a) vs as) (e : avsOf env as = some avs) (nd : (lnsOf as).Nodup) (a : Aft K F H (lentAs vs avs) F' H' outs) :
    Rl K B F' H' (putOuts env (lnsOf as) outs) σ ∧ Fm env σ F H (putOuts env (lnsOf as) outs) F' H' := by
  obtain ⟨h1, h2⟩ := argsR_of R as vs avs hp e
  have hs : ∀ (i : Nat) (l : Bool) (ds : List PyData), env[i]? = some (Sl.own l ds) → ∃ a : Addr, σ[i]? = some (some (V.ref a)) := fun i l ds h => by
    have s := R.sl i
    rw [h] at s
    obtain ⟨a, ws, g1, _⟩ := s
    exact ⟨a, g1⟩
  have lentOwn : ∀ b, b ∈ lentAs vs avs → ownL env σ b := fun b hb => by
    obtain ⟨i, _, _, h⟩ := h2 b hb
    exact h
  have lentH0 : ∀ b, b ∈ lentAs vs avs → B.H0 b = none ∨ ∃ p ∈ B.lent, p.2 = b := fun b hb => by
    obtain ⟨i, l, ds, g1, g2⟩ := lentOwn b hb
    cases l with
    | false => exact .inl (R.own0 i ds b g1 g2)
    | true => exact .inr (R.own1 i ds b g1 g2)
  -- an own slot that is not lent keeps its list
  refine ⟨⟨by rw [putOuts_len]; exact R.len, a.sub, fun j => ?_, fun i j l m ds es b h3 h4 h5 h6 => ?_, R.sub0.trans a.subF, fun b x h => ?_, fun b x h n => ?_, fun b h => a.dom b (R.dom b h), fun i ds b h3 h4 => ?_, fun i ds b h3 h4 => ?_, R.lsl, fun i j kv kw b h3 h4 h5 h6 => R.dd i j kv kw b (putOuts_dct _ _ _ _ _ h3) (putOuts_dct _ _ _ _ _ h4) h5 h6, fun i kv b h3 h4 => R.d0 i kv b (putOuts_dct _ _ _ _ _ h3) h4⟩,
    ⟨fun b x h n => a.keep b x h fun z => n (.inl (lentOwn b z)), a.subF, fun b x h => ?_, fun i l ds h => putOuts_own _ _ _ i l ds h, a.dom, fun i kv h => ⟨kv, putOuts_dct _ _ _ _ _ h⟩⟩⟩
  · cases q : (putOuts env (lnsOf as) outs)[j]? with
    | none => trivial
    | some z =>
      cases z with
      | un => trivial
      | val d =>
        have q' := putOuts_val _ _ _ j d q
        have s := R.sl j
        rw [q'] at s
        obtain ⟨v, g1, g2⟩ := s
        exact ⟨v, g1, Rp.mono a.subF _ _ g2⟩
      | own l ds =>
        by_cases hj : j ∈ lnsOf as
        · obtain ⟨b, ws, g1, _, g3, g4, g5⟩ := putOuts_at as vs avs outs env hp e nd a.outs hs j l ds hj q
          exact ⟨b, ws, g1, g3, g4, g5⟩
        · rw [putOuts_out _ _ _ _ hj] at q
          have s := R.sl j
          rw [q] at s
          obtain ⟨b, ws, g1, g2, g3, g4⟩ := s
          have nb : b ∉ lentAs vs avs := fun z => by
            obtain ⟨k, hk, gk, k', l', ds', ek, gk'⟩ := h2 b z
            have e1 := R.dist j k' l l' ds ds' b q ek g1 gk'
            -- k itself is own
            have ok : ∃ l ds, env[k]? = some (Sl.own l ds) := by
              have gen : ∀ (as : List Ar) (avs : List AV), avsOf env as = some avs → k ∈ lnsOf as → ∃ l ds, env[k]? = some (Sl.own l ds) := by
                intro as
                induction as with
                | nil => intro _ _ h; cases h
                | cons b as ih =>
                  intro avs e h
                  cases b with
                  | fz d =>
                    simp only [avsOf, Option.map_eq_some_iff] at e
                    obtain ⟨avs', e1, _⟩ := e
                    exact ih avs' e1 h
                  | ln m =>
                    simp only [avsOf] at e
                    split at e
                    · rename_i l1 d1 e5
                      simp only [Option.map_eq_some_iff] at e
                      obtain ⟨avs', e1, _⟩ := e
                      rcases List.mem_cons.mp h with z | z
                      · subst z
                        exact ⟨l1, d1, e5⟩
                      · exact ih avs' e1 z
                    · cases e
              exact gen as avs e hk
            obtain ⟨l2, ds2, e2⟩ := ok
            have e3 := R.dist j k l l2 ds ds2 b q e2 g1 gk
            exact hj (e3 ▸ hk)
          refine ⟨b, ws, g1, a.keep b _ g2 nb, ?_, RpAll.mono a.subF _ _ g4⟩
          cases z : F' b with
          | none => rfl
          | some x =>
            rcases a.new b x z with y | y | ⟨_, ys, rfl⟩
            · rw [g3] at y; cases y
            · rw [g2] at y; cases y
            · have y := a.sub b _ z
              rw [a.keep b _ g2 nb] at y; cases y
      | dct kv =>
        have q' := putOuts_dct _ _ _ j kv q
        have s := R.sl j
        rw [q'] at s
        obtain ⟨b, g1, g2, g3⟩ := s
        have nb : b ∉ lentAs vs avs := fun z => by
          obtain ⟨k', l', ds', ek, gk'⟩ := lentOwn b z
          have s2 := R.sl k'
          rw [ek] at s2
          obtain ⟨c, ws, w1, w2, _⟩ := s2
          rw [gk'] at w1
          cases w1
          rw [g2] at w2
          cases w2
        refine ⟨b, g1, a.keep b _ g2 nb, ?_⟩
        cases z : F' b with
        | none => rfl
        | some x =>
          rcases a.new b x z with y | y | ⟨_, ys, rfl⟩
          · rw [g3] at y; cases y
          · rw [g2] at y; cases y
          · have y := a.sub b _ z
            rw [a.keep b _ g2 nb] at y; cases y
  · obtain ⟨d1, h7⟩ := putOuts_own _ _ _ i l ds h3
    obtain ⟨d2, h8⟩ := putOuts_own _ _ _ j m es h4
    exact R.dist i j l m d1 d2 b h7 h8 h5 h6
  · rcases a.new b x h with z | z
    · exact R.new b x z
    · exact .inr (z.elim (fun z => .inl (R.free0 z)) .inr)
  · refine a.keep b x (R.frm b x h n) fun z => ?_
    rcases lentH0 b z with g | ⟨p, g1, g2⟩
    · rw [h] at g; cases g
    · exact n p g1 g2
  · obtain ⟨d1, h7⟩ := putOuts_own _ _ _ i false ds h3
    exact R.own0 i d1 b h7 h4
  · obtain ⟨d1, h7⟩ := putOuts_own _ _ _ i true ds h3
    exact R.own1 i d1 b h7 h4
  · rcases a.new b x h with z | z
    · exact .inl z
    · cases q : H b with
      | none => exact .inr (.inl (.inl q))
      | some y =>
        by_cases hb : b ∈ lentAs vs avs
        · obtain ⟨k', l', ds', ek, gk'⟩ := lentOwn b hb
          exact .inr (.inr (.inl ⟨k', l', ds', ek, gk'⟩))
        · rcases z with z | z
          · rw [q] at z; cases z
          · have y1 := a.sub b _ h
            rw [a.keep b _ q hb] at y1
            exact .inr (.inl (.inr ⟨q.trans y1, z⟩))
end

section
variable {B : Bs} {W : WX} {X : Cx} {k n : Nat} {x : Str} {S : Spc} {e : Expr} {es : List Expr} {wm : WM} {p pos : Pos}
/-- f(e, ..) -/
theorem de_call (C : Cal X.prog X.w X.K X.mg X.base k x n S) (hr : Room k X.A) (hB : B.mg = X.mg) (tk : L2N.Takes X W) (ha : DM B W X (e :: es) wm) (hg : Gl X x := by rfl) (hdb : (x == ("__debug__" : Str)) = false := by decide)
    (he : starEach (e :: es) X.env = (false, eval e X.env) :: starEach es X.env := by rfl) (hpl : (backTo pos (starEach es X.env)).any (·.1) = false := by rfl) : DE B W X (.Call (.Name x p) (e :: es) [] pos) (wCall n S wm) := by
  obtain ⟨f, fd, ps, hpn, hm, hk, hb, Fk⟩ := C
  refine ⟨fun pins s σ F H env Ke Kx I R h hx => ?_⟩
  refine wpAny_Call_Name_kw (ld_glob I hg hm ?_ hdb)
  refine PySem.W.callWith_K (h₀ := X.base) I.ok.mod.kin hk (thn (ha.run pos pins s σ F H env _ Kx I R h hx) fun us s1 ⟨vs, env1, as, F1, H1, I1, rv, R1, f1, q1, nd, avs, e1, hlen, hS⟩ => ⟨I1.kIn, ?_⟩) he hpl
  obtain ⟨g1, g2⟩ := argsR_of R1 as vs avs q1 e1
  refine thn (run_fnSD (E := fun σ cls d H' => W cls d σ H') (dvs := []) Fk hr hb .nil (fun pins H s e s' I hc => tk e s' (L2N.XE.of_call (W := W) I (fun cls d H' q => q) hc)) I1 rv (Q := fun v H' => ∃ outs r F', Rl X.K B F' H' (putOuts env1 (lnsOf as) outs) σ ∧ Fm env1 σ F1 H1 (putOuts env1 (lnsOf as) outs) F' H' ∧ RvR X.K H1 F' H' v r ∧ Ke (putOuts env1 (lnsOf as) outs) (rsOf r)) ?_) fun u s2 ⟨v, H', I', rv', outs, r, F', k1, k2, k3, k4⟩ => ?_
  · rw [List.append_nil]
    refine ⟨F1, avs, _, _, R1.sub, g1, lent_nodup R1 as vs avs q1 e1 nd, hlen, hS, fun outs r F' H' v a hv hk => ?_, fun outs y cls d F' H' a hy hk => ?_⟩
    · obtain ⟨r1, r2⟩ := rl_after R1 q1 e1 nd a
      exact ⟨outs, r, F', r1, r2, hv, hk⟩
    · obtain ⟨r1, r2⟩ := rl_after R1 q1 e1 nd a
      refine hx σ _ y cls d F' H' hk r1 ?_
      obtain ⟨z1, z2⟩ := hy
      refine ⟨by rw [hB]; exact z1, z2⟩
  · refine DP.up f1 ⟨v, _, rsOf r, F', H', I', rv', k1, k2, ?_, ?_, k4⟩
    · cases r with
      | val d => exact k3
      | own ds =>
        obtain ⟨p, ws, e3, e4, e5, e6, e7⟩ := k3
        refine ⟨p, ws, e3, e4, e5, R1.free0 e6, fun z => ?_, e7⟩
        have z : ownAt env1 σ p := by
          rcases z with ⟨i, l, ds', z1, z2⟩ | ⟨i, kv, z1, z2⟩
          · obtain ⟨d1, z3⟩ := putOuts_own _ _ _ i l ds' z1
            exact .inl ⟨i, l, d1, z3, z2⟩
          · exact .inr ⟨i, kv, putOuts_dct _ _ _ _ _ z1, z2⟩
        obtain ⟨ws', z4, _⟩ := R1.ownH z
        rw [e6] at z4
        cases z4
    · cases r with
      | val d => trivial
      | own ds =>
        obtain ⟨p, ws, e3, e4, e5, e6, e7⟩ := k3
        intro q hq
        rw [e3] at hq
        cases hq
        exact e6
end
end Dl
end L2

/-! The D layer, 7: statements. -/
namespace L2
namespace Dl
open PySem PySem.Spec PyProof.Rows

structure Ken where
  nx : Ev → Prop
  rt : Ev → Rs → Prop
  bk : Ev → Prop
  ct : Ev → Prop
  ex : KXc
abbrev WS := Ev → Ken → Prop
def SPD (X : Cx) (B : Bs) (pins : List (Addr × Obj)) (F0 : Hp) (k : Ken) (f : Flow) (s' : Shared) : Prop :=
  match f with
  | .next => ∃ σ env F H, Inv X pins σ H s' ∧ Rl X.K B F H env σ ∧ Same F0 F ∧ k.nx env
  | .brk => ∃ σ env F H, Inv X pins σ H s' ∧ Rl X.K B F H env σ ∧ Same F0 F ∧ k.bk env
  | .cont => ∃ σ env F H, Inv X pins σ H s' ∧ Rl X.K B F H env σ ∧ Same F0 F ∧ k.ct env
  | .ret u => ∃ v σ H, Inv X pins σ H s' ∧ RelV v u ∧ ∃ σ2 env r F, Rl X.K B F H env σ2 ∧ Res X.K B F H env σ2 v r ∧ k.rt env r
structure DS (B : Bs) (W : WX) (X : Cx) (st : Stmt) (w : WS) : Prop where
  run : ∀ (pins : List (Addr × Obj)) (s : Shared) (σ : St) (F H : Hp) (env : Ev) (k : Ken), Inv X pins σ H s → Rl X.K B F H env σ → w env k → XC X.K B W k.ex → wpAny (model X.prog X.w) X.A (exec st X.env) (SPD X B pins F k) X.xe s
structure DSs (B : Bs) (W : WX) (X : Cx) (st : List Stmt) (w : WS) : Prop where
  run : ∀ (pins : List (Addr × Obj)) (s : Shared) (σ : St) (F H : Hp) (env : Ev) (k : Ken), Inv X pins σ H s → Rl X.K B F H env σ → w env k → XC X.K B W k.ex → wpAny (model X.prog X.w) X.A (execs st X.env) (SPD X B pins F k) X.xe s

theorem SPD.up {X : Cx} {B : Bs} {pins : List (Addr × Obj)} {F0 F1 : Hp} {k : Ken} {f : Flow} {s' : Shared} (s : Same F0 F1) (h : SPD X B pins F1 k f s') : SPD X B pins F0 k f s' := by
  cases f with
  | next => obtain ⟨σ, env, F, H, h1, h2, h3, h4⟩ := h; exact ⟨σ, env, F, H, h1, h2, s.trans h3, h4⟩
  | brk => obtain ⟨σ, env, F, H, h1, h2, h3, h4⟩ := h; exact ⟨σ, env, F, H, h1, h2, s.trans h3, h4⟩
  | cont => obtain ⟨σ, env, F, H, h1, h2, h3, h4⟩ := h; exact ⟨σ, env, F, H, h1, h2, s.trans h3, h4⟩
  | ret u => exact h
def wNext : WS := fun env k => k.nx env
def wSeq (t u : WS) : WS := fun env k => t env { k with nx := fun e => u e k }
def wBreak : WS := fun env k => k.bk env
def wCont : WS := fun env k => k.ct env
def wDrop (w : WE) : WS := fun env k => w env (fun e _ => k.nx e) k.ex
def wRet (w : WE) : WS := fun env k => w env k.rt k.ex
def wRetN : WS := fun env k => k.rt env (.val .none)
def wIfS (c : WT) (t u : WS) : WS := fun env k => c env (fun e b => if b = true then t e k else u e k) k.ex
/-- a result comes to a name -/
def asg (i : Nat) (env : Ev) (r : Rs) (K : Ev → Prop) : Prop := match r with
  | .val d => K (env.set i (.val d))
  | .tmp ds => K (env.set i (.own false ds))
  | .slot j => ∃ p, fz env (.slot j) = some p ∧ K (p.1.set i (.val p.2))
def wSet (i : Nat) (w : WE) : WS := fun env k => w env (fun e r => asg i e r k.nx) k.ex

section
variable {K : PySem.W.Frag} {B : Bs} {F H : Hp} {env : Ev} {σ : St}
/-- a slot takes another value -/
theorem Rl.put (R : Rl K B F H env σ) {i : Nat} {v : V} {s : Sl} (hi : i < σ.length) (nl : ∀ p ∈ B.all, p.1 ≠ i) (hs : slR K F H (some s) (some (some v)))
    (ho : ∀ l ds, s = .own l ds → l = false ∧ ∀ a, v = .ref a → ¬ ownAt env σ a ∧ B.H0 a = none) (hd : ∀ kv, s = .dct kv → ∀ a, v = .ref a → ¬ ownAt env σ a ∧ B.H0 a = none := by intro kv e; cases e) : Rl K B F H (env.set i s) (σ.set i (some v)) := by
  have ie : i < env.length := by rw [R.len]; exact hi
  have old : ∀ {j : Nat} {l : Bool} {ds : List PyData} {a : Addr}, i ≠ j → (env.set i s)[j]? = some (Sl.own l ds) → (σ.set i (some v))[j]? = some (some (V.ref a)) → env[j]? = some (Sl.own l ds) ∧ σ[j]? = some (some (V.ref a)) := fun hj h1 h2 => by
    rw [List.getElem?_set_ne hj] at h1 h2
    exact ⟨h1, h2⟩
  have new : ∀ {l : Bool} {ds : List PyData} {a : Addr}, (env.set i s)[i]? = some (Sl.own l ds) → (σ.set i (some v))[i]? = some (some (V.ref a)) → l = false ∧ ¬ ownAt env σ a ∧ B.H0 a = none := fun {l ds a} h1 h2 => by
    rw [List.getElem?_set_self ie] at h1
    rw [List.getElem?_set_self hi] at h2
    cases h1
    cases h2
    obtain ⟨g1, g2⟩ := ho _ _ rfl
    exact ⟨g1, g2 _ rfl⟩
  have oldd : ∀ {j : Nat} {kv : List (List Int × PyData)} {a : Addr}, i ≠ j → (env.set i s)[j]? = some (Sl.dct kv) → (σ.set i (some v))[j]? = some (some (V.ref a)) → env[j]? = some (Sl.dct kv) ∧ σ[j]? = some (some (V.ref a)) := fun hj h1 h2 => by
    rw [List.getElem?_set_ne hj] at h1 h2
    exact ⟨h1, h2⟩
  have newd : ∀ {kv : List (List Int × PyData)} {a : Addr}, (env.set i s)[i]? = some (Sl.dct kv) → (σ.set i (some v))[i]? = some (some (V.ref a)) → ¬ ownAt env σ a ∧ B.H0 a = none := fun {kv a} h1 h2 => by
    rw [List.getElem?_set_self ie] at h1
    rw [List.getElem?_set_self hi] at h2
    cases h1
    cases h2
    exact hd _ rfl _ rfl
  refine ⟨by rw [List.length_set, List.length_set]; exact R.len, R.sub, fun j => ?_, fun j k l m ds es a h1 h2 h3 h4 => ?_, R.sub0, R.new, R.frm, R.dom, fun j ds a h1 h2 => ?_, fun j ds a h1 h2 => ?_, fun p hp => ?_, fun j k kv kw a h1 h2 h3 h4 => ?_, fun j kv a h1 h2 => ?_⟩
  · by_cases hj : i = j
    · subst hj
      rw [List.getElem?_set_self ie, List.getElem?_set_self hi]
      exact hs
    · rw [List.getElem?_set_ne hj, List.getElem?_set_ne hj]
      exact R.sl j
  · by_cases hj : i = j
    · by_cases hk : i = k
      · exact hj.symm.trans hk
      · subst hj
        obtain ⟨_, n, _⟩ := new h1 h3
        obtain ⟨g1, g2⟩ := old hk h2 h4
        exact absurd (.inl ⟨k, m, es, g1, g2⟩) n
    · by_cases hk : i = k
      · subst hk
        obtain ⟨_, n, _⟩ := new h2 h4
        obtain ⟨g1, g2⟩ := old hj h1 h3
        exact absurd (.inl ⟨j, l, ds, g1, g2⟩) n
      · obtain ⟨g1, g2⟩ := old hj h1 h3
        obtain ⟨g3, g4⟩ := old hk h2 h4
        exact R.dist j k l m ds es a g1 g3 g2 g4
  · by_cases hj : i = j
    · subst hj
      exact (new h1 h2).2.2
    · obtain ⟨g1, g2⟩ := old hj h1 h2
      exact R.own0 j ds a g1 g2
  · by_cases hj : i = j
    · subst hj
      cases (new h1 h2).1
    · obtain ⟨g1, g2⟩ := old hj h1 h2
      exact R.own1 j ds a g1 g2
  · rw [List.getElem?_set_ne (Ne.symm (nl p hp))]
    exact R.lsl p hp
  · by_cases hj : i = j
    · by_cases hk : i = k
      · exact hj.symm.trans hk
      · subst hj
        obtain ⟨n, _⟩ := newd h1 h3
        obtain ⟨g1, g2⟩ := oldd hk h2 h4
        exact absurd (.inr ⟨k, kw, g1, g2⟩) n
    · by_cases hk : i = k
      · subst hk
        obtain ⟨n, _⟩ := newd h2 h4
        obtain ⟨g1, g2⟩ := oldd hj h1 h3
        exact absurd (.inr ⟨j, kv, g1, g2⟩) n
      · obtain ⟨g1, g2⟩ := oldd hj h1 h3
        obtain ⟨g3, g4⟩ := oldd hk h2 h4
        exact R.dd j k kv kw a g1 g3 g2 g4
  · by_cases hj : i = j
    · subst hj
      exact (newd h1 h2).2
    · obtain ⟨g1, g2⟩ := oldd hj h1 h2
      exact R.d0 j kv a g1 g2
theorem Rl.putVal (R : Rl K B F H env σ) {i : Nat} {v : V} {d : PyData} (hi : i < σ.length) (nl : ∀ p ∈ B.all, p.1 ≠ i) (r : Rp K F v d) : Rl K B F H (env.set i (.val d)) (σ.set i (some v)) :=
  R.put hi nl ⟨v, rfl, r⟩ fun l ds e => by cases e
theorem asg_ok {i : Nat} {v : V} {r : Rs} {Kn : Ev → Prop} (R : Rl K B F H env σ) (hi : i < σ.length) (nl : ∀ p ∈ B.all, p.1 ≠ i) (q : Res K B F H env σ v r) (h : asg i env r Kn) : ∃ env' F', Rl K B F' H env' (σ.set i (some v)) ∧ Same F F' ∧ Kn env' := by
  cases r with
  | val d => exact ⟨_, F, R.putVal hi nl q, Same.refl _, h⟩
  | tmp ds =>
    obtain ⟨p, vs, rfl, h2, h3, h4, h5, h6⟩ := q
    refine ⟨env.set i (.own false ds), F, R.put hi nl ⟨p, vs, rfl, h2, h3, h6⟩ fun l es e => ?_, Same.refl _, h⟩
    cases e
    exact ⟨rfl, fun a e => by cases e; exact ⟨h5, h4⟩⟩
  | slot j =>
    obtain ⟨p, e, h⟩ := h
    obtain ⟨F2, R2, f2, rp⟩ := freeze (env2 := p.1) (d := p.2) (H := H) R Fm.refl q trivial e
    exact ⟨_, F2, R2.putVal hi nl rp, f2.sub, h⟩
end

section
variable {B : Bs} {W : WX} {X : Cx} {st : Stmt} {rest : List Stmt} {t u : WS} {e : Expr} {w : WE} {pos : Pos}
theorem dss_nil : DSs B W X [] wNext := ⟨fun _ _ σ F H env _ I R h _ => wpAny_execs_nil ⟨σ, env, F, H, I, R, Same.refl _, h⟩⟩
theorem dss_cons (h1 : DS B W X st t) (h2 : DSs B W X rest u) : DSs B W X (st :: rest) (wSeq t u) := by
  refine ⟨fun pins s σ F H env k I R h hx => ?_⟩
  refine wpAny_execs_cons (thn (h1.run pins s σ F H env { k with nx := fun e => u e k } I R h hx) fun f s1 q => ?_)
  cases f with
  | next =>
    obtain ⟨σ', env', F', H', I', R', sm, q⟩ := q
    exact thn (h2.run pins s1 σ' F' H' env' k I' R' q hx) fun f s2 h => h.up sm
  | ret v => exact q
  | brk => exact q
  | cont => exact q
theorem dss_one (h1 : DS B W X st t) : DSs B W X [st] t := by
  refine ⟨fun pins s σ F H env k I R h hx => ?_⟩
  refine wpAny_execs_cons (thn (h1.run pins s σ F H env k I R h hx) fun f s1 q => ?_)
  cases f with
  | next => exact wpAny_execs_nil q
  | ret v => exact q
  | brk => exact q
  | cont => exact q
theorem ds_expr (he : DE B W X e w) (hs : swapsWith e none pos.line X.env = pure false := by rfl) : DS B W X (.Expr e pos) (wDrop w) := by
  refine ⟨fun pins s σ F H env k I R h hx => ?_⟩
  exact wpAny_Expr_any (thn (he.run pins s σ F H env _ k.ex I R h hx) fun v s1 ⟨x, env1, r, F1, H1, I1, r1, R1, f1, q1, n1, k1⟩ => ⟨σ, env1, F1, H1, I1, R1, f1.sub, k1⟩) I.quiet hs
theorem ds_ret (he : DE B W X e w) : DS B W X (.Return (some e) pos) (wRet w) := by
  refine ⟨fun pins s σ F H env k I R h hx => ?_⟩
  exact wpAny_Return_some (thn (he.run pins s σ F H env _ k.ex I R h hx) fun v s1 ⟨x, env1, r, F1, H1, I1, r1, R1, f1, q1, n1, k1⟩ => ⟨x, σ, H1, I1, r1, σ, env1, r, F1, R1, q1, k1⟩)
theorem ds_if {c : Expr} {a b : List Stmt} {tc : WT} (hc : DT B W X c tc) (ha : DSs B W X a t) (hb : DSs B W X b u) : DS B W X (.If c a b pos) (wIfS tc t u) := by
  refine ⟨fun pins s σ F H env k I R h hx => ?_⟩
  refine wpAny_If (thn (hc.run pins s σ F H env _ k.ex I R h hx) fun d s1 ⟨env1, F1, H1, I1, R1, f1, q1⟩ => ?_)
  cases d with
  | true => exact thn (ha.run pins s1 σ F1 H1 env1 k I1 R1 (by simpa using q1) hx) fun f s2 h => h.up f1.sub
  | false => exact thn (hb.run pins s1 σ F1 H1 env1 k I1 R1 (by simpa using q1) hx) fun f s2 h => h.up f1.sub
theorem ds_set (i : Nat) {x : Str} {pos' : Pos} (he : DE B W X e w) (nl : ∀ p ∈ B.all, p.1 ≠ i) (hN : X.N.Nodup) (hi : X.N[i]? = some x := by rfl) (hx : Loc X.env.scope x := by first | exact Or.inl rfl | exact Or.inr rfl) (hs : swapsWith e (some (.Name x pos')) pos.line X.env = pure false := by rfl)
    (hf : X.fn x = true ∨ X.env.scope.names.lookup x = some .local := by first | exact .inl rfl | exact .inr rfl) : DS B W X (.Assign [.Name x pos'] e pos) (wSet i w) := by
  refine ⟨fun pins s σ F H env k I R h hxx => ?_⟩
  refine wpAny_Assign_Name (thn (he.run pins s σ F H env _ k.ex I R h hxx) fun v s1 ⟨y, env1, r, F1, H1, I1, r1, R1, f1, q1, n1, k1⟩ => ?_) hs
  have il : i < σ.length := by rw [I.len]; exact (List.getElem?_eq_some_iff.mp hi).1
  obtain ⟨env2, F2, R2, sm, k2⟩ := asg_ok R1 il nl q1 k1
  exact store_ok I1 hN hi hx r1 (fun s2 I2 => ⟨_, env2, F2, H1, I2, R2, f1.sub.trans sm, k2⟩) hf

/-! ### targets -/
abbrev WG := PyData → Ev → (Ev → Prop) → Prop
abbrev WGs := List PyData → Ev → (Ev → Prop) → Prop
/-- only the slots at is differ -/
def Agree (is : List Nat) (σ σ' : St) : Prop := σ'.length = σ.length ∧ ∀ j, j ∉ is → σ'[j]? = σ[j]?
def OwnSub (env env' : Ev) : Prop := (∀ (i : Nat) (l : Bool) (ds : List PyData), env'[i]? = some (Sl.own l ds) → env[i]? = some (Sl.own l ds)) ∧ ∀ (i : Nat) (kv : List (List Int × PyData)), env'[i]? = some (Sl.dct kv) → env[i]? = some (Sl.dct kv)
structure DG (B : Bs) (X : Cx) (tg : Expr) (is : List Nat) (g : WG) : Prop where
  run : ∀ (pins : List (Addr × Obj)) (s : Shared) (σ : St) (F H : Hp) (env : Ev) (v : V) (u : Value) (d : PyData) (Kn : Ev → Prop), Inv X pins σ H s → RelV v u → Rl X.K B F H env σ → Rp X.K F v d → g d env Kn →
    wpAny (model X.prog X.w) X.A (assign tg X.env u) (fun _ s' => ∃ σ' env', Inv X pins σ' H s' ∧ Rl X.K B F H env' σ' ∧ Agree is σ σ' ∧ OwnSub env env' ∧ Kn env') X.xe s
structure DGs (B : Bs) (X : Cx) (ts : List Expr) (is : List Nat) (g : WGs) : Prop where
  run : ∀ (pins : List (Addr × Obj)) (s : Shared) (σ : St) (F H : Hp) (env : Ev) (vs : List V) (us : List Value) (ds : List PyData) (Kn : Ev → Prop), Inv X pins σ H s → Vals vs us → Rl X.K B F H env σ → RpAll X.K F vs ds → g ds env Kn →
    wpAny (model X.prog X.w) X.A (assignInOrder ((assignEach ts X.env).map (·.2)) us) (fun _ s' => ∃ σ' env', Inv X pins σ' H s' ∧ Rl X.K B F H env' σ' ∧ Agree is σ σ' ∧ OwnSub env env' ∧ Kn env') X.xe s
def gN (i : Nat) : WG := fun d env Kn => Kn (env.set i (.val d))
def gNil' : WGs := fun ds env Kn => ds = [] ∧ Kn env
def gCons' (g : WG) (gs : WGs) : WGs := fun ds env Kn => match ds with
  | d :: r => g d env fun env' => gs r env' Kn
  | [] => False
def gT (n : Nat) (gs : WGs) : WG := fun d env Kn => match d with
  | .tuple ds => ds.length = n ∧ gs ds env Kn
  | _ => False
theorem dg_name (i : Nat) {x : Str} (nl : ∀ p ∈ B.all, p.1 ≠ i) (hN : X.N.Nodup) (hi : X.N[i]? = some x := by rfl) (hx : Loc X.env.scope x := by first | exact Or.inl rfl | exact Or.inr rfl)
    (hf : X.fn x = true ∨ X.env.scope.names.lookup x = some .local := by first | exact .inl rfl | exact .inr rfl) : DG B X (.Name x pos) [i] (gN i) := by
  refine ⟨fun pins s σ F H env v u d Kn I r R rp h => ?_⟩
  have il : i < σ.length := by rw [I.len]; exact (List.getElem?_eq_some_iff.mp hi).1
  exact wpAny_assign_Name (store_ok I hN hi hx r (fun s' I' => ⟨_, _, I', R.putVal il nl rp, ⟨by rw [List.length_set], fun j hj => by rw [List.getElem?_set_ne (fun z => hj (by rw [z]; exact List.mem_cons_self))]⟩, ⟨fun j l es hq => own_set_val hq, fun j kv hq => dct_set_val hq⟩, h⟩) hf)
theorem dgs_nil : DGs B X [] [] gNil' := by
  refine ⟨fun pins s σ F H env vs us ds Kn I r R rp h => ?_⟩
  obtain ⟨e, h⟩ := h
  subst e
  cases rp
  cases r
  exact assignInOrder_nil ⟨σ, env, I, R, ⟨rfl, fun _ _ => rfl⟩, ⟨fun _ _ _ hq => hq, fun _ _ hq => hq⟩, h⟩
theorem dgs_cons {es : List Expr} {is is' : List Nat} {g : WG} {gs : WGs} (h1 : DG B X e is g) (h2 : DGs B X es is' gs) (hs : (assignEach (e :: es) X.env).map (·.2) = assign e X.env :: (assignEach es X.env).map (·.2) := by rfl) : DGs B X (e :: es) (is ++ is') (gCons' g gs) := by
  refine ⟨fun pins s σ F H env vs us ds Kn I r R rp h => ?_⟩
  cases ds with
  | nil => exact h.elim
  | cons d ds =>
    cases rp with
    | cons rp1 rp2 =>
      cases r with
      | cons r rr =>
        rw [hs]
        refine assignInOrder_cons (thn (h1.run pins s σ F H env _ _ d _ I r R rp1 h) fun _ s1 ⟨σ1, env1, I1, R1, a1, o1, q1⟩ => ?_)
        exact thn (h2.run pins s1 σ1 F H env1 _ _ ds Kn I1 rr R1 rp2 q1) fun _ s2 ⟨σ2, env2, I2, R2, a2, o2, q2⟩ => ⟨σ2, env2, I2, R2, ⟨a2.1.trans a1.1, fun j hj => (a2.2 j fun z => hj (List.mem_append_right _ z)).trans (a1.2 j fun z => hj (List.mem_append_left _ z))⟩, ⟨fun i l es hq => o1.1 i l es (o2.1 i l es hq), fun i kv hq => o1.2 i kv (o2.2 i kv hq)⟩, q2⟩
theorem dg_tup {es : List Expr} {is : List Nat} {k : Nat} {gs : WGs} {n : Nat} (hc : X.calm = true) (h : DGs B X es is gs) (hn : (assignEach es X.env).length = n := by rfl) (hst : (assignEach es X.env).findIdx? (·.1) = none := by rfl) : DG B X (.Tuple es k pos) is (gT n gs) := by
  refine ⟨fun pins s σ F H env v u d Kn I r R rp hw => ?_⟩
  unfold gT at hw
  split at hw
  · rename_i ds
    cases rp with
    | tup h1 _ h2 =>
      replace h1 := SqT.of (K := X.K) h1
      cases r
      have h1' := sqT_same R.sub h1
      obtain ⟨its, rv, ht, hz⟩ := I.tuple h1'
      have e1 := h2.length
      have e2 := rv.length
      refine assign_Tuple_tuple (I.ok.hd hc) ht (by rw [hn, List.size_toArray]; omega) hst fun h' hx => ?_
      have I1 : Inv X pins σ H { s with heap := h' } := I.kept (t' := s.toks) fun b o e => hx b o (Nat.ne_of_lt (Heap.lt_size e)) e
      exact h.run pins _ σ F H env _ _ ds Kn I1 (by simpa using rv) R h2 hw.2
  · exact hw.elim
/-- target = value, the value frozen -/
def wAsgT (w : WE) (g : WG) : WS := fun env k => wFz w env (fun e d => g d e k.nx) k.ex
theorem ds_asgT {tg : Expr} {is : List Nat} {g : WG} (he : DE B W X e w) (hg : DG B X tg is g) (hs : swapsWithSole [tg] e pos.line X.env = pure false := by rfl) (hw : swappedStores [tg] e X.env = pure none := by rfl)
    (h1 : (assignEach [tg] X.env).map (·.2) = [assign tg X.env] := by rfl) : DS B W X (.Assign [tg] e pos) (wAsgT w g) := by
  refine ⟨fun pins s σ F H env k I R h hx => ?_⟩
  refine wpAny_Assign_stores (thn (he.run pins s σ F H env _ k.ex I R h hx) fun v s1 ⟨x, env1, r, F1, H1, I1, r1, R1, f1, q1, n1, p, e1, k1⟩ => ?_) hs hw
  obtain ⟨F2, R2, f2, rp⟩ := freeze (env2 := p.1) (d := p.2) R1 f1 q1 n1 e1
  rw [h1]
  exact thn (hg.run pins s1 σ F2 H1 p.1 x v p.2 _ I1 r1 R2 rp k1) fun _ s2 ⟨σ', env', I', R', _, _, q'⟩ => ⟨σ', env', F2, H1, I', R', f2.sub, q'⟩
/-- a, b = x, y with local names -/
def wPar (i j : Nat) (wf : WF) : WS := fun env k => wf env (fun e ds => match ds with
  | [d1, d2] => k.nx ((e.set i (.val d1)).set j (.val d2))
  | _ => False) k.ex
theorem ds_par (i j : Nat) {x y : Str} {a b : Expr} {wf : WF} {px py pt : Pos} {kt k2 : Nat} {pt2 : Pos} (ha : DF B W X [a, b] wf) (nli : ∀ p ∈ B.all, p.1 ≠ i) (nlj : ∀ p ∈ B.all, p.1 ≠ j) (hN : X.N.Nodup) (hc : X.calm = true := by rfl) (hi : X.N[i]? = some x := by rfl) (hj : X.N[j]? = some y := by rfl) (hij : i ≠ j := by decide)
    (hx : X.env.scope.names.lookup x = some .local := by rfl) (hy : X.env.scope.names.lookup y = some .local := by rfl)
    (hw : swappedStores [.Tuple [.Name x px, .Name y py] kt pt] (.Tuple [a, b] k2 pt2) X.env = pure (some [x, y]) := by rfl)
    (hs : swapsWithSole [.Tuple [.Name x px, .Name y py] kt pt] (.Tuple [a, b] k2 pt2) pos.line X.env = pure false := by rfl) :
    DS B W X (.Assign [.Tuple [.Name x px, .Name y py] kt pt] (.Tuple [a, b] k2 pt2) pos) (wPar i j wf) := by
  refine ⟨fun pins s σ F H env k I R h hxx => ?_⟩
  have pa : PA X [a, b] (fun σ' H' Q => σ' = σ ∧ H' = H ∧ ∀ vs env' ds F' H', Rl X.K B F' H' env' σ → Same F F' → RpAll X.K F' vs ds → (match ds with
    | [d1, d2] => k.nx ((env'.set i (.val d1)).set j (.val d2))
    | _ => False) → Q vs H') := by
    refine ⟨fun pos pins s σ' H' Q I' ⟨e1, e2, q⟩ => ?_⟩
    subst e1 e2
    exact thn (ha.run pos pins s _ F _ env _ k.ex I' R h hxx) fun us s1 ⟨vs, env', ds, F', H', I1, rv, R1, f1, q1, k1⟩ => ⟨vs, H', I1, rv, q vs env' ds F' H' R1 f1.sub q1 k1⟩
  refine thn ((ps_par hc hN hi hj hij hx hy pa hw hs).run pins s σ H { nx := fun σ' H' => ∃ env' F', Rl X.K B F' H' env' σ' ∧ Same F F' ∧ k.nx env', rt := fun _ _ => False } I ⟨rfl, rfl, fun vs env' ds F' H' R' sm rp hk => ?_⟩) fun f s1 q => ?_
  · match ds, rp, hk with
    | [d1, d2], .cons (v := v1) r1 (.cons (v := v2) r2 .nil), hk =>
      have il : i < σ.length := by rw [I.len]; exact (List.getElem?_eq_some_iff.mp hi).1
      have jl : j < σ.length := by rw [I.len]; exact (List.getElem?_eq_some_iff.mp hj).1
      exact ⟨v1, v2, rfl, _, F', (R'.putVal il nli r1).putVal (by simpa using jl) nlj r2, sm, hk⟩
  · cases f with
    | next =>
      obtain ⟨σ', H', I', env', F', R', sm, q'⟩ := q
      exact ⟨σ', env', F', H', I', R', sm, q'⟩
    | brk => obtain ⟨_, _, _, q⟩ := q; exact q.elim
    | cont => obtain ⟨_, _, _, q⟩ := q; exact q.elim
    | ret u => obtain ⟨_, _, _, _, _, q⟩ := q; exact q.elim
end

/-! ### while -/
section
variable {B : Bs} {W : WX} {X : Cx} {pos : Pos}
def wWhile (c : WT) (t : WS) : WS := fun env k => ∃ Wi : Nat → Ev → Prop, (∃ m, Wi m env) ∧ ∀ m e, Wi m e → c e (fun e1 b => if b = true then t e1 { k with nx := fun e2 => ∃ m', m' < m ∧ Wi m' e2, ct := fun e2 => ∃ m', m' < m ∧ Wi m' e2, bk := k.nx } else k.nx e1) k.ex
theorem ds_while {c : Expr} {body : List Stmt} {tc : WT} {tb : WS} (hp : PassesOwn (model X.prog X.w) X.A X.env X.xe) (hc : DT B W X c tc) (hb : DSs B W X body tb) : DS B W X (.While c body [] pos) (wWhile tc tb) := by
  refine ⟨fun pins s σ F H env k I R h hx => ?_⟩
  obtain ⟨Wi, ⟨m0, w0⟩, turn⟩ := h
  refine wpAny_While (codeAny_whileLoop (fun n s' => ∃ σ' env' F' H', Inv X pins σ' H' s' ∧ Rl X.K B F' H' env' σ' ∧ Same F F' ∧ Wi n env') ?_ m0 ⟨σ, env, F, H, I, R, Same.refl _, w0⟩)
  rintro n s1 ⟨σ1, env1, F1, H1, I1, R1, sm1, w1⟩
  refine wpAny_passesOwn hp (thn (hc.run pins s1 σ1 F1 H1 env1 _ k.ex I1 R1 (turn n env1 w1) hx) fun b s2 ⟨env2, F2, H2, I2, R2, f2, q2⟩ => ?_)
  cases b with
  | true =>
    rw [if_pos rfl] at q2 ⊢
    refine wpAny_passesOwn hp (thn (hb.run pins s2 σ1 F2 H2 env2 _ I2 R2 q2 hx) fun f s3 q3 => ?_)
    cases f with
    | next =>
      obtain ⟨σ3, env3, F3, H3, I3, R3, sm3, m', hm, w3⟩ := q3
      exact ⟨m', hm, σ3, env3, F3, H3, I3, R3, (sm1.trans f2.sub).trans sm3, w3⟩
    | cont =>
      obtain ⟨σ3, env3, F3, H3, I3, R3, sm3, m', hm, w3⟩ := q3
      exact ⟨m', hm, σ3, env3, F3, H3, I3, R3, (sm1.trans f2.sub).trans sm3, w3⟩
    | brk => exact SPD.up (f := .next) (sm1.trans f2.sub) q3
    | ret v => exact q3
  | false =>
    rw [if_neg Bool.false_ne_true] at q2 ⊢
    exact wpAny_execs_nil ⟨σ1, env2, F2, H2, I2, R2, sm1.trans f2.sub, q2⟩
end
end Dl
end L2

/-! The D layer, 8: lists that are changed. -/
namespace L2
namespace Dl
open PySem PySem.Spec PyProof.Rows

section
variable {K : PySem.W.Frag} {B : Bs} {F H : Hp} {env : Ev} {σ : St}
/-- an own list is written -/
theorem Rl.mut (R : Rl K B F H env σ) {i : Nat} {l : Bool} {ds ds' : List PyData} {a : Addr} {vs' : List V} (e : env[i]? = some (Sl.own l ds)) (ha : σ[i]? = some (some (V.ref a))) (r : RpAll K F vs' ds') :
    Rl K B F (upd H a (.lst vs')) (env.set i (.own l ds')) σ ∧ Fm env σ F H (env.set i (.own l ds')) F (upd H a (.lst vs')) := by
  have s := R.sl i
  rw [e] at s
  obtain ⟨b, vs, h1, h2, h3, h4⟩ := s
  rw [ha] at h1
  cases h1
  have il : i < env.length := (List.getElem?_eq_some_iff.mp e).1
  have ow : ∀ {j : Nat} {m : Bool} {es : List PyData}, (env.set i (.own l ds'))[j]? = some (Sl.own m es) → ∃ es', env[j]? = some (Sl.own m es') := fun {j m es} h => by
    by_cases hj : i = j
    · subst hj
      rw [List.getElem?_set_self il] at h
      cases h
      exact ⟨ds, e⟩
    · rw [List.getElem?_set_ne hj] at h
      exact ⟨es, h⟩
  have od : ∀ {j : Nat} {kv : List (List Int × PyData)}, (env.set i (.own l ds'))[j]? = some (Sl.dct kv) → env[j]? = some (Sl.dct kv) := fun {j kv} h => by
    by_cases hj : i = j
    · subst hj
      rw [List.getElem?_set_self il] at h
      cases h
    · rw [List.getElem?_set_ne hj] at h
      exact h
  have own_a : ownAt env σ a := .inl ⟨i, l, ds, e, ha⟩
  refine ⟨⟨by rw [List.length_set]; exact R.len, fun b x q => ?_, fun j => ?_, fun j k m n es fs b h5 h6 h7 h8 => ?_, R.sub0, R.new, fun b x q n => ?_, fun b q => ?_, fun j es b h5 h6 => ?_, fun j es b h5 h6 => ?_, R.lsl, fun j k kv kw b h5 h6 h7 h8 => R.dd j k kv kw b (od h5) (od h6) h7 h8, fun j kv b h5 h6 => R.d0 j kv b (od h5) h6⟩, ⟨fun b x q n => ?_, fun _ _ q => q, fun _ _ q => .inl q, fun j m es h => ow h, fun b q => ?_, fun j kv h => ⟨kv, od h⟩⟩⟩
  · rw [upd_ne]
    · exact R.sub b x q
    · rintro rfl
      rw [h3] at q
      cases q
  · by_cases hj : i = j
    · subst hj
      rw [List.getElem?_set_self il]
      exact ⟨a, vs', ha, upd_same, h3, r⟩
    · rw [List.getElem?_set_ne hj]
      have s := R.sl j
      cases q : env[j]? with
      | none => trivial
      | some z =>
        rw [q] at s
        cases z with
        | un => trivial
        | val d => exact s
        | own m es =>
          obtain ⟨c, ws, g1, g2, g3, g4⟩ := s
          refine ⟨c, ws, g1, ?_, g3, g4⟩
          rw [upd_ne]
          · exact g2
          · rintro rfl
            exact hj (R.dist i j l m ds es c e q ha g1)
        | dct kv =>
          obtain ⟨c, g1, g2, g3⟩ := s
          refine ⟨c, g1, ?_, g3⟩
          rw [upd_ne]
          · exact g2
          · rintro rfl
            rw [h2] at g2
            cases g2
  · obtain ⟨es', h9⟩ := ow h5
    obtain ⟨fs', h10⟩ := ow h6
    exact R.dist j k m n es' fs' b h9 h10 h7 h8
  · rw [upd_ne]
    · exact R.frm b x q n
    · rintro rfl
      cases l with
      | false => rw [R.own0 i ds b e ha] at q; cases q
      | true =>
        obtain ⟨p, g1, g2⟩ := R.own1 i ds b e ha
        exact n p g1 g2
  · by_cases hb : b = a
    · subst hb
      rw [upd_same]
      simp
    · rw [upd_ne hb]
      exact R.dom b q
  · obtain ⟨es', h9⟩ := ow h5
    exact R.own0 j es' b h9 h6
  · obtain ⟨es', h9⟩ := ow h5
    exact R.own1 j es' b h9 h6
  · rw [upd_ne]
    · exact q
    · rintro rfl
      exact n own_a
  · by_cases hb : b = a
    · subst hb
      rw [upd_same]
      simp
    · rw [upd_ne hb]
      exact q
theorem Rl.ownSl (R : Rl K B F H env σ) {i : Nat} {l : Bool} {ds : List PyData} (e : env[i]? = some (Sl.own l ds)) : ∃ a vs, σ[i]? = some (some (V.ref a)) ∧ H a = some (.lst vs) ∧ F a = none ∧ RpAll K F vs ds := by
  have s := R.sl i
  rw [e] at s
  exact s
end

/-- a method of an own list with one argument, frozen -/
abbrev Mu := List PyData → PyData → (List PyData → PyData → Prop) → Prop
def isOwn (env : Ev) (i : Nat) : Prop := ∃ l ds, env[i]? = some (Sl.own l ds)
def wOwnF (i : Nat) (w : WE) (μ : Mu) : WE := fun env Ke Kx => isOwn env i ∧ wFz w env (fun env1 d => ∃ l ds, env1[i]? = some (Sl.own l ds) ∧ μ ds d (fun ds' d' => Ke (env1.set i (.own l ds')) (.val d'))) Kx
def wOwn0 (i : Nat) (μ : List PyData → (List PyData → PyData → Prop) → Prop) : WE := fun env Ke Kx => ∃ l ds, env[i]? = some (Sl.own l ds) ∧ μ ds (fun ds' d' => Ke (env.set i (.own l ds')) (.val d'))
section
variable {B : Bs} {W : WX} {X : Cx} {x name : Str} {e : Expr} {w : WE} {p apos cpos : Pos} {id : String} {r : V → List V → Hp → VK → Prop} {μ : Mu} {μ0 : List PyData → (List PyData → PyData → Prop) → Prop}
theorem de_ownF (i : Nat) (slot : Slot "list" name id) (hty : typeOf (.builtin id) = pure (.type "method_descriptor")) (hm : MtR X id r) (ha : DE B W X e w) (hmono : ∀ (x : V) (xs : List V) (H : Hp) (Q Q' : VK), (∀ y H', Q y H' → Q' y H') → r x xs H Q → r x xs H Q')
    (hr : ∀ (F H : Hp) (a : Addr) (vs : List V) (ds : List PyData) (v : V) (d : PyData) (Kn : List PyData → PyData → Prop), H a = some (.lst vs) → RpAll X.K F vs ds → Rp X.K F v d → μ ds d Kn → r (.ref a) [v] H (fun y H' => ∃ vs' ds' d', H' = upd H a (.lst vs') ∧ RpAll X.K F vs' ds' ∧ Rp X.K F y d' ∧ Kn ds' d'))
    (hN : X.N[i]? = some x := by rfl) (hv : Vis X.env.scope x := by first | exact Or.inl rfl | exact Or.inr (Or.inl rfl) | exact Or.inr (Or.inr rfl)) (hd : (x == ("__debug__" : Str)) = false := by decide) (hcd : (x == ("__classdict__" : Str)) = false := by decide)
    (hbase : attributeBase (.Name x p) name X.env (eval (.Name x p) X.env) = eval (.Name x p) X.env := by rfl)
    (hfew : ((backTo cpos (starEach [e] X.env)).all (fun x => !x.1) && (backToKw cpos (keywordEach [] X.env)).all (fun x => x.1.isSome)
      && decide ([e].length + ([] : List Keyword).length + (if ([] : List Keyword).isEmpty then 0 else 1) < 30)) = true := by rfl)
    (hline : (apos.endLine == cpos.line) = true := by rfl) (hs : starEach [e] X.env = (false, eval e X.env) :: starEach [] X.env := by rfl) (hplain : (backTo cpos (starEach [] X.env)).any (·.1) = false := by rfl) :
    DE B W X (.Call (.Attribute (.Name x p) name apos) [e] [] cpos) (wOwnF i w μ) := by
  refine ⟨fun pins s σ F H env Ke Kx I R h hx => ?_⟩
  obtain ⟨⟨l, ds, e0⟩, h⟩ := h
  obtain ⟨a, vs, g1, g2, g3, g4⟩ := R.ownSl e0
  have pe := pe_bm (cpos := cpos) (apos := apos) PySem.F.plainAttrs_list slot hty hm (pe_var (pos := p) hN hv hd hcd) (pa_cons ha.pe pa_nil hs) hbase hfew hline hs hplain
  refine thn (pe.run pins s σ H (fun v H' => ∃ env' d F', Rl X.K B F' H' env' σ ∧ Fm env σ F H env' F' H' ∧ Rp X.K F' v d ∧ Ke env' (.val d)) I ?_) fun u s1 ⟨v, H', I', rv, env', d, F', h1, h2, h3, h4⟩ => ⟨v, env', .val d, F', H', I', rv, h1, h2, h3, trivial, h4⟩
  refine ⟨.ref a, g1, Or.inl ⟨rfl, vs, SqL.of g2⟩, F, env, _, Kx, R, h, hx, fun v env' r1 F' H' R1 f1 q1 n1 ⟨q, e1, l1, ds1, e2, k⟩ => ?_⟩
  obtain ⟨F2, R2, f2, rp⟩ := freeze (env2 := q.1) (d := q.2) R1 f1 q1 n1 e1
  obtain ⟨a', vs1, k1, k2, k3, k4⟩ := R2.ownSl e2
  rw [g1] at k1
  cases k1
  have hQ := hr F2 H' a vs1 ds1 v q.2 _ k2 k4 rp k
  exact hmono _ _ _ _ _ (fun y H'' ⟨vs', ds', d', z1, z2, z3, z4⟩ => by
    subst z1
    obtain ⟨R3, f3⟩ := R2.mut e2 g1 z2
    exact ⟨_, d', F2, R3, f2.trans f3, z3, z4⟩) hQ
end

def muApp : Mu := fun ds d K => ds.length < sizeLine ∧ K (ds ++ [d]) .none
def muPopAt : Mu := fun ds d K => ∃ i x, d = .int i ∧ 0 ≤ i ∧ i < 2 ^ 63 ∧ ds[i.toNat]? = some x ∧ K (ds.eraseIdx i.toNat) x
section
variable {X : Cx}
theorem rAppend_mono (x : V) (xs : List V) (H : Hp) (Q Q' : VK) (h : ∀ y H', Q y H' → Q' y H') : rAppend x xs H Q → rAppend x xs H Q' := fun ⟨l, vs, y, h1, h2, h3, h4, q⟩ => ⟨l, vs, y, h1, h2, h3, h4, h _ _ q⟩
theorem rPopAt_mono (x : V) (xs : List V) (H : Hp) (Q Q' : VK) (h : ∀ y H', Q y H' → Q' y H') : rPopAt x xs H Q → rPopAt x xs H Q' := fun ⟨l, vs, i, k, y, h1, h2, h3, h4, h5, h6, h7, q⟩ => ⟨l, vs, i, k, y, h1, h2, h3, h4, h5, h6, h7, h _ _ q⟩
theorem hr_app (F H : Hp) (a : Addr) (vs : List V) (ds : List PyData) (v : V) (d : PyData) (Kn : List PyData → PyData → Prop) (h1 : H a = some (.lst vs)) (h2 : RpAll X.K F vs ds) (h3 : Rp X.K F v d) (h : muApp ds d Kn) :
    rAppend (.ref a) [v] H (fun y H' => ∃ vs' ds' d', H' = upd H a (.lst vs') ∧ RpAll X.K F vs' ds' ∧ Rp X.K F y d' ∧ Kn ds' d') :=
  ⟨a, vs, v, rfl, rfl, h1, by rw [h2.length]; exact h.1, _, _, _, rfl, h2.append (.cons h3 .nil), .non, h.2⟩
theorem hr_popAt (F H : Hp) (a : Addr) (vs : List V) (ds : List PyData) (v : V) (d : PyData) (Kn : List PyData → PyData → Prop) (h1 : H a = some (.lst vs)) (h2 : RpAll X.K F vs ds) (h3 : Rp X.K F v d) (h : muPopAt ds d Kn) :
    rPopAt (.ref a) [v] H (fun y H' => ∃ vs' ds' d', H' = upd H a (.lst vs') ∧ RpAll X.K F vs' ds' ∧ Rp X.K F y d' ∧ Kn ds' d') := by
  obtain ⟨i, x, rfl, i0, i1, hx, k⟩ := h
  cases h3
  obtain ⟨y, hy, ry⟩ := h2.get hx
  have hl : i.toNat < vs.length := (List.getElem?_eq_some_iff.mp hy).1
  exact ⟨a, vs, i, i.toNat, y, rfl, rfl, h1, by omega, i1, seqIndex_of i0 (by omega), hy, _, _, x, rfl, h2.erase _, ry, k⟩
variable {B : Bs} {W : WX} {x : Str} {e : Expr} {w : WE} {p apos cpos : Pos}
theorem de_append (i : Nat) (ha : DE B W X e w) (hN : X.N[i]? = some x := by rfl) (hv : Vis X.env.scope x := by first | exact Or.inl rfl | exact Or.inr (Or.inl rfl) | exact Or.inr (Or.inr rfl)) (hd : (x == ("__debug__" : Str)) = false := by decide) (hcd : (x == ("__classdict__" : Str)) = false := by decide)
    (hbase : attributeBase (.Name x p) "append" X.env (eval (.Name x p) X.env) = eval (.Name x p) X.env := by rfl)
    (hfew : ((backTo cpos (starEach [e] X.env)).all (fun x => !x.1) && (backToKw cpos (keywordEach [] X.env)).all (fun x => x.1.isSome)
      && decide ([e].length + ([] : List Keyword).length + (if ([] : List Keyword).isEmpty then 0 else 1) < 30)) = true := by rfl)
    (hline : (apos.endLine == cpos.line) = true := by rfl) (hs : starEach [e] X.env = (false, eval e X.env) :: starEach [] X.env := by rfl) (hplain : (backTo cpos (starEach [] X.env)).any (·.1) = false := by rfl) :
    DE B W X (.Call (.Attribute (.Name x p) "append" apos) [e] [] cpos) (wOwnF i w muApp) :=
  de_ownF i PySem.F.slot_list_append PySem.F.type_list_append mt_append ha rAppend_mono hr_app hN hv hd hcd hbase hfew hline hs hplain
theorem de_popAt (i : Nat) (ha : DE B W X e w) (hN : X.N[i]? = some x := by rfl) (hv : Vis X.env.scope x := by first | exact Or.inl rfl | exact Or.inr (Or.inl rfl) | exact Or.inr (Or.inr rfl)) (hd : (x == ("__debug__" : Str)) = false := by decide) (hcd : (x == ("__classdict__" : Str)) = false := by decide)
    (hbase : attributeBase (.Name x p) "pop" X.env (eval (.Name x p) X.env) = eval (.Name x p) X.env := by rfl)
    (hfew : ((backTo cpos (starEach [e] X.env)).all (fun x => !x.1) && (backToKw cpos (keywordEach [] X.env)).all (fun x => x.1.isSome)
      && decide ([e].length + ([] : List Keyword).length + (if ([] : List Keyword).isEmpty then 0 else 1) < 30)) = true := by rfl)
    (hline : (apos.endLine == cpos.line) = true := by rfl) (hs : starEach [e] X.env = (false, eval e X.env) :: starEach [] X.env := by rfl) (hplain : (backTo cpos (starEach [] X.env)).any (·.1) = false := by rfl) :
    DE B W X (.Call (.Attribute (.Name x p) "pop" apos) [e] [] cpos) (wOwnF i w muPopAt) :=
  de_ownF i PySem.F.slot_list_pop PySem.F.type_list_pop mt_popAt ha rPopAt_mono hr_popAt hN hv hd hcd hbase hfew hline hs hplain
/-! extend: by a new list, or by another own one -/
def wExtend (i : Nat) (w : WE) : WE := fun env Ke Kx => isOwn env i ∧ w env (fun env1 r => ∃ l ds es, env1[i]? = some (Sl.own l ds) ∧ (r = .tmp es ∨ ∃ j, j ≠ i ∧ r = .slot j ∧ ∃ m, env1[j]? = some (Sl.own m es)) ∧ ds.length + es.length ≤ sizeLine ∧ Ke (env1.set i (.own l (ds ++ es))) (.val .none)) Kx
theorem de_extend (i : Nat) (ha : DE B W X e w) (hN : X.N[i]? = some x := by rfl) (hv : Vis X.env.scope x := by first | exact Or.inl rfl | exact Or.inr (Or.inl rfl) | exact Or.inr (Or.inr rfl)) (hd : (x == ("__debug__" : Str)) = false := by decide) (hcd : (x == ("__classdict__" : Str)) = false := by decide)
    (hbase : attributeBase (.Name x p) "extend" X.env (eval (.Name x p) X.env) = eval (.Name x p) X.env := by rfl)
    (hfew : ((backTo cpos (starEach [e] X.env)).all (fun x => !x.1) && (backToKw cpos (keywordEach [] X.env)).all (fun x => x.1.isSome)
      && decide ([e].length + ([] : List Keyword).length + (if ([] : List Keyword).isEmpty then 0 else 1) < 30)) = true := by rfl)
    (hline : (apos.endLine == cpos.line) = true := by rfl) (hs : starEach [e] X.env = (false, eval e X.env) :: starEach [] X.env := by rfl) (hplain : (backTo cpos (starEach [] X.env)).any (·.1) = false := by rfl) :
    DE B W X (.Call (.Attribute (.Name x p) "extend" apos) [e] [] cpos) (wExtend i w) := by
  refine ⟨fun pins s σ F H env Ke Kx I R h hx => ?_⟩
  obtain ⟨⟨l, ds, e0⟩, h⟩ := h
  obtain ⟨a, vs, g1, g2, g3, g4⟩ := R.ownSl e0
  have pe := pe_bm (cpos := cpos) (apos := apos) PySem.F.plainAttrs_list PySem.F.slot_list_extend PySem.F.type_list_extend mt_extend (pe_var (pos := p) hN hv hd hcd) (pa_cons ha.pe pa_nil hs) hbase hfew hline hs hplain
  refine thn (pe.run pins s σ H (fun v H' => ∃ env' d F', Rl X.K B F' H' env' σ ∧ Fm env σ F H env' F' H' ∧ Rp X.K F' v d ∧ Ke env' (.val d)) I ?_) fun u s1 ⟨v, H', I', rv, env', d, F', h1, h2, h3, h4⟩ => ⟨v, env', .val d, F', H', I', rv, h1, h2, h3, trivial, h4⟩
  refine ⟨.ref a, g1, Or.inl ⟨rfl, vs, SqL.of g2⟩, F, env, _, Kx, R, h, hx, fun v env1 r1 F1 H1 R1 f1 q1 n1 ⟨l1, ds1, es, e2, hr, hz, k⟩ => ?_⟩
  obtain ⟨a', vs1, k1, k2, k3, k4⟩ := R1.ownSl e2
  rw [g1] at k1
  cases k1
  have other : ∃ b ws, v = .ref b ∧ H1 b = some (.lst ws) ∧ RpAll X.K F1 ws es := by
    rcases hr with rfl | ⟨j, hj, rfl, m, ej⟩
    · obtain ⟨p, ws, z1, z2, z3, z4, z5, z6⟩ := q1
      exact ⟨p, ws, z1, z2, z6⟩
    · obtain ⟨b, ws, z1, z2, z3, z4⟩ := R1.ownSl ej
      have q' : σ[j]? = some (some v) := q1
      rw [z1] at q'
      cases q'
      exact ⟨b, ws, rfl, z2, z4⟩
  obtain ⟨b, ws, rfl, z1, z2⟩ := other
  obtain ⟨R3, f3⟩ := R1.mut e2 g1 (k4.append z2)
  exact ⟨a, b, vs1, ws, rfl, rfl, k2, z1, by rw [k4.length, z2.length]; exact hz, _, .none, F1, R3, f1.trans f3, .non, k⟩
end

/-! ### x[i] = e, x op= e -/
section
variable {B : Bs} {W : WX} {X : Cx} {x : Str} {a e : Expr} {wi w : WE} {p pos spos : Pos}
def wSetIx (i : Nat) (wi w : WE) : WS := fun env k => wFz w env (fun env1 d => isOwn env1 i ∧ wi env1 (fun env2 r => ∃ j l ds n, r = .val (.int j) ∧ env2[i]? = some (Sl.own l ds) ∧ ixN ds.length j = some n ∧ k.nx (env2.set i (.own l (ds.set n d)))) k.ex) k.ex
theorem ds_setIx (i : Nat) (he : DE B W X e w) (hi : DE B W X a wi) (hN : X.N[i]? = some x := by rfl) (hv : Vis X.env.scope x := by first | exact Or.inl rfl | exact Or.inr (Or.inl rfl) | exact Or.inr (Or.inr rfl)) (hd : (x == ("__debug__" : Str)) = false := by decide) (hcd : (x == ("__classdict__" : Str)) = false := by decide)
    (ha : ∀ v, assign (.Subscript (.Name x p) a spos) X.env v = (do
      let ov ← holding [v] (eval (.Name x p) X.env)
      let iv ← holding [v, ov] (eval a X.env)
      standAt spos
      holding [v, ov, iv] (setItem ov iv v)
      release [v, ov, iv] []) := by intro _; rfl)
    (hs : swapsWithSole [.Subscript (.Name x p) a spos] e pos.line X.env = pure false := by rfl) (hw : swappedStores [.Subscript (.Name x p) a spos] e X.env = pure none := by rfl)
    (h1 : (assignEach [.Subscript (.Name x p) a spos] X.env).map (·.2) = [assign (.Subscript (.Name x p) a spos) X.env] := by rfl) : DS B W X (.Assign [.Subscript (.Name x p) a spos] e pos) (wSetIx i wi w) := by
  refine ⟨fun pins s σ F H env k I R h hx => ?_⟩
  refine wpAny_Assign_stores (thn (he.run pins s σ F H env _ k.ex I R h hx) fun v s1 ⟨y, env1, r, F1, H1, I1, r1, R1, f1, q1, n1, pr, e1, ⟨l0, ds0, e0⟩, k1⟩ => ?_) hs hw
  obtain ⟨F2, R2, f2, rp⟩ := freeze (env2 := pr.1) (d := pr.2) R1 f1 q1 n1 e1
  obtain ⟨ad, vs, g1, g2, g3, g4⟩ := R2.ownSl e0
  rw [h1]
  have pg := pg_sub (pe_var (pos := p) hN hv hd hcd) hi.pe (set_list (X := X)) ha
  refine thn (pg.run pins s1 σ H1 y v (fun σ' H' => σ' = σ ∧ ∃ env' F', Rl X.K B F' H' env' σ ∧ Same F F' ∧ k.nx env') I1 r1 ?_) fun _ s2 ⟨σ', H', I', e2, env', F', h2, sm, h3⟩ => by
    subst e2
    exact ⟨σ', env', F', H', I', h2, sm, h3⟩
  refine ⟨.ref ad, g1, F2, pr.1, _, k.ex, R2, k1, hx, fun v' env2 r2 F3 H3 R3 f3 q3 n3 ⟨j, l, ds, n, e3, e4, e5, k2⟩ => ?_⟩
  subst e3
  cases (show Rp X.K F3 v' (.int j) from q3)
  obtain ⟨ad', vs3, m1, m2, m3, m4⟩ := R3.ownSl e4
  rw [g1] at m1
  cases m1
  obtain ⟨R4, f4⟩ := R3.mut e4 g1 (m4.set n (Rp.mono f3.sub _ _ rp))
  exact ⟨ad, vs3, j, n, rfl, rfl, m2, by rw [m4.length]; exact e5, rfl, _, F3, R4, f2.sub.trans f3.sub, k2⟩
/-- x += e, x -= e of ints -/
def wAug (i : Nat) (f : Int → Int → Int) (w : WE) : WS := fun env k => ∃ n, env[i]? = some (Sl.val (.int n)) ∧ w env (fun env1 r => ∃ m, r = .val (.int m) ∧ k.nx (env1.set i (.val (.int (f n m))))) k.ex
end
end Dl
end L2

/-! The D layer, 9: what is walked; for; list comprehensions. -/
namespace L2
namespace Dl
open PySem PySem.Spec PyProof.Rows

/-- while F0 stands, it gives the items ds -/
def GoodIt (K : PySem.W.Frag) (B : Bs) (J : It) (F0 : Hp) (ds : List PyData) : Prop :=
  ∀ (F H : Hp) (env : Ev) (σ : St) (i : Nat), Rl K B F H env σ → Same F0 F →
    (i < ds.length → J.go i H ∧ ∀ x H', J.yld i H x H' → ∃ F' d, Rl K B F' H' env σ ∧ Fm env σ F H env F' H' ∧ ds[i]? = some d ∧ Rp K F' x d) ∧ (ds.length ≤ i → J.stop i H)
abbrev WI := Ev → (Ev → List PyData → Prop) → KXc → Prop
structure DI (B : Bs) (W : WX) (X : Cx) (tg iter : Expr) (w : WI) : Prop where
  pi : PI X tg iter (fun σ H R => ∃ F env Ki Kx, Rl X.K B F H env σ ∧ w env Ki Kx ∧ XC X.K B W Kx ∧ ∀ J env' F' H' ds, Rl X.K B F' H' env' σ → Fm env σ F H env' F' H' → GoodIt X.K B J F' ds → Ki env' ds → R J H')
/-- a list, a tuple or a text, frozen, walked -/
def itemsOf : PyData → Option (List PyData)
  | .list ds => some ds
  | .tuple ds => some ds
  | .str z => some (z.cps.toList.map fun c => .str ⟨#[c]⟩)
  | _ => none
def wISeq (w : WE) : WI := fun env Ki Kx => wFz w env (fun e d => ∃ ds, itemsOf d = some ds ∧ Ki e ds) Kx
def wIRng1 (w : WE) : WI := fun env Ki Kx => w env (fun e r => ∃ j, r = .val (.int j) ∧ -(2 ^ 62) ≤ j ∧ j < 2 ^ 62 ∧ Ki e ((List.range j.toNat).map fun (i : Nat) => PyData.int (i : Int))) Kx
def wIRng2 (wa wb : WE) : WI := fun env Ki Kx => wa env (fun e1 r1 => wb e1 (fun e2 r2 => ∃ i j, r1 = .val (.int i) ∧ r2 = .val (.int j) ∧ (-(2 ^ 62) ≤ i ∧ i < 2 ^ 62 ∧ -(2 ^ 62) ≤ j ∧ j < 2 ^ 62) ∧ Ki e2 ((List.range (j - i).toNat).map fun (m : Nat) => PyData.int (i + m))) Kx) Kx
section
variable {B : Bs} {W : WX} {X : Cx} {tg e a b : Expr} {w wa wb : WE} {pos p : Pos}
theorem good_list {K : PySem.W.Frag} {F0 : Hp} {ad : Addr} {xs : List V} {ds : List PyData} (h1 : SqL K F0 ad xs) (h2 : RpAll K F0 xs ds) : GoodIt K B (Itl K ad) F0 ds := by
  intro F H env σ i R s
  have q : SqL K H ad xs := (s.trans R.sub).seq h1
  have hl := h2.length
  refine ⟨fun hi => ⟨⟨xs, xs[i]'(by omega), q, by simp [show i < xs.length by omega]⟩, fun x H' ⟨e, y⟩ => ?_⟩, fun hi => ⟨xs, q, by omega⟩⟩
  subst e
  obtain ⟨d, e1, rp⟩ := h2.get2 (y xs q)
  exact ⟨F, d, R, Fm.refl, e1, Rp.mono s _ _ rp⟩
theorem good_tup {K : PySem.W.Frag} {F0 : Hp} {ad : Addr} {xs : List V} {ds : List PyData} (h1 : SqT K F0 ad xs) (h2 : RpAll K F0 xs ds) : GoodIt K B (Itt K ad) F0 ds := by
  intro F H env σ i R s
  have q : SqT K H ad xs := sqT_same (s.trans R.sub) h1
  have hl := h2.length
  refine ⟨fun hi => ⟨⟨xs, xs[i]'(by omega), q, by simp [show i < xs.length by omega]⟩, fun x H' ⟨e, y⟩ => ?_⟩, fun hi => ⟨xs, q, by omega⟩⟩
  subst e
  obtain ⟨d, e1, rp⟩ := h2.get2 (y xs q)
  exact ⟨F, d, R, Fm.refl, e1, Rp.mono s _ _ rp⟩
theorem good_rng {K : PySem.W.Frag} {F0 : Hp} {lo : Int} {n : Nat} : GoodIt K B (Itr lo n) F0 ((List.range n).map fun (m : Nat) => PyData.int (lo + m)) := by
  intro F H env σ i R s
  refine ⟨fun hi => ?_, fun hi => ?_⟩
  · rw [List.length_map, List.length_range] at hi
    refine ⟨hi, fun x H' ⟨e, y⟩ => ?_⟩
    subst e y
    exact ⟨F, _, R, Fm.refl, by rw [List.getElem?_map, List.getElem?_range hi]; rfl, .int _⟩
  · rw [List.length_map, List.length_range] at hi
    exact hi
theorem good_str {K : PySem.W.Frag} {F0 : Hp} {z : Str} : GoodIt K B (Its z) F0 (z.cps.toList.map fun c => PyData.str ⟨#[c]⟩) := by
  intro F H env σ i R s
  have wk := walk_str (z := z)
  refine ⟨fun hi => ?_, fun hi => ?_⟩
  · have hi' : i < z.cps.size := by simpa using hi
    refine ⟨wk.goes i H hi' trivial, fun x H' y => ?_⟩
    obtain ⟨e, c, e1, e2⟩ := wk.yields i H x H' hi' trivial y
    subst e e2
    exact ⟨F, _, R, Fm.refl, by rw [List.getElem?_map, Array.getElem?_toList, e1]; rfl, .str _⟩
  · have hi' : z.cps.size ≤ i := by simpa using hi
    have st : ∀ j, z.cps.size ≤ j → (Its z).stop j H := fun j hj => hj
    exact st i hi'
/-- a sequence -/
theorem di_seq (he : DE B W X e w) : DI B W X tg e (wISeq w) := by
  refine ⟨⟨fun pins s σ H R I ⟨F, env, Ki, Kx, R0, hw, hx, q⟩ => ?_⟩⟩
  refine thn (he.run pins s σ F H env _ Kx I R0 hw hx) fun v s1 ⟨x, env1, r1, F1, H1, I1, rx, R1, f1, q1, n1, pr, e1, ds, e2, k⟩ => ?_
  obtain ⟨F2, R2, f2, rp⟩ := freeze (env2 := pr.1) (d := pr.2) R1 f1 q1 n1 e1
  generalize hd : pr.2 = d at rp e2
  cases rp with
  | non => cases e2
  | bl b => cases e2
  | int i => cases e2
  | dct h => cases e2
  | str z =>
    cases e2
    obtain ⟨t, rfl⟩ := rx
    cases ha : z.cps.all (· < 128)
    · exact wpAny_pyIter_wide ha (pi_one (tk := s1.toks) I1 _ (turn_str _ z t "str_iterator" (.inr rfl)) ⟨_, Heap.get?_push_size _ rfl, rfl, rfl⟩ (q _ pr.1 F2 H1 _ R2 f2 good_str k))
    · exact wpAny_pyIter_ascii ha (pi_one (tk := s1.toks) I1 _ (turn_str _ z t "str_ascii_iterator" (.inl rfl)) ⟨_, Heap.get?_push_size _ rfl, rfl, rfl⟩ (q _ pr.1 F2 H1 _ R2 f2 good_str k))
  | lst h1 h2 =>
    cases e2
    cases rx
    obtain ⟨its, rv, pl, hz⟩ := I1.list (R2.sub.seq h1)
    refine wpAny_pyIter_list pl.isList ?_
    refine ⟨s1.heap.objs.size, [s1.heap.objs.size], _, _, H1, rfl, I1.kept (t' := s1.toks) fun b o e => Heap.get?_push_of_some _ e, turn_list _ _, ⟨_, Heap.get?_push_size _ rfl, rfl, rfl⟩, fun b hb => ?_, q _ pr.1 F2 H1 _ R2 f2 (good_list h1 h2) k⟩
    have e : b = s1.heap.objs.size := by simpa using hb
    subst e
    exact I1.fpOk (Nat.le_refl _) (I1.hok.fresh (Nat.le_refl _))
  | tup h1 _ h2 =>
    replace h1 := SqT.of (K := X.K) h1
    cases e2
    cases rx
    obtain ⟨its, rv, pl, hz⟩ := I1.tuple (sqT_same R2.sub h1)
    refine wpAny_pyIter_tuple (show s1.heap.IsTuple _ its.toArray from pl) ?_
    refine ⟨s1.heap.objs.size, [s1.heap.objs.size], _, _, H1, rfl, I1.kept (t' := s1.toks) fun b o e => Heap.get?_push_of_some _ e, turn_tuple _ _, ⟨_, Heap.get?_push_size _ rfl, rfl, rfl⟩, fun b hb => ?_, q _ pr.1 F2 H1 _ R2 f2 (good_tup h1 h2) k⟩
    have e : b = s1.heap.objs.size := by simpa using hb
    subst e
    exact I1.fpOk (Nat.le_refl _) (I1.hok.fresh (Nat.le_refl _))
theorem di_rng1 (he : DE B W X e w) (hg : Gl X "range") (hm : X.mg "range" = none) (hs : starEach [e] X.env = [(false, eval e X.env)] := by rfl) : DI B W X tg (.Call (.Name "range" p) [e] [] pos) (wIRng1 w) := by
  refine ⟨⟨fun pins s σ H R I ⟨F, env, Ki, Kx, R0, hw, hx, q⟩ => ?_⟩⟩
  refine (pi_range1 (p := p) (pos := pos) hg hm (pa_cons he.pe pa_nil hs) hs).run pins s σ H R I ⟨F, env, _, Kx, R0, hw, hx, fun v env1 r F1 H1 R1 f1 q1 n1 ⟨j, e1, h1, h2, k⟩ => ?_⟩
  subst e1
  cases (show Rp X.K F1 v (.int j) from q1)
  have g := good_rng (B := B) (K := X.K) (F0 := F1) (lo := 0) (n := j.toNat)
  simp only [Int.zero_add] at g
  exact ⟨j, rfl, h1, h2, q _ env1 F1 H1 _ R1 f1 g k⟩
theorem di_rng2 (ha : DE B W X a wa) (hb : DE B W X b wb) (hg : Gl X "range") (hm : X.mg "range" = none) (hs : starEach [a, b] X.env = [(false, eval a X.env), (false, eval b X.env)] := by rfl) (hs2 : starEach [b] X.env = [(false, eval b X.env)] := by rfl) (hs1 : starEach [a, b] X.env = (false, eval a X.env) :: starEach [b] X.env := by rfl) (hs3 : starEach [b] X.env = (false, eval b X.env) :: starEach [] X.env := by rfl) :
    DI B W X tg (.Call (.Name "range" p) [a, b] [] pos) (wIRng2 wa wb) := by
  refine ⟨⟨fun pins s σ H R I ⟨F, env, Ki, Kx, R0, hw, hx, q⟩ => ?_⟩⟩
  refine (pi_range2 (p := p) (pos := pos) hg hm (pa_cons ha.pe (pa_cons hb.pe pa_nil hs3) hs1) hs hs2).run pins s σ H R I ⟨F, env, _, Kx, R0, hw, hx, fun v env1 r F1 H1 R1 f1 q1 n1 k1 => ⟨F1, env1, _, Kx, R1, k1, hx, fun v2 env2 r2 F2 H2 R2 f2 q2 n2 ⟨i, j, e1, e2, hb, k⟩ => ?_⟩⟩
  subst e1 e2
  cases (show Rp X.K F1 v (.int i) from q1)
  cases (show Rp X.K F2 v2 (.int j) from q2)
  exact ⟨i, j, rfl, hb, q _ env2 F2 H2 _ R2 (f1.trans f2) good_rng k⟩
end

/-! ### for -/
def wEach (g : WG) (t : WS) : List PyData → Ev → Ken → Prop
  | [], env, k => k.nx env
  | d :: r, env, k => g d env (fun e1 => t e1 { k with nx := fun e2 => wEach g t r e2 k, ct := fun e2 => wEach g t r e2 k, bk := k.nx })
def wFor (wi : WI) (g : WG) (t : WS) : WS := fun env k => wi env (fun e1 ds => wEach g t ds e1 k) k.ex
section
variable {B : Bs} {W : WX} {X : Cx} {pos : Pos}
theorem DG.pg {tg : Expr} {is : List Nat} {g : WG} (h : DG B X tg is g) : PG X tg (fun v σ H Q => ∃ F env d Kn, Rl X.K B F H env σ ∧ Rp X.K F v d ∧ g d env Kn ∧ ∀ σ' env', Rl X.K B F H env' σ' → Agree is σ σ' → OwnSub env env' → Kn env' → Q σ' H) := by
  refine ⟨fun pins s σ H v u Q I r ⟨F, env, d, Kn, R, rp, hg, q⟩ => ?_⟩
  exact thn (h.run pins s σ F H env v u d Kn I r R rp hg) fun _ s1 ⟨σ', env', I', R', a', o', k'⟩ => ⟨σ', H, I', q σ' env' R' a' o' k'⟩
theorem DSs.pss {sts : List Stmt} {w : WS} (h : DSs B W X sts w) : PSs X sts (fun D σ H => ∃ F env k, Rl X.K B F H env σ ∧ w env k ∧ XC X.K B W k.ex ∧ (∀ σ' env' F' H', Rl X.K B F' H' env' σ' → Same F F' → k.nx env' → D.nx σ' H') ∧
    (∀ v σ' env' r F' H', Rl X.K B F' H' env' σ' → Res X.K B F' H' env' σ' v r → k.rt env' r → D.rt v H') ∧ (∀ σ' env' F' H', Rl X.K B F' H' env' σ' → Same F F' → k.bk env' → D.bk σ' H') ∧ ∀ σ' env' F' H', Rl X.K B F' H' env' σ' → Same F F' → k.ct env' → D.ct σ' H') := by
  refine ⟨fun pins s σ H D I ⟨F, env, k, R, hw, hx, q1, q2, q3, q4⟩ => ?_⟩
  refine thn (h.run pins s σ F H env k I R hw hx) fun f s1 q => ?_
  cases f with
  | next => obtain ⟨σ', env', F', H', I', R', sm, k'⟩ := q; exact ⟨σ', H', I', q1 _ _ _ _ R' sm k'⟩
  | brk => obtain ⟨σ', env', F', H', I', R', sm, k'⟩ := q; exact ⟨σ', H', I', q3 _ _ _ _ R' sm k'⟩
  | cont => obtain ⟨σ', env', F', H', I', R', sm, k'⟩ := q; exact ⟨σ', H', I', q4 _ _ _ _ R' sm k'⟩
  | ret u => obtain ⟨v, σ', H', I', rv, σ2, env', r, F', R', res, k'⟩ := q; exact ⟨v, σ', H', I', rv, q2 _ _ _ _ _ _ R' res k'⟩
abbrev endsD (K : PySem.W.Frag) (B : Bs) (F0 : Hp) (k : Ken) : Ends := { nx := fun σ H => ∃ env F, Rl K B F H env σ ∧ Same F0 F ∧ k.nx env, rt := fun v H => ∃ σ env r F, Rl K B F H env σ ∧ Res K B F H env σ v r ∧ k.rt env r, bk := fun σ H => ∃ env F, Rl K B F H env σ ∧ Same F0 F ∧ k.bk env, ct := fun σ H => ∃ env F, Rl K B F H env σ ∧ Same F0 F ∧ k.ct env }
theorem SP.spd {pins : List (Addr × Obj)} {k : Ken} {f : Flow} {s' : Shared} {F0 : Hp} (h : SP X pins (endsD X.K B F0 k) f s') : SPD X B pins F0 k f s' := by
  cases f with
  | next => obtain ⟨σ', H', I', env', F', R', sm, k'⟩ := h; exact ⟨σ', env', F', H', I', R', sm, k'⟩
  | brk => obtain ⟨σ', H', I', env', F', R', sm, k'⟩ := h; exact ⟨σ', env', F', H', I', R', sm, k'⟩
  | cont => obtain ⟨σ', H', I', env', F', R', sm, k'⟩ := h; exact ⟨σ', env', F', H', I', R', sm, k'⟩
  | ret u => obtain ⟨v, σ', H', I', rv, σ2, env', r, F', R', res, k'⟩ := h; exact ⟨v, σ', H', I', rv, σ2, env', r, F', R', res, k'⟩
theorem ds_for {tg iter : Expr} {is : List Nat} {body : List Stmt} {wi : WI} {g : WG} {t : WS} (hp : PassesOwn (model X.prog X.w) X.A X.env X.xe) (hi : DI B W X tg iter wi) (hg : DG B X tg is g) (hb : DSs B W X body t) (hc : X.calm = true := by rfl)
    (hs : ∀ x, foldedSetIterable iter X.env x = pure x := by intro _; rfl) : DS B W X (.For tg iter body [] pos) (wFor wi g t) := by
  refine ⟨fun pins s σ F H env k I R h hx => ?_⟩
  refine thn ((ps_for hp hc hi.pi hg.pg hb.pss hs).run pins s σ H (endsD X.K B F k) I ⟨F, env, _, k.ex, R, h, hx, fun J env1 F1 H1 ds R1 f1 good k1 => ?_⟩) fun f s1 q => SP.spd q
  refine ⟨fun i m σ' H' => m = ds.length - i ∧ i ≤ ds.length ∧ ∃ F' env', Rl X.K B F' H' env' σ' ∧ Same F1 F' ∧ wEach g t (ds.drop i) env' k, ⟨ds.length, by simp, Nat.zero_le _, F1, env1, R1, fun _ _ h => h, k1⟩, ?_⟩
  rintro i m σ' H' ⟨rfl, hi', F', env', R', s', w'⟩
  obtain ⟨g1, g2⟩ := good F' H' env' σ' i R' s'
  by_cases hlt : i < ds.length
  · obtain ⟨h1, h2⟩ := g1 hlt
    refine .inr ⟨h1, fun σ2 H2 => ∃ F2 env2, Rl X.K B F2 H2 env2 σ2 ∧ Same F1 F2 ∧ wEach g t (ds.drop (i + 1)) env2 k, fun σ2 H2 ⟨F2, env2, R2, s2, w2⟩ => ⟨ds.length - (i + 1), by omega, rfl, hlt, F2, env2, R2, s2, w2⟩, fun x H2 y => ?_⟩
    obtain ⟨F2, d, R2, f2, e2, rp⟩ := h2 x H2 y
    have hd : ds.drop i = d :: ds.drop (i + 1) := by
      rw [List.drop_eq_getElem_cons hlt]
      rw [List.getElem?_eq_getElem hlt] at e2
      cases e2
      rfl
    rw [hd] at w'
    have sm2 := s'.trans f2.sub
    exact ⟨F2, env', d, _, R2, rp, w', fun σ3 env3 R3 _ _ w3 => ⟨F2, env3, _, R3, w3, hx, fun σ4 env4 F4 H4 R4 s4 k4 => ⟨F4, env4, R4, sm2.trans s4, k4⟩, fun v σ4 env4 r F4 H4 R4 res k4 => ⟨σ4, env4, r, F4, R4, res, k4⟩,
      fun σ4 env4 F4 H4 R4 s4 k4 => ⟨env4, F4, R4, (f1.sub.trans sm2).trans s4, k4⟩, fun σ4 env4 F4 H4 R4 s4 k4 => ⟨F4, env4, R4, sm2.trans s4, k4⟩⟩⟩
  · rw [List.drop_eq_nil_of_le (by omega)] at w'
    exact .inl ⟨g2 (by omega), env', F', R', f1.sub.trans s', w'⟩
end
end Dl
end L2

/-! The D layer, 10: list comprehensions. -/
namespace L2
namespace Dl
open PySem PySem.Spec PyProof.Rows

def wipeE (env : Ev) : List Nat → Ev
  | [] => env
  | v :: vs => (wipeE env vs).set v .un
/-- the slots at vs as they were in e1 -/
def restE (e1 : Ev) (e : Ev) : List Nat → Ev
  | [] => e
  | v :: vs => (restE e1 e vs).set v (e1[v]?.getD .un)
abbrev NoX : KXc := fun _ _ => False
abbrev W0 : WX := fun _ _ _ _ => False
def wLcE (vs : List Nat) (g : WG) (ct : WT) (we : WE) : List PyData → List PyData → Ev → (Ev → List PyData → Prop) → Prop
  | [], acc, env, K => K env acc
  | d :: r, acc, env, K => g d env (fun e1 => ct e1 (fun e2 b => if b = true then wFz we e2 (fun e3 y => acc.length < sizeLine ∧ wLcE vs g ct we r (acc ++ [y]) (wipeE e3 vs) K) NoX else wLcE vs g ct we r acc (wipeE e2 vs) K) NoX)
def wLc (vs : List Nat) (wi : WI) (g : WG) (ct : WT) (we : WE) : WE := fun env Ke Kx => wi env (fun e1 ds => wLcE vs g ct we ds [] (wipeE e1 vs) (fun e2 acc => Ke (restE e1 e2 vs) (.tmp acc))) Kx
def wYes : WT := fun env Kt _ => Kt env true

theorem wipeE_len (env : Ev) : ∀ vs : List Nat, (wipeE env vs).length = env.length
  | [] => rfl
  | v :: vs => by unfold wipeE; rw [List.length_set, wipeE_len env vs]
theorem wipeE_in {env : Ev} : ∀ {vs : List Nat} {j : Nat}, j ∈ vs → ∀ s, (wipeE env vs)[j]? = some s → s = Sl.un
  | [], _, h, _, _ => by cases h
  | v :: vs, j, h, s, e => by
    unfold wipeE at e
    by_cases hv : v = j
    · subst hv
      by_cases hl : v < (wipeE env vs).length
      · rw [List.getElem?_set_self hl] at e
        cases e
        rfl
      · rw [List.getElem?_eq_none (by simpa using hl)] at e
        cases e
    · rw [List.getElem?_set_ne hv] at e
      exact wipeE_in ((List.mem_cons.mp h).resolve_left (fun z => hv z.symm)) s e
theorem wipeE_out {env : Ev} : ∀ {vs : List Nat} {j : Nat}, j ∉ vs → (wipeE env vs)[j]? = env[j]?
  | [], _, _ => rfl
  | v :: vs, j, h => by
    unfold wipeE
    rw [List.getElem?_set_ne (fun z => h (by rw [z]; exact List.mem_cons_self))]
    exact wipeE_out fun z => h (List.mem_cons_of_mem _ z)
theorem restE_len (e1 e : Ev) : ∀ vs : List Nat, (restE e1 e vs).length = e.length
  | [] => rfl
  | v :: vs => by unfold restE; rw [List.length_set, restE_len e1 e vs]
theorem restE_out {e1 e : Ev} : ∀ {vs : List Nat} {j : Nat}, j ∉ vs → (restE e1 e vs)[j]? = e[j]?
  | [], _, _ => rfl
  | v :: vs, j, h => by
    unfold restE
    rw [List.getElem?_set_ne (fun z => h (by rw [z]; exact List.mem_cons_self))]
    exact restE_out fun z => h (List.mem_cons_of_mem _ z)
theorem restE_in {e1 e : Ev} (hl : e.length = e1.length) : ∀ {vs : List Nat} {j : Nat}, j ∈ vs → (restE e1 e vs)[j]? = e1[j]?
  | [], _, h => by cases h
  | v :: vs, j, h => by
    unfold restE
    by_cases hv : v = j
    · subst hv
      by_cases hlt : v < e1.length
      · rw [List.getElem?_set_self (by rw [restE_len, hl]; exact hlt)]
        rw [List.getElem?_eq_getElem hlt]
        rfl
      · rw [List.getElem?_eq_none (by rw [List.length_set, restE_len, hl]; omega), List.getElem?_eq_none (by omega)]
    · rw [List.getElem?_set_ne hv]
      exact restE_in hl ((List.mem_cons.mp h).resolve_left (fun z => hv z.symm))
section
variable {K : PySem.W.Frag} {B : Bs} {F H F1 H1 : Hp} {env e1 : Ev} {σ σ' : St} {vs : List Nat}
theorem wipe_in {σ : St} : ∀ {vs : List Nat} {j : Nat}, j ∈ vs → ∀ x, (wipe σ vs)[j]? = some x → x = none
  | [], _, h, _, _ => by cases h
  | v :: vs, j, h, x, e => by
    unfold wipe at e
    by_cases hv : v = j
    · subst hv
      by_cases hl : v < (wipe σ vs).length
      · rw [List.getElem?_set_self hl] at e
        cases e
        rfl
      · rw [List.getElem?_eq_none (by simpa using hl)] at e
        cases e
    · rw [List.getElem?_set_ne hv] at e
      exact wipe_in ((List.mem_cons.mp h).resolve_left (fun z => hv z.symm)) x e
theorem wipe_agree (h : ∀ j, j ∉ vs → σ'[j]? = σ[j]?) (hl : σ'.length = σ.length) : wipe σ' vs = wipe σ vs := by
  apply List.ext_getElem?
  intro j
  by_cases hj : j ∈ vs
  · by_cases hlt : j < σ.length
    · have h1l : j < (wipe σ' vs).length := by rw [wipe_length, hl]; exact hlt
      have h2l : j < (wipe σ vs).length := by rw [wipe_length]; exact hlt
      have h1 : (wipe σ' vs)[j]? = some (wipe σ' vs)[j] := List.getElem?_eq_getElem h1l
      have h2 : (wipe σ vs)[j]? = some (wipe σ vs)[j] := List.getElem?_eq_getElem h2l
      have g1 := wipe_in hj _ h1
      have g2 := wipe_in hj _ h2
      rw [h1, h2, g1, g2]
    · rw [List.getElem?_eq_none (by rw [wipe_length, hl]; omega), List.getElem?_eq_none (by rw [wipe_length]; omega)]
  · rw [wipe_out hj, wipe_out hj]
    exact h j hj
/-- within the block: the block's own names are unset -/
theorem Rl.wiped (R : Rl K B F H env σ) (nl : ∀ p ∈ B.all, p.1 ∉ vs) : Rl K B F H (wipeE env vs) (wipe σ vs) := by
  have ow : ∀ {j : Nat} {l : Bool} {ds : List PyData}, (wipeE env vs)[j]? = some (Sl.own l ds) → j ∉ vs ∧ env[j]? = some (Sl.own l ds) := fun {j l ds} h => by
    by_cases hj : j ∈ vs
    · cases wipeE_in hj _ h
    · rw [wipeE_out hj] at h
      exact ⟨hj, h⟩
  have od : ∀ {j : Nat} {kv : List (List Int × PyData)}, (wipeE env vs)[j]? = some (Sl.dct kv) → j ∉ vs ∧ env[j]? = some (Sl.dct kv) := fun {j kv} h => by
    by_cases hj : j ∈ vs
    · cases wipeE_in hj _ h
    · rw [wipeE_out hj] at h
      exact ⟨hj, h⟩
  refine ⟨by rw [wipeE_len, wipe_length]; exact R.len, R.sub, fun j => ?_, fun i j l m ds es a h1 h2 h3 h4 => ?_, R.sub0, R.new, R.frm, R.dom, fun i ds a h1 h2 => ?_, fun i ds a h1 h2 => ?_, fun p hp => ?_, fun i j kv kw a h1 h2 h3 h4 => ?_, fun i kv a h1 h2 => ?_⟩
  · by_cases hj : j ∈ vs
    · cases q : (wipeE env vs)[j]? with
      | none => trivial
      | some s =>
        cases wipeE_in hj s q
        trivial
    · rw [wipeE_out hj, wipe_out hj]
      exact R.sl j
  · obtain ⟨n1, g1⟩ := ow h1
    obtain ⟨n2, g2⟩ := ow h2
    rw [wipe_out n1] at h3
    rw [wipe_out n2] at h4
    exact R.dist i j l m ds es a g1 g2 h3 h4
  · obtain ⟨n1, g1⟩ := ow h1
    rw [wipe_out n1] at h2
    exact R.own0 i ds a g1 h2
  · obtain ⟨n1, g1⟩ := ow h1
    rw [wipe_out n1] at h2
    exact R.own1 i ds a g1 h2
  · rw [wipe_out (nl p hp)]
    exact R.lsl p hp
  · obtain ⟨n1, g1⟩ := od h1
    obtain ⟨n2, g2⟩ := od h2
    rw [wipe_out n1] at h3
    rw [wipe_out n2] at h4
    exact R.dd i j kv kw a g1 g2 h3 h4
  · obtain ⟨n1, g1⟩ := od h1
    rw [wipe_out n1] at h2
    exact R.d0 i kv a g1 h2
/-- ownership in the wiped state is ownership ahead of it -/
theorem own_wiped {a : Addr} (h : ownAt (wipeE env vs) (wipe σ vs) a) : ownAt env σ a := by
  rcases h with ⟨j, l, ds, h1, h2⟩ | ⟨j, kv, h1, h2⟩
  · by_cases hj : j ∈ vs
    · cases wipeE_in hj _ h1
    · rw [wipeE_out hj] at h1
      rw [wipe_out hj] at h2
      exact .inl ⟨j, l, ds, h1, h2⟩
  · by_cases hj : j ∈ vs
    · cases wipeE_in hj _ h1
    · rw [wipeE_out hj] at h1
      rw [wipe_out hj] at h2
      exact .inr ⟨j, kv, h1, h2⟩
/-- behind the block -/
theorem Rl.restored (R1 : Rl K B F1 H1 e1 σ) (R : Rl K B F H env (wipe σ vs)) (f : Fm (wipeE e1 vs) (wipe σ vs) F1 H1 env F H) (nl : ∀ p ∈ B.all, p.1 ∉ vs) : Rl K B F H (restE e1 env vs) σ ∧ Fm e1 σ F1 H1 (restE e1 env vs) F H := by
  have hl : env.length = e1.length := by
    have h1 := R.len
    have h2 := R1.len
    rw [wipe_length] at h1
    omega
  -- an own slot of the restored state
  have ow : ∀ {j : Nat} {l : Bool} {ds : List PyData}, (restE e1 env vs)[j]? = some (Sl.own l ds) → (j ∈ vs ∧ e1[j]? = some (Sl.own l ds)) ∨ (j ∉ vs ∧ env[j]? = some (Sl.own l ds)) := fun {j l ds} h => by
    by_cases hj : j ∈ vs
    · rw [restE_in hl hj] at h
      exact .inl ⟨hj, h⟩
    · rw [restE_out hj] at h
      exact .inr ⟨hj, h⟩
  have owE : ∀ {j : Nat} {l : Bool} {ds : List PyData}, (restE e1 env vs)[j]? = some (Sl.own l ds) → ∃ ds0, e1[j]? = some (Sl.own l ds0) := fun {j l ds} h => by
    rcases ow h with ⟨_, g⟩ | ⟨n, g⟩
    · exact ⟨ds, g⟩
    · obtain ⟨ds0, g1⟩ := f.own j l ds g
      rw [wipeE_out n] at g1
      exact ⟨ds0, g1⟩
  -- an address owned by a hidden slot is not owned in the block
  have hid : ∀ {j : Nat} {l : Bool} {ds : List PyData} {a : Addr}, j ∈ vs → e1[j]? = some (Sl.own l ds) → σ[j]? = some (some (V.ref a)) → ¬ ownAt (wipeE e1 vs) (wipe σ vs) a := fun {j l ds a} hj h1 h2 ow => by
    rcases ow with ⟨k, m, es, g1, g2⟩ | ⟨k, kv, g1, g2⟩
    · by_cases hk : k ∈ vs
      · cases wipeE_in hk _ g1
      · rw [wipeE_out hk] at g1
        rw [wipe_out hk] at g2
        have e := R1.dist j k l m ds es a h1 g1 h2 g2
        exact hk (e ▸ hj)
    · by_cases hk : k ∈ vs
      · cases wipeE_in hk _ g1
      · rw [wipeE_out hk] at g1
        rw [wipe_out hk] at g2
        have s1 := R1.sl j
        have s2 := R1.sl k
        rw [h1] at s1
        rw [g1] at s2
        obtain ⟨b, ws, y1, y2, _⟩ := s1
        obtain ⟨c, z1, z2, _⟩ := s2
        rw [h2] at y1
        cases y1
        rw [g2] at z1
        cases z1
        rw [y2] at z2
        cases z2
  have odE : ∀ {j : Nat} {kv : List (List Int × PyData)}, (restE e1 env vs)[j]? = some (Sl.dct kv) → ∃ kw, e1[j]? = some (Sl.dct kw) := fun {j kv} h => by
    by_cases hj : j ∈ vs
    · rw [restE_in hl hj] at h
      exact ⟨kv, h⟩
    · rw [restE_out hj] at h
      obtain ⟨kw, g1⟩ := f.od j kv h
      rw [wipeE_out hj] at g1
      exact ⟨kw, g1⟩
  have hidd : ∀ {j : Nat} {kv : List (List Int × PyData)} {a : Addr}, j ∈ vs → e1[j]? = some (Sl.dct kv) → σ[j]? = some (some (V.ref a)) → ¬ ownAt (wipeE e1 vs) (wipe σ vs) a := fun {j kv a} hj h1 h2 ow => by
    rcases ow with ⟨k, m, es, g1, g2⟩ | ⟨k, kw, g1, g2⟩
    · by_cases hk : k ∈ vs
      · cases wipeE_in hk _ g1
      · rw [wipeE_out hk] at g1
        rw [wipe_out hk] at g2
        have s1 := R1.sl j
        have s2 := R1.sl k
        rw [h1] at s1
        rw [g1] at s2
        obtain ⟨b, y1, y2, _⟩ := s1
        obtain ⟨c, ws, z1, z2, _⟩ := s2
        rw [h2] at y1
        cases y1
        rw [g2] at z1
        cases z1
        rw [y2] at z2
        cases z2
    · by_cases hk : k ∈ vs
      · cases wipeE_in hk _ g1
      · rw [wipeE_out hk] at g1
        rw [wipe_out hk] at g2
        have e := R1.dd j k kv kw a h1 g1 h2 g2
        exact hk (e ▸ hj)
  refine ⟨⟨by rw [restE_len, hl]; exact R1.len, R.sub, fun j => ?_, fun i j l m ds es a h1 h2 h3 h4 => ?_, R.sub0, R.new, R.frm, R.dom, fun i ds a h1 h2 => ?_, fun i ds a h1 h2 => ?_, R1.lsl, fun i j kv kw a h1 h2 h3 h4 => ?_, fun i kv a h1 h2 => ?_⟩, ⟨fun b x h n => f.keep b x h fun q => n (own_wiped q), f.sub, fun b x h => ?_, fun i l ds h => owE h, f.dom, fun i kv h => odE h⟩⟩
  · by_cases hj : j ∈ vs
    · rw [restE_in hl hj]
      have s := R1.sl j
      cases q : e1[j]? with
      | none => trivial
      | some z =>
        rw [q] at s
        cases z with
        | un => trivial
        | val d =>
          obtain ⟨v, g1, g2⟩ := s
          exact ⟨v, g1, Rp.mono f.sub _ _ g2⟩
        | own l ds =>
          obtain ⟨a, ws, g1, g2, g3, g4⟩ := s
          have na := hid hj q g1
          refine ⟨a, ws, g1, f.keep a _ g2 na, ?_, RpAll.mono f.sub _ _ g4⟩
          cases z : F a with
          | none => rfl
          | some x =>
            rcases f.new a x z with y | y | y
            · rw [g3] at y; cases y
            · exact (y.lst g2).elim
            · exact absurd y na
        | dct kv =>
          obtain ⟨a, g1, g2, g3⟩ := s
          have na := hidd hj q g1
          refine ⟨a, g1, f.keep a _ g2 na, ?_⟩
          cases z : F a with
          | none => rfl
          | some x =>
            rcases f.new a x z with y | y | y
            · rw [g3] at y; cases y
            · exact (y.dT g2).elim
            · exact absurd y na
    · rw [restE_out hj]
      have s := R.sl j
      rw [wipe_out hj] at s
      exact s
  · obtain ⟨d1, g1⟩ := owE h1
    obtain ⟨d2, g2⟩ := owE h2
    exact R1.dist i j l m d1 d2 a g1 g2 h3 h4
  · obtain ⟨d1, g1⟩ := owE h1
    exact R1.own0 i d1 a g1 h2
  · obtain ⟨d1, g1⟩ := owE h1
    exact R1.own1 i d1 a g1 h2
  · obtain ⟨d1, g1⟩ := odE h1
    obtain ⟨d2, g2⟩ := odE h2
    exact R1.dd i j d1 d2 a g1 g2 h3 h4
  · obtain ⟨d1, g1⟩ := odE h1
    exact R1.d0 i d1 a g1 h2
  · rcases f.new b x h with z | z | z
    · exact .inl z
    · exact .inr (.inl z)
    · exact .inr (.inr (own_wiped z))
/-- a tracked object that is nobody's is written -/
theorem Rl.other (R : Rl K B F H env σ) {D : Addr} {o : HO} (hF : F D = none) (h0 : B.H0 D = none) (no : ¬ ownAt env σ D) : Rl K B F (upd H D o) env σ := by
  refine ⟨R.len, fun b x e => ?_, fun j => ?_, R.dist, R.sub0, R.new, fun b x e n => ?_, fun b e => ?_, R.own0, R.own1, R.lsl, R.dd, R.d0⟩
  · rw [upd_ne]
    · exact R.sub b x e
    · rintro rfl
      rw [hF] at e
      cases e
  · have s := R.sl j
    cases q : env[j]? with
    | none => trivial
    | some z =>
      rw [q] at s
      cases z with
      | un => trivial
      | val d => exact s
      | own l ds =>
        obtain ⟨a, ws, g1, g2, g3, g4⟩ := s
        refine ⟨a, ws, g1, ?_, g3, g4⟩
        rw [upd_ne]
        · exact g2
        · rintro rfl
          exact no (.inl ⟨j, l, ds, q, g1⟩)
      | dct kv =>
        obtain ⟨a, g1, g2, g3⟩ := s
        refine ⟨a, g1, ?_, g3⟩
        rw [upd_ne]
        · exact g2
        · rintro rfl
          exact no (.inr ⟨j, kv, q, g1⟩)
  · rw [upd_ne]
    · exact R.frm b x e n
    · rintro rfl
      rw [h0] at e
      cases e
  · by_cases hb : b = D
    · subst hb
      rw [upd_same]
      simp
    · rw [upd_ne hb]
      exact R.dom b e
/-- .. in a frame that begins ahead of it -/
theorem Fm.other {env0 : Ev} {F0 H0 : Hp} {D : Addr} {o : HO} (f : Fm env0 σ F0 H0 env F H) (h : H0 D = none) : Fm env0 σ F0 H0 env F (upd H D o) :=
  ⟨fun b x e n => by rw [upd_ne (ne_of_none e h)]; exact f.keep b x e n, f.sub, f.new, f.own, fun b e => by
    by_cases hb : b = D
    · subst hb
      rw [upd_same]
      simp
    · rw [upd_ne hb]
      exact f.dom b e, f.od⟩
end

section
variable {B : Bs} {W : WX} {X : Cx} {tg iter elt c : Expr} {is : List Nat} {wi : WI} {g : WG} {ct : WT} {we : WE} {pos : Pos}
/-- a comprehension's tests -/
structure DTs (B : Bs) (X : Cx) (ifs : List Expr) (w : WT) : Prop where
  pts : PTs X ifs (fun σ H Q => ∃ F env Kt, Rl X.K B F H env σ ∧ w env Kt NoX ∧ ∀ env' F' H' b, Rl X.K B F' H' env' σ → Fm env σ F H env' F' H' → Kt env' b → Q b H')
theorem dts_nil : DTs B X [] wYes := by
  refine ⟨⟨fun pins s σ H Q I ⟨F, env, Kt, R, hw, q⟩ => ?_⟩⟩
  exact pts_nil.run pins s σ H Q I (q env F H true R Fm.refl hw)
theorem DT.pt {w : WT} (h : DT B W0 X c w) : PT X c (fun σ H Q => ∃ F env Kt, Rl X.K B F H env σ ∧ w env Kt NoX ∧ ∀ env' F' H' b, Rl X.K B F' H' env' σ → Fm env σ F H env' F' H' → Kt env' b → Q b H') := by
  refine ⟨fun pins s σ H Q I ⟨F, env, Kt, R, hw, q⟩ => ?_⟩
  exact thn (h.run pins s σ F H env Kt NoX I R hw (fun _ _ _ _ _ _ _ z => z.elim)) fun b s1 ⟨env', F', H', I', R', f', k'⟩ => ⟨H', I', q env' F' H' b R' f' k'⟩
theorem dts_one {w : WT} (h : DT B W0 X c w) : DTs B X [c] w := ⟨pts_one h.pt⟩

abbrev tiW (K : PySem.W.Frag) (B : Bs) (W : WX) (wi : WI) : TI := fun σ H R => ∃ F env Ki Kx, Rl K B F H env σ ∧ wi env Ki Kx ∧ XC K B W Kx ∧ ∀ J env' F' H' ds, Rl K B F' H' env' σ → Fm env σ F H env' F' H' → GoodIt K B J F' ds → Ki env' ds → R J H'
abbrev teW (K : PySem.W.Frag) (B : Bs) (W : WX) (we : WE) : TE := fun σ H Q => ∃ F env Ke Kx, Rl K B F H env σ ∧ we env Ke Kx ∧ XC K B W Kx ∧
    ∀ v env' r F' H', Rl K B F' H' env' σ → Fm env σ F H env' F' H' → Res K B F' H' env' σ v r → Nw H v r → Ke env' r → Q v H'
abbrev ttW (K : PySem.W.Frag) (B : Bs) (ct : WT) : TT := fun σ H Q => ∃ F env Kt, Rl K B F H env σ ∧ ct env Kt NoX ∧ ∀ env' F' H' b, Rl K B F' H' env' σ → Fm env σ F H env' F' H' → Kt env' b → Q b H'
abbrev tgW (K : PySem.W.Frag) (B : Bs) (is : List Nat) (g : WG) : TG := fun v σ H Q => ∃ F env d Kn, Rl K B F H env σ ∧ Rp K F v d ∧ g d env Kn ∧ ∀ σ' env', Rl K B F H env' σ' → Agree is σ σ' → OwnSub env env' → Kn env' → Q σ' H
theorem lc_t {K : PySem.W.Frag} {is vs : List Nat} {σ : St} {F H : Hp} {env : Ev} {Ke : KE} {Kx : KXc} (his : ∀ i ∈ is, i ∈ vs) (nl : ∀ p ∈ B.all, p.1 ∉ vs) (R : Rl K B F H env σ) (h : wLc vs wi g ct we env Ke Kx) (hx : XC K B W Kx) :
    tLc (tiW K B W wi) (tgW K B is g) (ttW K B ct) (teW K B W0 we) vs σ H (fun v H' => ∃ env' r F', Rl K B F' H' env' σ ∧ Fm env σ F H env' F' H' ∧ Res K B F' H' env' σ v r ∧ Nw H v r ∧ Ke env' r) := by
  refine ⟨F, env, _, Kx, R, h, hx, fun J e1 F1 H1 ds R1 f1 good k1 => ?_⟩
  intro D hD
  have RW := R1.wiped (vs := vs) nl
  have fD := R1.freeF hD
  have D0 := R1.free0 hD
  have nD := R1.notOwn hD
  refine ⟨fun i m H2 => m = ds.length - i ∧ i ≤ ds.length ∧ ∃ F2 env2 acc ws, Rl K B F2 H2 env2 (wipe σ vs) ∧ Fm (wipeE e1 vs) (wipe σ vs) F1 H1 env2 F2 H2 ∧ H2 D = some (.lst ws) ∧ F2 D = none ∧ RpAll K F2 ws acc ∧
    wLcE vs g ct we (ds.drop i) acc env2 (fun e2 acc => Ke (restE e1 e2 vs) (.tmp acc)), ⟨ds.length, by simp, Nat.zero_le _, F1, wipeE e1 vs, [], [], RW.other fD D0 fun q => nD (own_wiped q), Fm.refl.other hD, upd_same, fD, .nil, k1⟩, ?_⟩
  rintro i m H2 ⟨rfl, hi', F2, env2, acc, ws, R2, f2, eD, fD2, ra, w2⟩
  have nD2 : ¬ ownAt env2 (wipe σ vs) D := fun q => nD (own_wiped (f2.ownAt q))
  obtain ⟨g1, g2⟩ := good F2 H2 env2 (wipe σ vs) i R2 f2.sub
  by_cases hlt : i < ds.length
  · obtain ⟨h1, h2⟩ := g1 hlt
    refine .inr ⟨h1, fun H3 => ∃ F3 env3 acc3 ws3, Rl K B F3 H3 env3 (wipe σ vs) ∧ Fm (wipeE e1 vs) (wipe σ vs) F1 H1 env3 F3 H3 ∧ H3 D = some (.lst ws3) ∧ F3 D = none ∧ RpAll K F3 ws3 acc3 ∧
      wLcE vs g ct we (ds.drop (i + 1)) acc3 env3 (fun e2 acc => Ke (restE e1 e2 vs) (.tmp acc)), fun H3 ⟨F3, env3, acc3, ws3, z⟩ => ⟨ds.length - (i + 1), by omega, rfl, hlt, F3, env3, acc3, ws3, z⟩, fun x H3 y => ?_⟩
    obtain ⟨F3, d, R3, f3, e3, rp⟩ := h2 x H3 y
    have hd : ds.drop i = d :: ds.drop (i + 1) := by
      rw [List.drop_eq_getElem_cons hlt]
      rw [List.getElem?_eq_getElem hlt] at e3
      cases e3
      rfl
    rw [hd] at w2
    have ff3 := f2.trans f3
    have eD3 : H3 D = some (.lst ws) := f3.keep D _ eD nD2
    have fD3 : F3 D = none := by
      cases z : F3 D with
      | none => rfl
      | some x =>
        rcases f3.new D x z with y | y | y
        · rw [fD2] at y; cases y
        · exact (y.lst eD).elim
        · exact absurd y nD2
    refine ⟨F3, env2, d, _, R3, rp, w2, fun σ4 env4 R4 ag os4 w4 => ?_⟩
    have ew : wipe σ4 vs = wipe σ vs := by
      have e := wipe_agree (vs := vs) (σ := wipe σ vs) (σ' := σ4) (fun j hj => ag.2 j fun z => hj (his j z)) ag.1
      rw [e]
      exact wipe_agree (fun j hj => wipe_out hj) (wipe_length _ _)
    -- ownership in the turn is ownership ahead of it
    have back : ∀ {a : Addr}, ownAt env4 σ4 a → ownAt env2 (wipe σ vs) a := fun {a} ow => by
      rcases ow with ⟨j, l, es, g1, g2⟩ | ⟨j, kv, g1, g2⟩
      · have g3 := os4.1 j l es g1
        obtain ⟨b, bs, g4, _⟩ := R2.ownSl g3
        have hj : j ∉ vs := fun z => by
          cases wipe_in z _ g4
        rw [ag.2 j fun z => hj (his j z)] at g2
        exact .inl ⟨j, l, es, g3, g2⟩
      · have g3 := os4.2 j kv g1
        have s := R2.sl j
        rw [g3] at s
        obtain ⟨b, g4, _⟩ := s
        have hj : j ∉ vs := fun z => by
          cases wipe_in z _ g4
        rw [ag.2 j fun z => hj (his j z)] at g2
        exact .inr ⟨j, kv, g3, g2⟩
    -- the frame of a turn, the block's names forgotten
    have fin : ∀ {env5 : Ev} {F5 H5 : Hp}, Rl K B F5 H5 env5 σ4 → Fm env4 σ4 F3 H3 env5 F5 H5 → Rl K B F5 H5 (wipeE env5 vs) (wipe σ vs) ∧ Fm env2 (wipe σ vs) F3 H3 (wipeE env5 vs) F5 H5 := fun {env5 F5 H5} R5 f5 => by
      have r5 := R5.wiped (vs := vs) nl
      rw [ew] at r5
      refine ⟨r5, ⟨fun b x e n => f5.keep b x e fun q => n (back q), f5.sub, fun b x e => ?_, fun j l es e => ?_, f5.dom, fun j kv e => ?_⟩⟩
      · rcases f5.new b x e with z | z | z
        · exact .inl z
        · exact .inr (.inl z)
        · exact .inr (.inr (back z))
      · by_cases hj : j ∈ vs
        · cases wipeE_in hj _ e
        · rw [wipeE_out hj] at e
          obtain ⟨ds0, g1⟩ := f5.own j l es e
          exact ⟨ds0, os4.1 j l ds0 g1⟩
      · by_cases hj : j ∈ vs
        · cases wipeE_in hj _ e
        · rw [wipeE_out hj] at e
          obtain ⟨kw, g1⟩ := f5.od j kv e
          exact ⟨kw, os4.2 j kw g1⟩
    have keepD : ∀ {env5 : Ev} {F5 H5 : Hp}, Fm env4 σ4 F3 H3 env5 F5 H5 → H5 D = some (.lst ws) ∧ F5 D = none := fun {env5 F5 H5} f5 => by
      have nD4 : ¬ ownAt env4 σ4 D := fun q => nD2 (back q)
      refine ⟨f5.keep D _ eD3 nD4, ?_⟩
      cases z : F5 D with
      | none => rfl
      | some x =>
        rcases f5.new D x z with y | y | y
        · rw [fD3] at y; cases y
        · exact (y.lst eD3).elim
        · exact absurd y nD4
    refine ⟨ew, F3, env4, _, R4, w4, fun env5 F5 H5 b R5 f5 k5 => ?_⟩
    cases b with
    | false =>
      rw [if_neg Bool.false_ne_true] at k5 ⊢
      obtain ⟨r5, m5⟩ := fin R5 f5
      obtain ⟨d1, d2⟩ := keepD f5
      exact ⟨F5, wipeE env5 vs, acc, ws, r5, ff3.trans m5, d1, d2, RpAll.mono (f3.sub.trans f5.sub) _ _ ra, k5⟩
    | true =>
      rw [if_pos rfl] at k5 ⊢
      refine ⟨F5, env5, _, NoX, R5, k5, fun _ _ _ _ _ _ _ z => z.elim, fun v env6 r F6 H6 R6 f6 q6 n6 ⟨pr, e6, hz, k6⟩ => ?_⟩
      obtain ⟨F7, R7, f7, rp7⟩ := freeze (env2 := pr.1) (d := pr.2) R6 f6 q6 n6 e6
      obtain ⟨r7, m7⟩ := fin R7 (f5.trans f7)
      obtain ⟨d1, d2⟩ := keepD (f5.trans f7)
      have nD7 : ¬ ownAt (wipeE pr.1 vs) (wipe σ vs) D := fun q => nD2 (m7.ownAt q)
      have ra7 := RpAll.mono (f3.sub.trans (f5.trans f7).sub) _ _ ra
      exact ⟨ws, d1, by rw [ra.length]; exact hz, F7, wipeE pr.1 vs, acc ++ [pr.2], ws ++ [v], r7.other d2 D0 nD7, (ff3.trans m7).other hD, upd_same, d2, ra7.append (.cons rp7 .nil), k6⟩
  · rw [List.drop_eq_nil_of_le (by omega)] at w2
    obtain ⟨r1, r2⟩ := Rl.restored R1 R2 f2 nl
    refine .inl ⟨g2 (by omega), restE e1 env2 vs, .tmp acc, F2, r1, f1.trans r2, ⟨D, ws, rfl, eD, fD2, D0, fun q => ?_, ra⟩, fun p e => ?_, w2⟩
    · exact nD (r2.ownAt q)
    · cases e
      cases z : H D with
      | none => rfl
      | some x => exact absurd hD (f1.dom D (by rw [z]; simp))
/-- [elt for tg in iter if ..] -/
theorem de_lc {ifs : List Expr} {scope : Scope} {own : List (Str × Nat)} (hi : DI B W X tg iter wi) (ok : BlkOk X.N X.env.scope scope own) (his : ∀ i ∈ is, i ∈ own.map (·.2)) (nl : ∀ p ∈ B.all, p.1 ∉ own.map (·.2)) (hN : X.N.Nodup)
    (hg : ∀ (s : Shared) (H : Hp) (C : Addr) (cl : List (Str × Addr)) (fp : List Addr), DG B (X.blk s H scope (compEnvC scope cl C X.env) fp) tg is g) (ht : ∀ (s : Shared) (H : Hp) (C : Addr) (cl : List (Str × Addr)) (fp : List Addr), DTs B (X.blk s H scope (compEnvC scope cl C X.env) fp) ifs ct)
    (he : ∀ (s : Shared) (H : Hp) (C : Addr) (cl : List (Str × Addr)) (fp : List Addr), DE B W0 (X.blk s H scope (compEnvC scope cl C X.env) fp) elt we) (hc : X.calm = true := by rfl) (hs : ∀ x, foldedSetIterable iter X.env x = pure x := by intro _; rfl) :
    DE B W X (.ListComp elt [⟨tg, iter, ifs, 0⟩] scope pos) (wLc (own.map (·.2)) wi g ct we) := by
  refine ⟨fun pins s σ F H env Ke Kx I R h hx => ?_⟩
  have pe := pe_lc (pos := pos) (elt := elt) (ifs := ifs) (te := teW X.K B W0 we) (tt := ttW X.K B ct) (g := tgW X.K B is g) hc hN hi.pi ok (fun s H C cl fp => (hg s H C cl fp).pg) (fun s H C cl fp => (ht s H C cl fp).pts) (fun s H C cl fp => (he s H C cl fp).pe) hs
  exact thn (pe.run pins s σ H (fun v H' => ∃ env' r F', Rl X.K B F' H' env' σ ∧ Fm env σ F H env' F' H' ∧ Res X.K B F' H' env' σ v r ∧ Nw H v r ∧ Ke env' r) I (lc_t his nl R h hx)) fun u s1 ⟨v, H', I', rv, env', r, F', h1, h2, h3, h4, h5⟩ => ⟨v, env', r, F', H', I', rv, h1, h2, h3, h4, h5⟩
theorem lc_mono {K : PySem.W.Frag} {tgx : TG} {ttx : TT} {tex : TE} {vs : List Nat} {σ : St} {H : Hp} {Q Q' : VK} (hQ : ∀ v H, Q v H → Q' v H) (h : tLc (tiW K B W wi) tgx ttx tex vs σ H Q) : tLc (tiW K B W wi) tgx ttx tex vs σ H Q' := by
  obtain ⟨F, env, Ki, Kx, R, hw, hx, q⟩ := h
  exact ⟨F, env, Ki, Kx, R, hw, hx, fun J e1 F1 H1 ds R1 f1 g k D hD => let ⟨Wi, w0, hW⟩ := q J e1 F1 H1 ds R1 f1 g k D hD; ⟨Wi, w0, fun i m H w => (hW i m H w).imp (fun ⟨a, b⟩ => ⟨a, hQ _ _ b⟩) id⟩⟩
/-- x = [elt for tg in iter if ..] on one line, x a local -/
theorem ds_setLc (i : Nat) {y : Str} {py spos : Pos} {ifs : List Expr} {scope : Scope} {own : List (Str × Nat)} (hi : DI B W X tg iter wi) (ok : BlkOk X.N X.env.scope scope own) (his : ∀ i ∈ is, i ∈ own.map (·.2)) (nl : ∀ p ∈ B.all, p.1 ∉ own.map (·.2)) (nli : ∀ p ∈ B.all, p.1 ≠ i) (hN : X.N.Nodup)
    (hg : ∀ (s : Shared) (H : Hp) (C : Addr) (cl : List (Str × Addr)) (fp : List Addr), DG B (X.blk s H scope (compEnvC scope cl C X.env) fp) tg is g) (ht : ∀ (s : Shared) (H : Hp) (C : Addr) (cl : List (Str × Addr)) (fp : List Addr), DTs B (X.blk s H scope (compEnvC scope cl C X.env) fp) ifs ct)
    (he : ∀ (s : Shared) (H : Hp) (C : Addr) (cl : List (Str × Addr)) (fp : List Addr), DE B W0 (X.blk s H scope (compEnvC scope cl C X.env) fp) elt we)
    (hy : X.N[i]? = some y := by rfl) (hk : X.env.scope.kind = .function := by rfl) (hyl : X.env.scope.names.lookup y = some .local := by rfl) (hl : (py.line == pos.line) = true := by rfl) (ha : (scope.names.any fun (n, k) => n == y && (k == .local || k == .cell)) = false := by rfl)
    (hc : X.calm = true := by rfl) (hs : ∀ x, foldedSetIterable iter X.env x = pure x := by intro _; rfl) :
    DS B W X (.Assign [.Name y py] (.ListComp elt [⟨tg, iter, ifs, 0⟩] scope pos) spos) (wSet i (wLc (own.map (·.2)) wi g ct we)) := by
  refine ⟨fun pins s σ F H env k I R h hx => ?_⟩
  have ps := ps_setLc (spos := spos) (py := py) (pos := pos) (elt := elt) (ifs := ifs) (te := teW X.K B W0 we) (tt := ttW X.K B ct) (g := tgW X.K B is g) hc hN hy hyl (sw_true hk hyl hl ha) hi.pi ok (fun s H C cl fp => (hg s H C cl fp).pg) (fun s H C cl fp => (ht s H C cl fp).pts) (fun s H C cl fp => (he s H C cl fp).pe) hs
  refine thn (ps.run pins s σ H (endsD X.K B F k) I ?_) fun f s1 h1 => SP.spd h1
  have h' : wLc (own.map (·.2)) wi g ct we env (fun e r => asg i e r k.nx) k.ex := h
  refine lc_mono (fun v H' ⟨env', r, F', g1, g2, g3, g4, g5⟩ => ?_) (lc_t (vs := own.map (·.2)) (is := is) his nl R h' hx)
  have hi2 : i < σ.length := by rw [I.len]; exact (List.getElem?_eq_some_iff.mp hy).1
  obtain ⟨e2, F2, k1, k2, k3⟩ := asg_ok g1 hi2 nli g3 g5
  exact ⟨e2, F2, k1, g2.sub.trans k2, k3⟩

end
end Dl
end L2

/-! The D layer, 11: a def keeps its promise; the law's own end. -/
namespace L2
namespace Dl
open PySem PySem.Spec PyProof.Rows

def slOf : AV → Sl
  | .val d => .val d
  | .own ds => .own true ds
def startEv (n : Nat) (avs : List AV) : Ev := avs.map slOf ++ List.replicate (n - avs.length) .un
/-- the places of the lent ones -/
def lsFrom : Nat → List AV → List Nat
  | _, [] => []
  | i, .val _ :: as => lsFrom (i + 1) as
  | i, .own _ :: as => i :: lsFrom (i + 1) as
def outsOf (env : Ev) : List Nat → Option (List (List PyData))
  | [] => some []
  | i :: is => match env[i]? with
    | some (.own true ds) => (outsOf env is).map (ds :: ·)
    | _ => none
def retV (env : Ev) : Rs → Option Rv
  | .val d => some (.val d)
  | .tmp ds => some (.own ds)
  | .slot i => match env[i]? with
    | some (.val d) => some (.val d)
    | some (.own false ds) => some (.own ds)
    | _ => none
def kenD (ls : List Nat) (Kr : List (List PyData) → Rv → Prop) (Kx : List (List PyData) → XD → Prop) : Ken where
  nx := fun env => ∃ outs, outsOf env ls = some outs ∧ Kr outs (.val .none)
  rt := fun env r => ∃ outs v, outsOf env ls = some outs ∧ retV env r = some v ∧ Kr outs v
  bk := fun _ => False
  ct := fun _ => False
  ex := fun env x => ∃ outs, outsOf env ls = some outs ∧ Kx outs x
section
variable {K : PySem.W.Frag} {B : Bs} {F H : Hp}
theorem lsFrom_len (vs : List V) : ∀ (avs : List AV) (i : Nat) (vs : List V), ArgsR K F H vs avs → (lsFrom i avs).length = (lentAs vs avs).length := by
  intro avs
  induction avs with
  | nil => intro i vs h; cases h; rfl
  | cons a avs ih =>
    intro i vs h
    cases h with
    | @val v vs' d as h1 h2 =>
      have hl : lentAs (v :: vs') (.val d :: avs) = lentAs vs' avs := by cases v <;> rfl
      rw [hl]
      exact ih (i + 1) vs' h2
    | @own a ws vs' ds as h1 h2 h3 h4 =>
      show (lsFrom (i + 1) avs).length + 1 = (lentAs vs' avs).length + 1
      rw [ih (i + 1) vs' h4]
/-- the slots of the parameters at the entry -/
theorem start_sl : ∀ (avs : List AV) (vs : List V) (j : Nat), ArgsR K F H vs avs → slR K F H (avs.map slOf)[j]? (vs.map some)[j]?
  | [], _, _, h => by cases h; trivial
  | .val d :: as, _, 0, h => by
    cases h with
    | @val v _ _ _ h1 h2 => exact ⟨v, rfl, h1⟩
  | .own ds :: as, _, 0, h => by
    cases h with
    | @own a ws _ _ _ h1 h2 h3 h4 => exact ⟨a, ws, rfl, h1, h2, h3⟩
  | .val d :: as, _, j + 1, h => by
    cases h with
    | @val v vs' _ _ h1 h2 => exact start_sl as vs' j h2
  | .own ds :: as, _, j + 1, h => by
    cases h with
    | @own a ws vs' _ _ h1 h2 h3 h4 => exact start_sl as vs' j h4
/-- own slots at the entry are the lent ones -/
theorem start_own : ∀ (avs : List AV) (vs : List V) (i j : Nat) (l : Bool) (ds : List PyData) (a : Addr), ArgsR K F H vs avs → (avs.map slOf)[j]? = some (Sl.own l ds) → (vs.map some)[j]? = some (some (V.ref a)) → l = true ∧ (i + j, a) ∈ (lsFrom i avs).zip (lentAs vs avs)
  | [], _, _, _, _, _, _, h, e, _ => by simp at e
  | .val d :: as, _, i, 0, l, ds, a, h, e, e2 => by simp [slOf] at e
  | .own es :: as, _, i, 0, l, ds, a, h, e, e2 => by
    cases h with
    | @own b ws vs' _ _ h1 h2 h3 h4 =>
      simp only [List.map_cons, slOf, List.getElem?_cons_zero, Option.some.injEq, Sl.own.injEq] at e
      simp only [List.map_cons, List.getElem?_cons_zero, Option.some.injEq, V.ref.injEq] at e2
      subst e2
      exact ⟨e.1.symm, List.mem_cons_self⟩
  | .val d :: as, _, i, j + 1, l, ds, a, h, e, e2 => by
    cases h with
    | @val v vs' _ _ h1 h2 =>
      obtain ⟨g1, g2⟩ := start_own as vs' (i + 1) j l ds a h2 (by simpa using e) (by simpa using e2)
      have hl : lentAs (v :: vs') (.val d :: as) = lentAs vs' as := by cases v <;> rfl
      rw [hl]
      refine ⟨g1, ?_⟩
      have e3 : i + (j + 1) = i + 1 + j := by omega
      rw [e3]
      exact g2
  | .own es :: as, _, i, j + 1, l, ds, a, h, e, e2 => by
    cases h with
    | @own b ws vs' _ _ h1 h2 h3 h4 =>
      obtain ⟨g1, g2⟩ := start_own as vs' (i + 1) j l ds a h4 (by simpa using e) (by simpa using e2)
      refine ⟨g1, ?_⟩
      have e3 : i + (j + 1) = i + 1 + j := by omega
      rw [e3]
      exact List.mem_cons_of_mem _ g2
theorem lent_at : ∀ (avs : List AV) (vs : List V) (i : Nat) (p : Nat × Addr), ArgsR K F H vs avs → p ∈ (lsFrom i avs).zip (lentAs vs avs) → ∃ j, p.1 = i + j ∧ (vs.map some)[j]? = some (some (V.ref p.2))
  | [], _, _, _, h, hp => by cases h; cases hp
  | .val d :: as, _, i, p, h, hp => by
    cases h with
    | @val v vs' _ _ h1 h2 =>
      have hl : lentAs (v :: vs') (.val d :: as) = lentAs vs' as := by cases v <;> rfl
      rw [hl] at hp
      obtain ⟨j, e1, e2⟩ := lent_at as vs' (i + 1) p h2 hp
      exact ⟨j + 1, by omega, by simpa using e2⟩
  | .own ds :: as, _, i, p, h, hp => by
    cases h with
    | @own b ws vs' _ _ h1 h2 h3 h4 =>
      rcases List.mem_cons.mp hp with z | z
      · subst z
        exact ⟨0, rfl, rfl⟩
      · obtain ⟨j, e1, e2⟩ := lent_at as vs' (i + 1) p h4 z
        exact ⟨j + 1, by omega, by simpa using e2⟩
theorem zip_snd_inj : ∀ {is : List Nat} {as : List Addr}, as.Nodup → ∀ {i j : Nat} {a : Addr}, (i, a) ∈ is.zip as → (j, a) ∈ is.zip as → i = j
  | [], _, _, _, _, _, h, _ => by cases h
  | _ :: _, [], _, _, _, _, h, _ => by cases h
  | k :: is, b :: as, nd, i, j, a, h1, h2 => by
    have nd' := List.nodup_cons.mp nd
    have hin : ∀ {i : Nat} {c : Addr}, (i, c) ∈ is.zip as → c ∈ as := fun h => (List.of_mem_zip h).2
    rcases List.mem_cons.mp h1 with z1 | z1
    · cases z1
      rcases List.mem_cons.mp h2 with z2 | z2
      · cases z2; rfl
      · exact absurd (hin z2) nd'.1
    · rcases List.mem_cons.mp h2 with z2 | z2
      · cases z2
        exact absurd (hin z1) nd'.1
      · exact zip_snd_inj nd'.2 z1 z2
theorem start_nodct (avs : List AV) (n i : Nat) (kv : List (List Int × PyData)) (h : (startEv n avs)[i]? = some (Sl.dct kv)) : False := by
  unfold startEv at h
  by_cases hj : i < avs.length
  · rw [List.getElem?_append_left (by simpa using hj), List.getElem?_map] at h
    cases q : avs[i]? with
    | none => rw [q] at h; cases h
    | some a => rw [q] at h; cases a <;> cases h
  · rw [List.getElem?_append_right (by simp; omega)] at h
    simp only [List.length_map, List.getElem?_replicate] at h
    split at h <;> cases h
theorem start_rl {mg : Str → Option Value} {N : List Str} {vs : List V} {avs : List AV} (s : Same F H) (h : ArgsR K F H vs avs) (nd : (lentAs vs avs).Nodup) (hl : avs.length ≤ N.length) :
    Rl K { H0 := H, F0 := F, lent := (lsFrom 0 avs).zip (lentAs vs avs), mg := mg } F H (startEv N.length avs) (start N vs) := by
  have e1 := h.length
  have env_at : ∀ (j : Nat) (l : Bool) (ds : List PyData), (startEv N.length avs)[j]? = some (Sl.own l ds) → j < avs.length ∧ (avs.map slOf)[j]? = some (Sl.own l ds) := fun j l ds q => by
    unfold startEv at q
    by_cases hj : j < avs.length
    · rw [List.getElem?_append_left (by simpa using hj)] at q
      exact ⟨hj, q⟩
    · rw [List.getElem?_append_right (by simp; omega)] at q
      simp only [List.length_map, List.getElem?_replicate] at q
      split at q <;> cases q
  have st_at : ∀ j, j < avs.length → (start N vs)[j]? = (vs.map some)[j]? := fun j hj => by
    unfold start
    rw [List.getElem?_append_left (by simp; omega)]
  refine ⟨?_, s, fun j => ?_, fun i j l m ds es a h1 h2 h3 h4 => ?_, fun _ _ h => h, fun b x q => .inl q, fun b x q _ => q, fun b q => q, fun i ds a h1 h2 => ?_, fun i ds a h1 h2 => ?_, fun p hp => ?_, fun i j kv kw a h1 => (start_nodct avs N.length i kv h1).elim, fun i kv a h1 => (start_nodct avs N.length i kv h1).elim⟩
  · unfold startEv start
    simp only [List.length_append, List.length_map, List.length_replicate]
    omega
  · by_cases hj : j < avs.length
    · rw [st_at j hj]
      unfold startEv
      rw [List.getElem?_append_left (by simpa using hj)]
      exact start_sl avs vs j h
    · unfold startEv
      rw [List.getElem?_append_right (by simp; omega)]
      simp only [List.getElem?_replicate]
      split <;> trivial
  · obtain ⟨l1, g1⟩ := env_at i l ds h1
    obtain ⟨l2, g2⟩ := env_at j m es h2
    rw [st_at i l1] at h3
    rw [st_at j l2] at h4
    have k1 := (start_own avs vs 0 i l ds a h g1 h3).2
    have k2 := (start_own avs vs 0 j m es a h g2 h4).2
    have := zip_snd_inj nd k1 k2
    omega
  · obtain ⟨l1, g1⟩ := env_at i false ds h1
    rw [st_at i l1] at h2
    cases (start_own avs vs 0 i false ds a h g1 h2).1
  · obtain ⟨l1, g1⟩ := env_at i true ds h1
    rw [st_at i l1] at h2
    exact ⟨_, (start_own avs vs 0 i true ds a h g1 h2).2, rfl⟩
  · obtain ⟨j, g1, g2⟩ := lent_at avs vs 0 p h ((List.append_nil _).subst (motive := fun l => p ∈ l) hp)
    have hj : j < avs.length := by
      have := (List.getElem?_eq_some_iff.mp g2).1
      simp at this
      omega
    have e : p.1 = j := by omega
    rw [e, st_at j hj]
    exact g2
/-- the lent lists at the end -/
theorem outs_at {env : Ev} {σ : St} (R : Rl K B F H env σ) : ∀ (is : List Nat) (as : List Addr) (outs : List (List PyData)), is.length = as.length → (∀ p ∈ is.zip as, p ∈ B.lent) → outsOf env is = some outs → OutsR K F H as outs
  | [], [], outs, _, _, e => by
    simp only [outsOf, Option.some.injEq] at e
    subst e
    exact .nil
  | [], _ :: _, _, hl, _, _ => by cases hl
  | _ :: _, [], _, hl, _, _ => by cases hl
  | i :: is, a :: as, outs, hl, hm, e => by
    simp only [outsOf] at e
    split at e
    · rename_i ds e0
      simp only [Option.map_eq_some_iff] at e
      obtain ⟨o, e1, rfl⟩ := e
      obtain ⟨b, ws, g1, g2, g3, g4⟩ := R.ownSl e0
      have g5 := R.lsl (i, a) (List.mem_append_left _ (hm _ List.mem_cons_self))
      rw [g1] at g5
      cases g5
      exact .cons ⟨ws, g2, g3, g4⟩ (outs_at R is as o (by simpa using hl) (fun p hp => hm p (List.mem_cons_of_mem _ hp)) e1)
    · cases e
theorem ret_at {env : Ev} {σ : St} {v : V} {r : Rs} {x : Rv} (R : Rl K B F H env σ) (q : Res K B F H env σ v r) (e : retV env r = some x) : RvR K B.H0 F H v x := by
  cases r with
  | val d =>
    cases e
    exact q
  | tmp ds =>
    cases e
    obtain ⟨p, vs, h1, h2, h3, h4, h5, h6⟩ := q
    exact ⟨p, vs, h1, h2, h3, h4, h6⟩
  | slot i =>
    simp only [retV] at e
    have q' : σ[i]? = some (some v) := q
    split at e
    · rename_i d e0
      cases e
      have s := R.sl i
      rw [e0] at s
      obtain ⟨w, h1, h2⟩ := s
      rw [q'] at h1
      cases h1
      exact h2
    · rename_i ds e0
      cases e
      obtain ⟨a, ws, g1, g2, g3, g4⟩ := R.ownSl e0
      rw [q'] at g1
      cases g1
      exact ⟨a, ws, rfl, g2, g3, R.own0 i ds a e0 q', g4⟩
    · cases e
end
section
variable {P : Program} {w : World} {K : PySem.W.Frag} {mg : Str → Option Value} {base : Heap}
theorem aft_of {F H F' H' : Hp} {vs : List V} {avs : List AV} {env : Ev} {σ : St} {outs : List (List PyData)} (h : ArgsR K F H vs avs) (R : Rl K { H0 := H, F0 := F, lent := (lsFrom 0 avs).zip (lentAs vs avs), mg := mg } F' H' env σ) (e : outsOf env (lsFrom 0 avs) = some outs) :
    Aft K F H (lentAs vs avs) F' H' outs :=
  ⟨R.sub0, R.sub, fun b x q n => R.frm b x q fun p hp z => n (by rw [← z]; exact (List.of_mem_zip hp).2), R.dom, R.new, outs_at R _ _ _ (lsFrom_len vs avs 0 vs h) (fun p hp => hp) e⟩
theorem tk0 {X : Cx} : L2N.Takes X (fun _ _ _ _ => False) := fun u s' ⟨_, _, _, _, _, _, _, _, h⟩ => h.2.2.2.2.2.2.2.2.elim
theorem fun_okN {x qual : Str} {st : Stmt} {f : Addr} {fd : FuncData} {N ps : List Str} {k : Nat} {sp : Sp} (F : Fun K x qual st f fd) (S : FnScope N ps (defScope st)) (len : ∀ vs H Q E, sp vs H Q E → vs.length = ps.length)
    (body : ∀ (cdv : Value) (A : Around) (outer : List Env) (s : Shared) (H : Hp) (vs : List V) (Q : VK) (E : XK), Room k (A.deeper (envOfC qual (defScope st) s.heap.objs.size f cdv)) → sp vs H Q E →
      ∃ t, PSs (cxOf (L2N.CX P w) P w K mg base N qual (defScope st) f cdv A outer s H E) (defBody st) t ∧ t { nx := fun _ H' => Q .non H', rt := Q } (start N vs) H) : FnOk P w K mg base (L2N.CX P w) (k + 1) f fd ps sp := by
  obtain ⟨_, _, _, _, _, _, c, _, _, e, l, h⟩ := F.ex
  subst e
  exact fn_of l h S len fun A outer s H vs Q E r q => body c A outer s H vs Q E r q
/-- THE RULE for a def -/
theorem def_ok {x qual : Str} {st : Stmt} {f : Addr} {fd : FuncData} {N ps : List Str} {k : Nat} (F : Fun K x qual st f fd) (S : FnScope N ps (defScope st)) {ls : List Nat} {spec : Spc} {wb : WS}
    (hbody : ∀ (cdv : Value) (A : Around) (outer : List Env) (s : Shared) (H : Hp) (E : XK) (B : Bs), Room k (A.deeper (envOfC qual (defScope st) s.heap.objs.size f cdv)) → B.mg = mg → B.all.map (·.1) = ls →
      L2N.Takes (cxOf (L2N.CX P w) P w K mg base N qual (defScope st) f cdv A outer s H E) (fun cls d _ H => E cls d H) →
      PassesOwn (model P w) (A.deeper (envOfC qual (defScope st) s.heap.objs.size f cdv)) (envOfC qual (defScope st) s.heap.objs.size f cdv) (cxOf (L2N.CX P w) P w K mg base N qual (defScope st) f cdv A outer s H E).xe →
      DSs B (fun cls d _ H => E cls d H) (cxOf (L2N.CX P w) P w K mg base N qual (defScope st) f cdv A outer s H E) (defBody st) wb)
    (vc : ∀ avs Kr Kx, avs.length = ps.length → spec avs Kr Kx → lsFrom 0 avs = ls ∧ wb (startEv N.length avs) (kenD ls Kr Kx)) : FnOk P w K mg base (L2N.CX P w) (k + 1) f fd ps (low K mg ps.length spec) := by
  refine fun_okN F S (fun vs H Q E h => ?_) (fun cdv A outer s H vs Q E hr h => ?_)
  · obtain ⟨F0, avs, Kr, Kx, h1, h2, h3, h4, h5⟩ := h
    rw [h2.length, h4]
  · obtain ⟨F0, avs, Kr, Kx, h1, h2, h3, h4, h5, h6, h7⟩ := h
    obtain ⟨v1, v2⟩ := vc avs Kr Kx h4 h5
    have hN : avs.length ≤ N.length := by
      rw [h4, ← S.pre, List.length_take]
      exact Nat.min_le_right _ _
    have R0 := start_rl (mg := mg) (N := N) h1 h2 h3 hN
    have hl := lsFrom_len vs avs 0 vs h2
    have bd := hbody cdv A outer s H E { H0 := H, F0 := F0, lent := (lsFrom 0 avs).zip (lentAs vs avs), mg := mg } hr rfl (by show List.map Prod.fst ((lsFrom 0 avs).zip (lentAs vs avs) ++ []) = ls; rw [List.append_nil, ← v1, List.map_fst_zip (by omega)]) (L2N.takes_of rfl rfl rfl rfl) (passes_of rfl)
    refine ⟨_, bd.pss, F0, startEv N.length avs, kenD ls Kr Kx, R0, v2, fun σ env y cls d F' H' ⟨outs, e1, k1⟩ R' xr => ?_, fun σ' env' F' H' R' _ ⟨outs, e1, k1⟩ => ?_, fun v σ' env' r F' H' R' res ⟨outs, rv, e1, e2, k1⟩ => ?_, fun _ _ _ _ _ _ z => z.elim, fun _ _ _ _ _ _ z => z.elim⟩
    · exact h7 outs y cls d F' H' (aft_of h2 R' (by rw [v1]; exact e1)) xr k1
    · exact h6 outs (.val .none) F' H' .non (aft_of h2 R' (by rw [v1]; exact e1)) .non k1
    · exact h6 outs rv F' H' v (aft_of h2 R' (by rw [v1]; exact e1)) (ret_at R' res e2) k1
theorem cal_of {x : Str} {st : Stmt} {qual : Str} {f : Addr} {fd : FuncData} {ps : List Str} {k : Nat} {spec : Spc} (F : Fun K x qual st f fd) (hm : mg x = some (.ref f)) (hb : Binds K fd ps []) (h : FnOk P w K mg base (L2N.CX P w) k f fd ps (low K mg ps.length spec)) : Cal P w K mg base k x ps.length spec :=
  ⟨f, fd, ps, rfl, hm, F.kp, hb, h⟩
theorem Cal.mono {j k n : Nat} {x : Str} {S : Spc} (c : Cal P w K mg base j x n S) (h : j ≤ k) : Cal P w K mg base k x n S := by
  obtain ⟨f, fd, ps, h0, h1, h2, h3, h4⟩ := c
  exact ⟨f, fd, ps, h0, h1, h2, h3, h4.mono h⟩
/-- a weaker promise -/
theorem Cal.imp {k n : Nat} {x : Str} {S S' : Spc} (c : Cal P w K mg base k x n S) (h : ∀ avs Kr Kx, S' avs Kr Kx → S avs Kr Kx) : Cal P w K mg base k x n S' := by
  obtain ⟨f, fd, ps, h0, h1, h2, h3, h4⟩ := c
  exact ⟨f, fd, ps, h0, h1, h2, h3, h4.imp fun vs H Q E ⟨F, avs, Kr, Kx, g1, g2, g3, g4, g5, g6⟩ => ⟨F, avs, Kr, Kx, g1, g2, g3, g4, h _ _ _ g5, g6⟩⟩
end
/-- a place that is not lent -/
theorem nl {B : Bs} {ls : List Nat} (h : B.all.map (·.1) = ls) {i : Nat} (n : i ∉ ls) : ∀ p ∈ B.all, p.1 ≠ i := fun p hp e => n (by rw [← h, ← e]; exact List.mem_map_of_mem hp)
theorem nls {B : Bs} {ls : List Nat} (h : B.all.map (·.1) = ls) {vs : List Nat} (n : ∀ i ∈ ls, i ∉ vs) : ∀ p ∈ B.all, p.1 ∉ vs := fun p hp => n _ (by rw [← h]; exact List.mem_map_of_mem hp)

/-! ### the law -/
/-- the law's promise: from a script of at most 63 ints: True -/
def spLaw : Spc := fun avs Kr _ => ∃ ns : List Int, avs = [.val (.list (ns.map .int))] ∧ ns.length ≤ 63 ∧ Kr [] (.val (.bool true))
end Dl
end L2

/-! The D layer, 12: sorted, sets. -/
namespace L2
namespace Dl
open PySem PySem.Spec PyProof.Rows
theorem sqT_mono {K : PySem.W.Frag} {F H : Hp} {a : Addr} {xs : List V} (h : SqT K F a xs) (s : Same F H) : SqT K H a xs := sqT_same s h
def dLe : PyData → PyData → Bool := PySem.W.dataLe false id
def Srts (ds : List PyData) : Prop := PySem.W.AllAlike ds ∧ PySem.W.Sortable ds ∧ ∀ d ∈ ds, SeqAt.shaped d = true
def oSorted : OpN := fun ds K => match ds with
  | [.list xs] => Srts xs ∧ K (.tmp (xs.mergeSort dLe))
  | [.tuple xs] => Srts xs ∧ K (.tmp (xs.mergeSort dLe))
  | _ => False
section
open PySem.Calls PySem.Builtin PySem.Builtin.List
variable {prog : Program} {w : World} {A : Around} {E : Value → Shared → Prop} {s : Shared}
/-- a tuple's items, on a new list -/
theorem collectT {l : Addr} {vs : List Value} {Q : List Value → Shared → Prop} (hl : s.heap.IsTuple l vs.toArray)
    (h : Q vs { s with heap := (s.heap.push (seqObj "list" #[] 0)).update s.heap.objs.size (Obj.mapSeq (· ++ vs.toArray)) }) (hsz : vs.length ≤ sizeLine) :
    wpAny (model prog w) A (collect (.ref l)) Q E s := by
  obtain ⟨o, ho, hc, n, hd⟩ := id hl
  unfold collect
  refine wpAny_bind (wpAny_runValue (codeAny_builtin entry_proto_collect' ?_))
  show wpAny _ _ (do again (.builtin "list.__iadd__" ⟨[← newList [], .ref l], []⟩)) _ _ s
  refine wpAny_bind (wpAny_newList (wpAny_pure ⟨Code.quiet_builtin _ (by decide +kernel), codeAny_builtin entry_list_iadd' ?_⟩))
  show wpAny _ _ (Builtin.List.listExtendWith (.ref s.heap.objs.size) (.ref l) (.ref s.heap.objs.size)) _ _ { s with heap := s.heap.push (seqObj "list" #[] 0) }
  unfold Builtin.List.listExtendWith
  have ho' : (s.heap.push (seqObj "list" #[] 0)).get? l = some o := Heap.get?_push_of_some _ ho
  refine wpAny_bind (wpAny_typeOf (T := "tuple") ⟨o, ho', hc⟩ ?_)
  have ht : (Value.type "tuple" == Value.type "tuple") = true := by rfl
  rw [if_pos (by rw [ht]; simp)]
  refine wpAny_bind (listItems_at ho' hd ?_)
  refine wpAny_bind (listItems_at (xs := #[]) (n := 0) (Heap.get?_push_size _ rfl) rfl ?_)
  rw [if_neg (by simp)]
  refine wpAny_bind (listUpdate_at (xs := #[]) (n := 0) (Heap.get?_push_size _ rfl) rfl ?_ (Nat.zero_le _) (by show (#[] ++ vs.toArray).size ≤ sizeLine + 1; simp only [Array.size_append, List.size_toArray, List.length_nil]; omega))
  refine wpAny_pure ?_
  show wpAny (model prog w) A (do
      let o ← load s.heap.objs.size
      match o.data with
      | .seq xs _ => pure xs.toList
      | _ => unsupported "internal:collect") Q E { s with heap := (s.heap.push (seqObj "list" #[] 0)).update s.heap.objs.size (Obj.mapSeq (· ++ vs.toArray)) }
  refine wpAny_bind (wpAny_load (get?_update_seq (Heap.get?_push_size _ rfl) _) ?_)
  show wpAny _ _ (pure ((#[] : Array Value) ++ vs.toArray).toList) Q E _
  rw [show ((#[] : Array Value) ++ vs.toArray).toList = vs by simp]
  exact wpAny_pure h
/-- sorted(xs), xs a tuple -/
theorem sortedT {l : Addr} {vs : List Value} {ds : List PyData} {R : Value → PyData → Prop} {Q : Value → Shared → Prop} (hl : s.heap.IsTuple l vs.toArray) (e : PySem.W.EachIs R vs ds) (er : PySem.W.EachIs (fun v b => ∃ as, Reads s.heap v b as) vs ds) (hal : PySem.W.AllAlike ds) (hk : PySem.W.Sortable ds) (hL : ds.length ≤ sizeLine)
    (hu : ∀ b, b ∈ ds → A.units + 2 + b.depth < cLine) (h : ∀ out, out.length = ds.length → PySem.W.EachIs R out (ds.mergeSort (PySem.W.dataLe false id)) → Q (.ref (s.heap.objs.size + 1)) { s with heap := sortedAll s.heap vs (List.toArray out) }) :
    wpAny (model prog w) A (call (.builtin "sorted") [.ref l]) Q E s := by
  have hL2 : vs.length ≤ sizeLine := by rw [e.length]; exact hL
  have er' : PySem.W.EachIs (fun v b => ∃ as, Reads (PySem.W.sortingHeap (PySem.W.copyHeap s.heap vs) (s.heap.objs.size + 1) vs) v (id b) as) vs ds := er.mono fun _ _ ⟨as, r⟩ => ⟨as, PyProof.Rows.Reads.keeps (fun _ _ => PySem.W.sorting_copy_old) r⟩
  refine call_function_entry_kw kind_sorted plain_sorted entry_sorted (args_sorted1 _) ?_
  unfold Builtin.«sorted»
  refine wpAny_bind (m := checkCount "sorted" 1 1 _) (wpAny_pure ?_)
  refine wpAny_bind (collectT hl ?_ hL2)
  refine wpAny_bind (wpAny_newList ?_ hL2)
  have hsz : ((s.heap.push (seqObj "list" #[] 0)).update s.heap.objs.size (Obj.mapSeq (· ++ vs.toArray))).objs.size = s.heap.objs.size + 1 := by
    rw [Heap.size_update, size_push']
  show wpAny _ _ _ _ _ { s with heap := PySem.W.copyHeap s.heap vs }
  rw [hsz]
  refine wpAny_bind (wpAny_holding (wpAny_call_entry_kw slot_list_sort ⟨_, PySem.W.copyHeap_at s.heap vs, rfl⟩ entry_list_sort ?body (args_list_sort _)))
  case body =>
    show wpAny (model prog w) A.in1.in1 (Builtin.«list.sort» ⟨[.ref (s.heap.objs.size + 1)], []⟩) _ _ _
    refine wpAny_mono (PySem.W.list_sort_vals (s := { s with heap := PySem.W.copyHeap s.heap vs }) (P := fun f s' => f = .done (.ret .none) ∧ Q (.ref (s.heap.objs.size + 1)) s') (PySem.W.copyHeap_at s.heap vs) (PySem.W.SortsAt.data (s := { s with heap := PySem.W.sortingHeap (PySem.W.copyHeap s.heap vs) (s.heap.objs.size + 1) vs }) (PySem.W.each_map (R := fun v d => ∃ as, Reads (PySem.W.sortingHeap (PySem.W.copyHeap s.heap vs) (s.heap.objs.size + 1) vs) v d as) id er') (by rwa [List.map_id]) (by rwa [List.map_id]) (PySem.W.bound_map hu)) hL2 ⟨rfl, h _ (by rw [PySem.W.sortVals_length false rfl]; exact e.length) (PySem.W.sortVals_data false e er' (by rwa [List.map_id]))⟩) (fun f s' hf => ?_) fun _ _ e => e
    obtain ⟨rfl, hq⟩ := hf
    exact ⟨_, rfl, wpAny_pure ⟨_, rfl, hq⟩⟩
end
section
variable {X : Cx}
theorem each_out {K : PySem.W.Frag} {F : Hp} : ∀ {us : List Value} {ds : List PyData}, PySem.W.EachIs (fun v d => ∃ x, RelV x v ∧ Rp K F x d) us ds → ∃ xs, Vals xs us ∧ RpAll K F xs ds
  | _, _, .nil => ⟨[], .nil, .nil⟩
  | _, _, .cons ⟨x, h1, h2⟩ t => by
    obtain ⟨xs, a, b⟩ := each_out t
    exact ⟨x :: xs, .cons h1 a, .cons h2 b⟩
theorem each_in {K : PySem.W.Frag} {F : Hp} : ∀ {xs : List V} {us : List Value} {ds : List PyData}, Vals xs us → RpAll K F xs ds → PySem.W.EachIs (fun v d => ∃ x, RelV x v ∧ Rp K F x d) us ds
  | [], _, _, .nil, h => by cases h; exact .nil
  | x :: xs, _, _, .cons r t, h => by
    cases h with
    | cons a b => exact .cons ⟨x, r, a⟩ (each_in t b)
theorem each_mem {R : Value → PyData → Prop} {S : Value → PyData → Prop} : ∀ {us : List Value} {ds : List PyData}, (∀ v d, d ∈ ds → R v d → S v d) → PySem.W.EachIs R us ds → PySem.W.EachIs S us ds
  | _, _, _, .nil => .nil
  | _, _, h, .cons a t => .cons (h _ _ List.mem_cons_self a) (each_mem (fun v d m => h v d (List.mem_cons_of_mem _ m)) t)
theorem dcl_sorted (hu : X.A.units + 67 < cLine) : DCl X (.builtin "sorted") oSorted := by
  refine ⟨fun B F env pins s σ H xs us ds Kr I rx R hx q => ?_⟩
  unfold oSorted at q
  split at q
  · rename_i ds
    obtain ⟨⟨q1, q2, q3⟩, q4⟩ := q
    obtain ⟨v, rfl, hv⟩ := hx.one
    obtain ⟨a, vs, rfl, hs, ha⟩ := hv.list R.sub
    obtain ⟨its, rv, hl, hz⟩ := I.list hs
    rw [Vals.ref1 rx]
    have ev : vs.length = ds.length := ha.length
    have e1 := each_in rv ha
    have er : PySem.W.EachIs (fun v b => ∃ as, Reads s.heap v (id b) as) its ds := each_mem (fun v d hd ⟨x, h1, h2⟩ => Dp.reads I _ x v (Rt.dp R.sub (.inl h2) (q3 d hd)) h1) e1
    refine PySem.W.sorted_data (enc := id) (bs := ds) (vs := its) (R := fun v d => ∃ x, RelV x v ∧ Rp X.K F x d) hl.isList e1 er (by rwa [List.map_id]) (by rwa [List.map_id]) (by rw [← ev]; exact hz) (fun b hb => ?_) (fun out ho h1 => ?_)
    · have := SeqAt.depth_of_shaped (q3 b hb)
      show _ + 2 + b.depth < _
      omega
    · obtain ⟨ys, g1, g2⟩ := each_out h1
      obtain ⟨ep, he'⟩ := PyProof.Rows.sortedAll_at s.heap its out.toArray
      have hlen : ys.length ≤ sizeLine := by rw [g2.length, List.length_mergeSort, ← ev]; exact hz
      have hn : H (s.heap.objs.size + 1) = none := I.hok.fresh (Nat.le_succ _)
      obtain ⟨r, F', k1, k2, k3, k4, k5⟩ := new_lst (Kr := Kr) R hn g2 q4
      exact ⟨.ref _, r, F', upd H (s.heap.objs.size + 1) (.lst ys), I.laid (t' := s.toks) (fun _ _ => PyProof.Rows.sortedAll_old) (Nat.le_succ _) ⟨hlen, out, ep, g1, he'⟩, rfl, k1, k2, k3, k4, k5⟩
  · rename_i ds
    obtain ⟨⟨q1, q2, q3⟩, q4⟩ := q
    obtain ⟨v, rfl, hv⟩ := hx.one
    obtain ⟨a, vs, rfl, hs, ha⟩ := hv.tuple R.sub
    obtain ⟨its, rv, hl, hz⟩ := I.tuple hs
    rw [Vals.ref1 rx]
    have ev : vs.length = ds.length := ha.length
    have e1 := each_in rv ha
    have er : PySem.W.EachIs (fun v b => ∃ as, Reads s.heap v (id b) as) its ds := each_mem (fun v d hd ⟨x, h1, h2⟩ => Dp.reads I _ x v (Rt.dp R.sub (.inl h2) (q3 d hd)) h1) e1
    refine sortedT (ds := ds) (vs := its) (R := fun v d => ∃ x, RelV x v ∧ Rp X.K F x d) (show s.heap.IsTuple a its.toArray from hl) e1 er q1 q2 (by rw [← ev]; exact hz) (fun b hb => ?_) (fun out ho h1 => ?_)
    · have := SeqAt.depth_of_shaped (q3 b hb)
      show _ + 2 + b.depth < _
      omega
    · obtain ⟨ys, g1, g2⟩ := each_out h1
      obtain ⟨ep, he'⟩ := PyProof.Rows.sortedAll_at s.heap its out.toArray
      have hlen : ys.length ≤ sizeLine := by rw [g2.length, List.length_mergeSort, ← ev]; exact hz
      have hn : H (s.heap.objs.size + 1) = none := I.hok.fresh (Nat.le_succ _)
      obtain ⟨r, F', k1, k2, k3, k4, k5⟩ := new_lst (Kr := Kr) R hn g2 q4
      exact ⟨.ref _, r, F', upd H (s.heap.objs.size + 1) (.lst ys), I.laid (t' := s.toks) (fun _ _ => PyProof.Rows.sortedAll_old) (Nat.le_succ _) ⟨hlen, out, ep, g1, he'⟩, rfl, k1, k2, k3, k4, k5⟩
  · exact q.elim
end
theorem bt_len : bootBuiltins "len" = some (.builtin "len") := by decide +kernel
theorem bt_max : bootBuiltins "max" = some (.builtin "max") := by decide +kernel
theorem bt_min : bootBuiltins "min" = some (.builtin "min") := by decide +kernel
theorem bt_sum : bootBuiltins "sum" = some (.builtin "sum") := by decide +kernel
theorem bt_all : bootBuiltins "all" = some (.builtin "all") := by decide +kernel
theorem bt_sorted : bootBuiltins "sorted" = some (.builtin "sorted") := by decide +kernel
theorem bt_int : bootBuiltins "int" = some (.type "int") := by decide +kernel
theorem bt_list : bootBuiltins "list" = some (.type "list") := by decide +kernel
theorem bt_tuple : bootBuiltins "tuple" = some (.type "tuple") := by decide +kernel
theorem bt_bool : bootBuiltins "bool" = some (.type "bool") := by decide +kernel
theorem bt_set : bootBuiltins "set" = some (.type "set") := by decide +kernel
/-- a tuple of ints -/
def tupI (l : List Int) : PyData := .tuple (l.map .int)
def oSortSet (xs : List PyData) (K : Rs → Prop) : Prop := ∃ (L : List (List Int)) (d : Nat) (B : Int), xs = L.map tupI ∧ 1 ≤ d ∧ (∀ l ∈ L, l.length = d ∧ TS.Bd B l) ∧ L.length < 64 ∧
  ∀ M : List (List Int), M.Nodup → (∀ l, l ∈ M ↔ l ∈ L) → M.Pairwise (fun x y => TS.code B x ≤ TS.code B y) → K (.tmp (M.map tupI))
/-- an empty set -/
abbrev sO (w : World) : Obj := { cls := .type "set", dict := none, data := .set #[] 0 (.fresh 0 0 (!w.params.followText "set-order")) }
/-- set(xs), xs a tuple of tuples of ints -/
theorem set_tupT {P : Program} {w : World} {A : Around} {E : Value → Shared → Prop} {s : Shared} {l : Addr} {items : Array Value} (ks : List (Addr × List Int)) {Q : Value → Shared → Prop} (hh : A.handled = none) (hl : s.heap.IsTuple l items) (hit : items.toList = ks.map fun p => Value.ref p.1)
    (hk : ∀ p ∈ ks, IsT P w s.heap p.2 p.1) (hfew : ks.length < 64) (hu : A.units + 3 < cLine)
    (h : ∀ (h' : Heap) (tk : Nat) L es ep t, SetTR P w h' s.heap.objs.size L es ep t → Got ks ks.length L → (∀ b o, s.heap.get? b = some o → h'.get? b = some o) → Q (.ref s.heap.objs.size) { s with heap := h', toks := tk }) :
    wpAny (model P w) A (call (.type "set") [.ref l]) Q E s := by
  have hisz : items.size = ks.length := by
    have q := congrArg List.length hit
    rwa [Array.length_toList, List.length_map] at q
  obtain ⟨c, tl, hmro⟩ := F.called_set.mro
  have hmade := F.called_set.made
  have hsub := F.called_set.sub
  refine wpAny_call (codeAny_of_tree ?_)
  show wpAny _ _ (callAny (.type "set") _) _ _ _
  refine wpAny_pure ⟨Code.quiet_builtin _ (by decide +kernel), codeAny_builtin F.entry_type_call ?_⟩
  rw [Around.under_plain (weight_type_call_type "set" [.ref l] []) rfl]
  have h1 := F.called_set.notType
  have h2 := F.called_set.canCreate
  have hct := F.typeCall_set_1 (.ref l)
  repeat (any_goals (first | assumption | wp_step))
  refine codeAny_mono (code_set_led1 (.ref l) (E := E) (Q₁ := fun obj s₁ => obj = .ref s.heap.objs.size ∧ s₁ = { s with heap := s.heap.push (sO w) }) ⟨rfl, rfl⟩) fun r s₁ hr => ?_
  cases r with
  | error e => exact hr
  | ok fl =>
    cases fl with
    | ret obj =>
      obtain ⟨rfl, rfl⟩ := hr
      have hS : (s.heap.push (sO w)).get? s.heap.objs.size = some (sO w) := Heap.get?_push_size _ rfl
      have hT : Shared.TypeIs { s with heap := s.heap.push (sO w) } (.ref s.heap.objs.size) "set" := ⟨_, hS, rfl⟩
      have hli := F.called_set.init.lookup
      have hbi := F.called_set.init.bind (.ref s.heap.objs.size)
      repeat (any_goals (first | assumption | wp_step))
      refine codeAny_mono (codeAny_call_builtin (R := wants (fun r s₂ => r = .none ∧ ∃ h' tk L es ep t, s₂ = { s with heap := h', toks := tk } ∧ SetTR P w h' s.heap.objs.size L es ep t ∧ Got ks ks.length L ∧
          (∀ b o, s.heap.get? b = some o → h'.get? b = some o)) E) F.called_set.init.plain F.entry_set_init (check_set_init_1 hT ?_)) fun r₂ s₂ hr₂ => ?_
      · obtain ⟨ol, hol, hcl, nl, hdl⟩ := hl
        obtain ⟨ocls, odict, odata, oslots⟩ := ol
        simp only at hcl hdl
        subst hcl; subst hdl
        have hol' : (s.heap.push (sO w)).get? l = some { cls := .type "tuple", dict := odict, data := .seq items nl, slots := oslots } := Heap.get?_push_of_some _ hol
        have hsls := F.sub_tuple_set
        have hslf := F.sub_tuple_frozenset
        have hne : (Value.type "tuple" == Value.type "dict") = false := by decide
        have hl1 : (s.heap.push (sO w)).IsTuple l items := ⟨_, hol', rfl, nl, rfl⟩
        unfold Builtin.«set.__init__» noKeywords Builtin.Frozenset.updateFrom
        generalize hPI : pyIter = PI
        wp_walk
        subst hPI
        refine wpAny_pyIter_tuple hl1 ?_
        refine wpAny_bind (wpAny_runValue ?_)
        have hlS : l < s.heap.objs.size := Heap.lt_size hol
        have hh3 : A.in1.in1.in1.handled = none := by simp [hh]
        have hz1 : (s.heap.push (sO w)).objs.size = s.heap.objs.size + 1 := Heap.size_push ..
        have hneI : l ≠ (s.heap.push (sO w)).objs.size := by rw [Heap.size_push]; exact Nat.ne_of_lt (Nat.lt_succ_of_lt hlS)
        have hSf : s.heap.objs.size ∉ [(s.heap.push (sO w)).objs.size, l] := by
          rw [Heap.size_push]; simp only [List.mem_cons, List.mem_singleton, List.not_mem_nil, or_false, not_or]
          exact ⟨Nat.ne_of_lt (Nat.lt_succ_self _), Nat.ne_of_gt hlS⟩
        have hval : ∀ (i : Nat) (v : Value), items[i]? = some v → ∃ p, ks[i]? = some p ∧ v = .ref p.1 := fun i v hv => by
          have q : items.toList[i]? = some v := by rw [Array.getElem?_toList]; exact hv
          rw [hit, List.getElem?_map] at q
          cases hq : ks[i]? with
          | none => rw [hq] at q; cases q
          | some p =>
            rw [hq] at q
            exact ⟨p, rfl, (Option.some.inj q).symm⟩
        have none_of : ∀ b, s.heap.objs.size ≤ b → s.heap.get? b = none := fun b hb => by
          cases q : s.heap.get? b with
          | none => rfl
          | some o => exact absurd (Nat.lt_of_lt_of_le (Heap.lt_size q) hb) (Nat.lt_irrefl _)
        refine set_update_tups ((Walks.tuple hh3 _ l hneI items).toS) s.heap.objs.size
          hSf ks hisz hfew hval s.heap hk (none_of _ (Nat.le_refl _)) (fun b hb => none_of b (by
            rw [List.mem_singleton.mp hb, Heap.size_push]
            exact Nat.le_succ _)) hu (items.size - 0) 0 _ (by omega) (Nat.zero_le _)
          ⟨⟨_, Heap.get?_push_size _ rfl, rfl, rfl⟩, (hl1.push _)⟩ (fun b o e => Heap.get?_push_of_some _ (Heap.get?_push_of_some _ e)) ?hS0 ?hR
        case hS0 => exact ⟨[], #[], 0, _, setTR_fresh (Heap.get?_push_of_some _ hS), Got.zero ks⟩
        case hR =>
          intro s' L es ep t hm hS' g' hkp
          obtain ⟨h', g2, d', tk', os'⟩ := s'
          have eg : g2 = s.gens := hm.gens
          have ed : d' = s.drawn := hm.drawn
          have eo : os' = s.os := hm.os
          subst eg; subst ed; subst eo
          show wpAny _ _ _ _ _ _
          refine wpAny_pure ?_
          show wpAny _ _ (ret Value.none) _ _ _
          rw [hisz] at g'
          exact wpAny_pure ⟨rfl, h', tk', L, es, ep, t, rfl, hS', g', hkp⟩
      · cases r₂ with
        | error e => exact hr₂
        | ok fl₂ =>
          cases fl₂ with
          | ret r =>
            obtain ⟨rfl, h', tk, L, es, ep, t, rfl, hS', g', hk'⟩ := hr₂
            repeat (any_goals (first | assumption | wp_step))
            exact h _ _ _ _ _ _ hS' g' hk'
          | _ => exact hr₂.elim
    | _ => exact hr.elim
/-- set(xs), xs a list or a tuple of tuples of ints -/
def rSetLT (K : PySem.W.Frag) (P : Program) (w : World) : List V → Hp → VK → Prop := fun xs H Q => ∃ (l : Addr) (ks : List (Addr × List Int)), xs = [V.ref l] ∧ (SqL K H l (ks.map fun p => V.ref p.1) ∨ SqT K H l (ks.map fun p => V.ref p.1)) ∧ (∀ p ∈ ks, SqT K H p.1 (p.2.map V.int)) ∧ ks.length < 64 ∧
  ∀ a L, H a = none → (∀ p ∈ L, p ∈ ks) → (∀ p ∈ ks, p.2 ∈ L.map (·.2)) → Q (.ref a) (upd H a (SetTO P w a L))
theorem cr_setLT {X : Cx} (hc : X.calm = true) (hu : X.A.units + 64 < cLine) : CallR X (.type "set") (rSetLT X.K X.prog X.w) := by
  intro pins s σ H xs us Q I r h
  obtain ⟨l, ks, rfl, hl | hl, hk, hf, q⟩ := h
  · exact cr_setOfT hc hu pins s σ H [V.ref l] us Q I r ⟨l, ks, rfl, hl, hk, hf, q⟩
  · rw [Vals.ref1 r]
    obtain ⟨its, rv, pl, hz⟩ := I.tuple hl
    have hn : H s.heap.objs.size = none := I.hok.fresh (Nat.le_refl _)
    refine set_tupT (P := X.prog) (w := X.w) ks (I.ok.hd hc) (show s.heap.IsTuple l its.toArray from pl) (by simpa using refs_of_vals rv) (fun p hp => I.isT (hk p hp)) hf (by omega) fun h' tk L es ep t R g k => ?_
    refine ⟨.ref s.heap.objs.size, upd H s.heap.objs.size (SetTO X.prog X.w s.heap.objs.size L), I.laid (t' := tk) k (Nat.le_refl _) (setTO_new R.t0), rfl, q _ L hn (fun p hp => ?_) fun p hp => ?_⟩
    · exact List.mem_of_mem_take (g.sub p hp)
    · exact g.all p (by rw [List.take_length]; exact hp)
def wSortSet (w : WE) : WE := fun env Ke Kx => w env (fun env1 r => ∃ xs, (rd env1 r = some (.list xs) ∨ rd env1 r = some (.tuple xs)) ∧ oSortSet xs (Ke env1)) Kx
section
variable {B : Bs} {W : WX} {X : Cx} {e : Expr} {w : WE} {p p2 q pos : Pos}
theorem tups_at {K : PySem.W.Frag} {F H : Hp} (s : Same F H) : ∀ {vs : List V} {L : List (List Int)}, RpAll K F vs (L.map tupI) → ∃ ks : List (Addr × List Int), vs = ks.map (fun p => V.ref p.1) ∧ L = ks.map (·.2) ∧ ∀ p ∈ ks, ZT F p.1 (p.2.map V.int)
  | _, [], h => by cases h; exact ⟨[], rfl, rfl, fun _ z => nomatch z⟩
  | _, l :: L, h => by
    cases h with
    | cons a b =>
      obtain ⟨ks, rfl, rfl, h3⟩ := tups_at s b
      cases a with
      | @tup ad xs ds oZ h1 hZ h2 =>
        have := h2.ints
        subst this
        exact ⟨(ad, l) :: ks, rfl, rfl, fun p hp => by
          rcases List.mem_cons.mp hp with z | z
          · subst z; exact ⟨_, h1, hZ⟩
          · exact h3 p z⟩
theorem tups_to {K : PySem.W.Frag} {F : Hp} : ∀ {L : List (Addr × List Int)}, (∀ p ∈ L, ZT F p.1 (p.2.map V.int)) → RpAll K F (L.map fun p => V.ref p.1) ((L.map (·.2)).map tupI)
  | [], _ => .nil
  | p :: L, h => .cons (let ⟨_, a, b⟩ := h p List.mem_cons_self; .tup a b (RpAll.of_ints _)) (tups_to fun q hq => h q (List.mem_cons_of_mem _ hq))
theorem de_sortSet (hu : X.A.units + 65 < cLine) (hc : X.calm = true) (hg : Gl X "sorted") (hm : X.mg "sorted" = none) (hg2 : Gl X "set") (hm2 : X.mg "set" = none) (ha : DE B W X e w)
    (na : starEach [e] X.env = (false, eval e X.env) :: starEach [] X.env := by rfl) : DE B W X (.Call (.Name "sorted" p) [.Call (.Name "set" p2) [e] [] q] [] pos) (wSortSet w) := by
  refine ⟨fun pins s σ F H env Ke Kx I R h hx => ?_⟩
  refine Call_ (ld_blt I hg hm bt_sorted ?_)
  refine PyProof.Rows.callWith_builtin1 (PyProof.Rows.args_cons ?_ rfl) rfl rfl
  refine Call_ (ld_blt I hg2 hm2 bt_set ?_)
  refine PyProof.Rows.callWith_type1 (PyProof.Rows.args_cons (thn (ha.run pins s σ F H env _ Kx I R h hx) fun u s1 ⟨v, env1, r, F1, H1, I1, rv, R1, f1, q1, n1, xs, e1, L, d, Bd, exs, hd, hL, hlen, k⟩ => PyProof.Rows.args_nil ?_) na) na rfl
  obtain ⟨a, vs, rfl, hs, hr⟩ : ∃ a vs, v = V.ref a ∧ (SqL X.K H1 a vs ∨ SqT X.K H1 a vs) ∧ RpAll X.K F1 vs xs := by
    rcases e1 with e1 | e1
    · obtain ⟨a, vs, rfl, hs, hr⟩ := (q1.rt R1 e1).list R1.sub
      exact ⟨a, vs, rfl, .inl hs, hr⟩
    · obtain ⟨a, vs, rfl, hs, hr⟩ := (q1.rt R1 e1).tuple R1.sub
      exact ⟨a, vs, rfl, .inr hs, hr⟩
  subst exs
  obtain ⟨ks, rfl, rfl, hk⟩ := tups_at R1.sub hr
  refine thn (cr_setLT hc (by omega) pins s1 σ H1 [.ref a] [u] (fun (y : V) (H2 : Hp) => ∃ (b : Addr) (M : List (Addr × List Int)), H1 b = none ∧ y = V.ref b ∧ H2 = upd H1 b (SetTO X.prog X.w b M) ∧ (∀ p ∈ M, p ∈ ks) ∧ ∀ p ∈ ks, p.2 ∈ M.map (·.2)) I1 (.cons rv .nil)
    ⟨a, ks, rfl, hs, fun p hp => sqT_mono (SqT.ofZ (hk p hp)) R1.sub, by simpa using hlen, fun b M nb hM1 hM2 => ⟨b, M, nb, rfl, rfl, hM1, hM2⟩⟩) fun w s2 ⟨y, H2, I2, ry, b, M, nb, ey, eH, hM1, hM2⟩ => PyProof.Rows.args_nil ?_
  subst ey eH
  have R2 : Rl X.K B F1 (upd H1 b (SetTO X.prog X.w b M)) env1 σ := R1.lay nb
  have f2 : Fm env σ F H env1 F1 (upd H1 b (SetTO X.prog X.w b M)) := f1.trans (fm_lay nb)
  have hk2 : ∀ p ∈ M, ZT F1 p.1 (p.2.map V.int) := fun p hp => hk p (hM1 p hp)
  refine thn (cr_sortedT hc pins s2 σ _ [.ref b] [w] (fun v H' => ∃ r F', Rl X.K B F' H' env1 σ ∧ Fm env1 σ F1 (upd H1 b (SetTO X.prog X.w b M)) env1 F' H' ∧ Res X.K B F' H' env1 σ v r ∧ Nw (upd H1 b (SetTO X.prog X.w b M)) v r ∧ Ke env1 r) I2 (.cons ry .nil)
    ⟨b, M, d, Bd, rfl, upd_same, fun p hp => sqT_mono (SqT.ofZ (hk2 p hp)) R2.sub, hd, fun p hp => hL p.2 (List.mem_map_of_mem (hM1 p hp)), fun L' p pm nd few pw np => ?_⟩) fun w s3 ⟨v, H3, I3, rv3, r, F3, g1, g2, g3, g4, g5⟩ => ?_
  · refine new_lst R2 np (tups_to fun p hp => hk2 p (pm.mem_iff.mp hp)) (k (L'.map (·.2)) nd (fun l => ?_) (List.pairwise_map.mpr pw))
    rw [(pm.map (·.2)).mem_iff]
    constructor
    · intro z
      obtain ⟨p, hp, rfl⟩ := List.mem_map.mp z
      exact List.mem_map_of_mem (hM1 p hp)
    · intro z
      obtain ⟨p, hp, rfl⟩ := List.mem_map.mp z
      exact hM2 p hp
  · exact DP.up f2 ⟨v, env1, r, F3, H3, I3, rv3, g1, g2, g3, g4, g5⟩
end
theorem noCX {P : Program} {w : World} {o : List Env} {H : Hp} {s : Shared} {e : Value} {s' : Shared} (h : L2N.CX P w o H s (fun _ _ _ => False) e s') : False := by
  obtain ⟨_, _, _, _, _, _, _, _, _, _, _, _, z⟩ := h
  exact z
def spTop (K : PySem.W.Frag) : Sp := fun vs H Q _ => ∃ (a : Addr) (ns : List Int), vs = [.ref a] ∧ ns.length ≤ 63 ∧ SqL K H a (ns.map V.int) ∧ ∀ v H', v = .bl true → Q v H'
theorem top_ok {P : Program} {w : World} {K : PySem.W.Frag} {mg : Str → Option Value} {base : Heap} {k : Nat} {f : Addr} {fd : FuncData} {ps : List Str} (h : FnOk P w K mg base (L2N.CX P w) k f fd ps (low K mg 1 spLaw)) : FnOk P w K mg base (L2N.CX P w) k f fd ps (spTop K) :=
  h.imp fun vs H Q E ⟨a, ns, e, hl, hS, q⟩ => by
    subst e
    refine ⟨H, [.val (.list (ns.map .int))], fun outs r => outs = [] ∧ r = .val (.bool true), fun _ _ => False, fun _ _ h => h, .val (.lst hS (RpAll.of_ints ns)) .nil, List.Pairwise.nil, rfl, ⟨ns, rfl, hl, rfl, rfl⟩, fun outs r F' H' v _ hv ⟨_, e⟩ => ?_, fun _ _ _ _ _ _ _ _ z => z.elim⟩
    subst e
    cases (show Rp K F' v (.bool true) from hv)
    exact q _ _ rfl
end Dl
theorem Room.u65 {k : Nat} {A : PySem.Around} (r : Room k A) : A.units + 65 < PySem.cLine := by have := r.un; omega
theorem Room.u67 {k : Nat} {A : PySem.Around} (r : Room k A) : A.units + 67 < PySem.cLine := by have := r.un; omega
end L2

/-! The D layer, 13: what is never come to; chains of comparisons; ranges as lists; zip, enumerate. -/
namespace L2
namespace Dl
open PySem PySem.Spec PyProof.Rows
def wNever : WS := fun _ _ => False
theorem ds_never {B : Bs} {W : WX} {X : Cx} {st : Stmt} : DS B W X st wNever := ⟨fun _ _ _ _ _ _ _ _ _ h _ => h.elim⟩
/-- the reading of a whole chain: a value -/
def wChain (o o' : Op2) (wa wb wc : WE) : WE := fun env Ke Kx => wa env (fun e1 r1 => wb e1 (fun e2 r2 => rdK e2 r1 fun d1 => rdK e2 r2 fun d2 => o d1 d2 (fun r3 => ∃ k, r3 = .val (.bool k) ∧
  if k = true then wc e2 (fun e4 r4 => rdK e4 r2 fun d3 => rdK e4 r4 fun d4 => o' d3 d4 (Ke e4)) Kx else Ke e2 (.val (.bool false)))) Kx) Kx
section
variable {B : Bs} {W : WX} {X : Cx} {pos : Pos} {a b c : Expr} {wa wb wc : WE}
/-! ranges as lists, tuples -/
def rgD (i j : Int) : List PyData := (List.range (j - i).toNat).map fun (m : Nat) => PyData.int (i + m)
def rgK (i j : Int) (K : List PyData → Prop) : Prop := RgOk i j ∧ K (rgD i j)
def wLR1 (tup : Bool) (w : WE) : WE := fun env Ke Kx => w env (fun e r => ∃ j, r = .val (.int j) ∧ rgK 0 j fun ds => Ke e (if tup = true then .val (.tuple ds) else .tmp ds)) Kx
def wLR2 (tup : Bool) (wa wb : WE) : WE := fun env Ke Kx => wa env (fun e1 r1 => wb e1 (fun e2 r2 => ∃ i, r1 = .val (.int i) ∧ ∃ j, r2 = .val (.int j) ∧ rgK i j fun ds => Ke e2 (if tup = true then .val (.tuple ds) else .tmp ds)) Kx) Kx
theorem rgRp {K : PySem.W.Frag} {F : Hp} (i j : Int) : RpAll K F (rgV i j) (rgD i j) := by
  have : ∀ l : List Nat, RpAll K F (l.map fun (m : Nat) => V.int (i + (m : Nat))) (l.map fun (m : Nat) => PyData.int (i + m)) := by
    intro l
    induction l with
    | nil => exact .nil
    | cons x l ih => exact .cons (.int _) ih
  exact this _
theorem de_lstR2 {p q pos2 : Pos} (hc : X.calm = true) (hg : Gl X "list") (hm : X.mg "list" = none) (hg2 : Gl X "range") (hm2 : X.mg "range" = none) (ha : DE B W X a wa) (hb : DE B W X b wb)
    (na : starEach [a, b] X.env = (false, eval a X.env) :: starEach [b] X.env := by rfl) (nb : starEach [b] X.env = (false, eval b X.env) :: starEach [] X.env := by rfl) (np : (backTo pos2 (starEach [b] X.env)).any (·.1) = false := by rfl)
    (na2 : starEach [.Call (.Name "range" q) [a, b] [] pos2] X.env = (false, eval (.Call (.Name "range" q) [a, b] [] pos2) X.env) :: starEach [] X.env := by rfl) :
    DE B W X (.Call (.Name "list" p) [.Call (.Name "range" q) [a, b] [] pos2] [] pos) (wLR2 false wa wb) := by
  refine ⟨fun pins s σ F H env Ke Kx I R h hx => ?_⟩
  have pe := pe_listRg (pos := pos) (p := p) hc hg hm (prg_2 (p := q) (pos := pos2) hg2 hm2 ha.pe hb.pe na nb np) na2
  refine thn (pe.run pins s σ H (fun v H' => ∃ env' r F', Rl X.K B F' H' env' σ ∧ Fm env σ F H env' F' H' ∧ Res X.K B F' H' env' σ v r ∧ Nw H v r ∧ Ke env' r) I ?_) fun u s1 ⟨v, H', I', rv, env', r, F', h1, h2, h3, h4, h5⟩ => ⟨v, env', r, F', H', I', rv, h1, h2, h3, h4, h5⟩
  refine ⟨F, env, _, Kx, R, h, hx, fun v env1 r F1 H1 R1 f1 q1 n1 k => ⟨F1, env1, _, Kx, R1, k, hx, fun v2 env2 r2 F2 H2 R2 f2 q2 n2 ⟨i, e1, j, e2, k1, k2⟩ => ?_⟩⟩
  subst e1 e2
  cases (show Rp X.K F1 v (.int i) from q1)
  cases (show Rp X.K F2 v2 (.int j) from q2)
  refine ⟨i, j, rfl, rfl, k1, fun p hp => ?_⟩
  obtain ⟨r, F3, g1, g2, g3, g4, g5⟩ := new_lst (Kr := Ke env2) R2 hp (rgRp i j) k2
  exact ⟨env2, r, F3, g1, (f1.trans f2).trans g2, g3, (g4.up f2.dom).up f1.dom, g5⟩
end
end Dl
end L2

/-! The D layer, 14: x[::-1], {}. -/
namespace L2
namespace Dl
open PySem PySem.Spec PyProof.Rows HT
section
variable {prog : Program} {w : World} {A : Around} {E : Value → Shared → Prop} {s : Shared}
end
/-- x[::-1] of a list, a tuple -/
def rvD (d : PyData) (K : Rs → Prop) : Prop := match d with
  | .list ds => K (.tmp ds.reverse)
  | .tuple ds => K (.val (.tuple ds.reverse))
  | _ => False
def wRev (wa : WE) : WE := fun env Ke Kx => wa env (fun e1 r1 => rdK e1 r1 fun d => rvD d (Ke e1)) Kx
section
variable {B : Bs} {W : WX} {X : Cx} {e : Expr} {w : WE} {pos p2 p3 p4 : Pos} {j : Nat}
/-- a module's whole number -/
theorem de_gint {x : Str} {v : Int} {p : Pos} (hm : ∃ t, X.mg x = some (.int v t)) (hg : Gl X x := by rfl) (hd : (x == ("__debug__" : Str)) = false := by decide) : DE B W X (.Name x p) (wC (.int v)) := by
  obtain ⟨t, h⟩ := hm
  exact de_glob (v := V.int v) hg h (show RelV (V.int v) (Value.int v t) from ⟨t, rfl⟩) (fun _ => .int v) hd
end
end Dl
end L2

/-! The D layer, 15: i in range(..); zip of two lists or two tuples; ranges with a step. -/
/-! zip of a list and a tuple -/
namespace L2
namespace Dl
section
open PySem PySem.Spec PyProof.Rows RZ
open PySem.Sem (wp)
section
variable {prog : Program} {w : World} {A : Around} {E : Value → Shared → Prop} {s : Shared}
theorem zipM_next_item {z TI TO i1 i2 l1 l2 : Addr} {k1 k2 : Nat} {xs ys : Array Value} {x y a b : Value} {Q : Value → Shared → Prop} (D : ZipApart z TI TO i1 i2 l1 l2)
    (hz : IsZip s.heap z TI TO .none) (hTI : IsPair s.heap TI (.ref i1) (.ref i2)) (hTO : IsPair s.heap TO a b)
    (h1 : s.heap.IsListIter i1 l1 k1) (h2 : s.heap.IsTupleIter i2 l2 k2) (hl1 : s.heap.IsList l1 xs) (hl2 : s.heap.IsTuple l2 ys) (hx : xs[k1]? = some x) (hy : ys[k2]? = some y)
    (hQ : ∀ h', IsZip h' z TI TO (rawInt s.heap.objs.size) → IsPair h' TO x y → h'.IsListIter i1 l1 (k1 + 1) → h'.IsTupleIter i2 l2 (k2 + 1) → IsPair h' s.heap.objs.size x y → h'.objs.size = s.heap.objs.size + 1 →
      (∀ c o, c ≠ z → c ≠ TO → c ≠ i1 → c ≠ i2 → s.heap.get? c = some o → h'.get? c = some o) → Q (.ref s.heap.objs.size) { s with heap := h' }) :
    wpAny (model prog w) A (Builtin.«zip.__next__» ⟨[.ref z], []⟩) (fun fin s' => ∃ v, fin = .done (.ret v) ∧ Q v s') E s := by
  show wpAny _ _ (field (.ref z) 2 >>= _) _ _ _
  refine wpAny_bind (wpAny_field hz rfl (x := .bool false) rfl ?_)
  show wpAny _ _ (field (.ref z) 3 >>= _) _ _ _
  refine wpAny_bind (wpAny_field hz rfl (x := .ref TI) rfl ?_)
  refine wpAny_bind (wpAny_seqItems hTI rfl ?_)
  show wpAny _ _ (Builtin.SmallTypes.ownedTupleIsFree (.ref z) >>= _) _ _ _
  refine wpAny_bind ?_
  unfold Builtin.SmallTypes.ownedTupleIsFree
  refine wpAny_bind (wpAny_field hz rfl (x := .none) rfl (wpAny_pure ?_))
  simp only [if_true]
  refine wpAny_bind (wpAny_rule ?_)
  refine wpAny_bind (wpAny_field hz rfl (x := .ref TO) rfl ?_)
  refine wpAny_bind (wpAny_setField_rec hz (by simp) fun h₁ hz₁ hs₁ => ?_)
  replace hz₁ : IsZip h₁ z TI TO .ellipsis := hz₁
  refine wpAny_bind ?_
  simp only [List.zipIdx_cons, List.zipIdx_nil, List.forIn_cons, List.forIn_nil]

  refine wpAny_bind (wpAny_bind (wpAny_onRaise ?_))
  show wpAny _ _ (Builtin.SmallTypes.nextOf (.ref i1) >>= _) _ _ _
  refine wpAny_bind (wpAny_nextOf_list_item (h1.extBut hs₁.extBut D.i1z) (hl1.extBut hs₁.extBut D.l1z) hx fun h₂ h1₂ hs₂ => wpAny_pure ?_)
  have hTO₂ : IsPair h₂ TO a b := hs₂.extBut _ _ D.TOi1 (hs₁.extBut _ _ D.TOz hTO)
  refine wpAny_bind (wpAny_seqItems hTO₂ rfl ?_)
  refine wpAny_bind (wpAny_updateSeq_pair hTO₂ fun h₃ hTO₃ hs₃ => ?_)
  replace hTO₃ : IsPair h₃ TO x b := hTO₃
  refine wpAny_bind (wpAny_letGo (wpAny_pure ?_))

  refine wpAny_bind (wpAny_bind (wpAny_onRaise ?_))
  show wpAny _ _ (Builtin.SmallTypes.nextOf (.ref i2) >>= _) _ _ _
  refine wpAny_bind (nextOf_tuple_item (((h2.extBut hs₁.extBut D.i2z).extBut hs₂.extBut D.i12.symm).extBut hs₃.extBut D.TOi2.symm)
    (((hl2.extBut hs₁.extBut D.l2z).extBut hs₂.extBut D.l2i1).extBut hs₃.extBut D.l2TO) hy fun h₄ h2₄ hs₄ => wpAny_pure ?_)
  have hTO₄ : IsPair h₄ TO x b := hs₄.extBut _ _ D.TOi2 hTO₃
  refine wpAny_bind (wpAny_seqItems hTO₄ rfl ?_)
  refine wpAny_bind (wpAny_updateSeq_pair hTO₄ fun h₅ hTO₅ hs₅ => ?_)
  replace hTO₅ : IsPair h₅ TO x y := hTO₅
  refine wpAny_bind (wpAny_letGo (wpAny_pure (wpAny_pure ?_)))

  refine wpAny_bind (wpAny_seqItems hTO₅ rfl ?_)
  refine wpAny_bind (wpAny_newTuple ?_)
  have hsz : h₅.objs.size = s.heap.objs.size := by rw [hs₅.1, hs₄.1, hs₃.1, hs₂.1, hs₁.1]
  have hz₅ : IsZip h₅ z TI TO .ellipsis := hs₅.extBut _ _ D.TOz.symm (hs₄.extBut _ _ D.i2z.symm (hs₃.extBut _ _ D.TOz.symm (hs₂.extBut _ _ D.i1z.symm hz₁)))
  have hk₅ : ∀ c o, c ≠ z → c ≠ TO → c ≠ i1 → c ≠ i2 → s.heap.get? c = some o → h₅.get? c = some o := fun c o c1 c2 c3 c4 e =>
    hs₅.extBut _ _ c2 (hs₄.extBut _ _ c4 (hs₃.extBut _ _ c2 (hs₂.extBut _ _ c3 (hs₁.extBut _ _ c1 e))))
  have h1₅ : h₅.IsListIter i1 l1 (k1 + 1) := ((h1₂.extBut hs₃.extBut D.TOi1.symm).extBut hs₄.extBut D.i12).extBut hs₅.extBut D.TOi1.symm
  have h2₅ : h₅.IsTupleIter i2 l2 (k2 + 1) := h2₄.extBut hs₅.extBut D.TOi2.symm
  have hzlt : z < h₅.objs.size := Heap.lt_size hz₅
  have hTOlt : TO < h₅.objs.size := Heap.lt_size hTO₅
  have hi1lt : i1 < h₅.objs.size := by obtain ⟨_, e, _⟩ := h1₅; exact Heap.lt_size e
  have hi2lt : i2 < h₅.objs.size := by obtain ⟨_, e, _⟩ := h2₅; exact Heap.lt_size e
  show wpAny _ _ (Builtin.SmallTypes.ownedTupleHandOut (.ref z) (.ref h₅.objs.size) >>= _) _ _ _
  refine wpAny_bind ?_
  unfold Builtin.SmallTypes.ownedTupleHandOut
  have hz₆ : IsZip (h₅.push { cls := .type "tuple", data := .seq #[x, y] }) z TI TO .ellipsis := Heap.get?_push_of_some _ hz₅
  refine wpAny_bind (wpAny_setField_rec hz₆ (by simp) fun h₇ hz₇ hs₇ => ?_)
  replace hz₇ : IsZip h₇ z TI TO (rawInt h₅.objs.size) := hz₇
  refine wpAny_setField_rec hz₇ (by simp) fun h₈ hz₈ hs₈ => ?_
  replace hz₈ : IsZip h₈ z TI TO (rawInt h₅.objs.size) := hz₈
  have up : ∀ c o, c ≠ z → h₅.get? c = some o → h₈.get? c = some o := fun c o c1 e => hs₈.extBut _ _ c1 (hs₇.extBut _ _ c1 (Heap.get?_push_of_some _ e))
  have hT₈ : IsPair h₈ h₅.objs.size x y := hs₈.extBut _ _ (Nat.ne_of_gt hzlt) (hs₇.extBut _ _ (Nat.ne_of_gt hzlt) (Heap.get?_push_size _ rfl))
  have hz8 : h₈.objs.size = h₅.objs.size + 1 := by rw [hs₈.1, hs₇.1, Heap.size_push]
  rw [hsz] at hz₈ hT₈ hz8
  refine wpAny_pure ⟨_, rfl, ?_⟩
  show Q (.ref h₅.objs.size) _
  rw [hsz]
  exact hQ h₈ hz₈ (up _ _ D.TOz hTO₅) (h1₅.at fun o e => up _ o D.i1z e) (h2₅.at fun o e => up _ o D.i2z e) hT₈ hz8 fun c o c1 c2 c3 c4 e => up c o c1 (hk₅ c o c1 c2 c3 c4 e)

theorem zipM_next_end {z TI TO i1 i2 l1 l2 : Addr} {k1 k2 : Nat} {xs ys : Array Value} {a b : Value} {Q : Fin → Shared → Prop} (hh : A.handled = none) (D : ZipApart z TI TO i1 i2 l1 l2)
    (hz : IsZip s.heap z TI TO .none) (hTI : IsPair s.heap TI (.ref i1) (.ref i2)) (hTO : IsPair s.heap TO a b)
    (h1 : s.heap.IsListIter i1 l1 k1) (h2 : s.heap.IsTupleIter i2 l2 k2) (hl1 : s.heap.IsList l1 xs) (hl2 : s.heap.IsTuple l2 ys) (hend : xs[k1]? = none ∨ ys[k2]? = none)
    (hE : ∀ h' e, (∀ c o, c ≠ z → c ≠ TO → c ≠ i1 → c ≠ i2 → s.heap.get? c = some o → h'.get? c = some o) → (∃ o, h'.get? e = some o ∧ o.cls = .type "StopIteration") → E (.ref e) { s with heap := h' }) :
    wpAny (model prog w) A (Builtin.«zip.__next__» ⟨[.ref z], []⟩) Q E s := by
  show wpAny _ _ (field (.ref z) 2 >>= _) _ _ _
  refine wpAny_bind (wpAny_field hz rfl (x := .bool false) rfl ?_)
  show wpAny _ _ (field (.ref z) 3 >>= _) _ _ _
  refine wpAny_bind (wpAny_field hz rfl (x := .ref TI) rfl ?_)
  refine wpAny_bind (wpAny_seqItems hTI rfl ?_)
  show wpAny _ _ (Builtin.SmallTypes.ownedTupleIsFree (.ref z) >>= _) _ _ _
  refine wpAny_bind ?_
  unfold Builtin.SmallTypes.ownedTupleIsFree
  refine wpAny_bind (wpAny_field hz rfl (x := .none) rfl (wpAny_pure ?_))
  simp only [if_true]
  refine wpAny_bind (wpAny_rule ?_)
  refine wpAny_bind (wpAny_field hz rfl (x := .ref TO) rfl ?_)
  refine wpAny_bind (wpAny_setField_rec hz (by simp) fun h₁ hz₁ hs₁ => ?_)
  replace hz₁ : IsZip h₁ z TI TO .ellipsis := hz₁
  refine wpAny_bind ?_
  simp only [List.zipIdx_cons, List.zipIdx_nil, List.forIn_cons, List.forIn_nil]
  refine wpAny_bind (wpAny_bind (wpAny_onRaise ?_))
  show wpAny _ _ (Builtin.SmallTypes.nextOf (.ref i1) >>= _) _ _ _
  cases hx : xs[k1]? with
  | none =>
    refine wpAny_bind (wpAny_nextOf_list_end hh (h1.extBut hs₁.extBut D.i1z) (hl1.extBut hs₁.extBut D.l1z) hx fun h₂ e hs₂ he => ?_)
    obtain ⟨oe, hoe, hce⟩ := he
    have hz₂ : IsZip h₂ z TI TO .ellipsis := hs₂ _ _ D.i1z.symm hz₁
    have hez : e ≠ z := fun x => by subst x; rw [hz₂] at hoe; cases hoe; simp at hce
    refine wpAny_setField_rec hz₂ (by simp) fun h₃ _ hs₃ => hE h₃ e (fun c o c1 _ c3 _ x => hs₃.extBut _ _ c1 (hs₂ _ _ c3 (hs₁.extBut _ _ c1 x))) ⟨oe, hs₃.extBut _ _ hez hoe, hce⟩
  | some x =>
    have hy : ys[k2]? = none := by rcases hend with h | h; rw [hx] at h; cases h; exact h
    refine wpAny_bind (wpAny_nextOf_list_item (h1.extBut hs₁.extBut D.i1z) (hl1.extBut hs₁.extBut D.l1z) hx fun h₂ h1₂ hs₂ => wpAny_pure ?_)
    have hTO₂ : IsPair h₂ TO a b := hs₂.extBut _ _ D.TOi1 (hs₁.extBut _ _ D.TOz hTO)
    refine wpAny_bind (wpAny_seqItems hTO₂ rfl ?_)
    refine wpAny_bind (wpAny_updateSeq_pair hTO₂ fun h₃ hTO₃ hs₃ => ?_)
    refine wpAny_bind (wpAny_letGo (wpAny_pure ?_))
    refine wpAny_bind (wpAny_bind (wpAny_onRaise ?_))
    show wpAny _ _ (Builtin.SmallTypes.nextOf (.ref i2) >>= _) _ _ _
    refine wpAny_bind (nextOf_tuple_end hh (((h2.extBut hs₁.extBut D.i2z).extBut hs₂.extBut D.i12.symm).extBut hs₃.extBut D.TOi2.symm)
      (((hl2.extBut hs₁.extBut D.l2z).extBut hs₂.extBut D.l2i1).extBut hs₃.extBut D.l2TO) hy fun h₄ e hs₄ he => ?_)
    obtain ⟨oe, hoe, hce⟩ := he
    have hz₄ : IsZip h₄ z TI TO .ellipsis := hs₄ _ _ D.i2z.symm (hs₃.extBut _ _ D.TOz.symm (hs₂.extBut _ _ D.i1z.symm hz₁))
    have hez : e ≠ z := fun x => by subst x; rw [hz₄] at hoe; cases hoe; simp at hce
    refine wpAny_setField_rec hz₄ (by simp) fun h₅ _ hs₅ => hE h₅ e (fun c o c1 c2 c3 c4 x => hs₅.extBut _ _ c1 (hs₄ _ _ c4 (hs₃.extBut _ _ c2 (hs₂.extBut _ _ c3 (hs₁.extBut _ _ c1 x))))) ⟨oe, hs₅.extBut _ _ hez hoe, hce⟩

theorem pyNext_zipM_item {z TI TO i1 i2 l1 l2 : Addr} {k1 k2 : Nat} {xs ys : Array Value} {x y a b : Value} {Q : Option Value → Shared → Prop} (D : ZipApart z TI TO i1 i2 l1 l2)
    (hz : IsZip s.heap z TI TO .none) (hTI : IsPair s.heap TI (.ref i1) (.ref i2)) (hTO : IsPair s.heap TO a b)
    (h1 : s.heap.IsListIter i1 l1 k1) (h2 : s.heap.IsTupleIter i2 l2 k2) (hl1 : s.heap.IsList l1 xs) (hl2 : s.heap.IsTuple l2 ys) (hx : xs[k1]? = some x) (hy : ys[k2]? = some y)
    (hQ : ∀ h', IsZip h' z TI TO (rawInt s.heap.objs.size) → IsPair h' TO x y → h'.IsListIter i1 l1 (k1 + 1) → h'.IsTupleIter i2 l2 (k2 + 1) → IsPair h' s.heap.objs.size x y → h'.objs.size = s.heap.objs.size + 1 →
      (∀ c o, c ≠ z → c ≠ TO → c ≠ i1 → c ≠ i2 → s.heap.get? c = some o → h'.get? c = some o) → Q (some (.ref s.heap.objs.size)) { s with heap := h' }) :
    wpAny (model prog w) A (pyNext (.ref z)) Q E s := by
  have hT : s.TypeIs (.ref z) "zip" := ⟨_, hz, rfl⟩
  unfold pyNext
  exact wpAny_bind (wpAny_attempt (wpAny_callSpecial?_slot (name := Str.ofString "__next__") hT F.slot_zip_next
    (wpAny_call_entry F.slot_zip_next hT F.entry_zip_next
      (zipM_next_item D hz hTI hTO h1 h2 hl1 hl2 hx hy fun h' a1 a2 a3 a4 a5 a6 a7 => wpAny_pure (hQ h' a1 a2 a3 a4 a5 a6 a7)) (F.args_zip_next_1 _))))

theorem pyNext_zipM_end {z TI TO i1 i2 l1 l2 : Addr} {k1 k2 : Nat} {xs ys : Array Value} {a b : Value} {Q : Option Value → Shared → Prop} (hh : A.handled = none) (D : ZipApart z TI TO i1 i2 l1 l2)
    (hz : IsZip s.heap z TI TO .none) (hTI : IsPair s.heap TI (.ref i1) (.ref i2)) (hTO : IsPair s.heap TO a b)
    (h1 : s.heap.IsListIter i1 l1 k1) (h2 : s.heap.IsTupleIter i2 l2 k2) (hl1 : s.heap.IsList l1 xs) (hl2 : s.heap.IsTuple l2 ys) (hend : xs[k1]? = none ∨ ys[k2]? = none)
    (hQ : ∀ h', (∀ c o, c ≠ z → c ≠ TO → c ≠ i1 → c ≠ i2 → s.heap.get? c = some o → h'.get? c = some o) → Q none { s with heap := h' }) : wpAny (model prog w) A (pyNext (.ref z)) Q E s := by
  have hT : s.TypeIs (.ref z) "zip" := ⟨_, hz, rfl⟩
  unfold pyNext
  refine wpAny_bind (wpAny_attempt (wpAny_callSpecial?_slot (name := Str.ofString "__next__") hT F.slot_zip_next
    (wpAny_call_entry F.slot_zip_next hT F.entry_zip_next (zipM_next_end hh D hz hTI hTO h1 h2 hl1 hl2 hend fun h' e hk he => ?_) (F.args_zip_next_1 _))))
  obtain ⟨o, ho, hc⟩ := he
  refine wpAny_bind (wpAny_isInstance (T := "StopIteration") (b := true) ⟨o, ho, hc⟩ isSubtype_stop ?_)
  exact wpAny_pure (hQ _ hk)
end
abbrev zipMH1 (h : Heap) (l1 : Addr) : Heap := h.push { cls := .type "list_iterator", data := .fields #[.ref l1, .int 0 0] }
abbrev zipMH2 (h : Heap) (l1 l2 : Addr) : Heap := (zipMH1 h l1).push { cls := .type "tuple_iterator", data := .fields #[.ref l2, .int 0 0] }
abbrev zipMH3 (h : Heap) (l1 l2 : Addr) : Heap := (zipMH2 h l1 l2).push { cls := .type "tuple", data := .seq #[.ref h.objs.size, .ref (zipMH1 h l1).objs.size] }
abbrev zipMH4 (h : Heap) (l1 l2 : Addr) : Heap := (zipMH3 h l1 l2).push { cls := .type "tuple", data := .seq #[.none, .none] }
abbrev zipMH5 (h : Heap) (l1 l2 : Addr) : Heap := (zipMH4 h l1 l2).push { cls := .type "zip", data := .fields #[.none, .bool false, .bool false, .ref (zipMH2 h l1 l2).objs.size, .ref (zipMH3 h l1 l2).objs.size] }

theorem meets_zipM_new (l1 l2 : Addr) (xs ys : Array Value) :
    Meets (Builtin.«zip.__new__» ⟨[.type "zip", .ref l1, .ref l2], []⟩) (fun _ R s => s.heap.IsList l1 xs ∧ s.heap.IsTuple l2 ys ∧
      R (.ok (.ret (.ref (zipMH4 s.heap l1 l2).objs.size))) { s with heap := zipMH5 s.heap l1 l2 }) :=
  .of_wp fun prog w A R s h => by
    obtain ⟨hp, g, d, tk, os⟩ := s; obtain ⟨hl1, hl2, h⟩ := h
    have hsub := sub_zip
    have hL1 : Heap.IsList (Shared.heap ⟨hp, g, d, tk, os⟩) l1 xs := hl1
    have hL2 : Heap.IsTuple (Shared.heap ⟨hp.push { cls := .type "list_iterator", data := .fields #[.ref l1, .int 0 0] }, g, d, tk, os⟩) l2 ys := Heap.IsTuple.push hl2 _
    wp_walk using wpAny_pyIter_list hL1, wpAny_pyIter_tuple hL2
    exact ⟨_, rfl, h⟩

section
variable {prog : Program} {w : World} {A : Around} {E : Value → Shared → Prop} {s : Shared}
theorem call_zipM {l1 l2 : Addr} {xs ys : Array Value} {Q : Value → Shared → Prop} (hl1 : s.heap.IsList l1 xs) (hl2 : s.heap.IsTuple l2 ys)
    (h : ∀ h', IsZip h' (s.heap.objs.size + 4) (s.heap.objs.size + 2) (s.heap.objs.size + 3) .none → IsPair h' (s.heap.objs.size + 2) (.ref s.heap.objs.size) (.ref (s.heap.objs.size + 1)) →
      IsPair h' (s.heap.objs.size + 3) .none .none → h'.IsListIter s.heap.objs.size l1 0 → h'.IsTupleIter (s.heap.objs.size + 1) l2 0 → h'.objs.size = s.heap.objs.size + 5 →
      (∀ c o, s.heap.get? c = some o → h'.get? c = some o) → Q (.ref (s.heap.objs.size + 4)) { s with heap := h' }) :
    wpAny (model prog w) A (call (.type "zip") [.ref l1, .ref l2]) Q E s := by
  refine callType_new F.called_zip (by decide) (F.typeCall_zip_2 _ _) (F.newCall_zip_2 _ _) (fun obj => F.args_object_init_3 obj _ _) F.entry_zip_new
    (meets_zipM_new l1 l2 xs ys) ⟨hl1, hl2, ?_⟩
  have z1 : (zipMH1 s.heap l1).objs.size = s.heap.objs.size + 1 := Heap.size_push ..
  have z2 : (zipMH2 s.heap l1 l2).objs.size = s.heap.objs.size + 2 := by rw [Heap.size_push, z1]
  have z3 : (zipMH3 s.heap l1 l2).objs.size = s.heap.objs.size + 3 := by rw [Heap.size_push, z2]
  have z4 : (zipMH4 s.heap l1 l2).objs.size = s.heap.objs.size + 4 := by rw [Heap.size_push, z3]
  have z5 : (zipMH5 s.heap l1 l2).objs.size = s.heap.objs.size + 5 := by rw [Heap.size_push, z4]
  have g5 : (zipMH5 s.heap l1 l2).get? (zipMH4 s.heap l1 l2).objs.size = some _ := Heap.get?_push_size _ rfl
  have g4 : (zipMH5 s.heap l1 l2).get? (zipMH3 s.heap l1 l2).objs.size = some _ := Heap.get?_push_of_some _ (Heap.get?_push_size _ rfl)
  have g3 : (zipMH5 s.heap l1 l2).get? (zipMH2 s.heap l1 l2).objs.size = some _ := Heap.get?_push_of_some _ (Heap.get?_push_of_some _ (Heap.get?_push_size _ rfl))
  have g2 : (zipMH5 s.heap l1 l2).get? (zipMH1 s.heap l1).objs.size = some _ := Heap.get?_push_of_some _ (Heap.get?_push_of_some _ (Heap.get?_push_of_some _ (Heap.get?_push_size _ rfl)))
  have g1 : (zipMH5 s.heap l1 l2).get? s.heap.objs.size = some _ := Heap.get?_push_of_some _ (Heap.get?_push_of_some _ (Heap.get?_push_of_some _ (Heap.get?_push_of_some _ (Heap.get?_push_size _ rfl))))
  show _ ∧ _
  rw [z2, z3, z4] at g5
  rw [z1, z2] at g3
  rw [z3] at g4
  rw [z1] at g2
  rw [z4]
  exact ⟨⟨_, g5, rfl⟩, h _ g5 g3 g4 ⟨_, g1, rfl, rfl⟩ ⟨_, g2, rfl, rfl⟩ z5 fun c o x =>
    Heap.get?_push_of_some _ (Heap.get?_push_of_some _ (Heap.get?_push_of_some _ (Heap.get?_push_of_some _ (Heap.get?_push_of_some _ x))))⟩
end
/-- the list at a, the tuple at b, as they stand at each turn, the items in new pairs -/
def ItzM (K : PySem.W.Frag) (a b : Addr) : It :=
  ⟨fun i H => ∃ (xs ys : List V) (x y : V), SqL K H a xs ∧ SqT K H b ys ∧ xs[i]? = some x ∧ ys[i]? = some y,
    fun i H v H' => ∃ T x y, ∃ o : Obj, v = .ref T ∧ H T = none ∧ o.dict = none ∧ H' = upd H T (.frz o (.tup [x, y])) ∧ (∀ xs, SqL K H a xs → xs[i]? = some x) ∧ ∀ ys, SqT K H b ys → ys[i]? = some y,
    fun i H => ∃ xs ys : List V, SqL K H a xs ∧ SqT K H b ys ∧ (xs.length ≤ i ∨ ys.length ≤ i)⟩
theorem turn_zipM {P : Program} {w : World} {K : PySem.W.Frag} {elts : List Expr} {kk : Nat} {tpos : Pos} {a b z TI TO i1 i2 : Addr} (D : ZipApart z TI TO i1 i2 a b) :
    Turn P w K (.Tuple elts kk tpos) (ItzM K a b) [z, TI, TO, i1, i2] z (fun i h => IsZip h z TI TO .none ∧ IsPair h TI (.ref i1) (.ref i2) ∧ (∃ x y, IsPair h TO x y) ∧ h.IsListIter i1 a i ∧ h.IsTupleIter i2 b i) where
  mem := by simp
  obj := fun i h st c hc => by
    obtain ⟨hz, hTI, ⟨x, y, hTO⟩, ⟨o1, e1, _, d1⟩, ⟨o2, e2, _, d2⟩⟩ := st
    have e' : c = z ∨ c = TI ∨ c = TO ∨ c = i1 ∨ c = i2 := by simpa using hc
    rcases e' with q | q | q | q | q
    · rw [q]; exact ⟨_, hz, fun v q => nomatch q⟩
    · rw [q]; exact ⟨_, hTI, fun v q => nomatch q⟩
    · rw [q]; exact ⟨_, hTO, fun v q => nomatch q⟩
    · rw [q]; exact ⟨o1, e1, fun v q => by rw [d1] at q; cases q⟩
    · rw [q]; exact ⟨o2, e2, fun v q => by rw [d2] at q; cases q⟩
  keep := fun i h h' st k => by
    obtain ⟨hz, hTI, ⟨x, y, hTO⟩, h1, h2⟩ := st
    exact ⟨k z (by simp) _ hz, k TI (by simp) _ hTI, ⟨x, y, k TO (by simp) _ hTO⟩, h1.at fun o q => k i1 (by simp) o q, h2.at fun o q => k i2 (by simp) o q⟩
  item := by
    intro X hP hw hK hc i pins s σ H E I hf st hg
    subst hP hw hK
    obtain ⟨hz, hTI, ⟨x0, y0, hTO⟩, h1, h2⟩ := st
    obtain ⟨xs, ys, x, y, hqx, hqy, hx, hy⟩ := hg
    obtain ⟨its, rv, p, _⟩ := I.list hqx
    obtain ⟨its2, rv2, p2, _⟩ := I.tuple hqy
    obtain ⟨u, hu, ru⟩ := rv.get hx
    obtain ⟨u2, hu2, ru2⟩ := rv2.get hy
    have hzl : z < s.heap.objs.size := Heap.lt_size hz
    refine pyNext_zipM_item D hz hTI hTO h1 h2 p.isList p2 (x := u) (y := u2) (by simpa using hu) (by simpa using hu2) fun h' z' TO' h1' h2' hT hsz hk => ?_
    refine ⟨_, rfl, wpAny_letOwnedTupleGo_zip (s := { s with heap := h' }) z' fun h'' z'' sb => ?_⟩
    have hT2 : h''.get? s.heap.objs.size = some { cls := .type "tuple", data := .seq #[u, u2] } := (sb.2 _ (Nat.ne_of_gt hzl)).trans hT
    have new : ObjOk X.prog X.w (upd H s.heap.objs.size (.frz { cls := .type "tuple", data := .seq #[u, u2] } (.tup [x, y]))) h'' s.heap.objs.size (.frz { cls := .type "tuple", data := .seq #[u, u2] } (.tup [x, y])) :=
      ⟨hT2, by show 2 ≤ sizeLine; decide, [u, u2], .cons ru (.cons ru2 .nil), ⟨_, hT2, rfl, _, rfl⟩⟩
    have I1 : Inv X pins σ (upd H s.heap.objs.size (.frz { cls := .type "tuple", data := .seq #[u, u2] } (.tup [x, y]))) { s with heap := h'' } :=
      I.turnedNew (t' := s.toks) (ch := [z, TI, TO, i1, i2]) (fun c o hb q => (sb.2 c (fun q' => hb (by simp [q']))).trans (hk c o (fun q' => hb (by simp [q'])) (fun q' => hb (by simp [q'])) (fun q' => hb (by simp [q'])) (fun q' => hb (by simp [q'])) q)) hf (Nat.le_refl _) new
    refine ⟨.ref s.heap.objs.size, _, I1, rfl, ⟨_, x, y, _, rfl, I.hok.fresh (Nat.le_refl _), rfl, rfl, fun l hl => by rw [I.list_inj hl hqx]; exact hx, fun l hl => by rw [I.tuple_inj hl hqy]; exact hy⟩, ⟨z'', ?_, ⟨u, u2, ?_⟩, ?_, ?_⟩, fun c hcm => ?_⟩
    · exact (sb.2 _ D.TIz).trans (hk _ _ D.TIz D.TITO D.TIi1 D.TIi2 hTI)
    · exact (sb.2 _ D.TOz).trans TO'
    · exact h1'.at fun o q => (sb.2 _ D.i1z).trans q
    · exact h2'.at fun o q => (sb.2 _ D.i2z).trans q
    · have hlt : c < s.heap.objs.size := by
        have e' : c = z ∨ c = TI ∨ c = TO ∨ c = i1 ∨ c = i2 := by simpa using hcm
        rcases e' with q | q | q | q | q
        · rw [q]; exact hzl
        · rw [q]; exact Heap.lt_size hTI
        · rw [q]; exact Heap.lt_size hTO
        · rw [q]; obtain ⟨_, e1, _⟩ := h1; exact Heap.lt_size e1
        · rw [q]; obtain ⟨_, e2, _⟩ := h2; exact Heap.lt_size e2
      rw [upd_ne (Nat.ne_of_lt hlt)]
      exact (hf c hcm).1
  done := by
    intro X hP hw hK hc i pins s σ H E I hf st hg
    subst hP hw hK
    obtain ⟨hz, hTI, ⟨x0, y0, hTO⟩, h1, h2⟩ := st
    obtain ⟨xs, ys, hqx, hqy, hend⟩ := hg
    obtain ⟨its, rv, p, _⟩ := I.list hqx
    obtain ⟨its2, rv2, p2, _⟩ := I.tuple hqy
    have l1 := rv.length
    have l2 := rv2.length
    have he : its.toArray[i]? = none ∨ its2.toArray[i]? = none := by
      rcases hend with q | q
      · exact .inl (by simp; omega)
      · exact .inr (by simp; omega)
    exact pyNext_zipM_end (I.ok.hd hc) D hz hTI hTO h1 h2 p.isList p2 he fun h' hk => ⟨rfl, I.turnedL (t' := s.toks) (ch := [z, TI, TO, i1, i2]) (fun c o hb q =>
      hk c o (fun q' => hb (by simp [q'])) (fun q' => hb (by simp [q'])) (fun q' => hb (by simp [q'])) (fun q' => hb (by simp [q'])) q) hf⟩
  self := fun A i s Q E st h => wpAny_pyIter_zip st.1 h

def iZipB (K : PySem.W.Frag) (ta : TA) : TI := fun σ H R => ta σ H fun vs H1 => ∃ a b xs ys, vs = [.ref a, .ref b] ∧ ((SqL K H1 a xs ∧ SqL K H1 b ys ∧ R (Itz K a b) H1) ∨ (SqT K H1 a xs ∧ SqT K H1 b ys ∧ R (ItzT K a b) H1) ∨ (SqL K H1 a xs ∧ SqT K H1 b ys ∧ R (ItzM K a b) H1))
theorem pi_zipB {X : Cx} {e e2 : Expr} {ta : TA} {p pos tpos : Pos} {elts : List Expr} {kk : Nat} (hg : Gl X "zip") (hm : X.mg "zip" = none) (ha : PA X [e, e2] ta)
    (hs : starEach [e, e2] X.env = (false, eval e X.env) :: starEach [e2] X.env := by rfl) (hpl : (backTo pos (starEach [e2] X.env)).any (·.1) = false := by rfl) :
    PI X (.Tuple elts kk tpos) (.Call (.Name "zip" p) [e, e2] [] pos) (iZipB X.K ta) := by
  refine ⟨fun pins s σ H R I h => ?_⟩
  refine Call_ (ld_blt I hg hm PyProof.Rows.boot_zip (PyProof.Rows.callWith_type1 (thn (ha.run pos pins s σ H _ I h) fun us s1 ⟨vs, H1, I1, r1, q1⟩ => ?_) hs hpl))
  obtain ⟨a, b, xs, ys, ex, q1⟩ := q1
  subst ex
  cases r1 with
  | cons r rr =>
    cases rr with
    | cons r' rr =>
      cases rr
      cases r
      cases r'
      have fresh5 : ∀ c, c ∈ [s1.heap.objs.size + 4, s1.heap.objs.size + 2, s1.heap.objs.size + 3, s1.heap.objs.size, s1.heap.objs.size + 1] → FpOk X pins H1 c := fun c hcm => by
        have e' : c = s1.heap.objs.size + 4 ∨ c = s1.heap.objs.size + 2 ∨ c = s1.heap.objs.size + 3 ∨ c = s1.heap.objs.size ∨ c = s1.heap.objs.size + 1 := by simpa using hcm
        have hle : s1.heap.objs.size ≤ c := by
          rcases e' with z | z | z | z | z
          · rw [z]; exact Nat.le_add_right _ _
          · rw [z]; exact Nat.le_add_right _ _
          · rw [z]; exact Nat.le_add_right _ _
          · rw [z]; exact Nat.le_refl _
          · rw [z]; exact Nat.le_add_right _ _
        exact I1.fpOk hle (I1.hok.fresh hle)
      rcases q1 with ⟨hqx, hqy, q⟩ | ⟨hqx, hqy, q⟩ | ⟨hqx, hqy, q⟩
      · obtain ⟨its, rv, p1, _⟩ := I1.list hqx
        obtain ⟨its2, rv2, p2, _⟩ := I1.list hqy
        refine call_zip_2 p1.isList p2.isList fun h' hz hTI hTO h1 h2 hsz hk => wpAny_pyIter_zip hz ?_
        have I2 : Inv X pins σ H1 { s1 with heap := h' } := I1.kept (t' := s1.toks) hk
        exact ⟨s1.heap.objs.size + 4, [s1.heap.objs.size + 4, s1.heap.objs.size + 2, s1.heap.objs.size + 3, s1.heap.objs.size, s1.heap.objs.size + 1], _, _, H1, rfl, I2, turn_zip (PySem.W.ktu_apart s1.heap.objs.size a b p1.lt p2.lt), ⟨hz, hTI, ⟨_, _, hTO⟩, h1, h2⟩, fresh5, q⟩
      · obtain ⟨its, rv, p1, _⟩ := I1.tuple hqx
        obtain ⟨its2, rv2, p2, _⟩ := I1.tuple hqy
        obtain ⟨o1, ho1, _⟩ := id p1
        obtain ⟨o2, ho2, _⟩ := id p2
        refine call_zipT (show s1.heap.IsTuple a its.toArray from p1) (show s1.heap.IsTuple b its2.toArray from p2) fun h' hz hTI hTO h1 h2 hsz hk => wpAny_pyIter_zip hz ?_
        have I2 : Inv X pins σ H1 { s1 with heap := h' } := I1.kept (t' := s1.toks) hk
        exact ⟨s1.heap.objs.size + 4, [s1.heap.objs.size + 4, s1.heap.objs.size + 2, s1.heap.objs.size + 3, s1.heap.objs.size, s1.heap.objs.size + 1], _, _, H1, rfl, I2, turn_zipT (PySem.W.ktu_apart s1.heap.objs.size a b (Heap.lt_size ho1) (Heap.lt_size ho2)), ⟨hz, hTI, ⟨_, _, hTO⟩, h1, h2⟩, fresh5, q⟩
      · obtain ⟨its, rv, p1, _⟩ := I1.list hqx
        obtain ⟨its2, rv2, p2, _⟩ := I1.tuple hqy
        obtain ⟨o2, ho2, _⟩ := id p2
        refine call_zipM p1.isList (show s1.heap.IsTuple b its2.toArray from p2) fun h' hz hTI hTO h1 h2 hsz hk => wpAny_pyIter_zip hz ?_
        have I2 : Inv X pins σ H1 { s1 with heap := h' } := I1.kept (t' := s1.toks) hk
        exact ⟨s1.heap.objs.size + 4, [s1.heap.objs.size + 4, s1.heap.objs.size + 2, s1.heap.objs.size + 3, s1.heap.objs.size, s1.heap.objs.size + 1], _, _, H1, rfl, I2, turn_zipM (PySem.W.ktu_apart s1.heap.objs.size a b p1.lt (Heap.lt_size ho2)), ⟨hz, hTI, ⟨_, _, hTO⟩, h1, h2⟩, fresh5, q⟩
end
end Dl
end L2
namespace L2
namespace Dl
open PySem PySem.Spec PyProof.Rows
section
variable {prog : Program} {w : World} {A : Around} {E : Value → Shared → Prop} {s : Shared}
end
def negB (neg : Bool) (b : Bool) : Bool := if neg = true then !b else b
def wIn1 (neg : Bool) (wa wb : WE) : WE := fun env Ke Kx => wa env (fun e1 r1 => wb e1 (fun e2 r2 => ∃ i, r1 = .val (.int i) ∧ ∃ j, r2 = .val (.int j) ∧ Ke e2 (.val (.bool (negB neg (decide (0 ≤ i ∧ i < j)))))) Kx) Kx
def wIn2 (neg : Bool) (wa wb wc : WE) : WE := fun env Ke Kx => wa env (fun e1 r1 => wb e1 (fun e2 r2 => wc e2 (fun e3 r3 => ∃ i, r1 = .val (.int i) ∧ ∃ j, r2 = .val (.int j) ∧ ∃ k, r3 = .val (.int k) ∧ Ke e3 (.val (.bool (negB neg (decide (j ≤ i ∧ i < k)))))) Kx) Kx) Kx
section
variable {B : Bs} {W : WX} {X : Cx} {pos q pos2 : Pos} {a b c : Expr} {wa wb wc : WE}
end
/-! zip -/
def zipD (xs ys : List PyData) : List PyData := (xs.zip ys).map fun p => .tuple [p.1, p.2]
def zpK (ds : List PyData) (K : List PyData → Prop) : Prop := match ds with
  | [.list xs, .tuple ys] => K (zipD xs ys)
  | _ => False
def wIZip (wf : WF) : WI := fun env Ki Kx => wf env (fun e ds => zpK ds (Ki e)) Kx
theorem DF.pa {B : Bs} {W : WX} {X : Cx} {es : List Expr} {wf : WF} (h : DF B W X es wf) : PA X es (fun σ H Q => ∃ F env Ka Kx, Rl X.K B F H env σ ∧ wf env Ka Kx ∧ XC X.K B W Kx ∧
    ∀ vs env' ds F' H', Rl X.K B F' H' env' σ → Fm env σ F H env' F' H' → RpAll X.K F' vs ds → Ka env' ds → Q vs H') :=
  ⟨fun pos pins s σ H Q I ⟨F, env, Ka, Kx, R, hw, hx, q⟩ => thn (h.run pos pins s σ F H env Ka Kx I R hw hx) fun us s1 ⟨vs, env', ds, F', H', I', rv, R', f', r', k'⟩ => ⟨vs, H', I', rv, q vs env' ds F' H' R' f' r' k'⟩⟩
theorem zipD_len (xs ys : List PyData) : (zipD xs ys).length = min xs.length ys.length := by unfold zipD; rw [List.length_map, List.length_zip]
/-- new pairs -/
theorem good_pairs {K : PySem.W.Frag} {B : Bs} {J : It} {F0 : Hp} {vx vy : List V} {xs ys : List PyData} (hx : RpAll K F0 vx xs) (hy : RpAll K F0 vy ys)
    (go : ∀ (F H : Hp) (i : Nat), Same F0 F → Same F H → i < vx.length → i < vy.length → J.go i H) (stop : ∀ (F H : Hp) (i : Nat), Same F0 F → Same F H → (vx.length ≤ i ∨ vy.length ≤ i) → J.stop i H)
    (yld : ∀ (F H : Hp) (i : Nat) (v : V) (H' : Hp), Same F0 F → Same F H → J.yld i H v H' → ∃ T x y, ∃ o : Obj, v = .ref T ∧ H T = none ∧ o.dict = none ∧ H' = upd H T (.frz o (.tup [x, y])) ∧ vx[i]? = some x ∧ vy[i]? = some y) : GoodIt K B J F0 (zipD xs ys) := by
  intro F H env σ i R s
  have l1 := hx.length
  have l2 := hy.length
  refine ⟨fun hi => ?_, fun hi => ?_⟩
  · rw [zipD_len] at hi
    refine ⟨go F H i s R.sub (by omega) (by omega), fun v H' yl => ?_⟩
    obtain ⟨T, x, y, o, rfl, hT, ho, rfl, e1, e2⟩ := yld F H i v H' s R.sub yl
    obtain ⟨dx, g1, r1⟩ := hx.get2 e1
    obtain ⟨dy, g2, r2⟩ := hy.get2 e2
    refine ⟨upd F T (.frz o (.tup [x, y])), .tuple [dx, dy], R.layF hT, R.fmLayF hT, ?_, ?_⟩
    · unfold zipD
      have ez : (xs.zip ys)[i]? = some (dx, dy) := List.getElem?_zip_eq_some.mpr ⟨g1, g2⟩
      rw [List.getElem?_map, ez]
      rfl
    · have hF : F T = none := R.freeF hT
      have sm : Same F (upd F T (.frz o (.tup [x, y]))) := fun b _ e => by
        rw [upd_ne (ne_of_none e hF)]
        exact e
      exact .tup upd_same ho (.cons (Rp.mono (s.trans sm) _ _ r1) (.cons (Rp.mono (s.trans sm) _ _ r2) .nil))
  · rw [zipD_len] at hi
    exact stop F H i s R.sub (by omega)
theorem di_zip {B : Bs} {W : WX} {X : Cx} {e e2 : Expr} {wf : WF} {p pos tpos : Pos} {elts : List Expr} {kk : Nat} (h : DF B W X [e, e2] wf) (hg : Gl X "zip") (hm : X.mg "zip" = none)
    (hs : starEach [e, e2] X.env = (false, eval e X.env) :: starEach [e2] X.env := by rfl) (hpl : (backTo pos (starEach [e2] X.env)).any (·.1) = false := by rfl) : DI B W X (.Tuple elts kk tpos) (.Call (.Name "zip" p) [e, e2] [] pos) (wIZip wf) := by
  refine ⟨⟨fun pins s σ H R I ⟨F, env, Ki, Kx, R0, hw, hx, q⟩ => ?_⟩⟩
  refine (pi_zipB (p := p) (pos := pos) (tpos := tpos) (elts := elts) (kk := kk) hg hm h.pa hs hpl).run pins s σ H R I ⟨F, env, _, Kx, R0, hw, hx, fun vs env' ds F' H' R' f' r' k' => ?_⟩
  have k' : zpK ds (Ki env') := k'
  unfold zpK at k'
  split at k'
  · rename_i xs ys
    cases r' with
    | cons a1 t1 =>
      cases t1 with
      | cons a2 t2 =>
        cases t2
        cases a1 with
        | @lst ad vx _ h1 h2 =>
          cases a2 with
          | @tup bd vy _ oZ g1 hZ g2 =>
            refine ⟨ad, bd, vx, vy, rfl, .inr (.inr ⟨R'.sub.seq h1, sqT_same R'.sub (SqT.of g1), q _ env' F' H' _ R' f' (good_pairs h2 g2 (fun F H i s1 s2 i1 i2 => ?_) (fun F H i s1 s2 hi => ?_) (fun F H i v H' s1 s2 yl => ?_)) k'⟩)⟩
            · exact ⟨vx, vy, vx[i], vy[i], (s1.trans s2).seq h1, sqT_same (s1.trans s2) (SqT.of g1), List.getElem?_eq_getElem i1, List.getElem?_eq_getElem i2⟩
            · exact ⟨vx, vy, (s1.trans s2).seq h1, sqT_same (s1.trans s2) (SqT.of g1), hi⟩
            · obtain ⟨T, x, y, o, e1, e2, ho, e3, e4, e5⟩ := yl
              exact ⟨T, x, y, o, e1, e2, ho, e3, e4 _ ((s1.trans s2).seq h1), e5 _ (sqT_same (s1.trans s2) (SqT.of g1))⟩
  · exact k'.elim
end Dl
end L2

/-! The D layer, 16: raise, try. -/
namespace L2
namespace Dl
open PySem PySem.Spec PyProof.Rows

/-! ### an exception is made -/
section
variable {X : Cx}
/-- what such an __init__ leaves: each field -/
def spIni (C : Addr) (fs : List Str) : Sp := fun vs H Q _ => ∃ (a : Addr) (ws : List V), vs = .ref a :: ws ∧ ws.length = fs.length ∧ H a = some (exo a C none) ∧
  ∀ (H' : Hp) (d : Addr), H d = none → d ≠ a → H' a = some (exo a C (some d)) → H' d = some (exd d (fs.zip ws).reverse) → (∀ b, b ≠ a → b ≠ d → H' b = H b) → Q .non H'
end
/-! an __init__ of one field, of two -/
section
variable {P : Program} {w : World} {K : PySem.W.Frag} {mg : Str → Option Value} {base : Heap}
end

/-! ### raise -/
/-- what is known of a class whose __init__ stores its arguments -/
structure IniC (P : Program) (w : World) (K : PySem.W.Frag) (mg : Str → Option Value) (base : Heap) (name : Str) (fs : List Str) : Prop where
  ex : ∃ (C fI : Addr) (fd : FuncData), mg name = some (.ref C) ∧ OexC K C ∧ PySem.W.findIn K (.ref C) "__init__" = some (some (.ref fI)) ∧ PySem.W.typeIn K (.ref fI) = some (.type "function") ∧ Binds K fd ("self" :: fs) [] ∧ FnOk P w K mg base (L2N.CX P w) 1 fI fd ("self" :: fs) (spIni C fs)
/-- .. of a class without one -/
structure BareC (K : PySem.W.Frag) (mg : Str → Option Value) (name : Str) : Prop where
  ex : ∃ (C : Addr), mg name = some (.ref C) ∧ PySem.W.excIn K C [.type "ValueError", .type "Exception", .type "BaseException", .type "object"] "ValueError.__new__" = true ∧ PySem.W.keepIn K (.ref C) = true ∧ PySem.W.subIn K (.ref C) (.type "BaseException") = some true ∧ PySem.W.typeIn K (.ref C) = some (.type "type")
def wRaise0 (name : Str) : WS := fun env k => k.ex env ⟨name, []⟩
def wRaise (name : Str) (fs : List Str) (wf : WF) : WS := fun env k => wf env (fun e ds => ds.length = fs.length ∧ k.ex e ⟨name, (fs.zip ds).reverse⟩) k.ex
theorem fsR.mono {K : PySem.W.Frag} {F F' : Hp} (s : Same F F') : ∀ {fs : List (Str × V)} {gs : List (Str × PyData)}, fsR K F fs gs → fsR K F' fs gs
  | _, _, .nil => .nil
  | _, _, .cons ⟨e, r⟩ t => .cons ⟨e, Rp.mono s _ _ r⟩ (fsR.mono s t)
section
variable {B : Bs} {W : WX} {X : Cx} {x : Str} {e : Expr} {es : List Expr} {wf : WF} {p pos pos2 : Pos}
abbrev deadD : Ends := { nx := fun _ _ => False, rt := fun _ _ => False, bk := fun _ _ => False, ct := fun _ _ => False }
end
end Dl
end L2

/-! The D layer, 17: try; what runs while an exception is handled. -/
namespace L2
namespace Dl
open PySem PySem.Spec PyProof.Rows L2H

section
variable {K : PySem.W.Frag} {B : Bs} {F F' H H' : Hp} {env env' env0 : Ev} {σ σ' σ0 : St} {i : Nat} {a : Addr}
abbrev Bs.at (B : Bs) (F : Hp) : Bs := { B with F0 := F }
abbrev Bs.hot (B : Bs) (i : Nat) (a : Addr) (F : Hp) : Bs := { B with F0 := F, lent := (i, a) :: B.lent }
theorem Rl.at (R : Rl K B F H env σ) : Rl K (B.at F) F H env σ :=
  ⟨R.len, R.sub, R.sl, R.dist, Same.refl _, fun b x h => .inl h, R.frm, R.dom, R.own0, R.own1, R.lsl, R.dd, R.d0⟩
theorem Rl.hot (R : Rl K B F H env σ) (na : H a = none) (hi : i < σ.length) (nl : ∀ p ∈ B.all, p.1 ≠ i) : Rl K (B.hot i a F) F H (env.set i .un) (σ.set i (some (.ref a))) := by
  have R1 := R.put (v := .ref a) (s := .un) hi nl trivial (fun _ _ e => by cases e)
  refine ⟨R1.len, R1.sub, R1.sl, R1.dist, Same.refl _, fun b x h => .inl h, fun b x h n => R1.frm b x h fun p hp => n p (List.mem_cons_of_mem _ hp), R1.dom, R1.own0, fun j ds c h1 h2 => ?_, fun p hp => ?_, R1.dd, R1.d0⟩
  · obtain ⟨p, g1, g2⟩ := R1.own1 j ds c h1 h2
    exact ⟨p, List.mem_cons_of_mem _ g1, g2⟩
  · rcases List.mem_cons.mp hp with z | z
    · subst z
      exact List.getElem?_set_self hi
    · exact R1.lsl p z
end

/-- the exception x is handled, slot i holds it -/
structure HX (X : Cx) (B : Bs) (i : Nat) (x : XD) : Prop where
  ex : ∃ (a C : Addr) (oe : Obj) (d : Option Addr), (a, oe) ∈ X.pn ∧ (i, a) ∈ B.lent ∧ X.A.handled = some (.ref a) ∧ L2N.Zn (.ref C) d oe ∧ (∃ vs, oe.data = .fields vs) ∧ X.mg x.name = some (.ref C) ∧
    match d with
    | none => x.fs = []
    | some dx => ∃ fs, B.F0 dx = some (.xd fs) ∧ fsR X.K B.F0 fs x.fs
theorem HX.hot {X : Cx} {B : Bs} {i : Nat} {x : XD} (h : HX X B i x) : HotC X := by
  obtain ⟨a, C, oe, d, h1, _, h3, h4, ⟨vs, h5⟩, _⟩ := h.ex
  exact ⟨(a, oe), ⟨h3, vs, h5, h4.2.2 vs h5⟩, h1⟩

/-! ### try: body, except C as n: suite -/
def wTry (i : Nat) (ns : List Str) (t : WS) (u : XD → WS) : WS := fun env k => t env { k with ex := fun e x => x.name ∈ ns ∧ (∃ s, e[i]? = some s) ∧ u x (e.set i .un) { nx := fun e2 => k.nx (e2.set i .un), rt := k.rt, bk := fun e2 => k.bk (e2.set i .un), ct := fun e2 => k.ct (e2.set i .un), ex := NoX } }
section
variable {B : Bs} {W : WX} {X : Cx} {cx n : Str} {c : Value} {i : Nat} {b₀ : Stmt} {body suite : List Stmt} {t : WS} {u : XD → WS} {ns : List Str} {np pos pos' : Pos}
end
end Dl
end L2

/-! The D layer, 18: what is asked of a handled exception; defs called while one is handled; count, index. -/
namespace L2
namespace Dl
open PySem PySem.Spec PyProof.Rows L2H

/-! ### e.f, isinstance(e, C) -/
def wXf (ns : List Str) (x : XD) (f : Str) : WE := fun env Ke _ => x.name ∈ ns ∧ ∃ d, x.fs.lookup f = some d ∧ Ke env (.val d)
section
variable {B : Bs} {W : WX} {X : Cx} {i : Nat} {x : XD} {ns : List Str} {nm f T : Str} {p p1 p2 pos : Pos}
theorem HX.at (hx : HX X B i x) {F H : Hp} {env : Ev} {σ : St} {pins : List (Addr × Obj)} {s : Shared} (I : Inv X pins σ H s) (R : Rl X.K B F H env σ) : ∃ (a C : Addr) (oe : Obj) (d : Option Addr), σ[i]? = some (some (.ref a)) ∧ s.heap.get? a = some oe ∧ L2N.Zn (.ref C) d oe ∧ (∃ vs, oe.data = .fields vs) ∧ X.mg x.name = some (.ref C) ∧
    match d with
    | none => x.fs = []
    | some dx => ∃ fs, F dx = some (.xd fs) ∧ fsR X.K F fs x.fs := by
  obtain ⟨a, C, oe, d, h1, h2, h3, h4, h5, h6, h7⟩ := hx.ex
  refine ⟨a, C, oe, d, R.lsl (i, a) (List.mem_append_left _ h2), (I.pin (a, oe) (List.mem_append_left _ h1)).1, h4, h5, h6, ?_⟩
  cases d with
  | none => exact h7
  | some dx =>
    obtain ⟨fs, g1, g2⟩ := h7
    exact ⟨fs, R.sub0 _ _ g1, fsR.mono R.sub0 g2⟩
/-- a name of a class, with its value -/
def ClsN (X : Cx) (T : Str) (cv : Value) : Prop := (∃ C, cv = .ref C ∧ X.mg T = some (.ref C)) ∨ (∃ t, cv = .type t ∧ X.mg T = none ∧ bootBuiltins T = some (.type t))
theorem ClsN.pe {cv : Value} (h : ClsN X T cv) (hg : Gl X T) (hn : T ≠ "__name__") (hdb : (T == ("__debug__" : Str)) = false) : ∃ v : V, PE X (.Name T p2) (tC v) ∧ ∀ u, RelV v u → u = cv := by
  rcases h with ⟨C, rfl, h1⟩ | ⟨t, rfl, h1, h2⟩
  · exact ⟨.ref C, pe_glob hg h1 rfl hdb, fun u e => e⟩
  · exact ⟨.ty t, pe_bltn hg h1 h2 rfl hn hdb, fun u e => e⟩
end
end Dl
end L2

/-! The D layer, 19: defs called while an exception is handled. -/
namespace L2
namespace Dl
open PySem PySem.Spec PyProof.Rows L2H

/-- a def that may be handed the handled exception: its promise knows the exception's object -/
structure FnX (P : Program) (w : World) (K : PySem.W.Frag) (mg : Str → Option Value) (base : Heap) (CX : CXT) (k : Nat) (f : Addr) (fd : FuncData) (ps : List Str) (sp : Addr × Obj → Sp) : Prop where
  len : ∀ p vs H Q E, sp p vs H Q E → vs.length = ps.length
  run : ∀ (p : Addr × Obj) (A : Around) (outer : List Env) (s : Shared) (H : Hp) (args : Args) (us : List Value) (vs : List V) (Q : VK) (E : XK), RoomH k A → Hot1 A p → PinOk outer H s p → Env0 P w K mg base A outer s H → BindsTo s fd args (ps.zip us) → Vals vs us → sp p vs H Q E →
    codeAny (model P w) A (.call (.ref f) args) (CR CX outer P w H s Q E) s
section
variable {P : Program} {w : World} {K : PySem.W.Frag} {mg : Str → Option Value} {base : Heap}
end

/-! ### a def keeps its promise while an exception is handled -/
section
variable {P : Program} {w : World} {K : PySem.W.Frag} {mg : Str → Option Value} {base : Heap}
/-- what is promised of a handled exception -/
abbrev SpcE := XD → (Rv → Prop) → Prop
def lowX (K : PySem.W.Frag) (mg : Str → Option Value) (S : SpcE) : Addr × Obj → Sp := fun p vs H Q _ => vs = [.ref p.1] ∧ ∃ (x : XD) (C : Addr) (d : Option Addr) (F : Hp) (Kr : Rv → Prop), Same F H ∧ mg x.name = some (.ref C) ∧ L2N.Zn (.ref C) d p.2 ∧ (∃ vs, p.2.data = .fields vs) ∧ (match d with
    | none => x.fs = []
    | some dx => ∃ fs, F dx = some (.xd fs) ∧ fsR K F fs x.fs) ∧ S x Kr ∧ ∀ r F' H' v, Aft K F H [] F' H' [] → RvR K H F' H' v r → Kr r → Q v H'
end

/-! ### calls -/
def CalH (P : Program) (w : World) (K : PySem.W.Frag) (mg : Str → Option Value) (base : Heap) (k : Nat) (x : Str) (n : Nat) (S : Spc) : Prop :=
  ∃ f fd ps, ps.length = n ∧ mg x = some (.ref f) ∧ PySem.W.keepIn K (.ref f) = true ∧ Binds K fd ps [] ∧ FnH P w K mg base (L2N.CX P w) k f fd ps (low K mg n S)
def CalX (P : Program) (w : World) (K : PySem.W.Frag) (mg : Str → Option Value) (base : Heap) (k : Nat) (x : Str) (S : SpcE) : Prop :=
  ∃ f fd pn, mg x = some (.ref f) ∧ PySem.W.keepIn K (.ref f) = true ∧ Binds K fd [pn] [] ∧ FnX P w K mg base (L2N.CX P w) k f fd [pn] (lowX K mg S)
def wCallX (S : SpcE) (x : XD) : WE := fun env Ke _ => S x fun r => Ke env (rsOf r)
section
variable {P : Program} {w : World} {K : PySem.W.Frag} {mg : Str → Option Value} {base : Heap}
theorem FnH.mono {CX : CXT} {j k : Nat} {f : Addr} {fd : FuncData} {ps : List Str} {sp : Sp} (F : FnH P w K mg base CX j f fd ps sp) (h : j ≤ k) : FnH P w K mg base CX k f fd ps sp := ⟨F.len, fun A outer s H args us vs Q E p r => F.run A outer s H args us vs Q E p (r.mono h)⟩
theorem FnX.mono {CX : CXT} {j k : Nat} {f : Addr} {fd : FuncData} {ps : List Str} {sp : Addr × Obj → Sp} (F : FnX P w K mg base CX j f fd ps sp) (h : j ≤ k) : FnX P w K mg base CX k f fd ps sp := ⟨F.len, fun p A outer s H args us vs Q E r => F.run p A outer s H args us vs Q E (r.mono h)⟩
theorem CalH.mono {j k n : Nat} {x : Str} {S : Spc} (c : CalH P w K mg base j x n S) (h : j ≤ k) : CalH P w K mg base k x n S := by
  obtain ⟨f, fd, ps, h0, h1, h2, h3, h4⟩ := c
  exact ⟨f, fd, ps, h0, h1, h2, h3, FnH.mono h4 h⟩
theorem CalX.mono {j k : Nat} {x : Str} {S : SpcE} (c : CalX P w K mg base j x S) (h : j ≤ k) : CalX P w K mg base k x S := by
  obtain ⟨f, fd, pn, h1, h2, h3, h4⟩ := c
  exact ⟨f, fd, pn, h1, h2, h3, FnX.mono h4 h⟩
end
section
variable {B : Bs} {W : WX} {X : Cx} {k n i : Nat} {x nm : Str} {S : Spc} {e : Expr} {es : List Expr} {wm : WM} {p p1 pos : Pos}
end
end Dl
end L2

/-! The D layer, 20: the exceptions' classes, looked at once. -/
namespace L2
namespace Dl
open PySem PySem.Spec PyProof.Rows L2H
def xall : List Str := ["NoClock", "NoNumber", "NoPlace", "NoRow", "NoClocks", "NoText", "TooGreat"]
def xfld : List Str := ["many", "most", "number", "row"]
structure XFacts (K : PySem.W.Frag) (mg : Str → Option Value) : Prop where
  ce : ∃ C0, mg "ClockError" = some (.ref C0) ∧ ∀ n ∈ xall, ∃ C, mg n = some (.ref C) ∧ PySem.W.exmOne K (.ref C) (.ref C0) = some true
  at_ : ∀ n ∈ xall, ∀ C, mg n = some (.ref C) → ExcC K C ∧ XfC K C ∧ (∀ f ∈ xfld, PySem.W.findIn K (.ref C) f = some none) ∧ PySem.W.kitOne K (.ref C) (.type "ValueError") = some true ∧
    ∀ m ∈ xall, ∃ D, mg m = some (.ref D) ∧ PySem.W.kitOne K (.ref C) (.ref D) = some (decide (n = m))
section
variable {B : Bs} {W : WX} {X : Cx} {i : Nat} {x : XD} {nm f T : Str} {p p1 p2 pos pos' np : Pos} {ns : List Str}
end
/-! the classes that are raised -/
end Dl
end L2

/-! The D layer, 21: xs.count(y), xs.index(y). -/
namespace L2
namespace Dl
open PySem PySem.Spec PyProof.Rows L2H
/-- a method of a list that only reads it, with one argument -/
abbrev Rd := List PyData → PyData → (PyData → Prop) → Prop
def isLst : PyData → Prop
  | .list _ => True
  | _ => False
def wRd (w wa : WE) (μ : Rd) : WE := fun env Ke Kx => w env (fun e1 r1 => rdK e1 r1 isLst ∧ wa e1 (fun e2 r2 => rdK e2 r1 fun d1 => rdK e2 r2 fun d2 => ∃ ds, d1 = .list ds ∧ μ ds d2 fun d => Ke e2 (.val d)) Kx) Kx
section
variable {B : Bs} {W : WX} {X : Cx}
variable {e o : Expr} {w wo : WE} {apos cpos : Pos} {name : Str} {id : String} {r : V → List V → Hp → VK → Prop} {μ : Rd}
end
end Dl
end L2

/-! The D layer, 22: calls that only look at lists; [..] * k; enumerate of a list. -/
namespace L2
namespace Dl
open PySem PySem.Spec PyProof.Rows L2H

/-! ### f(xs, ..) that answers with no object: xs stays its holder's -/
def scal : PyData → Bool
  | .none | .bool _ | .int _ | .str _ => true
  | _ => false
/-- a name: a list of its own is lent, to be looked at -/
def wBr (i : Nat) (wm : WM) : WM := fun env Ka Kx => (∃ l ds, env[i]? = some (Sl.own l ds) ∧ wm env (fun e as => Ka e (.ln i :: as)) Kx) ∨ ∃ d, env[i]? = some (Sl.val d) ∧ wm env (fun e as => Ka e (.fz d :: as)) Kx
def avsB (env : Ev) : List Ar → Option (List AV)
  | [] => some []
  | .fz d :: as => (avsB env as).map (.val d :: ·)
  | .ln i :: as => match env[i]? with
    | some (.own _ ds) => (avsB env as).map (.val (.list ds) :: ·)
    | _ => none
def wCallS (n : Nat) (S : Spc) (wm : WM) : WE := fun env Ke Kx => wm env (fun e as => ∃ avs, avsB e as = some avs ∧ avs.length = n ∧ S avs (fun _ r => ∃ d, r = .val d ∧ scal d = true ∧ Ke e (.val d)) (fun _ _ => False)) Kx
section
variable {K : PySem.W.Frag} {B : Bs} {F H H' : Hp} {env : Ev} {σ : St}
end
section
variable {B : Bs} {W : WX} {X : Cx} {k n : Nat} {x : Str} {S : Spc} {e : Expr} {es : List Expr} {wm : WM} {p pos : Pos}
end

/-! ### [..] * k -/
def wRep (wa wb : WE) : WE := fun env Ke Kx => wa env (fun e1 r1 => ∃ ds, r1 = .tmp ds ∧ wb e1 (fun e2 r2 => ∃ k, r2 = .val (.int k) ∧ ds.length * k.toNat ≤ sizeLine ∧ k ≤ 16777216 ∧ -16777216 ≤ k ∧ Ke e2 (.tmp (List.replicate k.toNat ds).flatten)) Kx) Kx
section
variable {B : Bs} {W : WX} {X : Cx} {a b : Expr} {wa wb : WE} {pos : Pos}
end

/-! ### enumerate of a list -/
def enD (ds : List PyData) : List PyData := ds.zipIdx.map fun p => .tuple [.int p.2, p.1]
def wIEnum (wf : WF) : WI := fun env Ki Kx => wf env (fun e ds => ∃ xs, ds = [.list xs] ∧ Ki e (enD xs)) Kx
theorem enD_len (ds : List PyData) : (enD ds).length = ds.length := by unfold enD; rw [List.length_map, List.length_zipIdx]
theorem enD_at {ds : List PyData} {i : Nat} {d : PyData} (h : ds[i]? = some d) : (enD ds)[i]? = some (.tuple [.int i, d]) := by
  unfold enD
  rw [List.getElem?_map, List.getElem?_zipIdx, h]
  simp
theorem good_enum {K : PySem.W.Frag} {B : Bs} {J : It} {F0 : Hp} {vx : List V} {xs : List PyData} (hx : RpAll K F0 vx xs)
    (go : ∀ (F H : Hp) (i : Nat), Same F0 F → Same F H → i < vx.length → J.go i H) (stop : ∀ (F H : Hp) (i : Nat), Same F0 F → Same F H → vx.length ≤ i → J.stop i H)
    (yld : ∀ (F H : Hp) (i : Nat) (v : V) (H' : Hp), Same F0 F → Same F H → J.yld i H v H' → ∃ T x, ∃ o : Obj, v = .ref T ∧ H T = none ∧ o.dict = none ∧ H' = upd H T (.frz o (.tup [.int (i : Nat), x])) ∧ vx[i]? = some x) : GoodIt K B J F0 (enD xs) := by
  intro F H env σ i R s
  have l1 := hx.length
  refine ⟨fun hi => ?_, fun hi => ?_⟩
  · rw [enD_len] at hi
    refine ⟨go F H i s R.sub (by omega), fun v H' yl => ?_⟩
    obtain ⟨T, x, o, rfl, hT, ho, rfl, e1⟩ := yld F H i v H' s R.sub yl
    obtain ⟨dx, g1, r1⟩ := hx.get2 e1
    have hF : F T = none := R.freeF hT
    have sm : Same F (upd F T (.frz o (.tup [.int (i : Nat), x]))) := fun b o e => by
      rw [upd_ne (ne_of_none e hF)]
      exact e
    exact ⟨upd F T (.frz o (.tup [.int (i : Nat), x])), .tuple [.int i, dx], R.layF hT, R.fmLayF hT, enD_at g1, .tup upd_same ho (.cons (.int _) (.cons (Rp.mono (s.trans sm) _ _ r1) .nil))⟩
  · rw [enD_len] at hi
    exact stop F H i s R.sub (by omega)
end Dl
end L2

/-! The D layer, 23: loops, unpacking and pairs while an exception is handled. -/
namespace L2
namespace Dl
open PySem PySem.Spec PyProof.Rows L2H HotX

section
variable {prog : Program} {w : World} {A : Around} {E : Value → Shared → Prop} {s : Shared}
end

section
variable {X : Cx}
theorem HotC.pin {pins : List (Addr × Obj)} {σ : St} {H : Hp} {s : Shared} (c : HotC X) (I : Inv X pins σ H s) : ∃ p ∈ X.pn, HotAt X.A p.1 s.heap := by
  obtain ⟨p, ⟨hh, v1, e1, c1⟩, hp⟩ := c
  exact ⟨p, hp, hh, p.2, v1, (I.pin p (List.mem_append_left _ hp)).1, e1, c1⟩
end

/-! ### what is walked there -/
def seqOf : PyData → Option (List PyData)
  | .list ds => some ds
  | .tuple ds => some ds
  | _ => none
def wISq (w : WE) : WI := fun env Ki Kx => wFz w env (fun e d => ∃ ds, seqOf d = some ds ∧ Ki e ds) Kx
structure DIH (B : Bs) (W : WX) (X : Cx) (tg iter : Expr) (w : WI) : Prop where
  pi : PIH X tg iter (fun σ H R => ∃ F env Ki Kx, Rl X.K B F H env σ ∧ w env Ki Kx ∧ XC X.K B W Kx ∧ ∀ J env' F' H' ds, Rl X.K B F' H' env' σ → Fm env σ F H env' F' H' → GoodIt X.K B J F' ds → Ki env' ds → R J H')
section
variable {B : Bs} {W : WX} {X : Cx} {tg e : Expr} {w : WE} {pos : Pos}
/-! ### (a, b) = pair; a, b = x, y -/
end
section
variable {P : Program} {w : World} {K : PySem.W.Frag} {mg : Str → Option Value} {base : Heap}
/-- a def that is not called -/
theorem cal_never {x : Str} {st : Stmt} {qual : Str} {f : Addr} {fd : FuncData} {ps : List Str} {k : Nat} (F : Fun K x qual st f fd) (hm : mg x = some (.ref f)) (hb : Binds K fd ps []) : Cal P w K mg base k x ps.length (fun _ _ _ => False) :=
  ⟨f, fd, ps, rfl, hm, F.kp, hb, ⟨fun _ _ _ _ h => by obtain ⟨_, _, _, _, _, _, _, _, h, _⟩ := h; exact h.elim, fun _ _ _ _ _ _ _ _ _ _ _ _ _ h => by obtain ⟨_, _, _, _, _, _, _, _, h, _⟩ := h; exact h.elim⟩⟩
end
/-! ### x[i] += e of a list of one's own -/
section
variable {B : Bs} {W : WX} {X : Cx} {x : Str} {a e : Expr} {wi w : WE} {p pos spos : Pos}
def gL (K : PySem.W.Frag) : V → V → Hp → VK → Prop := fun o i H Q => ∃ p xs k v, o = .ref p ∧ i = .int k ∧ 0 ≤ k ∧ SqL K H p xs ∧ xs[k.toNat]? = some v ∧ Q v H
end
/-! ### an expression that only looks: one's own lists are put away, one is lent to it -/
section
variable {K : PySem.W.Frag} {B : Bs} {F H : Hp} {env : Ev} {σ : St}
end
section
variable {B : Bs} {W : WX} {X : Cx} {e : Expr} {w : WE}
end
end Dl
end L2

/-! The D layer, 24: a list comprehension while an exception is handled. -/
namespace L2
namespace Dl
open PySem PySem.Spec PyProof.Rows L2H HotX

/-- a block's context that keeps what is handled -/
abbrev hotB (X : Cx) (s : Shared) (H : Hp) (scope : Scope) (cenv : Env) (fp : List Addr) : Cx := { X.blk s H scope cenv fp with pn := X.pn }
section
variable {X : Cx} {s : Shared} {H : Hp} {σ : St} {pins : List (Addr × Obj)}
end
section
variable {B : Bs} {W : WX} {X : Cx} {tg iter elt : Expr} {is : List Nat} {wi : WI} {g : WG} {ct : WT} {we : WE} {pos : Pos}
end
end Dl
end L2

/-! The D layer, 25: enumerate of a tuple. -/
namespace L2
namespace Dl
open PySem PySem.Spec PyProof.Rows Builtin

section
open AutoSeq1 (wpAny_loadPart')
theorem meets_enT (t : Addr) (its : Array Value) (n : Nat) (dct : Option Addr) (sl : Array (Option Value)) :
    Meets (Builtin.«enumerate.__new__» ⟨[.type "enumerate", .ref t], []⟩) (fun _ R s => s.heap.get? t = some { cls := .type "tuple", dict := dct, data := .seq its n, slots := sl } ∧
      R (.ok (.ret (.ref (s.heap.push { cls := .type "tuple_iterator", data := .fields #[.ref t, .int 0 0] }).objs.size)))
        { s with heap := (s.heap.push { cls := .type "tuple_iterator", data := .fields #[.ref t, .int 0 0] }).push { cls := .type "enumerate", data := .fields #[.none, .bool false, .ref s.heap.objs.size, rawInt 0, .none, .none] } }) :=
  .of_wp fun prog w A R s h => by
    obtain ⟨hp, g, d, tk, os⟩ := s; obtain ⟨ht, h⟩ := h
    have hsub := sub_enumerate
    have hT : Heap.IsTuple (Shared.heap ⟨hp, g, d, tk, os⟩) t its := ⟨_, ht, rfl, n, rfl⟩
    wp_walk using wpAny_loadPart' ht
    refine wpAny_stack_any fun st => wpAny_pure ?_
    split
    · rename_i c _ _ _ _ _
      cases (c == Value.type "enumerate")
      all_goals
        wp_walk using wpAny_loadPart' ht, wpAny_pyIter_tuple hT
        exact ⟨_, rfl, h⟩
    · wp_walk using wpAny_loadPart' ht, wpAny_pyIter_tuple hT
      exact ⟨_, rfl, h⟩
variable {prog : Program} {w : World} {A : Around} {E : Value → Shared → Prop} {s : Shared}
theorem call_enT {t : Addr} {its : Array Value} {Q : Value → Shared → Prop} (hT : s.heap.IsTuple t its)
    (h : ∀ h', IsEnum h' (s.heap.objs.size + 1) s.heap.objs.size 0 .none → h'.IsTupleIter s.heap.objs.size t 0 → h'.objs.size = s.heap.objs.size + 2 →
      (∀ b o, s.heap.get? b = some o → h'.get? b = some o) → Q (.ref (s.heap.objs.size + 1)) { s with heap := h' }) :
    wpAny (model prog w) A (call (.type "enumerate") [.ref t]) Q E s := by
  obtain ⟨⟨c, dct, dt, sl⟩, ht, hc, n, hd⟩ := hT
  obtain rfl : c = .type "tuple" := hc
  obtain rfl : dt = .seq its n := hd
  refine callType_new F.called_enumerate (by decide) (F.typeCall_enumerate_1 _) (F.newCall_enumerate_1 _) (fun o => F.args_object_init_2 o _) F.entry_enumerate_new (meets_enT t its n dct sl) ⟨ht, ?_⟩
  generalize hi : s.heap.push { cls := .type "tuple_iterator", data := .fields #[.ref t, .int 0 0] } = hI
  have hz : hI.objs.size = s.heap.objs.size + 1 := by rw [← hi]; exact Heap.size_push ..
  have gi : hI.get? s.heap.objs.size = some { cls := .type "tuple_iterator", data := .fields #[.ref t, .int 0 0] } := by rw [← hi]; exact Heap.get?_push_size _ rfl
  have ki : ∀ b o, s.heap.get? b = some o → hI.get? b = some o := fun b o x => by rw [← hi]; exact Heap.get?_push_of_some _ x
  show _ ∧ _
  have he : IsEnum (hI.push { cls := .type "enumerate", data := .fields #[.none, .bool false, .ref s.heap.objs.size, rawInt 0, .none, .none] }) (s.heap.objs.size + 1) s.heap.objs.size 0 .none := by
    have g := Heap.get?_push_size hI (o := { cls := .type "enumerate", data := .fields #[.none, .bool false, .ref s.heap.objs.size, rawInt 0, .none, .none] }) rfl
    rw [hz] at g
    exact g
  rw [hz]
  exact ⟨⟨_, he, rfl⟩, h _ he ⟨_, Heap.get?_push_of_some _ gi, rfl, rfl⟩ (by rw [Heap.size_push, hz]) fun b o x => Heap.get?_push_of_some _ (ki b o x)⟩
end
/-- the tuple at a, each item in a new pair -/
def IteT (K : PySem.W.Frag) (a : Addr) : It :=
  ⟨fun i H => ∃ (xs : List V) (x : V), SqT K H a xs ∧ xs[i]? = some x, fun i H v H' => ∃ T x, ∃ o : Obj, v = .ref T ∧ H T = none ∧ o.dict = none ∧ H' = upd H T (.frz o (.tup [.int (i : Nat), x])) ∧ ∀ xs, SqT K H a xs → xs[i]? = some x, fun i H => ∃ xs : List V, SqT K H a xs ∧ xs.length ≤ i⟩
theorem turn_enT {P : Program} {w : World} {K : PySem.W.Frag} {elts : List Expr} {kk : Nat} {tpos : Pos} (a e it : Addr) :
    Turn P w K (.Tuple elts kk tpos) (IteT K a) [e, it] e (fun i h => (∃ old, IsEnum h e it ((i : Nat) : Int) old) ∧ h.IsTupleIter it a i ∧ (e ≠ it ∧ a ≠ it ∧ e ≠ a)) where
  mem := by simp
  obj := fun i h st b hb => by
    obtain ⟨⟨old, he⟩, ⟨o, ho, hc, hd⟩, _⟩ := st
    rcases List.mem_cons.mp hb with z | z
    · subst z
      exact ⟨_, he, fun v q => nomatch q⟩
    · obtain rfl : b = it := by simpa using z
      exact ⟨o, ho, fun v q => by rw [hd] at q; cases q⟩
  keep := fun i h h' ⟨⟨old, he⟩, hi, hn⟩ k => ⟨⟨old, k e (by simp) _ he⟩, hi.at fun o q => k it (by simp) o q, hn⟩
  item := by
    intro X hP hw hK hc i pins s σ H E I hf st hg
    subst hP hw hK
    obtain ⟨⟨old, he⟩, hit, n1, n2, n3⟩ := st
    obtain ⟨xs, x, hq, hx⟩ := hg
    obtain ⟨its, rv, p, hz⟩ := I.tuple hq
    obtain ⟨u, hu, ru⟩ := rv.get hx
    have lt : ∀ b ∈ [e, it], b < s.heap.objs.size := fun b hb => by
      rcases List.mem_cons.mp hb with z | z
      · subst z
        exact Heap.lt_size he
      · obtain rfl : b = it := by simpa using z
        obtain ⟨_, q, _⟩ := hit
        exact Heap.lt_size q
    have hi : i < its.toArray.size := by
      have := (List.getElem?_eq_some_iff.mp hu).1
      simpa using this
    refine wpAny_pyNext_enum_itemD (Draws.tuple (A := X.A.in1) (I.ok.hd hc) it a n2 its.toArray) he ⟨hit, (show s.heap.IsTuple a its.toArray from p)⟩ hi n1 (by simp [n1, n3]) fun y h1 tk hy ho hst hT hsz hk => ?_
    have hy : its[i]? = some y := by simpa using hy
    obtain rfl : y = u := by rw [hu] at hy; exact (Option.some.inj hy).symm
    refine ⟨_, rfl, wpAny_letOwnedTupleGo_enum (s := { s with heap := h1, toks := tk + 1 }) ho fun h2 he' sb => ?_⟩
    have hT2 : h2.get? s.heap.objs.size = some { cls := .type "tuple", data := .seq #[.int i tk, y] } := (sb.2 _ (Nat.ne_of_gt (lt e (by simp)))).trans hT
    have new : ObjOk X.prog X.w (upd H s.heap.objs.size (.frz { cls := .type "tuple", data := .seq #[.int i tk, y] } (.tup [.int (i : Nat), x]))) h2 s.heap.objs.size (.frz { cls := .type "tuple", data := .seq #[.int i tk, y] } (.tup [.int (i : Nat), x])) :=
      ⟨hT2, by show 2 ≤ sizeLine; decide, [.int i tk, y], .cons ⟨_, rfl⟩ (.cons ru .nil), ⟨_, hT2, rfl, _, rfl⟩⟩
    have I1 : Inv X pins σ (upd H s.heap.objs.size (.frz { cls := .type "tuple", data := .seq #[.int i tk, y] } (.tup [.int (i : Nat), x]))) { s with heap := h2, toks := tk + 1 } := by
      refine I.turnedNew (ch := [e, it]) (fun b ob hb q => ?_) hf (Nat.le_refl _) new
      have b1 : b ≠ e := fun z => hb (by simp [z])
      have b2 : b ≠ it := fun z => hb (by simp [z])
      exact (sb.2 b b1).trans (hk b ob b1 b2 q)
    refine ⟨.ref s.heap.objs.size, _, I1, rfl, ⟨_, x, _, rfl, I.hok.fresh (Nat.le_refl _), rfl, rfl, fun ys hy => by rw [I.tuple_inj hy hq]; exact hx⟩, ⟨⟨y, ?_⟩, hst.1.at fun o q => (sb.2 it (Ne.symm n1)).trans q, n1, n2, n3⟩, fun b hb => ?_⟩
    · have e1 : ((i + 1 : Nat) : Int) = (i : Int) + 1 := by omega
      rw [e1]
      exact he'
    · rw [upd_ne (Nat.ne_of_lt (lt b hb))]
      exact (hf b hb).1
  done := by
    intro X hP hw hK hc i pins s σ H E I hf st hg
    subst hP hw hK
    obtain ⟨⟨old, he⟩, hit, n1, n2, n3⟩ := st
    obtain ⟨xs, hq, hx⟩ := hg
    obtain ⟨its, rv, p, hz⟩ := I.tuple hq
    obtain ⟨f0, f1, f2, f3, f4, f5⟩ := hf it (by simp)
    have hl := rv.length
    have ty : s.TypeIs (.ref e) "enumerate" := ⟨_, he, rfl⟩
    have hout : its.toArray[i]? = none := by simp; omega
    unfold pyNext
    refine wpAny_bind (wpAny_attempt (wpAny_callSpecial?_slot (name := Str.ofString "__next__") ty F.slot_enumerate_next (wpAny_call_entry F.slot_enumerate_next ty F.entry_enumerate_next ?_ (F.args_enumerate_next_1 _))))
    show wpAny _ _ (field (.ref e) 2 >>= _) _ _ s
    refine wpAny_bind (wpAny_field he rfl (x := .ref it) rfl (wpAny_bind (wpAny_nextOf_tuple_end (A := X.A.in1) (I.ok.hd hc) hit (show s.heap.IsTuple a its.toArray from p) hout fun h1 y eb ⟨o, ho, hcl⟩ => ?_)))
    refine wpAny_bind (wpAny_isInstance (T := "StopIteration") (b := true) ⟨o, ho, hcl⟩ isSubtype_stop (wpAny_pure ?_))
    exact ⟨rfl, I.turned (t' := s.toks) (fun b o hb q => eb b o hb q) f0 f1 f3 f4 f5⟩
  self := fun A i s Q E ⟨⟨_, he⟩, _⟩ h => wpAny_pyIter_enum he h
def iEnT (K : PySem.W.Frag) (ta : TA) : TI := fun σ H R => ta σ H fun vs H1 => ∃ a xs, vs = [.ref a] ∧ SqT K H1 a xs ∧ R (IteT K a) H1
theorem pi_enT {X : Cx} {e : Expr} {ta : TA} {p pos tpos : Pos} {elts : List Expr} {kk : Nat} (hg : Gl X "enumerate") (hm : X.mg "enumerate" = none) (ha : PA X [e] ta) (hs : starEach [e] X.env = [(false, eval e X.env)] := by rfl) :
    PI X (.Tuple elts kk tpos) (.Call (.Name "enumerate" p) [e] [] pos) (iEnT X.K ta) := by
  refine ⟨fun pins s σ H R I h => ?_⟩
  refine Call_ (ld_blt I hg hm boot_enumerate (PyProof.Rows.callWith_type1 (thn (ha.run pos pins s σ H _ I h) fun us s1 ⟨vs, H1, I1, r1, a, xs, ex, hq, q⟩ => ?_) hs rfl))
  subst ex
  cases r1 with
  | cons r rr =>
    cases rr
    cases r
    obtain ⟨its, rv, p1, hz⟩ := I1.tuple hq
    have pt : s1.heap.IsTuple a its.toArray := p1
    have la : a < s1.heap.objs.size := by obtain ⟨o, ho, _⟩ := pt; exact Heap.lt_size ho
    refine call_enT pt fun h1 he hit hsz hk => wpAny_pyIter_enum he ?_
    have I2 : Inv X pins σ H1 { s1 with heap := h1 } := I1.kept (t' := s1.toks) hk
    refine ⟨s1.heap.objs.size + 1, [s1.heap.objs.size + 1, s1.heap.objs.size], _, _, H1, rfl, I2, turn_enT a (s1.heap.objs.size + 1) s1.heap.objs.size, ⟨⟨.none, he⟩, hit, Nat.succ_ne_self _, Nat.ne_of_lt la, Nat.ne_of_gt (Nat.lt_succ_of_lt la)⟩, fun b hb => ?_, q⟩
    have hle : s1.heap.objs.size ≤ b := by
      rcases List.mem_cons.mp hb with z | z
      · rw [z]
        exact Nat.le_succ _
      · rw [show b = s1.heap.objs.size by simpa using z]
        exact Nat.le_refl _
    exact I1.fpOk hle (I1.hok.fresh hle)
/-- for i, x in enumerate(a tuple) -/
def wIEnumT (wf : WF) : WI := fun env Ki Kx => wf env (fun e ds => ∃ xs, ds = [.tuple xs] ∧ Ki e (enD xs)) Kx
theorem di_enT {B : Bs} {W : WX} {X : Cx} {e : Expr} {wf : WF} {p pos tpos : Pos} {elts : List Expr} {kk : Nat} (h : DF B W X [e] wf) (hg : Gl X "enumerate") (hm : X.mg "enumerate" = none)
    (hs : starEach [e] X.env = [(false, eval e X.env)] := by rfl) : DI B W X (.Tuple elts kk tpos) (.Call (.Name "enumerate" p) [e] [] pos) (wIEnumT wf) := by
  refine ⟨⟨fun pins s σ H R I ⟨F, env, Ki, Kx, R0, hw, hx, q⟩ => ?_⟩⟩
  refine (pi_enT (p := p) (pos := pos) (tpos := tpos) (elts := elts) (kk := kk) hg hm h.pa hs).run pins s σ H R I ⟨F, env, _, Kx, R0, hw, hx, fun vs env' ds F' H' R' f' r' ⟨xs, e1, k'⟩ => ?_⟩
  subst e1
  cases r' with
  | cons a1 t1 =>
    cases t1
    cases a1 with
    | @tup ad vx _ oZ h1 hZ h2 =>
      have stay : ∀ {F H : Hp}, Same F' F → Same F H → SqT X.K H ad vx := fun s1 s2 => sqT_same (s1.trans s2) (SqT.of h1)
      refine ⟨ad, vx, rfl, sqT_same R'.sub (SqT.of h1), q _ env' F' H' _ R' f' (good_enum h2 (fun F H i s1 s2 i1 => ?_) (fun F H i s1 s2 hi => ?_) (fun F H i v H' s1 s2 yl => ?_)) k'⟩
      · exact ⟨vx, vx[i], stay s1 s2, List.getElem?_eq_getElem i1⟩
      · exact ⟨vx, stay s1 s2, hi⟩
      · obtain ⟨T, x, o, e1, e2, ho, e3, e4⟩ := yl
        exact ⟨T, x, o, e1, e2, ho, e3, e4 _ (stay s1 s2)⟩
end Dl
end L2

/-! The D layer, 26: f(xs, ..) that answers with no list: xs stays its holder's. -/
namespace L2
namespace Dl
open PySem PySem.Spec PyProof.Rows L2H

mutual
def tupD : PyData → Bool
  | .none | .bool _ | .int _ | .str _ => true
  | .tuple ds => tupDs ds
  | .list _ => false
  | .dict _ => false
def tupDs : List PyData → Bool
  | [] => true
  | d :: ds => tupD d && tupDs ds
end
def wCallT (n : Nat) (S : Spc) (wm : WM) : WE := fun env Ke Kx => wm env (fun e as => ∃ avs, avsB e as = some avs ∧ avs.length = n ∧ S avs (fun _ r => ∃ d, r = .val d ∧ tupD d = true ∧ Ke e (.val d)) (fun _ x => (∀ p ∈ x.fs, tupD p.2 = true) ∧ Kx e x)) Kx
section
variable {K : PySem.W.Frag} {B : Bs} {F F1 F2 H H' : Hp} {env : Ev} {σ : St}
end
section
variable {B : Bs} {W : WX} {X : Cx} {k n : Nat} {x : Str} {S : Spc} {e : Expr} {es : List Expr} {wm : WM} {p pos : Pos}
end
end Dl
end L2

/-! The D layer, 27: range with a step. -/
namespace L2
namespace Dl
open PySem PySem.Spec PyProof.Rows L2H

def rg3 (i c : Int) (n : Nat) : List PyData := (List.range n).map fun (m : Nat) => PyData.int (i + (m : Int) * c)
def wIRng3 (wf : WF) : WI := fun env Ki Kx => wf env (fun e ds => ∃ i j c n, ds = [.int i, .int j, .int c] ∧ RgC i j c n ∧ Ki e (rg3 i c n)) Kx
section
variable {B : Bs} {W : WX} {X : Cx} {tg a b c : Expr} {wf : WF} {p pos : Pos}
end
end Dl
end L2

/-! The D layer, 28: (..) * k. -/
namespace L2
namespace Dl
open PySem PySem.Spec PyProof.Rows L2H
def wRepT (wa wb : WE) : WE := fun env Ke Kx => wa env (fun e1 r1 => ∃ ds, r1 = .val (.tuple ds) ∧ wb e1 (fun e2 r2 => ∃ k, r2 = .val (.int k) ∧ ds ≠ [] ∧ 2 ≤ k ∧ k ≤ 1000 ∧ ds.length ≤ 1000 ∧ Ke e2 (.val (.tuple (List.replicate k.toNat ds).flatten))) Kx) Kx
section
variable {B : Bs} {W : WX} {X : Cx} {a b : Expr} {wa wb : WE} {pos : Pos}
end
end Dl
end L2

/-! The fork of the D layer: t.index(x) of a tuple that is known to have no dict. -/
namespace L2
namespace Dl
open PySem PySem.Spec PyProof.Rows
def wIdxT (wo w : WE) : WE := fun env Ke Kx => wo env (fun e1 r1 => ∃ ds, r1 = .val (.tuple ds) ∧ w e1 (fun e2 r2 => ∃ d, rd e2 r2 = some d ∧ SeqAt.shaped (.tuple ds) = true ∧ SeqAt.shaped d = true ∧
  ∃ (j : Nat) (z : PyData), ds[j]? = some z ∧ PyData.eqv z d = true ∧ (∀ (m : Nat) (z' : PyData), m < j → ds[m]? = some z' → PyData.eqv z' d = false) ∧ Ke e2 (.val (.int (j : Nat)))) Kx) Kx
section
variable {B : Bs} {W : WX} {X : Cx} {e o : Expr} {w wo : WE} {apos cpos : Pos}
theorem de_indexT (hu : X.A.units + 65 < cLine) (ho : DE B W X o wo) (ha : DE B W X e w) (hbase : attributeBase o "index" X.env (eval o X.env) = eval o X.env := by rfl)
    (hfew : ((backTo cpos (starEach [e] X.env)).all (fun x => !x.1) && (backToKw cpos (keywordEach [] X.env)).all (fun x => x.1.isSome)
      && decide ([e].length + ([] : List Keyword).length + (if ([] : List Keyword).isEmpty then 0 else 1) < 30)) = true := by rfl)
    (hline : (apos.endLine == cpos.line) = true := by rfl) (hs : starEach [e] X.env = (false, eval e X.env) :: starEach [] X.env := by rfl) (hplain : (backTo cpos (starEach [] X.env)).any (·.1) = false := by rfl) :
    DE B W X (.Call (.Attribute o "index" apos) [e] [] cpos) (wIdxT wo w) := by
  refine ⟨fun pins s σ F H env Ke Kx I R h hx => ?_⟩
  refine wpAny_Call_method_late hbase hfew hline rfl (thn (ho.run pins s σ F H env _ Kx I R h hx) fun v s1 ⟨x, env1, r1, F1, H1, I1, rx, R1, f1, q1, n1, ds, er, k1⟩ => ?_)
  subst er
  have q1 : Rp X.K F1 x (.tuple ds) := q1
  cases q1 with
  | @tup a xs _ ob h1 hd h2 =>
    cases rx
    obtain ⟨g1, hz, its, rv, ht⟩ := I1.hok a _ (R1.sub _ _ h1)
    refine ⟨"tuple", "tuple.index", PySem.F.plainAttrs_tuple, PySem.F.slot_tuple_index, PySem.F.type_tuple_index, ht.typeIs, fun b q => ?_, ?_⟩
    · cases q
      exact ⟨ob, g1, hd⟩
    rw [hs]
    refine Calls.callWith_builtin (by show (false || (backTo cpos (starEach [] X.env)).any (·.1)) = false; rw [hplain] <;> rfl) (Calls.evalArgs_plain ?_)
    show wpAny _ _ (spliced ((false, eval e X.env) :: backTo cpos (starEach [] X.env))) _ _ s1
    refine Calls.spliced_cons (thn (ha.run pins s1 σ F1 H1 env1 _ Kx I1 R1 k1 hx) fun u s2 ⟨y, env2, r2, F2, H2, I2, ry, R2, f2, q2, n2, d, g2, sl, sd, j, z, hzj, hzd, hno, k⟩ => Calls.spliced_nil ?_)
    obtain ⟨g3, _, its2, rv2, ht2⟩ := I2.hok a _ (R2.sub _ _ (f2.sub _ _ h1))
    obtain ⟨⟨cls, dd, data, sls⟩, ho2, hc, n, hdt⟩ := ht2
    simp only at hc hdt
    subst hc hdt
    obtain ⟨bs, rx2⟩ := Dp.reads I2 d y u (Rt.dp R2.sub (q2.rt R2 g2) sd) ry
    have hxs : PyData.canLayAll0 ds = true := SeqAt.canLay_of_shaped sl
    have hpl : PyData.plainAll ds = true := PyData.plainAll_of_canLay0 _ hxs
    have hdp : d.plain = true := PyData.plain_of_canLay0 _ (SeqAt.canLay_of_shaped sd)
    have h22 : RpAll X.K H2 xs ds := RpAll.mono (f2.sub.trans R2.sub) _ _ h2
    obtain ⟨as, rs2⟩ := Dp.readsAll I2 ds xs its2 (dpAll_of ds xs h22 hxs) rv2
    have hmap : its2.map (SeqAt.readOf s2.heap) = ds := SeqAt.readsAll_map ds its2 as hxs rs2
    have at2 : ∀ (m : Nat) (hm : m < its2.toArray.size) (z' : PyData), ds[m]? = some z' → SeqAt.readOf s2.heap its2.toArray[m] = z' := fun m hm z' hz' => by
      rw [← hmap, List.getElem?_map] at hz'
      have hm2 : m < its2.length := by simpa using hm
      rw [List.getElem?_eq_getElem hm2] at hz'
      have := Option.some.inj hz'
      simpa using this
    have many : its2.toArray.size = ds.length := by rw [List.size_toArray, ← hmap, List.length_map]
    obtain ⟨jl, _⟩ := List.getElem?_eq_some_iff.mp hzj
    have hj : j < its2.toArray.size := by rw [many]; exact jl
    refine call_meets PySem.F.slot_tuple_index ⟨_, ho2, rfl⟩ PySem.F.entry_tuple_index (PySem.F.args_tuple_index_2 _ _) (TI.tuple_indexAt a its2.toArray n dd sls u (fun v' => PyData.eqv (SeqAt.readOf s2.heap v') d) j hj ?_ fun m hm hmj => ?_)
      ⟨ho2, SeqAt.items_plain (vs := its2.toArray) rs2 rx2 hpl hdp (room_in_shaped sd hu), ?_⟩
    · show PyData.eqv (SeqAt.readOf s2.heap its2.toArray[j]) d = true
      rw [at2 j hj z hzj]
      exact hzd
    · show PyData.eqv (SeqAt.readOf s2.heap its2.toArray[m]) d = false
      have hm2 : m < ds.length := by rw [← many]; exact hm
      rw [at2 m hm ds[m] (List.getElem?_eq_getElem hm2)]
      exact hno m _ hmj (List.getElem?_eq_getElem hm2)
    · exact DP.up (f1.trans f2) ⟨.int j, env2, .val (.int j), F2, H2, I2.tok _, ⟨_, rfl⟩, R2, Fm.refl, .int _, trivial, k⟩
end
end Dl
end L2

/-! The plain half, 0: w terms are evaluated from the outside, slot by slot. -/
namespace L2
namespace Dl
open PySem PySem.Spec PyProof.Rows
def getS : Ev → Nat → (Sl → Prop) → Prop
  | s :: _, 0, K => K s
  | _ :: e, n + 1, K => getS e n K
  | [], _, _ => False
theorem getS_0 (s : Sl) (e : Ev) (K : Sl → Prop) : getS (s :: e) 0 K = K s := rfl
theorem getS_s (s : Sl) (e : Ev) (n : Nat) (K : Sl → Prop) : getS (s :: e) (n + 1) K = getS e n K := rfl
theorem getS_ex : ∀ (e : Ev) (i : Nat) (K : Sl → Prop), getS e i K = ∃ s, e[i]? = some s ∧ K s
  | [], i, K => by simp [getS]
  | s :: e, 0, K => by simp [getS]
  | s :: e, n + 1, K => by rw [getS_s, getS_ex e n K]; simp
theorem getS_at {e : Ev} {i : Nat} {s : Sl} (h : e[i]? = some s) (K : Sl → Prop) : getS e i K = K s := by
  rw [getS_ex, h]; simp
def setS : Ev → Nat → Sl → (Ev → Prop) → Prop
  | _ :: e, 0, x, K => K (x :: e)
  | s :: e, n + 1, x, K => setS e n x fun e' => K (s :: e')
  | [], _, _, K => K []
theorem setS_0 (s x : Sl) (e : Ev) (K : Ev → Prop) : setS (s :: e) 0 x K = K (x :: e) := rfl
theorem setS_s (s x : Sl) (e : Ev) (n : Nat) (K : Ev → Prop) : setS (s :: e) (n + 1) x K = setS e n x fun e' => K (s :: e') := rfl
theorem setS_eq : ∀ (e : Ev) (i : Nat) (x : Sl) (K : Ev → Prop), setS e i x K = K (e.set i x)
  | [], _, _, _ => rfl
  | _ :: _, 0, _, _ => rfl
  | s :: e, n + 1, x, K => by rw [setS_s, setS_eq e n x]; rfl
/-! names, results -/
def varK (i : Nat) (env : Ev) (Ke : KE) : Sl → Prop
  | .val d => Ke env (.val d)
  | .own _ _ => Ke env (.slot i)
  | _ => False
theorem varK_v (i : Nat) (env : Ev) (Ke : KE) (d : PyData) : varK i env Ke (.val d) = Ke env (.val d) := rfl
theorem varK_o (i : Nat) (env : Ev) (Ke : KE) (l : Bool) (ds : List PyData) : varK i env Ke (.own l ds) = Ke env (.slot i) := rfl
theorem varK_u (i : Nat) (env : Ev) (Ke : KE) : varK i env Ke .un = False := rfl
theorem e_var (i : Nat) (env : Ev) (Ke : KE) (Kx : KXc) : wVar i env Ke Kx = getS env i (varK i env Ke) := by
  rw [getS_ex]
  unfold wVar
  cases h : env[i]? with
  | none => simp
  | some s => cases s <;> simp [varK]
def rdS (k : PyData → Prop) : Sl → Prop
  | .val d => k d
  | .own _ ds => k (.list ds)
  | _ => False
theorem rdS_v (k : PyData → Prop) (d : PyData) : rdS k (.val d) = k d := rfl
theorem rdS_o (k : PyData → Prop) (l : Bool) (ds : List PyData) : rdS k (.own l ds) = k (.list ds) := rfl
theorem rdS_u (k : PyData → Prop) : rdS k .un = False := rfl
theorem rdK_v (env : Ev) (d : PyData) (k : PyData → Prop) : rdK env (.val d) k = k d := by simp [rdK, rd]
theorem rdK_t (env : Ev) (ds : List PyData) (k : PyData → Prop) : rdK env (.tmp ds) k = k (.list ds) := by simp [rdK, rd]
theorem rdK_s (env : Ev) (i : Nat) (k : PyData → Prop) : rdK env (.slot i) k = getS env i (rdS k) := by
  rw [getS_ex]
  unfold rdK rd
  cases h : env[i]? with
  | none => simp [h]
  | some s => cases s <;> simp [rdS, h]
def fzS (i : Nat) (env : Ev) (Kd : Ev → PyData → Prop) : Sl → Prop
  | .val d => Kd env d
  | .own false ds => setS env i (.val (.list ds)) fun e => Kd e (.list ds)
  | _ => False
theorem fzS_v (i : Nat) (env : Ev) (Kd : Ev → PyData → Prop) (d : PyData) : fzS i env Kd (.val d) = Kd env d := rfl
theorem fzS_o (i : Nat) (env : Ev) (Kd : Ev → PyData → Prop) (ds : List PyData) : fzS i env Kd (.own false ds) = setS env i (.val (.list ds)) fun e => Kd e (.list ds) := rfl
theorem fzS_l (i : Nat) (env : Ev) (Kd : Ev → PyData → Prop) (ds : List PyData) : fzS i env Kd (.own true ds) = False := rfl
theorem fzS_u (i : Nat) (env : Ev) (Kd : Ev → PyData → Prop) : fzS i env Kd .un = False := rfl
def fzK (env : Ev) (r : Rs) (Kd : Ev → PyData → Prop) : Prop := ∃ p, fz env r = some p ∧ Kd p.1 p.2
theorem fzK_v (env : Ev) (d : PyData) (Kd : Ev → PyData → Prop) : fzK env (.val d) Kd = Kd env d := by simp [fzK, fz]
theorem fzK_t (env : Ev) (ds : List PyData) (Kd : Ev → PyData → Prop) : fzK env (.tmp ds) Kd = Kd env (.list ds) := by simp [fzK, fz]
theorem fzK_s (env : Ev) (i : Nat) (Kd : Ev → PyData → Prop) : fzK env (.slot i) Kd = getS env i (fzS i env Kd) := by
  rw [getS_ex]
  unfold fzK fz
  cases h : env[i]? with
  | none => simp [h]
  | some s =>
    cases s with
    | un => simp [fzS, h]
    | val d => simp [fzS, h]
    | own l ds => cases l <;> simp [fzS, setS_eq, h]
    | dct kv => simp [fzS, h]
theorem e_fz (w : WE) (env : Ev) (Kd : Ev → PyData → Prop) (Kx : KXc) : wFz w env Kd Kx = w env (fun e r => fzK e r Kd) Kx := rfl
theorem asg_v (i : Nat) (env : Ev) (d : PyData) (K : Ev → Prop) : asg i env (.val d) K = setS env i (.val d) K := (setS_eq _ _ _ _).symm
theorem asg_t (i : Nat) (env : Ev) (ds : List PyData) (K : Ev → Prop) : asg i env (.tmp ds) K = setS env i (.own false ds) K := (setS_eq _ _ _ _).symm
theorem asg_s (i j : Nat) (env : Ev) (K : Ev → Prop) : asg i env (.slot j) K = fzK env (.slot j) fun e d => setS e i (.val d) K := by
  unfold asg fzK
  simp only [setS_eq]
def tbK (r : Rs) (K : Bool → Prop) : Prop := ∃ b, r = .val (.bool b) ∧ K b
theorem tbK_b (b : Bool) (K : Bool → Prop) : tbK (.val (.bool b)) K = K b := by simp [tbK]
theorem e_tb (w : WE) (env : Ev) (Kt : KT) (Kx : KXc) : wTB w env Kt Kx = w env (fun e r => tbK r (Kt e)) Kx := rfl
theorem e_notV (w : WE) (env : Ev) (Ke : KE) (Kx : KXc) : wNotV w env Ke Kx = w env (fun e r => tbK r fun c => Ke e (.val (.bool (!c)))) Kx := rfl
theorem e_andV (wa wb : WE) (env : Ev) (Ke : KE) (Kx : KXc) : wAndV wa wb env Ke Kx = wa env (fun e r => tbK r fun c => if c = true then wb e Ke Kx else Ke e (.val (.bool false))) Kx := rfl
theorem e_orV (wa wb : WE) (env : Ev) (Ke : KE) (Kx : KXc) : wOrV wa wb env Ke Kx = wa env (fun e r => tbK r fun c => if c = true then Ke e (.val (.bool true)) else wb e Ke Kx) Kx := rfl
def intK (r : Rs) (K : Int → Prop) : Prop := ∃ i, r = .val (.int i) ∧ K i
theorem intK_i (i : Int) (K : Int → Prop) : intK (.val (.int i)) K = K i := by simp [intK]
theorem e_neg (w : WE) (env : Ev) (Ke : KE) (Kx : KXc) : wNeg w env Ke Kx = w env (fun e r => intK r fun i => Ke e (.val (.int (-i)))) Kx := rfl
theorem e_oso (w : WE) (env : Ev) (Ko : Ev → Option Int → Prop) (Kx : KXc) : wOSo w env Ko Kx = w env (fun e r => intK r fun i => Ko e (some i)) Kx := rfl
theorem e_rng1 (w : WE) (env : Ev) (Ki : Ev → List PyData → Prop) (Kx : KXc) : wIRng1 w env Ki Kx = w env (fun e r => intK r fun j => -(2 ^ 62) ≤ j ∧ j < 2 ^ 62 ∧ Ki e ((List.range j.toNat).map fun (i : Nat) => PyData.int (i : Int))) Kx := rfl
theorem e_rng2 (wa wb : WE) (env : Ev) (Ki : Ev → List PyData → Prop) (Kx : KXc) : wIRng2 wa wb env Ki Kx = wa env (fun e1 r1 => wb e1 (fun e2 r2 => intK r1 fun i => intK r2 fun j => (-(2 ^ 62) ≤ i ∧ i < 2 ^ 62 ∧ -(2 ^ 62) ≤ j ∧ j < 2 ^ 62) ∧ Ki e2 ((List.range (j - i).toNat).map fun (m : Nat) => PyData.int (i + m))) Kx) Kx := by
  have : (fun (e2 : Ev) (r1 r2 : Rs) => intK r1 fun i => intK r2 fun j => (-(2 ^ 62) ≤ i ∧ i < 2 ^ 62 ∧ -(2 ^ 62) ≤ j ∧ j < 2 ^ 62) ∧ Ki e2 ((List.range (j - i).toNat).map fun (m : Nat) => PyData.int (i + m))) =
      fun e2 r1 r2 => ∃ i j, r1 = .val (.int i) ∧ r2 = .val (.int j) ∧ (-(2 ^ 62) ≤ i ∧ i < 2 ^ 62 ∧ -(2 ^ 62) ≤ j ∧ j < 2 ^ 62) ∧ Ki e2 ((List.range (j - i).toNat).map fun (m : Nat) => PyData.int (i + m)) := by
    funext e2 r1 r2
    unfold intK
    apply propext
    constructor
    · rintro ⟨i, h1, j, h2, h3⟩; exact ⟨i, j, h1, h2, h3⟩
    · rintro ⟨i, j, h1, h2, h3⟩; exact ⟨i, h1, j, h2, h3⟩
  unfold wIRng2
  congr 1
  funext e1 r1
  congr 1
  funext e2 r2
  exact (congrFun (congrFun (congrFun this e2) r1) r2).symm
/-! calls -/
def rdAllK (env : Ev) : List Rs → (List PyData → Prop) → Prop
  | [], K => K []
  | r :: rs, K => rdK env r fun d => rdAllK env rs fun ds => K (d :: ds)
theorem rdAllK_n (env : Ev) (K : List PyData → Prop) : rdAllK env [] K = K [] := rfl
theorem rdAllK_c (env : Ev) (r : Rs) (rs : List Rs) (K : List PyData → Prop) : rdAllK env (r :: rs) K = rdK env r fun d => rdAllK env rs fun ds => K (d :: ds) := rfl
theorem rdAllK_ex (env : Ev) : ∀ (rs : List Rs) (K : List PyData → Prop), rdAllK env rs K = ∃ ds, rdAll env rs = some ds ∧ K ds
  | [], K => by simp [rdAllK, rdAll]
  | r :: rs, K => by
    rw [rdAllK_c]
    unfold rdK rdAll
    cases h1 : rd env r with
    | none => simp
    | some d =>
      cases h2 : rdAll env rs with
      | none => simp [rdAllK_ex env rs, h2]
      | some ds => simp [rdAllK_ex env rs, h2]
theorem e_callB (o : OpN) (wa : WA) (env : Ev) (Ke : KE) (Kx : KXc) : wCallB o wa env Ke Kx = wa env (fun e rs => rdAllK e rs fun ds => o ds (Ke e)) Kx := by
  simp only [rdAllK_ex]
  rfl
def lnS (K : List PyData → Prop) : Sl → Prop
  | .own _ ds => K ds
  | _ => False
theorem lnS_o (K : List PyData → Prop) (l : Bool) (ds : List PyData) : lnS K (.own l ds) = K ds := rfl
theorem lnS_v (K : List PyData → Prop) (d : PyData) : lnS K (.val d) = False := rfl
theorem lnS_u (K : List PyData → Prop) : lnS K .un = False := rfl
def avsK (env : Ev) : List Ar → (List AV → Prop) → Prop
  | [], K => K []
  | .fz d :: as, K => avsK env as fun a => K (.val d :: a)
  | .ln i :: as, K => getS env i (lnS fun ds => avsK env as fun a => K (.own ds :: a))
theorem avsK_n (env : Ev) (K : List AV → Prop) : avsK env [] K = K [] := rfl
theorem avsK_f (env : Ev) (d : PyData) (as : List Ar) (K : List AV → Prop) : avsK env (.fz d :: as) K = avsK env as fun a => K (.val d :: a) := rfl
theorem avsK_l (env : Ev) (i : Nat) (as : List Ar) (K : List AV → Prop) : avsK env (.ln i :: as) K = getS env i (lnS fun ds => avsK env as fun a => K (.own ds :: a)) := rfl
theorem avsK_ex (env : Ev) : ∀ (as : List Ar) (K : List AV → Prop), avsK env as K = ∃ a, avsOf env as = some a ∧ K a
  | [], K => by simp [avsK, avsOf]
  | .fz d :: as, K => by
    rw [avsK_f, avsK_ex env as, show avsOf env (.fz d :: as) = (avsOf env as).map (.val d :: ·) from rfl]
    simp only [Option.map_eq_some_iff]
    apply propext
    constructor
    · rintro ⟨a, h1, h2⟩; exact ⟨_, ⟨a, h1, rfl⟩, h2⟩
    · rintro ⟨_, ⟨a, h1, rfl⟩, h2⟩; exact ⟨a, h1, h2⟩
  | .ln i :: as, K => by
    rw [avsK_l, getS_ex]
    unfold avsOf
    cases h : env[i]? with
    | none => simp
    | some s =>
      cases s with
      | un => simp [lnS]
      | dct kv => simp [lnS]
      | val d => simp [lnS]
      | own l ds =>
        simp only [Option.some.injEq, exists_eq_left', lnS_o, avsK_ex env as, Option.map_eq_some_iff]
        apply propext
        constructor
        · rintro ⟨a, h1, h2⟩; exact ⟨_, ⟨a, h1, rfl⟩, h2⟩
        · rintro ⟨_, ⟨a, h1, rfl⟩, h2⟩; exact ⟨a, h1, h2⟩
def poS (i : Nat) (env : Ev) (ds : List PyData) (K : Ev → Prop) : Sl → Prop
  | .own l _ => setS env i (.own l ds) K
  | _ => K env
theorem poS_o (i : Nat) (env : Ev) (ds es : List PyData) (l : Bool) (K : Ev → Prop) : poS i env ds K (.own l es) = setS env i (.own l ds) K := rfl
def poK (env : Ev) : List Nat → List (List PyData) → (Ev → Prop) → Prop
  | i :: is, ds :: outs, K => match env[i]? with
    | some s => poS i env ds (fun e => poK e is outs K) s
    | none => poK env is outs K
  | _, _, K => K env
theorem poK_n (env : Ev) (outs : List (List PyData)) (K : Ev → Prop) : poK env [] outs K = K env := rfl
theorem poK_eq : ∀ (is : List Nat) (outs : List (List PyData)) (env : Ev) (K : Ev → Prop), poK env is outs K = K (putOuts env is outs)
  | [], _, _, _ => rfl
  | _ :: _, [], _, _ => rfl
  | i :: is, ds :: outs, env, K => by
    unfold poK putOuts
    cases h : env[i]? with
    | none => exact poK_eq is outs env K
    | some s =>
      cases s with
      | un => exact poK_eq is outs env K
      | dct kv => exact poK_eq is outs env K
      | val d => exact poK_eq is outs env K
      | own l es =>
        show setS env i (.own l ds) (fun e => poK e is outs K) = _
        rw [setS_eq, poK_eq is outs]
theorem poK_c (i : Nat) (is : List Nat) (env : Ev) (ds : List PyData) (outs : List (List PyData)) (K : Ev → Prop) (h : ∃ s, env[i]? = some s) : poK env (i :: is) (ds :: outs) K = getS env i (poS i env ds fun e => poK e is outs K) := by
  obtain ⟨s, h⟩ := h
  rw [getS_at h]
  show (match env[i]? with
    | some s => poS i env ds (fun e => poK e is outs K) s
    | none => poK env is outs K) = _
  rw [h]
theorem inS_0 (s : Sl) (e : Ev) : (∃ t, (s :: e)[0]? = some t) = True := by simp
theorem inS_s (s : Sl) (e : Ev) (n : Nat) : (∃ t, (s :: e)[n + 1]? = some t) = (∃ t, e[n]? = some t) := by simp
def rsK (r : Rv) (K : Rs → Prop) : Prop := K (rsOf r)
theorem rsK_v (d : PyData) (K : Rs → Prop) : rsK (.val d) K = K (.val d) := rfl
theorem rsK_o (ds : List PyData) (K : Rs → Prop) : rsK (.own ds) K = K (.tmp ds) := rfl
theorem e_call (n : Nat) (S : Spc) (wm : WM) (env : Ev) (Ke : KE) (Kx : KXc) : wCall n S wm env Ke Kx = wm env (fun e as => (lnsOf as).Nodup ∧ avsK e as fun avs => avs.length = n ∧ S avs (fun outs r => poK e (lnsOf as) outs fun e' => rsK r (Ke e')) (fun outs x => poK e (lnsOf as) outs fun e' => Kx e' x)) Kx := by
  simp only [avsK_ex, poK_eq, rsK]
  rfl
/-! own lists -/
def ownB : Sl → Prop
  | .own _ _ => True
  | _ => False
theorem ownB_o (l : Bool) (ds : List PyData) : ownB (.own l ds) = True := rfl
theorem e_isOwn (env : Ev) (i : Nat) : isOwn env i = getS env i ownB := by
  rw [getS_ex]
  unfold isOwn
  apply propext
  constructor
  · rintro ⟨l, ds, h⟩; exact ⟨_, h, trivial⟩
  · rintro ⟨s, h, z⟩
    cases s with
    | own l ds => exact ⟨l, ds, h⟩
    | un => exact z.elim
    | dct kv => exact z.elim
    | val d => exact z.elim
theorem e_ld (i : Nat) (wm : WM) (env : Ev) (Ka : Ev → List Ar → Prop) (Kx : KXc) : wLd i wm env Ka Kx = (getS env i ownB ∧ wm env (fun e as => Ka e (.ln i :: as)) Kx) := by
  rw [← e_isOwn]
  unfold wLd isOwn wMLend
  apply propext
  constructor
  · rintro ⟨⟨ds, l, h⟩, z⟩; exact ⟨⟨l, ds, h⟩, z⟩
  · rintro ⟨⟨l, ds, h⟩, z⟩; exact ⟨⟨ds, l, h⟩, z⟩
def oS (K : Bool → List PyData → Prop) : Sl → Prop
  | .own l ds => K l ds
  | _ => False
theorem oS_o (K : Bool → List PyData → Prop) (l : Bool) (ds : List PyData) : oS K (.own l ds) = K l ds := rfl
theorem oS_v (K : Bool → List PyData → Prop) (d : PyData) : oS K (.val d) = False := rfl
theorem oS_u (K : Bool → List PyData → Prop) : oS K .un = False := rfl
theorem own_ex (env : Ev) (i : Nat) (K : Bool → List PyData → Prop) : getS env i (oS K) = ∃ l ds, env[i]? = some (Sl.own l ds) ∧ K l ds := by
  rw [getS_ex]
  apply propext
  constructor
  · rintro ⟨s, h, z⟩
    cases s with
    | own l ds => exact ⟨l, ds, h, z⟩
    | un => exact z.elim
    | dct kv => exact z.elim
    | val d => exact z.elim
  · rintro ⟨l, ds, h, z⟩; exact ⟨_, h, z⟩
theorem e_ownF (i : Nat) (w : WE) (m : Mu) (env : Ev) (Ke : KE) (Kx : KXc) : wOwnF i w m env Ke Kx = (getS env i ownB ∧ wFz w env (fun e d => getS e i (oS fun l ds => m ds d fun ds' d' => setS e i (.own l ds') fun e' => Ke e' (.val d'))) Kx) := by
  simp only [own_ex, setS_eq, ← e_isOwn]
  rfl
theorem e_own0 (i : Nat) (m : List PyData → (List PyData → PyData → Prop) → Prop) (env : Ev) (Ke : KE) (Kx : KXc) : wOwn0 i m env Ke Kx = getS env i (oS fun l ds => m ds fun ds' d' => setS env i (.own l ds') fun e' => Ke e' (.val d')) := by
  simp only [own_ex, setS_eq]
  rfl
theorem e_setIx (i : Nat) (wi w : WE) (env : Ev) (k : Ken) : wSetIx i wi w env k = wFz w env (fun e d => getS e i ownB ∧ wi e (fun e2 r => intK r fun j => getS e2 i (oS fun l ds => ∃ n, ixN ds.length j = some n ∧ setS e2 i (.own l (ds.set n d)) k.nx)) k.ex) k.ex := by
  have : ∀ (e2 : Ev) (r : Rs) (d : PyData), (intK r fun j => getS e2 i (oS fun l ds => ∃ n, ixN ds.length j = some n ∧ setS e2 i (.own l (ds.set n d)) k.nx)) = ∃ j l ds n, r = .val (.int j) ∧ e2[i]? = some (Sl.own l ds) ∧ ixN ds.length j = some n ∧ k.nx (e2.set i (.own l (ds.set n d))) := by
    intro e2 r d
    simp only [own_ex, setS_eq, intK]
    apply propext
    constructor
    · rintro ⟨j, h1, l, ds, h2, n, h3, h4⟩; exact ⟨j, l, ds, n, h1, h2, h3, h4⟩
    · rintro ⟨j, l, ds, n, h1, h2, h3, h4⟩; exact ⟨j, h1, l, ds, h2, n, h3, h4⟩
  simp only [this, ← e_isOwn]
  rfl
def agS (f : Int → Prop) : Sl → Prop
  | .val (.int n) => f n
  | _ => False
theorem agS_i (f : Int → Prop) (n : Int) : agS f (.val (.int n)) = f n := rfl
theorem e_aug (i : Nat) (f : Int → Int → Int) (w : WE) (env : Ev) (k : Ken) : wAug i f w env k = getS env i (agS fun n => w env (fun e r => intK r fun m => setS e i (.val (.int (f n m))) k.nx) k.ex) := by
  rw [getS_ex]
  simp only [setS_eq]
  unfold wAug intK
  apply propext
  constructor
  · rintro ⟨n, h, z⟩; exact ⟨_, h, z⟩
  · rintro ⟨s, h, z⟩
    cases s with
    | own l ds => exact z.elim
    | un => exact z.elim
    | dct kv => exact z.elim
    | val d =>
      cases d with
      | int n => exact ⟨n, h, z⟩
      | none => exact z.elim
      | bool _ => exact z.elim
      | str _ => exact z.elim
      | list _ => exact z.elim
      | tuple _ => exact z.elim
      | dict _ => exact z.elim
theorem e_par (i j : Nat) (wf : WF) (env : Ev) (k : Ken) : wPar i j wf env k = wf env (fun e ds => match ds with
  | [d1, d2] => setS e i (.val d1) fun e1 => setS e1 j (.val d2) k.nx
  | _ => False) k.ex := by
  simp only [setS_eq]
  rfl
theorem e_gN (i : Nat) (d : PyData) (env : Ev) (K : Ev → Prop) : gN i d env K = setS env i (.val d) K := (setS_eq _ _ _ _).symm
/-! the ends -/
def otS (K : List PyData → Prop) : Sl → Prop
  | .own true ds => K ds
  | _ => False
theorem otS_o (K : List PyData → Prop) (ds : List PyData) : otS K (.own true ds) = K ds := rfl
def outK (env : Ev) : List Nat → (List (List PyData) → Prop) → Prop
  | [], K => K []
  | i :: is, K => getS env i (otS fun ds => outK env is fun o => K (ds :: o))
theorem outK_n (env : Ev) (K : List (List PyData) → Prop) : outK env [] K = K [] := rfl
theorem outK_c (env : Ev) (i : Nat) (is : List Nat) (K : List (List PyData) → Prop) : outK env (i :: is) K = getS env i (otS fun ds => outK env is fun o => K (ds :: o)) := rfl
theorem outK_ex (env : Ev) : ∀ (is : List Nat) (K : List (List PyData) → Prop), outK env is K = ∃ o, outsOf env is = some o ∧ K o
  | [], K => by simp [outK, outsOf]
  | i :: is, K => by
    rw [outK_c, getS_ex]
    unfold outsOf
    cases h : env[i]? with
    | none => simp
    | some s =>
      cases s with
      | un => simp [otS]
      | dct kv => simp [otS]
      | val d => simp [otS]
      | own l ds =>
        cases l with
        | false => simp [otS]
        | true =>
          simp only [Option.some.injEq, exists_eq_left', otS_o, outK_ex env is, Option.map_eq_some_iff]
          apply propext
          constructor
          · rintro ⟨a, h1, h2⟩; exact ⟨_, ⟨a, h1, rfl⟩, h2⟩
          · rintro ⟨_, ⟨a, h1, rfl⟩, h2⟩; exact ⟨a, h1, h2⟩
def rvS (K : Rv → Prop) : Sl → Prop
  | .val d => K (.val d)
  | .own false ds => K (.own ds)
  | _ => False
theorem rvS_v (K : Rv → Prop) (d : PyData) : rvS K (.val d) = K (.val d) := rfl
theorem rvS_o (K : Rv → Prop) (ds : List PyData) : rvS K (.own false ds) = K (.own ds) := rfl
def rvK (env : Ev) (r : Rs) (K : Rv → Prop) : Prop := ∃ v, retV env r = some v ∧ K v
theorem rvK_v (env : Ev) (d : PyData) (K : Rv → Prop) : rvK env (.val d) K = K (.val d) := by simp [rvK, retV]
theorem rvK_t (env : Ev) (ds : List PyData) (K : Rv → Prop) : rvK env (.tmp ds) K = K (.own ds) := by simp [rvK, retV]
theorem rvK_s (env : Ev) (i : Nat) (K : Rv → Prop) : rvK env (.slot i) K = getS env i (rvS K) := by
  rw [getS_ex]
  unfold rvK retV
  cases h : env[i]? with
  | none => simp [h]
  | some s =>
    cases s with
    | un => simp [rvS, h]
    | val d => simp [rvS, h]
    | own l ds => cases l <;> simp [rvS, h]
    | dct kv => simp [rvS, h]
theorem kenD_nx {ls : List Nat} {Kr : List (List PyData) → Rv → Prop} {Kx : List (List PyData) → XD → Prop} {env : Ev} : (kenD ls Kr Kx).nx env = outK env ls fun o => Kr o (.val .none) := by rw [outK_ex]; rfl
theorem kenD_rt {ls : List Nat} {Kr : List (List PyData) → Rv → Prop} {Kx : List (List PyData) → XD → Prop} {env : Ev} {r : Rs} : (kenD ls Kr Kx).rt env r = outK env ls fun o => rvK env r (Kr o) := by
  rw [outK_ex]
  unfold rvK kenD
  apply propext
  constructor
  · rintro ⟨o, v, h1, h2, h3⟩; exact ⟨o, h1, v, h2, h3⟩
  · rintro ⟨o, h1, v, h2, h3⟩; exact ⟨o, v, h1, h2, h3⟩
theorem kenD_bk {ls : List Nat} {Kr : List (List PyData) → Rv → Prop} {Kx : List (List PyData) → XD → Prop} {env : Ev} : (kenD ls Kr Kx).bk env = False := rfl
theorem kenD_ct {ls : List Nat} {Kr : List (List PyData) → Rv → Prop} {Kx : List (List PyData) → XD → Prop} {env : Ev} : (kenD ls Kr Kx).ct env = False := rfl
theorem kenD_ex {ls : List Nat} {Kr : List (List PyData) → Rv → Prop} {Kx : List (List PyData) → XD → Prop} {env : Ev} {x : XD} : (kenD ls Kr Kx).ex env x = outK env ls fun o => Kx o x := by rw [outK_ex]; rfl
/-! operators on known data -/
section
variable (K : Rs → Prop) (i j : Int) (xs ys : List PyData)
theorem oAdd_i : oAdd (.int i) (.int j) K = K (.val (.int (i + j))) := rfl
theorem oAdd_l : oAdd (.list xs) (.list ys) K = (xs.length + ys.length ≤ sizeLine ∧ K (.tmp (xs ++ ys))) := rfl
theorem oAdd_t : oAdd (.tuple xs) (.tuple ys) K = (xs.length + ys.length ≤ sizeLine ∧ K (.val (.tuple (xs ++ ys)))) := rfl
theorem oAdd_s (x y : Str) : oAdd (.str x) (.str y) K = (x.length + y.length ≤ sizeLine ∧ K (.val (.str (x ++ y)))) := rfl
theorem oSub_i : oSub (.int i) (.int j) K = K (.val (.int (i - j))) := rfl
theorem oMul_i : oMul (.int i) (.int j) K = (CMulX i j ∧ K (.val (.int (i * j)))) := rfl
theorem oFdiv_i : oFdiv (.int i) (.int j) K = ((0 < j ∧ j.natAbs.log2 < 9000) ∧ K (.val (.int (i / j)))) := rfl
theorem oMod_i : oMod (.int i) (.int j) K = (0 < j ∧ K (.val (.int (i % j)))) := rfl
theorem oPow_i : oPow (.int i) (.int j) K = (CPow i j ∧ K (.val (.int (i ^ j.toNat)))) := rfl
theorem oShl_i : oShl (.int i) (.int j) K = (CShl i j ∧ K (.val (.int (i * 2 ^ j.toNat)))) := rfl
theorem oShr_i : oShr (.int i) (.int j) K = (0 ≤ j ∧ K (.val (.int (i / 2 ^ j.toNat)))) := rfl
theorem oOr_i : oOr (.int i) (.int j) K = (True ∧ K (.val (.int (Builtin.bitOr i j)))) := rfl
theorem oAndB_i : oAndB (.int i) (.int j) K = (True ∧ K (.val (.int (Builtin.bitAnd i j)))) := rfl
theorem oLt_i : oLt (.int i) (.int j) K = K (.val (.bool (decide (i < j)))) := rfl
theorem oLe_i : oLe (.int i) (.int j) K = K (.val (.bool (decide (i ≤ j)))) := rfl
theorem oGt_i : oGt (.int i) (.int j) K = K (.val (.bool (decide (j < i)))) := rfl
theorem oGe_i : oGe (.int i) (.int j) K = K (.val (.bool (decide (j ≤ i)))) := rfl
theorem oEq_i : oEq (.int i) (.int j) K = K (.val (.bool (decide (i = j)))) := by
  apply propext
  exact ⟨fun h => h.2.2, fun h => ⟨rfl, rfl, h⟩⟩
theorem oNe_i : oNe (.int i) (.int j) K = K (.val (.bool (!decide (i = j)))) := by
  apply propext
  exact ⟨fun h => h.2.2, fun h => ⟨rfl, rfl, h⟩⟩
theorem oIx_l : oIx (.list xs) (.int i) K = ∃ x, atI xs i = some x ∧ K (.val x) := rfl
theorem oIx_t : oIx (.tuple xs) (.int i) K = ∃ x, atI xs i = some x ∧ K (.val x) := rfl
theorem oLen_l : oLen [.list xs] K = K (.val (.int xs.length)) := rfl
theorem oLen_t : oLen [.tuple xs] K = K (.val (.int xs.length)) := rfl
theorem oInt_i : oInt [.int i] K = K (.val (.int i)) := rfl
theorem oInt_b (b : Bool) : oInt [.bool b] K = K (.val (.int (if b then 1 else 0))) := rfl
theorem oMax_i : oMax [.int i, .int j] K = K (.val (.int (if j > i then j else i))) := rfl
theorem oMin_i : oMin [.int i, .int j] K = K (.val (.int (if j < i then j else i))) := rfl
theorem oList_l : oList [.list xs] K = K (.tmp xs) := rfl
theorem oList_t : oList [.tuple xs] K = K (.tmp xs) := rfl
theorem oTuple_l : oTuple [.list xs] K = K (.val (.tuple xs)) := rfl
theorem oTuple_t : oTuple [.tuple xs] K = K (.val (.tuple xs)) := rfl
theorem oSorted_l : oSorted [.list xs] K = (Srts xs ∧ K (.tmp (xs.mergeSort dLe))) := rfl
theorem oSorted_t : oSorted [.tuple xs] K = (Srts xs ∧ K (.tmp (xs.mergeSort dLe))) := rfl
theorem oIs_n (d : PyData) : oIs d .none K = K (.val (.bool (isNone d))) := by cases d <;> rfl
theorem oIsN_n (d : PyData) : oIsNot d .none K = K (.val (.bool (!isNone d))) := by cases d <;> rfl
theorem oIs_b (a b : Bool) : oIs (.bool a) (.bool b) K = K (.val (.bool (decide (a = b)))) := rfl
theorem oIsN_b (a b : Bool) : oIsNot (.bool a) (.bool b) K = K (.val (.bool (!decide (a = b)))) := rfl
theorem isNone_n : isNone .none = true := rfl
theorem isNone_t : isNone (.tuple xs) = false := rfl
theorem isNone_l : isNone (.list xs) = false := rfl
theorem isNone_i : isNone (.int i) = false := rfl
theorem isNone_s (x : Str) : isNone (.str x) = false := rfl
theorem isNone_b (x : Bool) : isNone (.bool x) = false := rfl
theorem oSl_l (lo hi : Option Int) : oSl (.list xs) lo hi K = K (.tmp (cutD xs lo hi)) := rfl
theorem oSl_t (lo hi : Option Int) : oSl (.tuple xs) lo hi K = K (.val (.tuple (cutD xs lo hi))) := rfl
end
theorem gT_t (n : Nat) (gs : WGs) (ds : List PyData) (env : Ev) (K : Ev → Prop) : gT n gs (.tuple ds) env K = (ds.length = n ∧ gs ds env K) := rfl
theorem gC_c (g : WG) (gs : WGs) (d : PyData) (r : List PyData) (env : Ev) (K : Ev → Prop) : gCons' g gs (d :: r) env K = g d env fun e => gs r e K := rfl
def sqK (d : PyData) (K : List PyData → Prop) : Prop := ∃ ds, itemsOf d = some ds ∧ K ds
theorem sqK_l (ds : List PyData) (K : List PyData → Prop) : sqK (.list ds) K = K ds := by simp [sqK, itemsOf]
theorem sqK_t (ds : List PyData) (K : List PyData → Prop) : sqK (.tuple ds) K = K ds := by simp [sqK, itemsOf]
theorem sqK2_l (ds : List PyData) (K : List PyData → Prop) : (∃ es, seqOf (.list ds) = some es ∧ K es) = K ds := by simp [seqOf]
theorem sqK2_t (ds : List PyData) (K : List PyData → Prop) : (∃ es, seqOf (.tuple ds) = some es ∧ K es) = K ds := by simp [seqOf]
def sq2K (d : PyData) (K : List PyData → Prop) : Prop := ∃ ds, seqOf d = some ds ∧ K ds
theorem sq2K_l (ds : List PyData) (K : List PyData → Prop) : sq2K (.list ds) K = K ds := sqK2_l ds K
theorem sq2K_t (ds : List PyData) (K : List PyData → Prop) : sq2K (.tuple ds) K = K ds := sqK2_t ds K
theorem e_isq (w : WE) (env : Ev) (Ki : Ev → List PyData → Prop) (Kx : KXc) : wISq w env Ki Kx = wFz w env (fun e d => sq2K d (Ki e)) Kx := rfl
theorem e_iseq (w : WE) (env : Ev) (Ki : Ev → List PyData → Prop) (Kx : KXc) : wISeq w env Ki Kx = wFz w env (fun e d => sqK d (Ki e)) Kx := rfl
def ssK (d : PyData) (K : List PyData → Prop) : Prop := ∃ xs, (d = .list xs ∨ d = .tuple xs) ∧ K xs
theorem ssK_l (ds : List PyData) (K : List PyData → Prop) : ssK (.list ds) K = K ds := by simp [ssK]
theorem ssK_t (ds : List PyData) (K : List PyData → Prop) : ssK (.tuple ds) K = K ds := by simp [ssK]
theorem e_sset (w : WE) (env : Ev) (Ke : KE) (Kx : KXc) : wSortSet w env Ke Kx = w env (fun e r => rdK e r fun d => ssK d fun xs => oSortSet xs (Ke e)) Kx := by
  unfold wSortSet
  congr 1
  funext e r
  unfold rdK ssK
  apply propext
  constructor
  · rintro ⟨xs, h1 | h1, h2⟩
    · exact ⟨_, h1, xs, .inl rfl, h2⟩
    · exact ⟨_, h1, xs, .inr rfl, h2⟩
  · rintro ⟨d, h1, xs, rfl | rfl, h2⟩
    · exact ⟨xs, .inl h1, h2⟩
    · exact ⟨xs, .inr h1, h2⟩
theorem e_chain (o o' : Op2) (wa wb wc : WE) (env : Ev) (Ke : KE) (Kx : KXc) : wChain o o' wa wb wc env Ke Kx = wa env (fun e1 r1 => wb e1 (fun e2 r2 => rdK e2 r1 fun d1 => rdK e2 r2 fun d2 => o d1 d2 fun r3 => tbK r3 fun k =>
  if k = true then wc e2 (fun e4 r4 => rdK e4 r2 fun d3 => rdK e4 r4 fun d4 => o' d3 d4 (Ke e4)) Kx else Ke e2 (.val (.bool false))) Kx) Kx := rfl
theorem e_lr1 (b : Bool) (w : WE) (env : Ev) (Ke : KE) (Kx : KXc) : wLR1 b w env Ke Kx = w env (fun e r => intK r fun j => rgK 0 j fun ds => Ke e (if b = true then .val (.tuple ds) else .tmp ds)) Kx := rfl
theorem e_lr2 (b : Bool) (wa wb : WE) (env : Ev) (Ke : KE) (Kx : KXc) : wLR2 b wa wb env Ke Kx = wa env (fun e1 r1 => wb e1 (fun e2 r2 => intK r1 fun i => intK r2 fun j => rgK i j fun ds => Ke e2 (if b = true then .val (.tuple ds) else .tmp ds)) Kx) Kx := by
  unfold wLR2 intK
  rfl
theorem rvD_l (ds : List PyData) (K : Rs → Prop) : rvD (.list ds) K = K (.tmp ds.reverse) := rfl
theorem rvD_t (ds : List PyData) (K : Rs → Prop) : rvD (.tuple ds) K = K (.val (.tuple ds.reverse)) := rfl
theorem e_in1 (neg : Bool) (wa wb : WE) (env : Ev) (Ke : KE) (Kx : KXc) : wIn1 neg wa wb env Ke Kx = wa env (fun e1 r1 => wb e1 (fun e2 r2 => intK r1 fun i => intK r2 fun j => Ke e2 (.val (.bool (negB neg (decide (0 ≤ i ∧ i < j)))))) Kx) Kx := by
  unfold wIn1 intK
  rfl
theorem e_in2 (neg : Bool) (wa wb wc : WE) (env : Ev) (Ke : KE) (Kx : KXc) : wIn2 neg wa wb wc env Ke Kx = wa env (fun e1 r1 => wb e1 (fun e2 r2 => wc e2 (fun e3 r3 => intK r1 fun i => intK r2 fun j => intK r3 fun k => Ke e3 (.val (.bool (negB neg (decide (j ≤ i ∧ i < k)))))) Kx) Kx) Kx := by
  unfold wIn2 intK
  rfl
theorem negB_f (b : Bool) : negB false b = b := rfl
theorem negB_t (b : Bool) : negB true b = !b := rfl
theorem zpK_m (xs ys : List PyData) (K : List PyData → Prop) : zpK [.list xs, .tuple ys] K = K (zipD xs ys) := rfl
def extR (env : Ev) (i : Nat) (r : Rs) (K : List PyData → Prop) : Prop := ∃ es, (r = .tmp es ∨ ∃ j, j ≠ i ∧ r = .slot j ∧ ∃ m, env[j]? = some (Sl.own m es)) ∧ K es
theorem extR_t (env : Ev) (i : Nat) (es : List PyData) (K : List PyData → Prop) : extR env i (.tmp es) K = K es := by
  unfold extR
  apply propext
  constructor
  · rintro ⟨es', h | ⟨_, _, h, _⟩, k⟩
    · cases h; exact k
    · cases h
  · exact fun k => ⟨es, .inl rfl, k⟩
theorem e_extend (i : Nat) (w : WE) (env : Ev) (Ke : KE) (Kx : KXc) : wExtend i w env Ke Kx = (getS env i ownB ∧ w env (fun e r => getS e i (oS fun l ds => extR e i r fun es => ds.length + es.length ≤ sizeLine ∧ setS e i (.own l (ds ++ es)) fun e' => Ke e' (.val .none))) Kx) := by
  have : ∀ (e : Ev) (r : Rs), (getS e i (oS fun l ds => extR e i r fun es => ds.length + es.length ≤ sizeLine ∧ setS e i (.own l (ds ++ es)) fun e' => Ke e' (.val .none))) =
      ∃ l ds es, e[i]? = some (Sl.own l ds) ∧ (r = .tmp es ∨ ∃ j, j ≠ i ∧ r = .slot j ∧ ∃ m, e[j]? = some (Sl.own m es)) ∧ ds.length + es.length ≤ sizeLine ∧ Ke (e.set i (.own l (ds ++ es))) (.val .none) := by
    intro e r
    simp only [own_ex, setS_eq, extR]
    apply propext
    constructor
    · rintro ⟨l, ds, h1, es, h2, h3⟩; exact ⟨l, ds, es, h1, h2, h3⟩
    · rintro ⟨l, ds, es, h1, h2, h3⟩; exact ⟨l, ds, h1, es, h2, h3⟩
  simp only [this, ← e_isOwn]
  rfl
theorem eqv_ss (x y : Str) : PyData.eqv (.str x) (.str y) = decide (x = y) := by
  rw [PyData.eqv]
  by_cases h : x = y
  · subst h; simp
  · simp [h]
/-! exceptions -/
abbrev xGreat (a b : Int) : XD := ⟨"TooGreat", [("most", .int b), ("many", .int a)]⟩
abbrev xClocks (a : Int) : XD := ⟨"NoClocks", [("number", .int a)]⟩
abbrev xText (a : Int) : XD := ⟨"NoText", [("row", .int a)]⟩
abbrev xBare (n : Str) : XD := ⟨n, []⟩
def grK (ds : List PyData) (K : XD → Prop) : Prop := match ds with
  | [.int a, .int b] => K (xGreat a b)
  | _ => ds.length = 2 ∧ K ⟨"TooGreat", ((["many", "most"] : List Str).zip ds).reverse⟩
theorem grK_i (a b : Int) (K : XD → Prop) : grK [.int a, .int b] K = K (xGreat a b) := rfl
theorem e_raiseG (wf : WF) (env : Ev) (k : Ken) : wRaise "TooGreat" ["many", "most"] wf env k = wf env (fun e ds => grK ds (k.ex e)) k.ex := by
  have : ∀ (e : Ev) (ds : List PyData), grK ds (k.ex e) = (ds.length = (["many", "most"] : List Str).length ∧ k.ex e ⟨"TooGreat", ((["many", "most"] : List Str).zip ds).reverse⟩) := by
    intro e ds
    unfold grK
    split
    · rename_i a b
      apply propext
      exact ⟨fun h => ⟨rfl, h⟩, fun h => h.2⟩
    · rfl
  simp only [this]
  rfl
def onK (ds : List PyData) (f n : Str) (K : XD → Prop) : Prop := match ds with
  | [.int a] => K ⟨n, [(f, .int a)]⟩
  | _ => ds.length = 1 ∧ K ⟨n, (([f] : List Str).zip ds).reverse⟩
theorem onK_i (a : Int) (f n : Str) (K : XD → Prop) : onK [.int a] f n K = K ⟨n, [(f, .int a)]⟩ := rfl
theorem e_raise1 (f n : Str) (wf : WF) (env : Ev) (k : Ken) : wRaise n [f] wf env k = wf env (fun e ds => onK ds f n (k.ex e)) k.ex := by
  have : ∀ (e : Ev) (ds : List PyData), onK ds f n (k.ex e) = (ds.length = ([f] : List Str).length ∧ k.ex e ⟨n, (([f] : List Str).zip ds).reverse⟩) := by
    intro e ds
    unfold onK
    split
    · rename_i a
      apply propext
      exact ⟨fun h => ⟨rfl, h⟩, fun h => h.2⟩
    · rfl
  simp only [this]
  rfl
theorem e_callX (S : SpcE) (x : XD) (env : Ev) (Ke : KE) (Kx : KXc) : wCallX S x env Ke Kx = S x fun r => rsK r (Ke env) := rfl
theorem xa_1 : (("NoClock" : Str) ∈ xall) = True := eq_true (by decide +kernel)
theorem xa_2 : (("NoNumber" : Str) ∈ xall) = True := eq_true (by decide +kernel)
theorem xa_3 : (("NoPlace" : Str) ∈ xall) = True := eq_true (by decide +kernel)
theorem xa_4 : (("NoRow" : Str) ∈ xall) = True := eq_true (by decide +kernel)
theorem xa_5 : (("NoClocks" : Str) ∈ xall) = True := eq_true (by decide +kernel)
theorem xa_6 : (("NoText" : Str) ∈ xall) = True := eq_true (by decide +kernel)
theorem xa_7 : (("TooGreat" : Str) ∈ xall) = True := eq_true (by decide +kernel)
theorem e_many (a b : Int) (env : Ev) (Ke : KE) (Kx : KXc) : wXf ["TooGreat"] (xGreat a b) "many" env Ke Kx = Ke env (.val (.int a)) := by
  have : (xGreat a b).fs.lookup ("many" : Str) = some (.int a) := by rfl
  unfold wXf
  rw [this]
  simp
theorem e_most (a b : Int) (env : Ev) (Ke : KE) (Kx : KXc) : wXf ["TooGreat"] (xGreat a b) "most" env Ke Kx = Ke env (.val (.int b)) := by
  have : (xGreat a b).fs.lookup ("most" : Str) = some (.int b) := by rfl
  unfold wXf
  rw [this]
  simp
theorem e_number (a : Int) (env : Ev) (Ke : KE) (Kx : KXc) : wXf ["NoClocks"] (xClocks a) "number" env Ke Kx = Ke env (.val (.int a)) := by
  have : (xClocks a).fs.lookup ("number" : Str) = some (.int a) := by rfl
  unfold wXf
  rw [this]
  simp
theorem e_row (a : Int) (env : Ev) (Ke : KE) (Kx : KXc) : wXf ["NoText"] (xText a) "row" env Ke Kx = Ke env (.val (.int a)) := by
  have : (xText a).fs.lookup ("row" : Str) = some (.int a) := by rfl
  unfold wXf
  rw [this]
  simp
/-! reading methods, looking calls, repeated lists, enumerate -/
theorem isLst_l (ds : List PyData) : isLst (.list ds) = True := rfl
def lsK (d : PyData) (K : List PyData → Prop) : Prop := ∃ ds, d = .list ds ∧ K ds
theorem lsK_l (ds : List PyData) (K : List PyData → Prop) : lsK (.list ds) K = K ds := by simp [lsK]
theorem e_rd (w wa : WE) (m : Rd) (env : Ev) (Ke : KE) (Kx : KXc) : wRd w wa m env Ke Kx = w env (fun e1 r1 => rdK e1 r1 isLst ∧ wa e1 (fun e2 r2 => rdK e2 r1 fun d1 => rdK e2 r2 fun d2 => lsK d1 fun ds => m ds d2 fun d => Ke e2 (.val d)) Kx) Kx := rfl
def brS (f : Sl → Prop) : Sl → Prop
  | .own l ds => f (.own l ds)
  | .val d => f (.val d)
  | _ => False
theorem brS_o (f : Sl → Prop) (l : Bool) (ds : List PyData) : brS f (.own l ds) = f (.own l ds) := rfl
theorem brS_v (f : Sl → Prop) (d : PyData) : brS f (.val d) = f (.val d) := rfl
def arS (i : Nat) : Sl → Ar
  | .val d => .fz d
  | _ => .ln i
theorem arS_o (i : Nat) (l : Bool) (ds : List PyData) : arS i (.own l ds) = .ln i := rfl
theorem arS_v (i : Nat) (d : PyData) : arS i (.val d) = .fz d := rfl
theorem e_br (i : Nat) (wm : WM) (env : Ev) (Ka : Ev → List Ar → Prop) (Kx : KXc) : wBr i wm env Ka Kx = getS env i (brS fun s => wm env (fun e as => Ka e (arS i s :: as)) Kx) := by
  rw [getS_ex]
  unfold wBr
  apply propext
  constructor
  · rintro (⟨l, ds, h, z⟩ | ⟨d, h, z⟩)
    · exact ⟨_, h, z⟩
    · exact ⟨_, h, z⟩
  · rintro ⟨s, h, z⟩
    cases s with
    | un => exact z.elim
    | dct kv => exact z.elim
    | val d => exact .inr ⟨d, h, z⟩
    | own l ds => exact .inl ⟨l, ds, h, z⟩
def avbK (env : Ev) : List Ar → (List AV → Prop) → Prop
  | [], K => K []
  | .fz d :: as, K => avbK env as fun a => K (.val d :: a)
  | .ln i :: as, K => getS env i (lnS fun ds => avbK env as fun a => K (.val (.list ds) :: a))
theorem avbK_n (env : Ev) (K : List AV → Prop) : avbK env [] K = K [] := rfl
theorem avbK_f (env : Ev) (d : PyData) (as : List Ar) (K : List AV → Prop) : avbK env (.fz d :: as) K = avbK env as fun a => K (.val d :: a) := rfl
theorem avbK_l (env : Ev) (i : Nat) (as : List Ar) (K : List AV → Prop) : avbK env (.ln i :: as) K = getS env i (lnS fun ds => avbK env as fun a => K (.val (.list ds) :: a)) := rfl
theorem avbK_ex (env : Ev) : ∀ (as : List Ar) (K : List AV → Prop), avbK env as K = ∃ a, avsB env as = some a ∧ K a
  | [], K => by simp [avbK, avsB]
  | .fz d :: as, K => by
    rw [avbK_f, avbK_ex env as, show avsB env (.fz d :: as) = (avsB env as).map (.val d :: ·) from rfl]
    simp only [Option.map_eq_some_iff]
    apply propext
    constructor
    · rintro ⟨a, h1, h2⟩; exact ⟨_, ⟨a, h1, rfl⟩, h2⟩
    · rintro ⟨_, ⟨a, h1, rfl⟩, h2⟩; exact ⟨a, h1, h2⟩
  | .ln i :: as, K => by
    rw [avbK_l, getS_ex]
    unfold avsB
    cases h : env[i]? with
    | none => simp
    | some s =>
      cases s with
      | un => simp [lnS]
      | dct kv => simp [lnS]
      | val d => simp [lnS]
      | own l ds =>
        simp only [Option.some.injEq, exists_eq_left', lnS_o, avbK_ex env as, Option.map_eq_some_iff]
        apply propext
        constructor
        · rintro ⟨a, h1, h2⟩; exact ⟨_, ⟨a, h1, rfl⟩, h2⟩
        · rintro ⟨_, ⟨a, h1, rfl⟩, h2⟩; exact ⟨a, h1, h2⟩
def scK (r : Rv) (K : PyData → Prop) : Prop := ∃ d, r = .val d ∧ scal d = true ∧ K d
theorem scK_b (b : Bool) (K : PyData → Prop) : scK (.val (.bool b)) K = K (.bool b) := by simp [scK, scal]
theorem scK_i (b : Int) (K : PyData → Prop) : scK (.val (.int b)) K = K (.int b) := by simp [scK, scal]
theorem scK_n (K : PyData → Prop) : scK (.val .none) K = K .none := by simp [scK, scal]
theorem scK_s (b : Str) (K : PyData → Prop) : scK (.val (.str b)) K = K (.str b) := by simp [scK, scal]
theorem e_callS (n : Nat) (S : Spc) (wm : WM) (env : Ev) (Ke : KE) (Kx : KXc) : wCallS n S wm env Ke Kx = wm env (fun e as => avbK e as fun avs => avs.length = n ∧ S avs (fun _ r => scK r fun d => Ke e (.val d)) (fun _ _ => False)) Kx := by
  simp only [avbK_ex]
  rfl
def tmK (r : Rs) (K : List PyData → Prop) : Prop := ∃ ds, r = .tmp ds ∧ K ds
theorem tmK_t (ds : List PyData) (K : List PyData → Prop) : tmK (.tmp ds) K = K ds := by simp [tmK]
def tutK (r : Rs) (K : List PyData → Prop) : Prop := ∃ ds, r = .val (.tuple ds) ∧ K ds
theorem tutK_t (ds : List PyData) (K : List PyData → Prop) : tutK (.val (.tuple ds)) K = K ds := by simp [tutK]
theorem e_repT (wa wb : WE) (env : Ev) (Ke : KE) (Kx : KXc) : wRepT wa wb env Ke Kx = wa env (fun e1 r1 => tutK r1 fun ds => wb e1 (fun e2 r2 => intK r2 fun k => ds ≠ [] ∧ 2 ≤ k ∧ k ≤ 1000 ∧ ds.length ≤ 1000 ∧ Ke e2 (.val (.tuple (List.replicate k.toNat ds).flatten))) Kx) Kx := rfl
theorem e_rep (wa wb : WE) (env : Ev) (Ke : KE) (Kx : KXc) : wRep wa wb env Ke Kx = wa env (fun e1 r1 => tmK r1 fun ds => wb e1 (fun e2 r2 => intK r2 fun k => ds.length * k.toNat ≤ sizeLine ∧ k ≤ 16777216 ∧ -16777216 ≤ k ∧ Ke e2 (.tmp (List.replicate k.toNat ds).flatten)) Kx) Kx := rfl
def enK (ds : List PyData) (K : List PyData → Prop) : Prop := ∃ xs, ds = [.list xs] ∧ K (enD xs)
theorem enK_l (xs : List PyData) (K : List PyData → Prop) : enK [.list xs] K = K (enD xs) := by simp [enK]
theorem e_ienum (wf : WF) (env : Ev) (Ki : Ev → List PyData → Prop) (Kx : KXc) : wIEnum wf env Ki Kx = wf env (fun e ds => enK ds (Ki e)) Kx := rfl
/-! calls that look at lists and answer with tuples; enumerate of a tuple; range with a step -/
def tpK (r : Rv) (K : PyData → Prop) : Prop := ∃ d, r = .val d ∧ tupD d = true ∧ K d
theorem tpK_v (d : PyData) (K : PyData → Prop) : tpK (.val d) K = (tupD d = true ∧ K d) := by simp [tpK]
def txK (x : XD) (p : Prop) : Prop := (∀ q ∈ x.fs, tupD q.2 = true) ∧ p
theorem txK_1 (n f : Str) (a : Int) (p : Prop) : txK ⟨n, [(f, .int a)]⟩ p = p := by
  unfold txK
  apply propext
  constructor
  · exact fun h => h.2
  · intro h
    refine ⟨fun q hq => ?_, h⟩
    have e : q = (f, .int a) := by simpa using hq
    subst e
    rfl
theorem e_callT (n : Nat) (S : Spc) (wm : WM) (env : Ev) (Ke : KE) (Kx : KXc) : wCallT n S wm env Ke Kx = wm env (fun e as => avbK e as fun avs => avs.length = n ∧ S avs (fun _ r => tpK r fun d => Ke e (.val d)) (fun _ x => txK x (Kx e x))) Kx := by
  simp only [avbK_ex]
  rfl
def enTK (ds : List PyData) (K : List PyData → Prop) : Prop := ∃ xs, ds = [.tuple xs] ∧ K (enD xs)
theorem enTK_t (xs : List PyData) (K : List PyData → Prop) : enTK [.tuple xs] K = K (enD xs) := by simp [enTK]
theorem e_ienumT (wf : WF) (env : Ev) (Ki : Ev → List PyData → Prop) (Kx : KXc) : wIEnumT wf env Ki Kx = wf env (fun e ds => enTK ds (Ki e)) Kx := rfl
def r3K (ds : List PyData) (K : List PyData → Prop) : Prop := ∃ i j c n, ds = [.int i, .int j, .int c] ∧ RgC i j c n ∧ K (rg3 i c n)
theorem r3K_i (i j c : Int) (K : List PyData → Prop) : r3K [.int i, .int j, .int c] K = ∃ n, RgC i j c n ∧ K (rg3 i c n) := by
  unfold r3K
  apply propext
  constructor
  · rintro ⟨i', j', c', n, e, h⟩
    cases e
    exact ⟨n, h⟩
  · rintro ⟨n, h⟩
    exact ⟨i, j, c, n, rfl, h⟩
theorem e_rng3 (wf : WF) (env : Ev) (Ki : Ev → List PyData → Prop) (Kx : KXc) : wIRng3 wf env Ki Kx = wf env (fun e ds => r3K ds (Ki e)) Kx := rfl
/-! dicts -/
def dcS (K : List (List Int × PyData) → Prop) : Sl → Prop
  | .dct kv => K kv
  | _ => False
theorem dcS_d (K : List (List Int × PyData) → Prop) (kv : List (List Int × PyData)) : dcS K (.dct kv) = K kv := rfl
def dcB : Sl → Prop
  | .dct _ => True
  | _ => False
theorem dcB_d (kv : List (List Int × PyData)) : dcB (.dct kv) = True := rfl
def tkK (r : Rs) (K : List Int → Prop) : Prop := ∃ ks : List Int, r = .val (.tuple (ks.map .int)) ∧ K ks
theorem tkK_m (ks : List Int) (K : List Int → Prop) : tkK (.val (.tuple (ks.map .int))) K = K ks := by
  unfold tkK
  apply propext
  constructor
  · rintro ⟨k2, e, h⟩
    rw [Rs.val.injEq, PyData.tuple.injEq] at e
    rw [(List.map_inj_right fun x y e => by cases e; rfl).mp e]
    exact h
  · exact fun h => ⟨ks, rfl, h⟩
theorem tkK_2 (a b : Int) (K : List Int → Prop) : tkK (.val (.tuple [.int a, .int b])) K = K [a, b] := tkK_m [a, b] K
def zlK (ds : List PyData) (K : List PyData → List PyData → Prop) : Prop := ∃ xs ys, ds = [.list xs, .tuple ys] ∧ K xs ys
theorem zlK_c (xs ys : List PyData) (K : List PyData → List PyData → Prop) : zlK [.list xs, .tuple ys] K = K xs ys := propext ⟨fun ⟨_, _, e, h⟩ => by cases e; exact h, fun h => ⟨xs, ys, rfl, h⟩⟩
end Dl
end L2

/-! The plain half, 1: evaluation of w terms; loops. -/
namespace L2
namespace Dl
open PySem PySem.Spec PyProof.Rows
@[simp] theorem isTy_int_int (i : Int) : isTy "int" (.int i) = true := rfl
@[simp] theorem isTy_bool_int (i : Int) : isTy "bool" (.int i) = false := rfl
@[simp] theorem isTy_int_bool (i : Bool) : isTy "int" (.bool i) = true := rfl
@[simp] theorem isTy_bool_bool (i : Bool) : isTy "bool" (.bool i) = true := rfl
@[simp] theorem isTy_int_tup (i : List PyData) : isTy "int" (.tuple i) = false := rfl
@[simp] theorem isTy_int_lst (i : List PyData) : isTy "int" (.list i) = false := rfl
@[simp] theorem isTy_int_non : isTy "int" .none = false := rfl
@[simp] theorem isTy_int_str (s : Str) : isTy "int" (.str s) = false := rfl
@[simp] theorem isTy_tup_tup (i : List PyData) : isTy "tuple" (.tuple i) = true := rfl
@[simp] theorem isTy_tup_lst (i : List PyData) : isTy "tuple" (.list i) = false := rfl
@[simp] theorem isTy_tup_int (i : Int) : isTy "tuple" (.int i) = false := rfl
@[simp] theorem isTy_tup_bool (i : Bool) : isTy "tuple" (.bool i) = false := rfl
@[simp] theorem isTy_tup_non : isTy "tuple" .none = false := rfl
@[simp] theorem isTy_tup_str (s : Str) : isTy "tuple" (.str s) = false := rfl
@[simp] theorem isTy_lst_lst (i : List PyData) : isTy "list" (.list i) = true := rfl
@[simp] theorem isTy_lst_tup (i : List PyData) : isTy "list" (.tuple i) = false := rfl
@[simp] theorem isTy_lst_int (i : Int) : isTy "list" (.int i) = false := rfl
theorem atI_0 {α : Type} (x0 : α) (l : List α) : atI (x0 :: l) 0 = some x0 := atI_nat (j := 0) rfl
theorem atI_1 {α : Type} (x0 x1 : α) (l : List α) : atI (x0 :: x1 :: l) 1 = some x1 := atI_nat (j := 1) rfl
theorem atI_2 {α : Type} (x0 x1 x2 : α) (l : List α) : atI (x0 :: x1 :: x2 :: l) 2 = some x2 := atI_nat (j := 2) rfl
theorem atI_3 {α : Type} (x0 x1 x2 x3 : α) (l : List α) : atI (x0 :: x1 :: x2 :: x3 :: l) 3 = some x3 := atI_nat (j := 3) rfl
theorem atI_4 {α : Type} (x0 x1 x2 x3 x4 : α) (l : List α) : atI (x0 :: x1 :: x2 :: x3 :: x4 :: l) 4 = some x4 := atI_nat (j := 4) rfl
theorem atI_5 {α : Type} (x0 x1 x2 x3 x4 x5 : α) (l : List α) : atI (x0 :: x1 :: x2 :: x3 :: x4 :: x5 :: l) 5 = some x5 := atI_nat (j := 5) rfl
theorem atI_6 {α : Type} (x0 x1 x2 x3 x4 x5 x6 : α) (l : List α) : atI (x0 :: x1 :: x2 :: x3 :: x4 :: x5 :: x6 :: l) 6 = some x6 := atI_nat (j := 6) rfl
theorem atI_7 {α : Type} (x0 x1 x2 x3 x4 x5 x6 x7 : α) (l : List α) : atI (x0 :: x1 :: x2 :: x3 :: x4 :: x5 :: x6 :: x7 :: l) 7 = some x7 := atI_nat (j := 7) rfl
theorem atI_8 {α : Type} (x0 x1 x2 x3 x4 x5 x6 x7 x8 : α) (l : List α) : atI (x0 :: x1 :: x2 :: x3 :: x4 :: x5 :: x6 :: x7 :: x8 :: l) 8 = some x8 := atI_nat (j := 8) rfl
theorem atI_9 {α : Type} (x0 x1 x2 x3 x4 x5 x6 x7 x8 x9 : α) (l : List α) : atI (x0 :: x1 :: x2 :: x3 :: x4 :: x5 :: x6 :: x7 :: x8 :: x9 :: l) 9 = some x9 := atI_nat (j := 9) rfl
theorem atI_10 {α : Type} (x0 x1 x2 x3 x4 x5 x6 x7 x8 x9 x10 : α) (l : List α) : atI (x0 :: x1 :: x2 :: x3 :: x4 :: x5 :: x6 :: x7 :: x8 :: x9 :: x10 :: l) 10 = some x10 := atI_nat (j := 10) rfl
theorem atI_11 {α : Type} (x0 x1 x2 x3 x4 x5 x6 x7 x8 x9 x10 x11 : α) (l : List α) : atI (x0 :: x1 :: x2 :: x3 :: x4 :: x5 :: x6 :: x7 :: x8 :: x9 :: x10 :: x11 :: l) 11 = some x11 := atI_nat (j := 11) rfl
theorem ixN_3_0 : ixN 3 0 = some 0 := rfl
theorem ixN_3_1 : ixN 3 1 = some 1 := rfl
theorem ixN_3_2 : ixN 3 2 = some 2 := rfl
theorem sh_int (i : Int) : SeqAt.shaped (.int i) = true := rfl
theorem sh_bool (i : Bool) : SeqAt.shaped (.bool i) = true := rfl
theorem nd_true {p : Prop} [Decidable p] : ((!decide p) = true) = ¬ p := by simp
theorem nd1 (i : Nat) : ([i] : List Nat).Nodup = True := by simp
theorem sh_non : SeqAt.shaped .none = true := rfl
theorem eqv_ii (i j : Int) : PyData.eqv (.int i) (.int j) = decide (i = j) := by by_cases h : i = j <;> rfl
theorem eqv_bb (i j : Bool) : PyData.eqv (.bool i) (.bool j) = (i == j) := by cases i <;> cases j <;> rfl
local macro_rules | `(tactic| dsimp? [$xs,*] $[$l]?) => `(tactic| simp only [wSeq, wNext, wBreak, wCont, wDrop, wRet, wRetN, wIfS, wSet, wAsgT, e_aug, e_setIx, e_par, e_gN, getS_0, getS_s, setS_0, setS_s, e_var, varK_v, varK_o, varK_u, wC, wBin, rdK_v, rdK_t, rdK_s, rdS_v, rdS_o, rdS_u, fzK_v, fzK_t, fzK_s, fzS_v, fzS_o, fzS_l, fzS_u, e_fz, asg_v, asg_t, asg_s, e_tb, tbK_b, wAnd, wOr, wNot, e_notV, e_andV, e_orV, wBV, wIf, e_neg, intK_i, e_oso, wONo, e_rng1, e_rng2, wFNil, wFCons, wANil, wACons, wTup, wLst, e_callB, rdAllK_n, rdAllK_c, wIsi, e_call, wMNil, wMCons, e_ld, lnsOf, avsK_n, avsK_f, avsK_l, lnS_o, lnS_v, lnS_u, poK_n, poK_c, poS_o, inS_0, inS_s, rsK_v, rsK_o, wSl, e_ownF, e_own0, ownB_o, oS_o, oS_v, oS_u, agS_i, muApp, oAdd_i, oAdd_l, oAdd_t, oAdd_s, oSub_i, oMul_i, oFdiv_i, oMod_i, oPow_i, oShl_i, oShr_i, oOr_i, oAndB_i, oLt_i, oLe_i, oGt_i, oGe_i, oEq_i, oNe_i, oEq, oNe, oIx_l, oIx_t, oLen_l, oLen_t, oInt_i, oInt_b, oMax_i, oMin_i, oList_l, oList_t, oTuple_l, oTuple_t, oSorted_l, oSorted_t, oIs_n, oIsN_n, oIs_b, oIsN_b, isNone_n, isNone_t, isNone_l, isNone_i, isNone_s, isNone_b, oSl_l, oSl_t, oIn, gT_t, gC_c, gNil', e_iseq, sqK_l, sqK_t, e_isq, sq2K_l, sq2K_t, e_sset, ssK_l, ssK_t, e_chain, e_lr1, e_lr2, wRev, rvD_l, rvD_t, e_in1, e_in2, negB_f, negB_t, wIZip, zpK_m, e_extend, extR_t, wYes, startEv, kenD_nx, kenD_rt, kenD_bk, kenD_ct, kenD_ex, outK_n, outK_c, otS_o, rvK_v, rvK_t, rvK_s, rvS_v, rvS_o, slOf, lsFrom, wipeE, restE, List.map_cons, List.map_nil, List.length_cons, List.length_nil, List.replicate, List.append_nil, List.cons_append, List.nil_append, List.getElem?_cons_zero, List.getElem?_cons_succ, List.getElem?_nil, List.set_cons_zero, List.set_cons_succ, List.set_nil, Option.getD_some, Option.getD_none, Option.map_some, Option.map_none, Option.some.injEq, Rs.val.injEq, Rs.tmp.injEq, Rs.slot.injEq, Sl.own.injEq, Sl.val.injEq, PyData.int.injEq, PyData.bool.injEq, PyData.str.injEq, PyData.list.injEq, PyData.tuple.injEq, Prod.mk.injEq, Nat.sub_self, Nat.zero_add, Nat.reduceAdd, Nat.reduceSub, Nat.add_zero, isTy_int_int, isTy_bool_int, isTy_int_bool, isTy_bool_bool, isTy_int_tup, isTy_int_lst, isTy_int_non, isTy_int_str, isTy_tup_tup, isTy_tup_lst, isTy_tup_int, isTy_tup_bool, isTy_tup_non, isTy_tup_str, isTy_lst_lst, isTy_lst_tup, isTy_lst_int, exists_eq_left', exists_eq_left, exists_and_left, exists_eq_right, exists_eq, exists_eq', exists_const, true_and, and_true, and_self, Bool.not_true, Bool.not_false, if_true, if_false, Bool.false_eq_true, reduceIte, reduceCtorEq, List.nodup_nil, decide_eq_true_eq, atI_0, atI_1, atI_2, atI_3, atI_4, atI_5, atI_6, atI_7, atI_8, atI_9, atI_10, atI_11, ixN_3_0, ixN_3_1, ixN_3_2, sh_int, sh_bool, sh_non, and_assoc, nd1, nd_true, eq_self, decide_true, decide_false, Int.cast_ofNat_Int, not_true_eq_false, not_false_eq_true, eqv_ii, eqv_bb, wRaise0, e_raiseG, grK_i, e_raise1, onK_i, e_callX, xa_1, xa_2, xa_3, xa_4, xa_5, xa_6, xa_7, e_many, e_most, e_number, e_row, isLst_l, lsK_l, e_rd, e_br, brS_o, brS_v, arS_o, arS_v, avbK_n, avbK_f, avbK_l, scK_b, scK_i, scK_n, scK_s, e_callS, tmK_t, e_rep, enK_l, e_ienum, wTry, eqv_ss, tpK_v, txK_1, tutK_t, e_repT, e_callT, enTK_t, e_ienumT, r3K_i, e_rng3, dcS_d, dcB_d, tkK_m, tkK_2, zlK_c, $xs,*] $[$l]?)
/-- one statement at a time -/
theorem seq_cut {t u : WS} {env : Ev} {k : Ken} (h : ∀ R : Ev → Prop, (∀ e, u e k → R e) → t env { k with nx := R }) : wSeq t u env k := h _ fun _ h => h
/-- a for, by an invariant over what is left -/
theorem wEach_ind {g : WG} {t : WS} {k : Ken} (Wi : List PyData → Ev → Prop) (h0 : ∀ e, Wi [] e → k.nx e)
    (hs : ∀ d r e, Wi (d :: r) e → (∀ e2, Wi r e2 → wEach g t r e2 k) → g d e (fun e1 => t e1 { k with nx := fun e2 => wEach g t r e2 k, ct := fun e2 => wEach g t r e2 k, bk := k.nx })) : ∀ ds e, Wi ds e → wEach g t ds e k
  | [], e, h => h0 e h
  | d :: r, e, h => hs d r e h fun e2 h2 => wEach_ind Wi h0 hs r e2 h2
theorem wLcE_ind {vs : List Nat} {g : WG} {ct : WT} {we : WE} {K : Ev → List PyData → Prop} (Wi : List PyData → List PyData → Ev → Prop) (h0 : ∀ acc e, Wi [] acc e → K e acc)
    (hs : ∀ d r acc e, Wi (d :: r) acc e → (∀ acc2 e2, Wi r acc2 e2 → wLcE vs g ct we r acc2 e2 K) →
      g d e (fun e1 => ct e1 (fun e2 b => if b = true then wFz we e2 (fun e3 y => acc.length < sizeLine ∧ wLcE vs g ct we r (acc ++ [y]) (wipeE e3 vs) K) NoX else wLcE vs g ct we r acc (wipeE e2 vs) K) NoX)) :
    ∀ ds acc e, Wi ds acc e → wLcE vs g ct we ds acc e K
  | [], acc, e, h => h0 acc e h
  | d :: r, acc, e, h => hs d r acc e h fun a2 e2 h2 => wLcE_ind Wi h0 hs r a2 e2 h2

/-! ### the common defs -/
def sp_divisor_of : Spc := fun avs Kr _ => match avs with
  | [.val (.int a), .val (.int b)] => 0 ≤ a ∧ 0 ≤ b ∧ Kr [] (.val (.int (Int.gcd a b : Nat)))
  | _ => False
def w_divisor_of_T1 : WT :=
  (wTB (wBin oGt (wVar 1) (wC (.int 0))))
def w_divisor_of_B1 : WS :=
  (wPar 0 1 (wFCons (wVar 1) (wFCons (wBin oMod (wVar 0) (wVar 1)) wFNil)))
def w_divisor_of_L1 : WS :=
  wWhile w_divisor_of_T1 w_divisor_of_B1
def w_divisor_of_R1 : WS :=
  (wRet (wVar 0))
/-- divisor_of: 0 one, 1 other -/
def w_divisor_of : WS :=
  (wSeq w_divisor_of_L1
    w_divisor_of_R1)

theorem gcd_mod (x y : Int) : Int.gcd y (x % y) = Int.gcd x y := by
  rw [Int.emod_def, Int.gcd_sub_mul_left_right, Int.gcd_comm]
theorem vc_divisor_of : ∀ avs Kr Kx, avs.length = 2 → sp_divisor_of avs Kr Kx → lsFrom 0 avs = [] ∧ w_divisor_of (startEv 2 avs) (kenD [] Kr Kx) := by
  intro avs Kr Kx hl h
  unfold sp_divisor_of at h
  split at h
  · rename_i a b
    obtain ⟨ha, hb, k⟩ := h
    refine ⟨rfl, ?_⟩
    dsimp? [w_divisor_of]
    refine ⟨fun m e => ∃ x y : Int, e = [.val (.int x), .val (.int y)] ∧ 0 ≤ x ∧ 0 ≤ y ∧ m = y.toNat ∧ Int.gcd x y = Int.gcd a b, ⟨_, a, b, rfl, ha, hb, rfl, rfl⟩, ?_⟩
    rintro m e ⟨x, y, rfl, hx, hy, rfl, hg⟩
    dsimp? [w_divisor_of_T1, w_divisor_of_B1]
    split
    · rename_i hp
      have h1 := Int.emod_nonneg x (Int.ne_of_gt hp)
      have h2 := Int.emod_lt_of_pos x hp
      exact ⟨hp, _, by omega, _, _, rfl, hy, h1, rfl, by rw [gcd_mod]; exact hg⟩
    · have : y = 0 := by omega
      subst this
      have e : (x : Int) = (Int.gcd x 0 : Nat) := by rw [Int.gcd_zero_right]; omega
      dsimp? [w_divisor_of_R1]
      rw [e, hg]
      exact k
  · exact h.elim

/-! #### the pen -/
/-- three ints -/
def pen3 (ds : List PyData) : Prop := ∃ l f s : Int, ds = [.int l, .int f, .int s]
def sp__law_cell_at : Spc := fun avs Kr _ => match avs with
  | [.val (.list xs), .val (.int k)] => (∃ ns : List Int, xs = ns.map .int) ∧ 0 ≤ k ∧ ∀ n, Kr [] (.val (.int n))
  | _ => False
/-- _law_cell_at: 0 script, 1 k -/
def w__law_cell_at : WS :=
  (wSeq (wIfS (wTB (wBin oLt (wVar 1) (wCallB oLen (wACons (wVar 0) wANil)))) (wRet (wBin oIx (wVar 0) (wVar 1))) wNext)
    (wRet (wC (.int 0))))

theorem atI_ints {ns : List Int} {k : Int} (h0 : 0 ≤ k) (h1 : k < ns.length) : ∃ n, atI (ns.map PyData.int) k = some (.int n) := by
  obtain ⟨j, rfl⟩ := Int.eq_ofNat_of_zero_le h0
  have hj : j < ns.length := by omega
  exact ⟨ns[j], atI_nat (by rw [List.getElem?_map, List.getElem?_eq_getElem hj]; rfl)⟩
theorem atI_mem {ns : List Int} {k : Int} (h0 : 0 ≤ k) (h1 : k < ns.length) : ∃ n, n ∈ ns ∧ atI (ns.map PyData.int) k = some (.int n) := by
  obtain ⟨j, rfl⟩ := Int.eq_ofNat_of_zero_le h0
  have hj : j < ns.length := by omega
  exact ⟨ns[j], List.getElem_mem hj, atI_nat (by rw [List.getElem?_map, List.getElem?_eq_getElem hj]; rfl)⟩
theorem vc__law_cell_at : ∀ avs Kr Kx, avs.length = 2 → sp__law_cell_at avs Kr Kx → lsFrom 0 avs = [] ∧ w__law_cell_at (startEv 2 avs) (kenD [] Kr Kx) := by
  intro avs Kr Kx hl h
  unfold sp__law_cell_at at h
  split at h
  · rename_i xs k
    obtain ⟨⟨ns, rfl⟩, hk, q⟩ := h
    refine ⟨rfl, ?_⟩
    dsimp? [w__law_cell_at]
    split
    · rename_i hp
      obtain ⟨n, e⟩ := atI_ints (ns := ns) hk (by simpa using hp)
      dsimp? [e]
      exact q n
    · exact q 0
  · exact h.elim
def sp__law_next : Spc := fun avs Kr _ => match avs with
  | [.val (.int k)] => ∀ n : Int, 0 ≤ n → n < 2147483647 → Kr [] (.val (.int n))
  | _ => False
/-- _law_next: 0 seed -/
def w__law_next : WS :=
  (wSeq (wSet 0 (wBin oMod (wBin oAdd (wVar 0) (wC (.int 7919))) (wC (.int 2147483647))))
    (wRet (wBin oMod (wBin oAdd (wBin oAdd (wBin oMul (wVar 0) (wVar 0)) (wBin oMul (wC (.int 48271)) (wVar 0))) (wC (.int 12345))) (wC (.int 2147483629)))))

theorem vc__law_next : ∀ avs Kr Kx, avs.length = 1 → sp__law_next avs Kr Kx → lsFrom 0 avs = [] ∧ w__law_next (startEv 1 avs) (kenD [] Kr Kx) := by
  intro avs Kr Kx hl h
  unfold sp__law_next at h
  split at h
  · rename_i k
    refine ⟨rfl, ?_⟩
    dsimp? [w__law_next]
    have h1 := Int.emod_nonneg (k + 7919) (show (2147483647 : Int) ≠ 0 by decide)
    have h2 := Int.emod_lt_of_pos (k + 7919) (show (0 : Int) < 2147483647 by decide)
    have hb : ((k + 7919) % 2147483647).natAbs < 2 ^ 31 := by omega
    refine ⟨by decide, mulx_ok hb hb (by decide), mulx_ok (a := 31) (by decide) hb (by decide), by decide, h _ (Int.emod_nonneg _ (by decide)) ?_⟩
    exact Int.lt_trans (Int.emod_lt_of_pos _ (by decide)) (by decide)
  · exact h.elim
def sp__law_pen_of : Spc := fun avs Kr _ => match avs with
  | [.val (.int k)] => ∀ ds, pen3 ds → Kr [] (.own ds)
  | _ => False
/-- _law_pen_of: 0 cell, 1 left -/
def w__law_pen_of : WS :=
  (wSeq (wSet 1 (wCallB oMax (wACons (wVar 0) (wACons (wBin oSub (wC (.int 0)) (wVar 0)) wANil))))
    (wRet (wLst (wFCons (wVar 1) (wFCons (wCallB oInt (wACons (wBin oGe (wVar 1) (wBin oPow (wC (.int 10)) (wC (.int 18)))) wANil)) (wFCons (wBin oMod (wVar 1) (wC (.int 1000003))) wFNil))))))

theorem vc__law_pen_of : ∀ avs Kr Kx, avs.length = 1 → sp__law_pen_of avs Kr Kx → lsFrom 0 avs = [] ∧ w__law_pen_of (startEv 2 avs) (kenD [] Kr Kx) := by
  intro avs Kr Kx hl h
  unfold sp__law_pen_of at h
  split at h
  · rename_i k
    refine ⟨rfl, ?_⟩
    dsimp? [w__law_pen_of]
    exact ⟨⟨by decide, by decide, by decide⟩, by decide, by decide, h _ ⟨_, _, _, rfl⟩⟩
  · exact h.elim
def sp__law_draw : Spc := fun avs Kr _ => match avs with
  | [.own ds, .val (.int m)] => pen3 ds ∧ 0 < m ∧ m.natAbs.log2 < 9000 ∧ ∀ ds' r, pen3 ds' → 0 ≤ r → r < m → Kr [ds'] (.val (.int r))
  | _ => False
/-- _law_draw: 0 pen, 1 many, 2 found -/
def w__law_draw : WS :=
  (wSeq (wIfS (wTB (wBin oEq (wBin oIx (wVar 0) (wC (.int 1))) (wC (.int 1)))) (wSeq (wSet 2 (wBin oMod (wBin oIx (wVar 0) (wC (.int 0))) (wVar 1)))
    (wSeq (wSetIx 0 (wC (.int 0)) (wBin oFdiv (wBin oIx (wVar 0) (wC (.int 0))) (wVar 1)))
    (wRet (wVar 2)))) wNext)
    (wSeq (wSetIx 0 (wC (.int 2)) (wCall 1 sp__law_next (wMCons (wBin oAdd (wCall 1 sp__law_next (wMCons (wBin oIx (wVar 0) (wC (.int 2))) wMNil)) (wC (.int 7))) wMNil)))
    (wRet (wBin oMod (wBin oFdiv (wBin oIx (wVar 0) (wC (.int 2))) (wC (.int 64))) (wVar 1)))))

theorem vc__law_draw : ∀ avs Kr Kx, avs.length = 2 → sp__law_draw avs Kr Kx → lsFrom 0 avs = [0] ∧ w__law_draw (startEv 3 avs) (kenD [0] Kr Kx) := by
  intro avs Kr Kx hl h
  unfold sp__law_draw at h
  split at h
  · rename_i ds m
    obtain ⟨⟨l, f, s, rfl⟩, hm, hm2, q⟩ := h
    refine ⟨rfl, ?_⟩
    dsimp? [w__law_draw, sp__law_next]
    split
    · exact ⟨hm, hm, hm2, q _ _ ⟨_, _, _, rfl⟩ (Int.emod_nonneg _ (Int.ne_of_gt hm)) (Int.emod_lt_of_pos _ hm)⟩
    · intro n1 _ _ n2 _ _
      exact ⟨by decide, by decide, hm, q _ _ ⟨_, _, _, rfl⟩ (Int.emod_nonneg _ (Int.ne_of_gt hm)) (Int.emod_lt_of_pos _ hm)⟩
  · exact h.elim
def ck (c : Int × Int) : PyData := .tuple [.int c.1, .int c.2]
abbrev cks (cs : List (Int × Int)) : List PyData := cs.map ck
/-- a clock of a step of at most m -/
def CkOk (m : Int) (c : Int × Int) : Prop := 1 ≤ c.1 ∧ c.1 ≤ m ∧ 0 ≤ c.2 ∧ c.2 < c.1
def sp__law_clock_by : Spc := fun avs Kr _ => match avs with
  | [.own ds, .val (.int m)] => pen3 ds ∧ 0 < m ∧ m < 2 ^ 60 ∧ ∀ ds' a b, pen3 ds' → 1 ≤ a → a ≤ m → 0 ≤ b → b < a → Kr [ds'] (.val (.tuple [.int a, .int b]))
  | _ => False
theorem log_small {m : Int} (h0 : 0 < m) (h : m < 2 ^ 60) : m.natAbs.log2 < 9000 := by
  have h1 : m.natAbs < 2 ^ 60 := by omega
  exact Nat.lt_trans ((Nat.log2_lt (by omega)).mpr h1) (by decide)
/-- _law_clock_by: 0 pen, 1 most, 2 step -/
def w__law_clock_by : WS :=
  (wSeq (wSet 2 (wBin oAdd (wC (.int 1)) (wCall 2 sp__law_draw (wLd 0 (wMCons (wVar 1) wMNil)))))
    (wRet (wTup (wFCons (wVar 2) (wFCons (wCall 2 sp__law_draw (wLd 0 (wMCons (wVar 2) wMNil))) wFNil)))))

theorem vc__law_clock_by : ∀ avs Kr Kx, avs.length = 2 → sp__law_clock_by avs Kr Kx → lsFrom 0 avs = [0] ∧ w__law_clock_by (startEv 3 avs) (kenD [0] Kr Kx) := by
  intro avs Kr Kx hl h
  unfold sp__law_clock_by at h
  split at h
  · rename_i ds m
    obtain ⟨hp, hm, hm2, q⟩ := h
    refine ⟨rfl, ?_⟩
    dsimp? [w__law_clock_by, sp__law_draw]
    refine ⟨hp, hm, log_small hm hm2, fun ds1 r1 hp1 h1 h2 => ⟨hp1, by omega, log_small (by omega) (by omega), fun ds2 r2 hp2 h3 h4 => ⟨by decide, q _ _ _ hp2 (by omega) (by omega) h3 h4⟩⟩⟩
  · exact h.elim
end Dl
end L2

/-! The plain half, 2: clocks drawn. -/
namespace L2
namespace Dl
open PySem PySem.Spec PyProof.Rows
local macro_rules | `(tactic| dsimp? [$xs,*] $[$l]?) => `(tactic| simp only [wSeq, wNext, wBreak, wCont, wDrop, wRet, wRetN, wIfS, wSet, wAsgT, e_aug, e_setIx, e_par, e_gN, getS_0, getS_s, setS_0, setS_s, e_var, varK_v, varK_o, varK_u, wC, wBin, rdK_v, rdK_t, rdK_s, rdS_v, rdS_o, rdS_u, fzK_v, fzK_t, fzK_s, fzS_v, fzS_o, fzS_l, fzS_u, e_fz, asg_v, asg_t, asg_s, e_tb, tbK_b, wAnd, wOr, wNot, e_notV, e_andV, e_orV, wBV, wIf, e_neg, intK_i, e_oso, wONo, e_rng1, e_rng2, wFNil, wFCons, wANil, wACons, wTup, wLst, e_callB, rdAllK_n, rdAllK_c, wIsi, e_call, wMNil, wMCons, e_ld, lnsOf, avsK_n, avsK_f, avsK_l, lnS_o, lnS_v, lnS_u, poK_n, poK_c, poS_o, inS_0, inS_s, rsK_v, rsK_o, wSl, e_ownF, e_own0, ownB_o, oS_o, oS_v, oS_u, agS_i, muApp, oAdd_i, oAdd_l, oAdd_t, oAdd_s, oSub_i, oMul_i, oFdiv_i, oMod_i, oPow_i, oShl_i, oShr_i, oOr_i, oAndB_i, oLt_i, oLe_i, oGt_i, oGe_i, oEq_i, oNe_i, oEq, oNe, oIx_l, oIx_t, oLen_l, oLen_t, oInt_i, oInt_b, oMax_i, oMin_i, oList_l, oList_t, oTuple_l, oTuple_t, oSorted_l, oSorted_t, oIs_n, oIsN_n, oIs_b, oIsN_b, isNone_n, isNone_t, isNone_l, isNone_i, isNone_s, isNone_b, oSl_l, oSl_t, oIn, gT_t, gC_c, gNil', e_iseq, sqK_l, sqK_t, e_isq, sq2K_l, sq2K_t, e_sset, ssK_l, ssK_t, e_chain, e_lr1, e_lr2, wRev, rvD_l, rvD_t, e_in1, e_in2, negB_f, negB_t, wIZip, zpK_m, e_extend, extR_t, wYes, startEv, kenD_nx, kenD_rt, kenD_bk, kenD_ct, kenD_ex, outK_n, outK_c, otS_o, rvK_v, rvK_t, rvK_s, rvS_v, rvS_o, slOf, lsFrom, wipeE, restE, List.map_cons, List.map_nil, List.length_cons, List.length_nil, List.replicate, List.append_nil, List.cons_append, List.nil_append, List.getElem?_cons_zero, List.getElem?_cons_succ, List.getElem?_nil, List.set_cons_zero, List.set_cons_succ, List.set_nil, Option.getD_some, Option.getD_none, Option.map_some, Option.map_none, Option.some.injEq, Rs.val.injEq, Rs.tmp.injEq, Rs.slot.injEq, Sl.own.injEq, Sl.val.injEq, PyData.int.injEq, PyData.bool.injEq, PyData.str.injEq, PyData.list.injEq, PyData.tuple.injEq, Prod.mk.injEq, Nat.sub_self, Nat.zero_add, Nat.reduceAdd, Nat.reduceSub, Nat.add_zero, isTy_int_int, isTy_bool_int, isTy_int_bool, isTy_bool_bool, isTy_int_tup, isTy_int_lst, isTy_int_non, isTy_int_str, isTy_tup_tup, isTy_tup_lst, isTy_tup_int, isTy_tup_bool, isTy_tup_non, isTy_tup_str, isTy_lst_lst, isTy_lst_tup, isTy_lst_int, exists_eq_left', exists_eq_left, exists_and_left, exists_eq_right, exists_eq, exists_eq', exists_const, true_and, and_true, and_self, Bool.not_true, Bool.not_false, if_true, if_false, Bool.false_eq_true, reduceIte, reduceCtorEq, List.nodup_nil, decide_eq_true_eq, atI_0, atI_1, atI_2, atI_3, atI_4, atI_5, atI_6, atI_7, atI_8, atI_9, atI_10, atI_11, ixN_3_0, ixN_3_1, ixN_3_2, sh_int, sh_bool, sh_non, and_assoc, nd1, nd_true, eq_self, decide_true, decide_false, Int.cast_ofNat_Int, not_true_eq_false, not_false_eq_true, eqv_ii, eqv_bb, wRaise0, e_raiseG, grK_i, e_raise1, onK_i, e_callX, xa_1, xa_2, xa_3, xa_4, xa_5, xa_6, xa_7, e_many, e_most, e_number, e_row, isLst_l, lsK_l, e_rd, e_br, brS_o, brS_v, arS_o, arS_v, avbK_n, avbK_f, avbK_l, scK_b, scK_i, scK_n, scK_s, e_callS, tmK_t, e_rep, enK_l, e_ienum, wTry, eqv_ss, tpK_v, txK_1, tutK_t, e_repT, e_callT, enTK_t, e_ienumT, r3K_i, e_rng3, dcS_d, dcB_d, tkK_m, tkK_2, zlK_c, $xs,*] $[$l]?)
def cle (p q : Int × Int) : Bool := decide (p.1 < q.1 ∨ (p.1 = q.1 ∧ p.2 ≤ q.2))
theorem ck_sh (c : Int × Int) : SeqAt.shaped (ck c) = true := rfl
theorem srt_cks (cs : List (Int × Int)) : Srts (cks cs) := by
  refine ⟨fun d hd e he => ?_, .inl fun d hd => ?_, fun d hd => ?_⟩
  · obtain ⟨c, _, rfl⟩ := List.mem_map.mp hd
    obtain ⟨c2, _, rfl⟩ := List.mem_map.mp he
    rfl
  · obtain ⟨c, _, rfl⟩ := List.mem_map.mp hd
    exact ⟨_, _, rfl⟩
  · obtain ⟨c, _, rfl⟩ := List.mem_map.mp hd
    exact ck_sh c
theorem sort_cks (cs : List (Int × Int)) : (cks cs).mergeSort dLe = cks (cs.mergeSort cle) := by
  refine (PySem.W.sort_maps ck fun a _ b _ => ?_).symm
  have e := congrFun (congrFun (PySem.W.dataLe_ii (β := Int × Int) (fun c => c.1) (fun c => c.2)) a) b
  exact e.symm
theorem code2 (B x y : Int) : TS.code B [x, y] = x * B + y := by
  show x * B ^ 1 + (y * B ^ 0 + 0) = x * B + y
  rw [Int.pow_succ, Int.pow_zero, Int.one_mul, Int.mul_one, Int.add_zero]
/-- strictly before -/
def clt (p q : Int × Int) : Prop := p.1 < q.1 ∨ (p.1 = q.1 ∧ p.2 < q.2)
theorem sortSet_cks {cs : List (Int × Int)} {K : Rs → Prop} {B : Int} (hB : ∀ c ∈ cs, 0 ≤ c.1 ∧ c.1 < B ∧ 0 ≤ c.2 ∧ c.2 < B) (hl : cs.length < 64)
    (h : ∀ ms : List (Int × Int), ms.Nodup → (∀ c, c ∈ ms ↔ c ∈ cs) → ms.Pairwise clt → K (.tmp (cks ms))) : oSortSet (cks cs) K := by
  refine ⟨cs.map fun c => [c.1, c.2], 2, B, ?_, by decide, fun l hl => ?_, by simpa using hl, fun M nd hm pw => ?_⟩
  · rw [List.map_map]; rfl
  · obtain ⟨c, hc, rfl⟩ := List.mem_map.mp hl
    obtain ⟨h1, h2, h3, h4⟩ := hB c hc
    refine ⟨rfl, fun m hm => ?_⟩
    rcases List.mem_cons.mp hm with z | z
    · subst z; exact ⟨h1, h2⟩
    · rcases List.mem_cons.mp z with z | z
      · subst z; exact ⟨h3, h4⟩
      · cases z
  · -- M is a list of pairs
    let g : List Int → Int × Int := fun l => (l.getD 0 0, l.getD 1 0)
    have e1 : ∀ l ∈ M, [(g l).1, (g l).2] = l := fun l hl => by
      obtain ⟨c, _, rfl⟩ := List.mem_map.mp ((hm l).mp hl)
      rfl
    have eM : (M.map g).map (fun c => [c.1, c.2]) = M := by
      rw [List.map_map]
      conv => rhs; rw [← List.map_id M]
      exact List.map_congr_left fun l hl => e1 l hl
    have nd2 : (M.map g).Nodup := by
      have : ((M.map g).map (fun c => [c.1, c.2])).Nodup := by rw [eM]; exact nd
      exact L2.nodup_of_map this
    have mem : ∀ c, c ∈ M.map g ↔ c ∈ cs := fun c => by
      constructor
      · intro z
        obtain ⟨l, hl, rfl⟩ := List.mem_map.mp z
        obtain ⟨c, hc, rfl⟩ := List.mem_map.mp ((hm l).mp hl)
        exact hc
      · intro z
        exact List.mem_map.mpr ⟨[c.1, c.2], (hm _).mpr (List.mem_map.mpr ⟨c, z, rfl⟩), rfl⟩
    have pw2 : (M.map g).Pairwise (fun p q => p.1 * B + p.2 ≤ q.1 * B + q.2) := by
      refine List.pairwise_map.mpr (List.Pairwise.imp_of_mem (fun {x y} hx hy hle => ?_) pw)
      rw [← e1 x hx, ← e1 y hy, code2, code2] at hle
      exact hle
    have fin : (M.map g).Pairwise clt := by
      refine List.Pairwise.imp_of_mem (fun {p q} hp hq ⟨hle, hne⟩ => ?_) (pw2.and nd2)
      obtain ⟨a1, a2, a3, a4⟩ := hB p ((mem p).mp hp)
      obtain ⟨b1, b2, b3, b4⟩ := hB q ((mem q).mp hq)
      have hle' : p.1 * B + p.2 ≤ q.1 * B + q.2 := hle
      rcases Int.lt_trichotomy p.1 q.1 with c | c | c
      · exact .inl c
      · refine .inr ⟨c, ?_⟩
        rw [c] at hle'
        have : p.2 ≠ q.2 := fun z => hne (Prod.ext c z)
        omega
      · have : (q.1 + 1) * B ≤ p.1 * B := Int.mul_le_mul_of_nonneg_right (by omega) (by omega)
        rw [Int.add_mul, Int.one_mul] at this
        omega
    have eK : M.map tupI = cks (M.map g) := by
      conv => lhs; rw [← eM]
      rw [List.map_map]; rfl
    rw [eK]
    exact h _ nd2 mem fin
/-- the parts of a clock -/
def prtK (c : Int × Int) (k : Nat) : List (Int × Int) := (List.range k).map fun (i : Nat) => (c.1 * k, c.2 + c.1 * i)
def Apart (c d : Int × Int) : Prop := ∀ x : Int, ¬ (c.1 ∣ x - c.2 ∧ d.1 ∣ x - d.2)
/-- of splits: short ones have a small round; of two or more the greatest step stands twice -/
def TwP (cs : List (Int × Int)) : Prop := (∃ P : Nat, 1 ≤ P ∧ 2 * P ≤ 2 ^ cs.length ∧ ∀ c ∈ cs, c.1 ∣ (P : Int)) ∧ (cs.length = 1 ∨ ∀ M : Int, (∀ c ∈ cs, c.1 ≤ M) → (∃ c ∈ cs, c.1 = M) → 2 ≤ cs.countP fun c => decide (c.1 = M))
theorem TwP.perm {cs ds : List (Int × Int)} (h : TwP cs) (p : cs.Perm ds) : TwP ds := by
  obtain ⟨⟨P, h1, h2, h3⟩, h4⟩ := h
  refine ⟨⟨P, h1, by rw [← p.length_eq]; exact h2, fun c hc => h3 c (p.mem_iff.mpr hc)⟩, ?_⟩
  rcases h4 with h4 | h4
  · exact .inl (by rw [← p.length_eq]; exact h4)
  · refine .inr fun M a ⟨c, hc, e⟩ => ?_
    rw [← p.countP_eq]
    exact h4 M (fun c hc => a c (p.mem_iff.mp hc)) ⟨c, p.mem_iff.mpr hc, e⟩
theorem TwP.split {c : Int × Int} {cs : List (Int × Int)} {k : Nat} (h : TwP (c :: cs)) (hc : 1 ≤ c.1) (hk : 2 ≤ k) : TwP (cs ++ prtK c k) := by
  obtain ⟨⟨P, h1, h2, h3⟩, h4⟩ := h
  have hl : (cs ++ prtK c k).length = cs.length + k := by unfold prtK; rw [List.length_append, List.length_map, List.length_range]
  have hm : ∀ p ∈ prtK c k, p.1 = c.1 * (k : Int) := fun p hp => by
    obtain ⟨i, _, rfl⟩ := List.mem_map.mp hp
    rfl
  refine ⟨⟨P * k, Nat.mul_pos h1 (by omega), ?_, fun d hd => ?_⟩, .inr fun M a ⟨d, hd, e⟩ => ?_⟩
  · rw [hl, show cs.length + k = (cs.length + 1) + (k - 1) by omega, Nat.pow_add, ← Nat.mul_assoc]
    rw [List.length_cons] at h2
    have : k - 1 < 2 ^ (k - 1) := Nat.lt_two_pow_self
    exact Nat.mul_le_mul h2 (by omega)
  · rw [Int.natCast_mul]
    rcases List.mem_append.mp hd with z | z
    · exact Int.dvd_trans (h3 d (List.mem_cons_of_mem _ z)) (Int.dvd_mul_right _ _)
    · rw [hm d z]
      exact Int.mul_dvd_mul (h3 c List.mem_cons_self) (Int.dvd_refl _)
  · rw [List.countP_append]
    have pc : (c.1 * (k : Int), c.2 + c.1 * ((0 : Nat) : Int)) ∈ prtK c k := List.mem_map.mpr ⟨0, List.mem_range.mpr (by omega), rfl⟩
    by_cases z : c.1 * (k : Int) = M
    · have : (prtK c k).countP (fun c => decide (c.1 = M)) = (prtK c k).length := List.countP_eq_length.mpr fun p hp => by rw [hm p hp, z]; exact decide_eq_true rfl
      rw [this]
      unfold prtK
      rw [List.length_map, List.length_range]
      omega
    · have le := a _ (List.mem_append_right _ pc)
      have lt : c.1 < M := by
        have h5 : c.1 * 2 ≤ c.1 * (k : Int) := Int.mul_le_mul_of_nonneg_left (by omega) (by omega)
        simp only at le
        omega
      have dcs : d ∈ cs := by
        rcases List.mem_append.mp hd with y | y
        · exact y
        · rw [hm d y] at e
          exact (z e).elim
      rcases h4 with h4 | h4
      · rw [List.length_cons] at h4
        have := List.length_pos_of_mem dcs
        omega
      · have := h4 M (fun x hx => by
          rcases List.mem_cons.mp hx with rfl | hx
          · omega
          · exact a x (List.mem_append_left _ hx)) ⟨d, List.mem_cons_of_mem _ dcs, e⟩
        rw [List.countP_cons, if_neg (by rw [decide_eq_false (by omega)]; decide)] at this
        omega
/-- exact: none ring together, and the shares come to 1; and of splits -/
def Exq (cs : List (Int × Int)) : Prop := cs.Pairwise Apart ∧ (∀ M : Int, (∀ c ∈ cs, c.1 ∣ M) → (cs.map fun c => M / c.1).sum = M) ∧ TwP cs
theorem sum_perm {xs ys : List Int} (h : xs.Perm ys) : xs.sum = ys.sum := by
  induction h with
  | nil => rfl
  | cons x _ ih => rw [List.sum_cons, List.sum_cons, ih]
  | swap x y l => rw [List.sum_cons, List.sum_cons, List.sum_cons, List.sum_cons]; omega
  | trans _ _ a b => rw [a, b]
theorem erase_perm {α : Type} {cs : List α} {j : Nat} (h : j < cs.length) : (cs[j] :: cs.eraseIdx j).Perm cs := by
  have e := List.take_append_drop j cs
  rw [List.drop_eq_getElem_cons h] at e
  rw [List.eraseIdx_eq_take_drop_succ]
  exact List.perm_middle.symm.trans (by rw [e])
theorem Apart.symm {c d : Int × Int} (h : Apart c d) : Apart d c := fun x hx => h x ⟨hx.2, hx.1⟩
theorem Exq.perm {cs ds : List (Int × Int)} (h : Exq cs) (p : cs.Perm ds) : Exq ds := ⟨(p.pairwise_iff fun h => h.symm).mp h.1, fun M hM => by
  rw [← sum_perm (p.map fun c => M / c.1)]
  exact h.2.1 M fun c hc => hM c (p.mem_iff.mp hc), h.2.2.perm p⟩
theorem Exq.one : Exq [(1, 0)] := ⟨by simp, fun M _ => by simp, ⟨1, by decide, by decide, fun c h => by
  rw [List.mem_singleton] at h
  subst h
  exact ⟨1, rfl⟩⟩, .inl rfl⟩
theorem rep_sum (q : Int) : ∀ k : Nat, ((List.range k).map fun _ => q).sum = k * q
  | 0 => by simp
  | k + 1 => by
    rw [List.range_succ, List.map_append, List.sum_append, rep_sum q k, List.map_cons, List.map_nil, List.sum_cons, List.sum_nil, Int.natCast_add, Int.add_mul]
    omega
theorem part_apart {c : Int × Int} {k i j : Nat} (hc : 1 ≤ c.1) (hi : i < k) (hj : j < k) (hij : i < j) : Apart (c.1 * (k : Int), c.2 + c.1 * (i : Int)) (c.1 * (k : Int), c.2 + c.1 * (j : Int)) := fun x ⟨h1, h2⟩ => by
  simp only at h1 h2
  have h3 := Int.dvd_sub h1 h2
  rw [show x - (c.2 + c.1 * (i : Int)) - (x - (c.2 + c.1 * (j : Int))) = c.1 * ((j : Int) - (i : Int)) by rw [Int.mul_sub]; omega] at h3
  have h4 := Int.dvd_of_mul_dvd_mul_left (show c.1 ≠ 0 by omega) h3
  have := Int.le_of_dvd (show (0 : Int) < (j : Int) - (i : Int) by omega) h4
  omega
theorem Exq.split {c : Int × Int} {cs : List (Int × Int)} {k : Nat} (h : Exq (c :: cs)) (hc : 1 ≤ c.1) (hk : 2 ≤ k) : Exq (cs ++ prtK c k) := by
  obtain ⟨h1, h2, h3⟩ := h
  rw [List.pairwise_cons] at h1
  refine ⟨?_, ?_, h3.split hc hk⟩
  · rw [List.pairwise_append]
    refine ⟨h1.2, ?_, fun d hd p hp => ?_⟩
    · unfold prtK
      rw [List.pairwise_map]
      have : (List.range k).Pairwise fun i j => i < j ∧ i < k ∧ j < k := List.pairwise_lt_range.imp_of_mem fun hi hj h => ⟨h, List.mem_range.mp hi, List.mem_range.mp hj⟩
      exact this.imp fun ⟨a, b, d⟩ => part_apart hc b d a
    · obtain ⟨i, _, rfl⟩ := List.mem_map.mp hp
      intro x ⟨a, b⟩
      simp only at b
      refine h1.1 d hd x ⟨?_, a⟩
      have h3 := Int.dvd_add (Int.dvd_trans (Int.dvd_mul_right c.1 (k : Int)) b) (Int.dvd_mul_right c.1 (i : Int))
      rwa [show x - (c.2 + c.1 * (i : Int)) + c.1 * (i : Int) = x - c.2 by omega] at h3
  · intro M hM
    have hck : c.1 * (k : Int) ∣ M := by
      refine hM (c.1 * (k : Int), c.2 + c.1 * ((0 : Nat) : Int)) (List.mem_append_right _ (List.mem_map.mpr ⟨0, List.mem_range.mpr (by omega), rfl⟩))
    have e := h2 M fun d hd => by
      rcases List.mem_cons.mp hd with rfl | hd
      · exact Int.dvd_trans (Int.dvd_mul_right _ _) hck
      · exact hM d (List.mem_append_left _ hd)
    rw [List.map_cons, List.sum_cons] at e
    rw [List.map_append, List.sum_append]
    have e2 : ((prtK c k).map fun d => M / d.1).sum = (k : Int) * (M / (c.1 * (k : Int))) := by
      unfold prtK
      rw [List.map_map]
      exact rep_sum (M / (c.1 * (k : Int))) k
    obtain ⟨q, hq⟩ := hck
    rw [e2, hq, Int.mul_ediv_cancel_left _ (show c.1 * (k : Int) ≠ 0 from Int.mul_ne_zero (by omega) (by omega))]
    rw [hq, Int.mul_assoc, Int.mul_ediv_cancel_left _ (show c.1 ≠ 0 by omega), ← Int.mul_assoc] at e
    omega
def sp__law_parts_by : Spc := fun avs Kr _ => match avs with
  | [.own ds, .val (.int least), .val (.int most)] => pen3 ds ∧ 1 ≤ least ∧ least ≤ 40 ∧ 1 ≤ most ∧ most ≤ 40 ∧ ∀ ds' cs, pen3 ds' → (∀ c ∈ cs, CkOk 1000 c) → 1 ≤ cs.length → (cs.length : Int) ≤ max least most → Exq cs ∧ (∃ l, cs = List.mergeSort l cle) ∧ (least ≤ 2 → least ≤ cs.length) → Kr [ds'] (.own (cks cs))
  | _ => False
def w__law_parts_by_C1 : WE :=
  wLc [7] (wIRng1 (wVar 4)) (gN 7) wYes (wTup (wFCons (wBin oMul (wVar 5) (wVar 4)) (wFCons (wBin oAdd (wVar 6) (wBin oMul (wVar 5) (wVar 7))) wFNil)))
def w__law_parts_by_T1 : WT :=
  (wOr (wTB (wBin oLt (wCallB oLen (wACons (wVar 3) wANil)) (wVar 1))) (wAnd (wTB (wBin oGt (wCall 2 sp__law_draw (wLd 0 (wMCons (wC (.int 4)) wMNil))) (wC (.int 0)))) (wTB (wBin oLt (wCallB oLen (wACons (wVar 3) wANil)) (wVar 2)))))
def w__law_parts_by_B1 : WS :=
  (wSeq (wSet 4 (wBin oIx (wLst (wFCons (wC (.int 2)) (wFCons (wC (.int 2)) (wFCons (wC (.int 3)) (wFCons (wC (.int 2)) (wFCons (wC (.int 3)) (wFCons (wC (.int 5)) wFNil))))))) (wCall 2 sp__law_draw (wLd 0 (wMCons (wC (.int 6)) wMNil)))))
    (wSeq (wSet 4 (wCallB oMin (wACons (wVar 4) (wACons (wCallB oMax (wACons (wC (.int 2)) (wACons (wBin oAdd (wBin oSub (wVar 2) (wCallB oLen (wACons (wVar 3) wANil))) (wC (.int 1))) wANil))) wANil))))
    (wSeq (wAsgT (wOwnF 3 (wCall 2 sp__law_draw (wLd 0 (wMCons (wCallB oLen (wACons (wVar 3) wANil)) wMNil))) muPopAt) (gT 2 (gCons' (gN 5) (gCons' (gN 6) gNil'))))
    (wSeq (wIfS (wTB (wBin oGt (wBin oMul (wVar 5) (wVar 4)) (wC (.int 1000)))) (wRet (wCallB oSorted (wACons (wBin oAdd (wVar 3) (wLst (wFCons (wTup (wFCons (wVar 5) (wFCons (wVar 6) wFNil))) wFNil))) wANil))) wNext)
    (wSet 3 (wBin oAdd (wVar 3) w__law_parts_by_C1))))))
def w__law_parts_by_L1 : WS :=
  wWhile w__law_parts_by_T1 w__law_parts_by_B1
def w__law_parts_by_R1 : WS :=
  (wRet (wCallB oSorted (wACons (wVar 3) wANil)))
/-- _law_parts_by: 0 pen, 1 least, 2 most, 3 clocks, 4 k, 5 step, 6 rest, 7 part -/
def w__law_parts_by : WS :=
  (wSeq (wSet 3 (wLst (wFCons (wTup (wFCons (wC (.int 1)) (wFCons (wC (.int 0)) wFNil))) wFNil)))
    (wSeq w__law_parts_by_L1
    w__law_parts_by_R1))

theorem map_erase {α β : Type} (f : α → β) : ∀ (l : List α) (j : Nat), (l.map f).eraseIdx j = (l.eraseIdx j).map f
  | [], _ => rfl
  | _ :: _, 0 => rfl
  | x :: l, j + 1 => congrArg (f x :: ·) (map_erase f l j)
theorem c__law_parts_by {ds : List PyData} {least most k st re : Int} {L : List PyData} {Ke : KE} {Kx : KXc} (h0 : 0 ≤ k) (hk : k ≤ 100) (hs : 1 ≤ st) (hr0 : 0 ≤ re) (hr : re < st) (hsk : st * k ≤ 1000)
    (hK : ∀ ms : List (Int × Int), (∀ c ∈ ms, CkOk 1000 c) → (ms.length : Int) = k → ms = prtK (st, re) k.toNat → Ke [.own true ds, .val (.int least), .val (.int most), .own false L, .val (.int k), .val (.int st), .val (.int re), .un] (.tmp (cks ms))) :
    w__law_parts_by_C1 [.own true ds, .val (.int least), .val (.int most), .own false L, .val (.int k), .val (.int st), .val (.int re), .un] Ke Kx := by
  dsimp? [w__law_parts_by_C1, wLc]
  refine ⟨by omega, by omega, ?_⟩
  refine wLcE_ind (fun ds' acc e => ∃ ms : List (Int × Int), acc = cks ms ∧ (∀ c ∈ ms, CkOk 1000 c) ∧ (ds' = (List.range' ms.length ds'.length).map (fun (i : Nat) => PyData.int (i : Int)) ∧ ms = (List.range ms.length).map fun (i : Nat) => (st * k, re + st * (i : Int))) ∧ ((ms.length + ds'.length : Nat) : Int) = k ∧ e = [.own true ds, .val (.int least), .val (.int most), .own false L, .val (.int k), .val (.int st), .val (.int re), .un]) ?_ ?_ _ _ _ ⟨[], rfl, fun _ z => (by cases z), ?_, by simp; omega, rfl⟩
  · rintro acc e ⟨ms, rfl, h1, h2, h3, rfl⟩
    have h4 : (ms.length : Int) = k := by simpa using h3
    dsimp? []
    refine hK ms h1 h4 ?_
    have h5 := h2.2
    rw [← h4] at h5 ⊢
    rw [Int.toNat_natCast]
    exact h5
  · rintro d r acc e ⟨ms, rfl, h1, h2, h3, rfl⟩ ih
    obtain ⟨h2, h5⟩ := h2
    rw [List.length_cons, List.range'_succ, List.map_cons] at h2
    injection h2 with ed h2
    subst ed
    have i0 : (0 : Int) ≤ (ms.length : Int) := by omega
    have ik : (ms.length : Int) < k := by rw [List.length_cons] at h3; omega
    generalize hgi : (ms.length : Int) = i at *
    dsimp? []
    have e1 : st * i + st ≤ st * k := by
      have := Int.mul_le_mul_of_nonneg_left (show i + 1 ≤ k by omega) (show 0 ≤ st by omega)
      rw [Int.mul_add, Int.mul_one] at this
      exact this
    have e0 : 0 ≤ st * i := Int.mul_nonneg (by omega) i0
    have eg : st ≤ st * k := by
      have := Int.mul_le_mul_of_nonneg_left (show 1 ≤ k by omega) (show 0 ≤ st by omega)
      rw [Int.mul_one] at this
      exact this
    simp only [List.length_cons] at h3
    have hml : ms.length ≤ 100 := by omega
    refine ⟨mulx_ok (a := 30) (b := 30) (by omega) (by omega) (by decide), mulx_ok (a := 30) (b := 30) (by omega) (by omega) (by decide), by decide, by rw [List.length_map]; exact small1000 (by omega), ih _ _ ⟨ms ++ [(st * k, re + st * i)], by simp only [cks, List.map_append]; rfl, fun c hc => ?_, ⟨?_, ?_⟩, by rw [List.length_append]; simp only [List.length_cons, List.length_nil]; omega, rfl⟩⟩
    · rcases List.mem_append.mp hc with z | z
      · exact h1 c z
      · simp only [List.mem_singleton] at z
        subst z
        exact ⟨by show 1 ≤ st * k; omega, hsk, by show 0 ≤ re + st * i; omega, by show re + st * i < st * k; omega⟩
    · rw [List.length_append, List.length_singleton]
      exact h2
    · rw [List.length_append, List.length_singleton, List.range_succ, List.map_append, ← h5, ← hgi]
      rfl
  · refine ⟨?_, rfl⟩
    rw [List.length_nil, List.length_map, List.length_range, List.range_eq_range']
theorem b__law_parts_by {ds : List PyData} {least most : Int} {cs : List (Int × Int)} {x4 x5 x6 : Sl} {k : Ken} (hp : pen3 ds) (hm : most ≤ 40) (hcs : ∀ c ∈ cs, CkOk 1000 c) (hx : Exq cs) (h1 : 1 ≤ cs.length) (h2 : (cs.length : Int) < max least most) (h3 : (cs.length : Int) ≤ 40)
    (hn : ∀ ds cs' x4 x5 x6, pen3 ds → (∀ c ∈ cs', CkOk 1000 c) → Exq cs' → cs.length < cs'.length → (cs'.length : Int) ≤ max least most → k.nx [.own true ds, .val (.int least), .val (.int most), .own false (cks cs'), x4, x5, x6, .un])
    (hr : ∀ ds cs' x3 x4 x5 x6, pen3 ds → (∀ c ∈ cs', CkOk 1000 c) → Exq cs' ∧ (∃ l, cs' = List.mergeSort l cle) → cs'.length = cs.length → 2 ≤ cs.length → k.rt [.own true ds, .val (.int least), .val (.int most), x3, x4, x5, x6, .un] (.tmp (cks cs'))) :
    w__law_parts_by_B1 [.own true ds, .val (.int least), .val (.int most), .own false (cks cs), x4, x5, x6, .un] k := by
  unfold w__law_parts_by_B1
  refine seq_cut fun R hR => ?_
  dsimp? [sp__law_draw]
  refine ⟨by decide, hp, by decide, by decide, fun ds1 r1 hp1 a1 a2 => ?_⟩
  obtain ⟨n1, hn1, e1⟩ := atI_mem (ns := [2, 2, 3, 2, 3, 5]) a1 a2
  refine ⟨_, e1, hR _ ?_⟩
  have hn2 : 2 ≤ n1 ∧ n1 ≤ 5 := by
    simp only [List.mem_cons, List.not_mem_nil, or_false] at hn1
    omega
  refine seq_cut fun R hR => ?_
  dsimp? []
  refine hR _ ?_
  generalize hn3 : (if (if most - (cks cs).length + 1 > 2 then most - (cks cs).length + 1 else 2) < n1 then (if most - (cks cs).length + 1 > 2 then most - (cks cs).length + 1 else 2) else n1) = n3
  have hn4 : 2 ≤ n3 ∧ n3 ≤ 5 ∧ (n3 = 2 ∨ n3 ≤ most - cs.length + 1) := by
    rw [List.length_map] at hn3
    subst hn3
    split <;> split <;> omega
  refine seq_cut fun R hR => ?_
  dsimp? [sp__law_draw, muPopAt]
  refine ⟨hp1, by rw [List.length_map]; omega, log_small (by rw [List.length_map]; omega) (by rw [List.length_map]; omega), fun ds2 r2 hp2 b1 b2 => ?_⟩
  rw [List.length_map] at b2
  obtain ⟨j, rfl⟩ := Int.eq_ofNat_of_zero_le b1
  have hj : j < cs.length := by omega
  have ej : (cks cs)[j]? = some (ck cs[j]) := by rw [cks, List.getElem?_map, List.getElem?_eq_getElem hj]; rfl
  obtain ⟨c1, c2, c3, c4⟩ := hcs _ (List.getElem_mem hj)
  refine ⟨b1, by omega, _, ej, ?_⟩
  dsimp? [ck]
  refine hR _ ?_
  have e5 : (cks cs).eraseIdx j = cks (cs.eraseIdx j) := map_erase _ _ _
  rw [Int.toNat_natCast, e5]
  have hl5 : (cs.eraseIdx j).length = cs.length - 1 := by rw [List.length_eraseIdx, if_pos hj]
  have hc5 : ∀ c ∈ cs.eraseIdx j, CkOk 1000 c := fun c hc => hcs c (List.mem_of_mem_eraseIdx hc)
  have hxp : Exq (cs[j] :: cs.eraseIdx j) := hx.perm (erase_perm hj).symm
  have hst : cs.length = 1 → cs[j].1 ≤ 1 := fun e => by
    obtain ⟨P, p1, p2, p3⟩ := hx.2.2.1
    rw [e] at p2
    have : (2 : Nat) ^ 1 = 2 := rfl
    have h4 := Int.le_of_dvd (by omega) (p3 _ (List.getElem_mem hj))
    omega
  have hpe : cs[j] = (cs[j].1, cs[j].2) := rfl
  rw [hpe] at hxp
  clear hpe
  generalize cs[j].1 = st at c1 c2 c4 hxp hst ⊢
  generalize cs[j].2 = re at c3 c4 hxp ⊢
  have hb1 : CMulX st n3 := mulx_ok (a := 30) (b := 30) (by omega) (by omega) (by decide)
  refine seq_cut fun R hR => ?_
  dsimp? []
  refine ⟨hb1, ?_⟩
  split
  · rename_i hgt
    refine ⟨by decide, by decide, ?_, ?_⟩
    · rw [List.length_map, sizeLine_eq]; omega
    have e6 : cks (cs.eraseIdx j) ++ [PyData.tuple [.int st, .int re]] = cks (cs.eraseIdx j ++ [(st, re)]) := by
      simp only [cks, List.map_append]; rfl
    rw [e6]
    refine ⟨srt_cks _, ?_⟩
    rw [sort_cks]
    refine hr _ _ _ _ _ _ hp2 (fun c hc => ?_) ⟨(hxp.perm (List.perm_append_singleton (st, re) (cs.eraseIdx j)).symm).perm (List.mergeSort_perm _ cle).symm, _, rfl⟩ (by rw [List.length_mergeSort, List.length_append, hl5]; simp only [List.length_cons, List.length_nil]; omega) (by
      by_cases e : cs.length = 1
      · have h1 := hst e
        obtain rfl : st = 1 := by omega
        rw [Int.one_mul] at hgt
        omega
      · omega)
    rcases List.mem_append.mp ((List.mergeSort_perm _ cle).mem_iff.mp hc) with z | z
    · exact hc5 c z
    · simp only [List.mem_singleton] at z
      subst z
      exact ⟨c1, c2, c3, c4⟩
  · rename_i hle
    refine hR _ ?_
    dsimp? []
    refine c__law_parts_by (by omega) (by omega) c1 c3 c4 (by omega) fun ms hms hml hpr => ?_
    dsimp? []
    refine ⟨by rw [List.length_map, List.length_map, sizeLine_eq]; omega, ?_⟩
    have e6 : cks (cs.eraseIdx j) ++ cks ms = cks (cs.eraseIdx j ++ ms) := by simp only [cks, List.map_append]
    rw [e6]
    refine hn _ _ _ _ _ hp2 (fun c hc => ?_) (by rw [hpr]; exact hxp.split c1 (by omega)) (by rw [List.length_append, hl5]; omega) (by rw [List.length_append, hl5]; omega)
    rcases List.mem_append.mp hc with z | z
    · exact hc5 c z
    · exact hms c z
theorem vc__law_parts_by : ∀ avs Kr Kx, avs.length = 3 → sp__law_parts_by avs Kr Kx → lsFrom 0 avs = [0] ∧ w__law_parts_by (startEv 8 avs) (kenD [0] Kr Kx) := by
  intro avs Kr Kx hl h
  unfold sp__law_parts_by at h
  split at h
  · rename_i ds least most
    obtain ⟨hp, hl1, hl2, hm1, hm2, q⟩ := h
    refine ⟨rfl, ?_⟩
    dsimp? [w__law_parts_by]
    refine ⟨by decide, by decide, ?_⟩
    refine ⟨fun m e => ∃ ds cs x4 x5 x6, e = [.own true ds, .val (.int least), .val (.int most), .own false (cks cs), x4, x5, x6, .un] ∧ pen3 ds ∧ (∀ c ∈ cs, CkOk 1000 c) ∧ Exq cs ∧ 1 ≤ cs.length ∧ (cs.length : Int) ≤ max least most ∧ m = 100 - cs.length, ⟨_, ds, [(1, 0)], _, _, _, rfl, hp, ?_, Exq.one, by decide, ?_, rfl⟩, ?_⟩
    · intro c hc
      simp only [List.mem_singleton] at hc
      subst hc
      exact ⟨by decide, by decide, by decide, by decide⟩
    · show (1 : Int) ≤ _
      omega
    rintro m e ⟨ds1, cs, x4, x5, x6, rfl, hp1, hcs, hx, hlen1, hlen2, rfl⟩
    have out : ∀ ds', pen3 ds' → least ≤ cs.length → ∀ x4 x5 x6, w__law_parts_by_R1 [.own true ds', .val (.int least), .val (.int most), .own false (cks cs), x4, x5, x6, .un] (kenD [0] Kr Kx) := by
      intro ds' hp' hle x4 x5 x6
      dsimp? [w__law_parts_by_R1]
      refine ⟨srt_cks cs, ?_⟩
      rw [sort_cks]
      exact q _ _ hp' (fun c hc => hcs c ((List.mergeSort_perm cs cle).mem_iff.mp hc)) (by rw [List.length_mergeSort]; exact hlen1) (by rw [List.length_mergeSort]; exact hlen2) ⟨hx.perm (List.mergeSort_perm cs cle).symm, ⟨_, rfl⟩, fun _ => by rw [List.length_mergeSort]; exact hle⟩
    have body : ∀ ds' x4 x5 x6 (k : Ken), pen3 ds' → (cs.length : Int) < max least most → k.rt = (kenD [0] Kr Kx).rt → (k.nx = fun e2 => ∃ m', m' < 100 - cs.length ∧ ∃ ds cs x4 x5 x6, e2 = [.own true ds, .val (.int least), .val (.int most), .own false (cks cs), x4, x5, x6, .un] ∧ pen3 ds ∧ (∀ c ∈ cs, CkOk 1000 c) ∧ Exq cs ∧ 1 ≤ cs.length ∧ (cs.length : Int) ≤ max least most ∧ m' = 100 - cs.length) →
        w__law_parts_by_B1 [.own true ds', .val (.int least), .val (.int most), .own false (cks cs), x4, x5, x6, .un] k := by
      intro ds' x4 x5 x6 k hp' hlt hk1 hk2
      refine b__law_parts_by hp' hm2 hcs hx hlen1 hlt (by omega) (fun ds2 cs2 y4 y5 y6 g1 g2 gx g3 g4 => ?_) (fun ds2 cs2 y3 y4 y5 y6 g1 g2 gx g3 g5 => ?_)
      · rw [hk2]
        exact ⟨_, by omega, ds2, cs2, y4, y5, y6, rfl, g1, g2, gx, by omega, g4, rfl⟩
      · rw [hk1]
        dsimp? []
        exact q _ _ g1 g2 (by omega) (by omega) ⟨gx.1, gx.2, fun _ => by omega⟩
    dsimp? [w__law_parts_by_T1, sp__law_draw]
    split
    · exact body _ _ _ _ _ hp1 (by rename_i z; rw [List.length_map] at z; omega) rfl rfl
    · rename_i z
      have hle : least ≤ cs.length := by rw [List.length_map] at z; omega
      refine ⟨hp1, by decide, by decide, fun ds2 r2 hp2 _ _ => ?_⟩
      split
      · split
        · exact body _ _ _ _ _ hp2 (by rename_i z; rw [List.length_map] at z; omega) rfl rfl
        · exact out _ hp2 hle _ _ _
      · exact out _ hp2 hle _ _ _
  · exact h.elim
end Dl
end L2

/-! The plain half, 3: clocks drawn by ways. -/
namespace L2
namespace Dl
open PySem PySem.Spec PyProof.Rows
local macro_rules | `(tactic| dsimp? [$xs,*] $[$l]?) => `(tactic| simp only [wSeq, wNext, wBreak, wCont, wDrop, wRet, wRetN, wIfS, wSet, wAsgT, e_aug, e_setIx, e_par, e_gN, getS_0, getS_s, setS_0, setS_s, e_var, varK_v, varK_o, varK_u, wC, wBin, rdK_v, rdK_t, rdK_s, rdS_v, rdS_o, rdS_u, fzK_v, fzK_t, fzK_s, fzS_v, fzS_o, fzS_l, fzS_u, e_fz, asg_v, asg_t, asg_s, e_tb, tbK_b, wAnd, wOr, wNot, e_notV, e_andV, e_orV, wBV, wIf, e_neg, intK_i, e_oso, wONo, e_rng1, e_rng2, wFNil, wFCons, wANil, wACons, wTup, wLst, e_callB, rdAllK_n, rdAllK_c, wIsi, e_call, wMNil, wMCons, e_ld, lnsOf, avsK_n, avsK_f, avsK_l, lnS_o, lnS_v, lnS_u, poK_n, poK_c, poS_o, inS_0, inS_s, rsK_v, rsK_o, wSl, e_ownF, e_own0, ownB_o, oS_o, oS_v, oS_u, agS_i, muApp, oAdd_i, oAdd_l, oAdd_t, oAdd_s, oSub_i, oMul_i, oFdiv_i, oMod_i, oPow_i, oShl_i, oShr_i, oOr_i, oAndB_i, oLt_i, oLe_i, oGt_i, oGe_i, oEq_i, oNe_i, oEq, oNe, oIx_l, oIx_t, oLen_l, oLen_t, oInt_i, oInt_b, oMax_i, oMin_i, oList_l, oList_t, oTuple_l, oTuple_t, oSorted_l, oSorted_t, oIs_n, oIsN_n, oIs_b, oIsN_b, isNone_n, isNone_t, isNone_l, isNone_i, isNone_s, isNone_b, oSl_l, oSl_t, oIn, gT_t, gC_c, gNil', e_iseq, sqK_l, sqK_t, e_isq, sq2K_l, sq2K_t, e_sset, ssK_l, ssK_t, e_chain, e_lr1, e_lr2, wRev, rvD_l, rvD_t, e_in1, e_in2, negB_f, negB_t, wIZip, zpK_m, e_extend, extR_t, wYes, startEv, kenD_nx, kenD_rt, kenD_bk, kenD_ct, kenD_ex, outK_n, outK_c, otS_o, rvK_v, rvK_t, rvK_s, rvS_v, rvS_o, slOf, lsFrom, wipeE, restE, List.map_cons, List.map_nil, List.length_cons, List.length_nil, List.replicate, List.append_nil, List.cons_append, List.nil_append, List.getElem?_cons_zero, List.getElem?_cons_succ, List.getElem?_nil, List.set_cons_zero, List.set_cons_succ, List.set_nil, Option.getD_some, Option.getD_none, Option.map_some, Option.map_none, Option.some.injEq, Rs.val.injEq, Rs.tmp.injEq, Rs.slot.injEq, Sl.own.injEq, Sl.val.injEq, PyData.int.injEq, PyData.bool.injEq, PyData.str.injEq, PyData.list.injEq, PyData.tuple.injEq, Prod.mk.injEq, Nat.sub_self, Nat.zero_add, Nat.reduceAdd, Nat.reduceSub, Nat.add_zero, isTy_int_int, isTy_bool_int, isTy_int_bool, isTy_bool_bool, isTy_int_tup, isTy_int_lst, isTy_int_non, isTy_int_str, isTy_tup_tup, isTy_tup_lst, isTy_tup_int, isTy_tup_bool, isTy_tup_non, isTy_tup_str, isTy_lst_lst, isTy_lst_tup, isTy_lst_int, exists_eq_left', exists_eq_left, exists_and_left, exists_eq_right, exists_eq, exists_eq', exists_const, true_and, and_true, and_self, Bool.not_true, Bool.not_false, if_true, if_false, Bool.false_eq_true, reduceIte, reduceCtorEq, List.nodup_nil, decide_eq_true_eq, atI_0, atI_1, atI_2, atI_3, atI_4, atI_5, atI_6, atI_7, atI_8, atI_9, atI_10, atI_11, ixN_3_0, ixN_3_1, ixN_3_2, sh_int, sh_bool, sh_non, and_assoc, nd1, nd_true, eq_self, decide_true, decide_false, Int.cast_ofNat_Int, not_true_eq_false, not_false_eq_true, eqv_ii, eqv_bb, wRaise0, e_raiseG, grK_i, e_raise1, onK_i, e_callX, xa_1, xa_2, xa_3, xa_4, xa_5, xa_6, xa_7, e_many, e_most, e_number, e_row, isLst_l, lsK_l, e_rd, e_br, brS_o, brS_v, arS_o, arS_v, avbK_n, avbK_f, avbK_l, scK_b, scK_i, scK_n, scK_s, e_callS, tmK_t, e_rep, enK_l, e_ienum, wTry, eqv_ss, tpK_v, txK_1, tutK_t, e_repT, e_callT, enTK_t, e_ienumT, r3K_i, e_rng3, dcS_d, dcB_d, tkK_m, tkK_2, zlK_c, $xs,*] $[$l]?)
theorem cks_snoc (ms : List (Int × Int)) (a b : Int) : cks ms ++ [.tuple [.int a, .int b]] = cks (ms ++ [(a, b)]) := by
  simp only [cks, List.map_append]; rfl
theorem cks_app (ms ns : List (Int × Int)) : cks ms ++ cks ns = cks (ms ++ ns) := by simp only [cks, List.map_append]
theorem ck_more {m : Int} {ms : List (Int × Int)} {a b : Int} (h : ∀ c ∈ ms, CkOk m c) (h1 : 1 ≤ a) (h2 : a ≤ m) (h3 : 0 ≤ b) (h4 : b < a) : ∀ c ∈ ms ++ [(a, b)], CkOk m c := fun c hc => by
  rcases List.mem_append.mp hc with z | z
  · exact h c z
  · simp only [List.mem_singleton] at z
    subst z
    exact ⟨h1, h2, h3, h4⟩
theorem set_same {α : Type} : ∀ {l : List α} {i : Nat} {x : α}, l[i]? = some x → l.set i x = l
  | [], i, x, h => by simp at h
  | a :: l, 0, x, h => by
    have e : a = x := Option.some.inj h
    rw [e]; rfl
  | a :: l, i + 1, x, h => by
    have := set_same (l := l) (i := i) (x := x) h
    show a :: l.set i x = a :: l
    rw [this]
/-- [_law_clock_by(pen, m) for t in ..] -/
theorem clocks_lc {p t : Nat} {m : Int} {K : Ev → List PyData → Prop} (h0 : 0 < m) (hm : m < 2 ^ 60) (hpt : p ≠ t) : ∀ (ds : List PyData) (ms : List (Int × Int)) (env : Ev) (l : Bool) (pen : List PyData), env[p]? = some (.own l pen) → env[t]? = some .un → pen3 pen → (∀ c ∈ ms, CkOk m c) → ms.length + ds.length ≤ 1000 →
    (∀ pen' ms', pen3 pen' → (∀ c ∈ ms', CkOk m c) → ms'.length = ms.length + ds.length → K (env.set p (.own l pen')) (cks ms')) →
    wLcE [t] (gN t) wYes (wCall 2 sp__law_clock_by (wLd p (wMCons (wC (.int m)) wMNil))) ds (cks ms) env K
  | [], ms, env, l, pen, e1, e2, hp, hc, hl, hK => by
    have := hK pen ms hp hc rfl
    rw [set_same e1] at this
    exact this
  | d :: ds, ms, env, l, pen, e1, e2, hp, hc, hl, hK => by
    have ht : t < env.length := (List.getElem?_eq_some_iff.mp e2).1
    have hpl : p < env.length := (List.getElem?_eq_some_iff.mp e1).1
    have g1 : (env.set t (.val d))[p]? = some (.own l pen) := by rw [List.getElem?_set_ne (Ne.symm hpt)]; exact e1
    unfold wLcE
    dsimp? [sp__law_clock_by]
    simp only [setS_eq, getS_at g1, ownB_o, lnS_o, true_and, poK_c _ _ _ _ _ _ ⟨_, g1⟩, poS_o, poK_n]
    refine ⟨hp, h0, hm, fun ds' a b hp' a1 a2 b1 b2 => ⟨?_, ?_⟩⟩
    · rw [List.length_map]
      simp only [List.length_cons] at hl
      exact small1000 (by omega)
    · rw [cks_snoc]
      have es : ((env.set t (.val d)).set p (.own l ds')).set t .un = env.set p (.own l ds') := by
        rw [List.set_comm _ _ (Ne.symm hpt), List.set_set, List.set_comm _ _ hpt, set_same e2]
      rw [es]
      refine clocks_lc h0 hm hpt ds _ _ l ds' (List.getElem?_set_self hpl) (by rw [List.getElem?_set_ne hpt]; exact e2) hp' (ck_more hc a1 a2 b1 b2) (by simp only [List.length_cons, List.length_append, List.length_nil] at hl ⊢; omega) fun pen' ms' h1 h2 h3 => ?_
      rw [List.set_set]
      exact hK pen' ms' h1 h2 (by simp only [List.length_cons, List.length_append, List.length_nil] at h3 ⊢; omega)
theorem cutD_cks (cs : List (Int × Int)) (lo hi : Option Int) : cutD (cks cs) lo hi = cks (cutD cs lo hi) := by
  unfold cutD cks
  rw [List.length_map, List.map_take, List.map_drop]
theorem cutD_to (cs : List (Int × Int)) (m : Nat) : cutD cs none (some (m : Int)) = cs.take m := by
  unfold cutD
  rw [HT.sIx_none, HT.sIx_nat, List.drop_zero, Nat.sub_zero, List.take_eq_take_iff]
  omega
/-- small steps, or a small round -/
def CB (cs : List (Int × Int)) : Prop := (∀ c ∈ cs, c.1 ≤ 12) ∨ ∃ P : Nat, 1 ≤ P ∧ P ≤ 1000 ∧ ∀ c ∈ cs, c.1 ∣ (P : Int)
theorem CB.sub {cs ds : List (Int × Int)} (h : CB cs) (k : ∀ c ∈ ds, c ∈ cs) : CB ds := by
  rcases h with h | ⟨P, h1, h2, h3⟩
  · exact .inl fun c hc => h c (k c hc)
  · exact .inr ⟨P, h1, h2, fun c hc => h3 c (k c hc)⟩
theorem TwP.cb {cs : List (Int × Int)} (h : TwP cs) (hl : cs.length ≤ 7) : ∃ P : Nat, 1 ≤ P ∧ P ≤ 64 ∧ ∀ c ∈ cs, c.1 ∣ (P : Int) := by
  obtain ⟨P, h1, h2, h3⟩ := h.1
  have : 2 ^ cs.length ≤ 2 ^ 7 := Nat.pow_le_pow_right (by decide) hl
  have e : (2 : Nat) ^ 7 = 128 := rfl
  exact ⟨P, h1, by omega, h3⟩
def sp__law_clocks_by : Spc := fun avs Kr _ => match avs with
  | [.own ds, .val (.int most)] => pen3 ds ∧ 1 ≤ most ∧ most ≤ 40 ∧ ∀ ds' cs, pen3 ds' → (∀ c ∈ cs, CkOk 1000 c) → cs.Nodup → cs.Pairwise clt → (cs.length : Int) ≤ most → (most ≤ 8 → CB cs) → Kr [ds'] (.val (.tuple (cks cs)))
  | _ => False
def w__law_clocks_by_C1 : WE :=
  wLc [5] (wIRng1 (wCall 2 sp__law_draw (wLd 0 (wMCons (wBin oAdd (wVar 1) (wC (.int 1))) wMNil)))) (gN 5) wYes (wCall 2 sp__law_clock_by (wLd 0 (wMCons (wC (.int 12)) wMNil)))
def w__law_clocks_by_B1 : WS :=
  (wSeq (wSet 6 (wBin oIx (wVar 4) (wCall 2 sp__law_draw (wLd 0 (wMCons (wC (.int 7)) wMNil)))))
    (wDrop (wOwnF 3 (wTup (wFCons (wVar 6) (wFCons (wCall 2 sp__law_draw (wLd 0 (wMCons (wVar 6) wMNil))) wFNil))) muApp)))
def w__law_clocks_by_L1 : WS :=
  wFor (wIRng1 (wCall 2 sp__law_draw (wLd 0 (wMCons (wBin oAdd (wVar 1) (wC (.int 1))) wMNil)))) (gN 5) w__law_clocks_by_B1
def w__law_clocks_by_R1 : WS :=
  (wIfS (wTB (wBin oEq (wVar 2) (wC (.int 4)))) (wDrop (wOwnF 3 (wCall 2 sp__law_draw (wLd 0 (wMCons (wCallB oLen (wACons (wVar 3) wANil)) wMNil))) muPopAt)) wNext)
def w__law_clocks_by_R2 : WS :=
  (wRet (wSl (wCallB oTuple (wACons (wSortSet (wVar 3)) wANil)) wONo (wOSo (wVar 1))))
/-- _law_clocks_by: 0 pen, 1 most, 2 way, 3 found, 4 steps, 5 turn, 6 step -/
def w__law_clocks_by : WS :=
  (wSeq (wSet 2 (wCall 2 sp__law_draw (wLd 0 (wMCons (wC (.int 5)) wMNil))))
    (wSeq (wIfS (wTB (wBin oEq (wVar 2) (wC (.int 0)))) (wSet 3 w__law_clocks_by_C1) (wIfS (wTB (wBin oEq (wVar 2) (wC (.int 1)))) (wSeq (wSet 4 (wLst (wFCons (wC (.int 2)) (wFCons (wC (.int 3)) (wFCons (wC (.int 4)) (wFCons (wC (.int 6)) (wFCons (wC (.int 8)) (wFCons (wC (.int 12)) (wFCons (wC (.int 24)) wFNil)))))))))
    (wSeq (wSet 3 (wLst wFNil))
    w__law_clocks_by_L1)) (wSeq (wSet 3 (wCall 3 sp__law_parts_by (wLd 0 (wMCons (wC (.int 1)) (wMCons (wCallB oMax (wACons (wC (.int 1)) (wACons (wBin oSub (wVar 1) (wC (.int 1))) wANil))) wMNil)))))
    (wSeq (wIfS (wTB (wBin oEq (wVar 2) (wC (.int 3)))) (wSet 3 (wBin oAdd (wVar 3) (wLst (wFCons (wCall 2 sp__law_clock_by (wLd 0 (wMCons (wC (.int 6)) wMNil))) wFNil)))) wNext)
    w__law_clocks_by_R1))))
    w__law_clocks_by_R2))

theorem ck_mono {m n : Int} (h : m ≤ n) {cs : List (Int × Int)} (hc : ∀ c ∈ cs, CkOk m c) : ∀ c ∈ cs, CkOk n c := fun c z => by
  obtain ⟨h1, h2, h3, h4⟩ := hc c z
  exact ⟨h1, by omega, h3, h4⟩
/-- tuple(sorted(set(clocks)))[:most] -/
theorem ss_clocks {cs : List (Int × Int)} {K : Rs → Prop} {m : Int} (hm : m ≤ 2 ^ 60) (hc : ∀ c ∈ cs, CkOk m c) (hl : cs.length < 64) (h : ∀ ms : List (Int × Int), ms.Nodup → (∀ c, c ∈ ms ↔ c ∈ cs) → ms.Pairwise clt → K (.tmp (cks ms))) : oSortSet (cks cs) K :=
  sortSet_cks (B := m + 1) (fun c z => by
    obtain ⟨h1, h2, h3, h4⟩ := hc c z
    exact ⟨by omega, by omega, h3, by omega⟩) hl h
theorem r__law_clocks_by {ds : List PyData} {most : Int} {cs : List (Int × Int)} {x2 x4 x5 x6 : Sl} {k : Ken} (hp : pen3 ds) (h1 : 0 ≤ most) (hcs : ∀ c ∈ cs, CkOk 1000 c) (hl : cs.length < 64) (hb : most ≤ 8 → CB cs)
    (hr : ∀ cs x3, (∀ c ∈ cs, CkOk 1000 c) → cs.Nodup → cs.Pairwise clt → (cs.length : Int) ≤ most → (most ≤ 8 → CB cs) → k.rt [.own true ds, .val (.int most), x2, x3, x4, x5, x6] (.val (.tuple (cks cs)))) :
    w__law_clocks_by_R2 [.own true ds, .val (.int most), x2, .own false (cks cs), x4, x5, x6] k := by
  dsimp? [w__law_clocks_by_R2]
  refine ss_clocks (m := 1000) (by decide) hcs hl fun ms nd mem pw => ?_
  dsimp? []
  obtain ⟨m, rfl⟩ := Int.eq_ofNat_of_zero_le h1
  rw [cutD_cks, cutD_to]
  exact hr _ _ (fun c hc => hcs c ((mem c).mp (List.mem_of_mem_take hc))) (nd.sublist (List.take_sublist _ _)) (pw.sublist (List.take_sublist _ _)) (by rw [List.length_take]; omega) (fun h => (hb h).sub fun c hc => (mem c).mp (List.mem_of_mem_take hc))
theorem vc__law_clocks_by : ∀ avs Kr Kx, avs.length = 2 → sp__law_clocks_by avs Kr Kx → lsFrom 0 avs = [0] ∧ w__law_clocks_by (startEv 7 avs) (kenD [0] Kr Kx) := by
  intro avs Kr Kx hl h
  unfold sp__law_clocks_by at h
  split at h
  · rename_i ds most
    obtain ⟨hp, hm1, hm2, q⟩ := h
    refine ⟨rfl, ?_⟩
    have fin : ∀ (ds : List PyData) (cs : List (Int × Int)) (x2 x4 x5 x6 : Sl), pen3 ds → (∀ c ∈ cs, CkOk 1000 c) → cs.length < 64 → (most ≤ 8 → CB cs) → w__law_clocks_by_R2 [.own true ds, .val (.int most), x2, .own false (cks cs), x4, x5, x6] (kenD [0] Kr Kx) := by
      intro ds cs x2 x4 x5 x6 hp hc hl hb
      refine r__law_clocks_by hp (by omega) hc hl hb fun cs x3 a1 a2 a3 a4 a5 => ?_
      dsimp? []
      exact q _ _ hp a1 a2 a3 a4 a5
    unfold w__law_clocks_by
    refine seq_cut fun R hR => ?_
    dsimp? [sp__law_draw]
    refine ⟨hp, by decide, by decide, fun ds1 way hp1 w0 w5 => hR _ ?_⟩
    refine seq_cut fun R hR => ?_
    dsimp? []
    split
    · dsimp? [w__law_clocks_by_C1, wLc, sp__law_draw]
      refine ⟨hp1, by omega, log_small (by omega) (by omega), fun ds2 n hp2 n0 n1 => ⟨by omega, by omega, ?_⟩⟩
      refine clocks_lc (p := 0) (l := true) (pen := ds2) (by decide) (by decide) (by decide) _ [] _ rfl rfl hp2 (fun _ z => (by cases z)) (by rw [List.length_map, List.length_range]; simp; omega) fun ds3 ms hp3 hms hml => ?_
      dsimp? []
      refine hR _ ?_
      refine fin _ _ _ _ _ _ hp3 (ck_mono (by decide) hms) ?_ (fun _ => .inl fun c hc => (hms c hc).2.1)
      rw [hml, List.length_map, List.length_range]
      simp
      omega
    · split
      · dsimp? [w__law_clocks_by_L1, wFor, sp__law_draw]
        refine ⟨by decide, by decide, hp1, by omega, log_small (by omega) (by omega), fun ds2 n hp2 n0 n1 => ⟨by omega, by omega, ?_⟩⟩
        refine wEach_ind (fun ds' e => ∃ pen cs x5 x6, e = [.own true pen, .val (.int most), .val (.int way), .own false (cks cs), .own false [.int 2, .int 3, .int 4, .int 6, .int 8, .int 12, .int 24], x5, x6] ∧ pen3 pen ∧ (∀ c ∈ cs, CkOk 1000 c) ∧ cs.length + ds'.length < 64 ∧ ∀ c ∈ cs, c.1 ∣ ((24 : Nat) : Int)) ?_ ?_ _ _ ⟨ds2, [], _, _, rfl, hp2, fun _ z => (by cases z), by rw [List.length_map, List.length_range]; simp; omega, fun _ z => (by cases z)⟩
        · rintro e ⟨pen, cs, x5, x6, rfl, g1, g2, g3, g24⟩
          refine hR _ ?_
          exact fin _ _ _ _ _ _ g1 g2 (by simpa using g3) (fun _ => .inr ⟨24, by decide, by decide, g24⟩)
        · rintro d r e ⟨pen, cs, x5, x6, rfl, g1, g2, g3, g24⟩ ih
          dsimp? [w__law_clocks_by_B1, sp__law_draw]
          refine ⟨g1, by decide, by decide, fun pen2 i g4 i0 i7 => ?_⟩
          obtain ⟨n1, hn1, e1⟩ := atI_mem (ns := [2, 3, 4, 6, 8, 12, 24]) i0 i7
          refine ⟨_, e1, ?_⟩
          dsimp? []
          have hn2 : 2 ≤ n1 ∧ n1 ≤ 24 := by
            simp only [List.mem_cons, List.not_mem_nil, or_false] at hn1
            omega
          have hn24 : n1 ∣ ((24 : Nat) : Int) := by
            simp only [List.mem_cons, List.not_mem_nil, or_false] at hn1
            rcases hn1 with rfl | rfl | rfl | rfl | rfl | rfl | rfl <;> decide
          refine ⟨g4, by omega, log_small (by omega) (by omega), fun pen3 r3 g5 r0 r1 => ⟨by decide, ?_, ?_⟩⟩
          · simp only [List.length_cons] at g3
            rw [List.length_map, sizeLine_eq]; omega
          · rw [cks_snoc]
            exact ih _ ⟨_, _, _, _, rfl, g5, ck_more g2 (by omega) (by omega) r0 r1, by simp only [List.length_cons, List.length_append, List.length_nil] at g3 ⊢; omega, fun c hc => by
              rcases List.mem_append.mp hc with z | z
              · exact g24 c z
              · rw [List.mem_singleton] at z
                subst z
                exact hn24⟩
      · dsimp? [sp__law_parts_by, sp__law_clock_by]
        refine ⟨hp1, by decide, by decide, ?_⟩
        have hq : 1 ≤ (if most - 1 > 1 then most - 1 else 1) ∧ (if most - 1 > 1 then most - 1 else 1) ≤ 40 := by split <;> omega
        refine ⟨hq.1, hq.2, fun ds2 cs hp2 hcs c1 c2 hx => ?_⟩
        have cb : most ≤ 8 → ∃ P : Nat, 1 ≤ P ∧ P ≤ 64 ∧ ∀ c ∈ cs, c.1 ∣ (P : Int) := fun h8 => hx.1.2.2.cb (by clear hx; omega)
        have cb0 : most ≤ 8 → CB cs := fun h8 => by
          obtain ⟨P, p1, p2, p3⟩ := cb h8
          exact .inr ⟨P, p1, by omega, p3⟩
        have c3 : cs.length ≤ 40 := by clear hx cb cb0; omega
        split
        · refine ⟨hp2, by decide, by decide, fun ds3 a b hp3 a1 a2 b1 b2 => ⟨by decide, ?_, ?_⟩⟩
          · rw [List.length_map, sizeLine_eq]; omega
          · dsimp? [w__law_clocks_by_R1]
            rename_i hw
            rw [if_neg (by omega), cks_snoc]
            refine hR _ ?_
            exact fin _ _ _ _ _ _ hp3 (ck_more hcs a1 (by omega) b1 b2) (by simp only [List.length_append, List.length_cons, List.length_nil]; omega) (fun h8 => by
              obtain ⟨P, p1, p2, p3⟩ := cb h8
              obtain ⟨a', rfl⟩ := Int.eq_ofNat_of_zero_le (show 0 ≤ a by omega)
              refine .inr ⟨P * a', Nat.mul_pos p1 (by omega), Nat.le_trans (Nat.mul_le_mul p2 (show a' ≤ 6 by omega)) (by decide), fun c hc => ?_⟩
              rw [Int.natCast_mul]
              rcases List.mem_append.mp hc with z | z
              · exact Int.dvd_trans (p3 c z) (Int.dvd_mul_right _ _)
              · rw [List.mem_singleton] at z
                subst z
                exact Int.dvd_mul_left _ _)
        · dsimp? [w__law_clocks_by_R1, sp__law_draw, muPopAt]
          split
          · refine ⟨hp2, by rw [List.length_map]; omega, log_small (by rw [List.length_map]; omega) (by rw [List.length_map]; omega), fun ds3 j hp3 j0 j1 => ?_⟩
            rw [List.length_map] at j1
            obtain ⟨j, rfl⟩ := Int.eq_ofNat_of_zero_le j0
            have hj : j < cs.length := by omega
            refine ⟨j0, by omega, _, (by rw [Int.toNat_natCast, cks, List.getElem?_map, List.getElem?_eq_getElem hj]; rfl), ?_⟩
            rw [Int.toNat_natCast, map_erase]
            refine hR _ ?_
            exact fin _ _ _ _ _ _ hp3 (fun c hc => hcs c (List.mem_of_mem_eraseIdx hc)) (by rw [List.length_eraseIdx]; split <;> omega) (fun h8 => (cb0 h8).sub fun c hc => List.mem_of_mem_eraseIdx hc)
          · refine hR _ ?_
            exact fin _ _ _ _ _ _ hp2 hcs (by omega) cb0
  · exact h.elim
end Dl
end L2

/-! The plain half, 4: comprehensions without deeds; rounds, shares. -/
namespace L2
namespace Dl
open PySem PySem.Spec PyProof.Rows
local macro_rules | `(tactic| dsimp? [$xs,*] $[$l]?) => `(tactic| simp only [wSeq, wNext, wBreak, wCont, wDrop, wRet, wRetN, wIfS, wSet, wAsgT, e_aug, e_setIx, e_par, e_gN, getS_0, getS_s, setS_0, setS_s, e_var, varK_v, varK_o, varK_u, wC, wBin, rdK_v, rdK_t, rdK_s, rdS_v, rdS_o, rdS_u, fzK_v, fzK_t, fzK_s, fzS_v, fzS_o, fzS_l, fzS_u, e_fz, asg_v, asg_t, asg_s, e_tb, tbK_b, wAnd, wOr, wNot, e_notV, e_andV, e_orV, wBV, wIf, e_neg, intK_i, e_oso, wONo, e_rng1, e_rng2, wFNil, wFCons, wANil, wACons, wTup, wLst, e_callB, rdAllK_n, rdAllK_c, wIsi, e_call, wMNil, wMCons, e_ld, lnsOf, avsK_n, avsK_f, avsK_l, lnS_o, lnS_v, lnS_u, poK_n, poK_c, poS_o, inS_0, inS_s, rsK_v, rsK_o, wSl, e_ownF, e_own0, ownB_o, oS_o, oS_v, oS_u, agS_i, muApp, oAdd_i, oAdd_l, oAdd_t, oAdd_s, oSub_i, oMul_i, oFdiv_i, oMod_i, oPow_i, oShl_i, oShr_i, oOr_i, oAndB_i, oLt_i, oLe_i, oGt_i, oGe_i, oEq_i, oNe_i, oEq, oNe, oIx_l, oIx_t, oLen_l, oLen_t, oInt_i, oInt_b, oMax_i, oMin_i, oList_l, oList_t, oTuple_l, oTuple_t, oSorted_l, oSorted_t, oIs_n, oIsN_n, oIs_b, oIsN_b, isNone_n, isNone_t, isNone_l, isNone_i, isNone_s, isNone_b, oSl_l, oSl_t, oIn, gT_t, gC_c, gNil', e_iseq, sqK_l, sqK_t, e_isq, sq2K_l, sq2K_t, e_sset, ssK_l, ssK_t, e_chain, e_lr1, e_lr2, wRev, rvD_l, rvD_t, e_in1, e_in2, negB_f, negB_t, wIZip, zpK_m, e_extend, extR_t, wYes, startEv, kenD_nx, kenD_rt, kenD_bk, kenD_ct, kenD_ex, outK_n, outK_c, otS_o, rvK_v, rvK_t, rvK_s, rvS_v, rvS_o, slOf, lsFrom, wipeE, restE, List.map_cons, List.map_nil, List.length_cons, List.length_nil, List.replicate, List.append_nil, List.cons_append, List.nil_append, List.getElem?_cons_zero, List.getElem?_cons_succ, List.getElem?_nil, List.set_cons_zero, List.set_cons_succ, List.set_nil, Option.getD_some, Option.getD_none, Option.map_some, Option.map_none, Option.some.injEq, Rs.val.injEq, Rs.tmp.injEq, Rs.slot.injEq, Sl.own.injEq, Sl.val.injEq, PyData.int.injEq, PyData.bool.injEq, PyData.str.injEq, PyData.list.injEq, PyData.tuple.injEq, Prod.mk.injEq, Nat.sub_self, Nat.zero_add, Nat.reduceAdd, Nat.reduceSub, Nat.add_zero, isTy_int_int, isTy_bool_int, isTy_int_bool, isTy_bool_bool, isTy_int_tup, isTy_int_lst, isTy_int_non, isTy_int_str, isTy_tup_tup, isTy_tup_lst, isTy_tup_int, isTy_tup_bool, isTy_tup_non, isTy_tup_str, isTy_lst_lst, isTy_lst_tup, isTy_lst_int, exists_eq_left', exists_eq_left, exists_and_left, exists_eq_right, exists_eq, exists_eq', exists_const, true_and, and_true, and_self, Bool.not_true, Bool.not_false, if_true, if_false, Bool.false_eq_true, reduceIte, reduceCtorEq, List.nodup_nil, decide_eq_true_eq, atI_0, atI_1, atI_2, atI_3, atI_4, atI_5, atI_6, atI_7, atI_8, atI_9, atI_10, atI_11, ixN_3_0, ixN_3_1, ixN_3_2, sh_int, sh_bool, sh_non, and_assoc, nd1, nd_true, eq_self, decide_true, decide_false, Int.cast_ofNat_Int, not_true_eq_false, not_false_eq_true, eqv_ii, eqv_bb, wRaise0, e_raiseG, grK_i, e_raise1, onK_i, e_callX, xa_1, xa_2, xa_3, xa_4, xa_5, xa_6, xa_7, e_many, e_most, e_number, e_row, isLst_l, lsK_l, e_rd, e_br, brS_o, brS_v, arS_o, arS_v, avbK_n, avbK_f, avbK_l, scK_b, scK_i, scK_n, scK_s, e_callS, tmK_t, e_rep, enK_l, e_ienum, wTry, eqv_ss, tpK_v, txK_1, tutK_t, e_repT, e_callT, enTK_t, e_ienumT, r3K_i, e_rng3, dcS_d, dcB_d, tkK_m, tkK_2, zlK_c, $xs,*] $[$l]?)
/-- a comprehension that changes nothing -/
theorem lc_fm {β : Type} {vs : List Nat} {g : WG} {ct : WT} {we : WE} {K : Ev → List PyData → Prop} {env : Ev} (en : β → PyData) (f : β → Option PyData) : ∀ (xs : List β) (acc : List PyData),
    (∀ x ∈ xs, ∀ (A : PyData → Ev → Prop) (N : Ev → Prop), (match f x with | some y => A y env | none => N env) → g (en x) env (fun e1 => ct e1 (fun e2 b => if b = true then wFz we e2 (fun e3 y => A y (wipeE e3 vs)) NoX else N (wipeE e2 vs)) NoX)) →
    acc.length + xs.length ≤ sizeLine → K env (acc ++ xs.filterMap f) → wLcE vs g ct we (xs.map en) acc env K
  | [], acc, h, hl, hK => by
    rw [List.filterMap_nil, List.append_nil] at hK
    exact hK
  | x :: xs, acc, h, hl, hK => by
    show g (en x) env (fun e1 => ct e1 (fun e2 b => if b = true then wFz we e2 (fun e3 y => acc.length < sizeLine ∧ wLcE vs g ct we (xs.map en) (acc ++ [y]) (wipeE e3 vs) K) NoX else wLcE vs g ct we (xs.map en) acc (wipeE e2 vs) K) NoX)
    refine h x List.mem_cons_self (fun y e => acc.length < sizeLine ∧ wLcE vs g ct we (xs.map en) (acc ++ [y]) e K) (fun e => wLcE vs g ct we (xs.map en) acc e K) ?_
    simp only [List.length_cons] at hl
    cases e : f x with
    | some y =>
      refine ⟨by omega, lc_fm en f xs _ (fun x hx => h x (List.mem_cons_of_mem _ hx)) (by simp only [List.length_append, List.length_cons, List.length_nil]; omega) ?_⟩
      rw [List.filterMap_cons_some e] at hK
      rw [List.append_assoc]
      exact hK
    | none =>
      rw [List.filterMap_cons_none e] at hK
      exact lc_fm en f xs _ (fun x hx => h x (List.mem_cons_of_mem _ hx)) (by omega) hK
/-- without an if -/
theorem lc_map {β : Type} {vs : List Nat} {g : WG} {we : WE} {K : Ev → List PyData → Prop} {env : Ev} (en : β → PyData) (f : β → PyData) (xs : List β)
    (h : ∀ x ∈ xs, ∀ (A : PyData → Ev → Prop), A (f x) env → g (en x) env (fun e1 => wFz we e1 (fun e3 y => A y (wipeE e3 vs)) NoX))
    (hl : xs.length ≤ sizeLine) (hK : K env (xs.map f)) : wLcE vs g wYes we (xs.map en) [] env K := by
  refine lc_fm en (fun x => some (f x)) xs [] (fun x hx A N hA => ?_) (by simpa using hl) ?_
  · refine h x hx A hA
  · rw [List.nil_append, List.filterMap_eq_map']
    exact hK

/-! ### rounds -/
def prodS : List (Int × Int) → Int
  | [] => 1
  | c :: cs => c.1 * prodS cs
/-- the round, by the loop -/
def rnd (f : Int) : List (Int × Int) → Int
  | [] => f
  | c :: cs => rnd (f * c.1 / (Int.gcd f c.1 : Nat)) cs
theorem lcm_eq {f s : Int} (hf : 0 < f) (hs : 0 < s) : f * s / (Int.gcd f s : Nat) = (Int.lcm f s : Nat) := by
  have h := Int.gcd_mul_lcm f s
  have hg : 0 < Int.gcd f s := Int.gcd_pos_of_ne_zero_left s (Int.ne_of_gt hf)
  refine Int.ediv_eq_of_eq_mul_right (by omega) ?_
  have h2 : (Int.gcd f s : Int) * (Int.lcm f s : Int) = (f.natAbs : Int) * (s.natAbs : Int) := by exact_mod_cast h
  rw [Int.natAbs_of_nonneg (by omega), Int.natAbs_of_nonneg (by omega)] at h2
  exact h2.symm
theorem prodS_pos : ∀ {cs : List (Int × Int)}, (∀ c ∈ cs, 1 ≤ c.1) → 1 ≤ prodS cs
  | [], _ => by decide
  | c :: cs, h => by
    have h1 := h c List.mem_cons_self
    have h2 := prodS_pos fun c hc => h c (List.mem_cons_of_mem _ hc)
    have := Int.mul_pos (show 0 < c.1 by omega) (show 0 < prodS cs by omega)
    show 1 ≤ c.1 * prodS cs
    omega
theorem prodS_dvd : ∀ {cs : List (Int × Int)}, ∀ c ∈ cs, c.1 ∣ prodS cs
  | c :: cs, d, h => by
    rcases List.mem_cons.mp h with z | z
    · subst z; exact Int.dvd_mul_right _ _
    · exact Int.dvd_trans (prodS_dvd d z) (Int.dvd_mul_left _ _)
theorem rnd_spec : ∀ (cs : List (Int × Int)) (f : Int), 0 < f → (∀ c ∈ cs, 1 ≤ c.1) → 0 < rnd f cs ∧ f ∣ rnd f cs ∧ (∀ c ∈ cs, c.1 ∣ rnd f cs) ∧ ∀ m, f ∣ m → (∀ c ∈ cs, c.1 ∣ m) → rnd f cs ∣ m
  | [], f, hf, _ => ⟨hf, Int.dvd_refl _, fun _ h => (by cases h), fun m h _ => h⟩
  | c :: cs, f, hf, hc => by
    have hc1 := hc c List.mem_cons_self
    have e := lcm_eq hf (show 0 < c.1 by omega)
    show 0 < rnd (f * c.1 / (Int.gcd f c.1 : Nat)) cs ∧ f ∣ rnd (f * c.1 / (Int.gcd f c.1 : Nat)) cs ∧ _ ∧ ∀ m, f ∣ m → _ → rnd (f * c.1 / (Int.gcd f c.1 : Nat)) cs ∣ m
    rw [e]
    have hp : 0 < Int.lcm f c.1 := Int.lcm_pos (by omega) (by omega)
    obtain ⟨h1, h2, h3, h4⟩ := rnd_spec cs (Int.lcm f c.1 : Nat) (by omega) fun d hd => hc d (List.mem_cons_of_mem _ hd)
    refine ⟨h1, Int.dvd_trans (Int.dvd_lcm_left _ _) h2, fun d hd => ?_, fun m hm1 hm2 => ?_⟩
    · show d.1 ∣ rnd (f * c.1 / (Int.gcd f c.1 : Nat)) cs
      rw [e]
      rcases List.mem_cons.mp hd with z | z
      · subst z; exact Int.dvd_trans (Int.dvd_lcm_right _ _) h2
      · exact h3 d z
    · refine h4 m ?_ fun d hd => hm2 d (List.mem_cons_of_mem _ hd)
      have q : (Int.lcm f c.1 : Int) ∣ m := by
        have a1 : f ∣ ((m.natAbs : Nat) : Int) := Int.dvd_natAbs.mpr hm1
        have a2 : c.1 ∣ ((m.natAbs : Nat) : Int) := Int.dvd_natAbs.mpr (hm2 c List.mem_cons_self)
        exact Int.dvd_natAbs.mp (Int.natCast_dvd_natCast.mpr (Int.lcm_dvd a1 a2))
      exact q
theorem rnd_le {cs : List (Int × Int)} {f : Int} (hf : 0 < f) (hc : ∀ c ∈ cs, 1 ≤ c.1) : rnd f cs ≤ f * prodS cs := by
  have hp := prodS_pos hc
  refine Int.le_of_dvd (Int.mul_pos hf (by omega)) ((rnd_spec cs f hf hc).2.2.2 _ (Int.dvd_mul_right _ _) fun c h => Int.dvd_trans (prodS_dvd c h) (Int.dvd_mul_left _ _))
theorem nab_lt {x y : Int} {b : Nat} (h0 : 0 ≤ x) (h : x ≤ y) (hy : y.natAbs < b) : x.natAbs < b := by omega
theorem log_of {x : Int} (h0 : 0 < x) (h : x.natAbs < 2 ^ 8000) : x.natAbs.log2 < 9000 :=
  Nat.lt_trans ((Nat.log2_lt (by omega)).mpr h) (by decide)
/-- clocks in a list or a tuple, of steps from 1 on, of no overgreat product -/
def RndOk (ds : List PyData) (Q : List (Int × Int) → Prop) : Prop := ∃ cs, ds = cks cs ∧ (∀ c ∈ cs, 1 ≤ c.1) ∧ (prodS cs).natAbs < 2 ^ 8000 ∧ Q cs
def sp_round_of : Spc := fun avs Kr _ => match avs with
  | [.val (.tuple ds)] => RndOk ds fun cs => Kr [] (.val (.int (rnd 1 cs)))
  | [.val (.list ds)] => RndOk ds fun cs => Kr [] (.val (.int (rnd 1 cs)))
  | _ => False
def w_round_of_B1 : WS :=
  (wSet 1 (wBin oFdiv (wBin oMul (wVar 1) (wVar 2)) (wCall 2 sp_divisor_of (wMCons (wVar 1) (wMCons (wVar 2) wMNil)))))
def w_round_of_L1 : WS :=
  wFor (wISeq (wVar 0)) (gT 2 (gCons' (gN 2) (gCons' (gN 3) gNil'))) w_round_of_B1
def w_round_of_R1 : WS :=
  (wRet (wVar 1))
/-- round_of: 0 clocks, 1 found, 2 step, 3 rest -/
def w_round_of : WS :=
  (wSeq (wSet 1 (wC (.int 1)))
    (wSeq w_round_of_L1
    w_round_of_R1))

theorem l_round_of {d : PyData} {x2 x3 : Sl} {cs : List (Int × Int)} {k : Ken} (hd : d = .tuple (cks cs) ∨ d = .list (cks cs)) (hc : ∀ c ∈ cs, 1 ≤ c.1) (hb : (prodS cs).natAbs < 2 ^ 8000) (hk : ∀ x2 x3, k.nx [.val d, .val (.int (rnd 1 cs)), x2, x3]) : w_round_of_L1 [.val d, .val (.int 1), x2, x3] k := by
  have main : wEach (gT 2 (gCons' (gN 2) (gCons' (gN 3) gNil'))) w_round_of_B1 (cks cs) [.val d, .val (.int 1), x2, x3] k := by
    refine wEach_ind (fun ds e => ∃ (f : Int) (r : List (Int × Int)) (x2 x3 : Sl), ds = cks r ∧ e = [.val d, .val (.int f), x2, x3] ∧ 0 < f ∧ (∀ c ∈ r, 1 ≤ c.1) ∧ f * prodS r ≤ prodS cs ∧ rnd f r = rnd 1 cs) ?_ ?_ _ _ ⟨1, cs, x2, x3, rfl, rfl, by decide, hc, by omega, rfl⟩
    · rintro e ⟨f, r, x2, x3, h1, rfl, h3, h4, h5, h6⟩
      cases r with
      | cons _ _ => cases h1
      | nil =>
        have e : f = rnd 1 cs := h6
        rw [e]
        exact hk _ _
    · rintro d0 r0 e ⟨f, r, x2, x3, h1, rfl, h3, h4, h5, h6⟩ ih
      cases r with
      | nil => cases h1
      | cons c r =>
        cases h1
        have c1 := h4 c List.mem_cons_self
        have hr : ∀ c ∈ r, 1 ≤ c.1 := fun c hc => h4 c (List.mem_cons_of_mem _ hc)
        have hp := prodS_pos hr
        have e1 : f * prodS (c :: r) = f * c.1 * prodS r := (Int.mul_assoc _ _ _).symm
        have hfc : 0 < f * c.1 := Int.mul_pos h3 (by omega)
        have q1 : f * c.1 ≤ f * c.1 * prodS r := by
          have := Int.mul_le_mul_of_nonneg_left hp (show 0 ≤ f * c.1 by omega)
          rwa [Int.mul_one] at this
        have q2 : f ≤ f * c.1 := by
          have := Int.mul_le_mul_of_nonneg_left c1 (show 0 ≤ f by omega)
          rwa [Int.mul_one] at this
        have q3 : c.1 ≤ f * c.1 := by
          have := Int.mul_le_mul_of_nonneg_right (show 1 ≤ f by omega) (show 0 ≤ c.1 by omega)
          rwa [Int.one_mul] at this
        rw [e1] at h5
        have bf : f.natAbs < 2 ^ 8000 := nab_lt (by omega) (by omega) hb
        have bc : c.1.natAbs < 2 ^ 8000 := nab_lt (by omega) (by omega) hb
        have hg : 0 < Int.gcd f c.1 := Int.gcd_pos_of_ne_zero_left _ (by omega)
        have hgl : (Int.gcd f c.1 : Int) ≤ f := Int.gcd_le_left _ h3
        dsimp? [w_round_of_B1, ck, sp_divisor_of]
        refine ⟨mulx_ok bf bc (by decide), by omega, by omega, by omega, log_of (by omega) (nab_lt (by omega) hgl bf), ih _ ⟨_, r, _, _, rfl, rfl, ?_, hr, ?_, h6⟩⟩
        · rw [lcm_eq h3 (by omega)]
          have := Int.lcm_pos (show f ≠ 0 by omega) (show c.1 ≠ 0 by omega)
          omega
        · have d1 : f * c.1 / (Int.gcd f c.1 : Nat) ≤ f * c.1 := by
            rw [lcm_eq h3 (by omega)]
            exact Int.le_of_dvd hfc (by
              have a1 : f ∣ (((f * c.1).natAbs : Nat) : Int) := Int.dvd_natAbs.mpr (Int.dvd_mul_right _ _)
              have a2 : c.1 ∣ (((f * c.1).natAbs : Nat) : Int) := Int.dvd_natAbs.mpr (Int.dvd_mul_left _ _)
              exact Int.dvd_natAbs.mp (Int.natCast_dvd_natCast.mpr (Int.lcm_dvd a1 a2)))
          exact Int.le_trans (Int.mul_le_mul_of_nonneg_right d1 (by omega)) h5
  rcases hd with rfl | rfl
  · dsimp? [w_round_of_L1, wFor]
    exact main
  · dsimp? [w_round_of_L1, wFor]
    exact main
theorem vc_round_of : ∀ avs Kr Kx, avs.length = 1 → sp_round_of avs Kr Kx → lsFrom 0 avs = [] ∧ w_round_of (startEv 4 avs) (kenD [] Kr Kx) := by
  intro avs Kr Kx hl h
  unfold sp_round_of at h
  split at h
  · obtain ⟨cs, rfl, h1, h2, q⟩ := h
    refine ⟨rfl, ?_⟩
    dsimp? [w_round_of]
    refine l_round_of (.inl rfl) h1 h2 fun x2 x3 => ?_
    dsimp? [w_round_of_R1]
    exact q
  · obtain ⟨cs, rfl, h1, h2, q⟩ := h
    refine ⟨rfl, ?_⟩
    dsimp? [w_round_of]
    refine l_round_of (.inr rfl) h1 h2 fun x2 x3 => ?_
    dsimp? [w_round_of_R1]
    exact q
  · exact h.elim
end Dl
end L2

/-! The plain half, 5: shares. -/
namespace L2
namespace Dl
open PySem PySem.Spec PyProof.Rows
local macro_rules | `(tactic| dsimp? [$xs,*] $[$l]?) => `(tactic| simp only [wSeq, wNext, wBreak, wCont, wDrop, wRet, wRetN, wIfS, wSet, wAsgT, e_aug, e_setIx, e_par, e_gN, getS_0, getS_s, setS_0, setS_s, e_var, varK_v, varK_o, varK_u, wC, wBin, rdK_v, rdK_t, rdK_s, rdS_v, rdS_o, rdS_u, fzK_v, fzK_t, fzK_s, fzS_v, fzS_o, fzS_l, fzS_u, e_fz, asg_v, asg_t, asg_s, e_tb, tbK_b, wAnd, wOr, wNot, e_notV, e_andV, e_orV, wBV, wIf, e_neg, intK_i, e_oso, wONo, e_rng1, e_rng2, wFNil, wFCons, wANil, wACons, wTup, wLst, e_callB, rdAllK_n, rdAllK_c, wIsi, e_call, wMNil, wMCons, e_ld, lnsOf, avsK_n, avsK_f, avsK_l, lnS_o, lnS_v, lnS_u, poK_n, poK_c, poS_o, inS_0, inS_s, rsK_v, rsK_o, wSl, e_ownF, e_own0, ownB_o, oS_o, oS_v, oS_u, agS_i, muApp, oAdd_i, oAdd_l, oAdd_t, oAdd_s, oSub_i, oMul_i, oFdiv_i, oMod_i, oPow_i, oShl_i, oShr_i, oOr_i, oAndB_i, oLt_i, oLe_i, oGt_i, oGe_i, oEq_i, oNe_i, oEq, oNe, oIx_l, oIx_t, oLen_l, oLen_t, oInt_i, oInt_b, oMax_i, oMin_i, oList_l, oList_t, oTuple_l, oTuple_t, oSorted_l, oSorted_t, oIs_n, oIsN_n, oIs_b, oIsN_b, isNone_n, isNone_t, isNone_l, isNone_i, isNone_s, isNone_b, oSl_l, oSl_t, oIn, gT_t, gC_c, gNil', e_iseq, sqK_l, sqK_t, e_isq, sq2K_l, sq2K_t, e_sset, ssK_l, ssK_t, e_chain, e_lr1, e_lr2, wRev, rvD_l, rvD_t, e_in1, e_in2, negB_f, negB_t, wIZip, zpK_m, e_extend, extR_t, wYes, startEv, kenD_nx, kenD_rt, kenD_bk, kenD_ct, kenD_ex, outK_n, outK_c, otS_o, rvK_v, rvK_t, rvK_s, rvS_v, rvS_o, slOf, lsFrom, wipeE, restE, List.map_cons, List.map_nil, List.length_cons, List.length_nil, List.replicate, List.append_nil, List.cons_append, List.nil_append, List.getElem?_cons_zero, List.getElem?_cons_succ, List.getElem?_nil, List.set_cons_zero, List.set_cons_succ, List.set_nil, Option.getD_some, Option.getD_none, Option.map_some, Option.map_none, Option.some.injEq, Rs.val.injEq, Rs.tmp.injEq, Rs.slot.injEq, Sl.own.injEq, Sl.val.injEq, PyData.int.injEq, PyData.bool.injEq, PyData.str.injEq, PyData.list.injEq, PyData.tuple.injEq, Prod.mk.injEq, Nat.sub_self, Nat.zero_add, Nat.reduceAdd, Nat.reduceSub, Nat.add_zero, isTy_int_int, isTy_bool_int, isTy_int_bool, isTy_bool_bool, isTy_int_tup, isTy_int_lst, isTy_int_non, isTy_int_str, isTy_tup_tup, isTy_tup_lst, isTy_tup_int, isTy_tup_bool, isTy_tup_non, isTy_tup_str, isTy_lst_lst, isTy_lst_tup, isTy_lst_int, exists_eq_left', exists_eq_left, exists_and_left, exists_eq_right, exists_eq, exists_eq', exists_const, true_and, and_true, and_self, Bool.not_true, Bool.not_false, if_true, if_false, Bool.false_eq_true, reduceIte, reduceCtorEq, List.nodup_nil, decide_eq_true_eq, atI_0, atI_1, atI_2, atI_3, atI_4, atI_5, atI_6, atI_7, atI_8, atI_9, atI_10, atI_11, ixN_3_0, ixN_3_1, ixN_3_2, sh_int, sh_bool, sh_non, and_assoc, nd1, nd_true, eq_self, decide_true, decide_false, Int.cast_ofNat_Int, not_true_eq_false, not_false_eq_true, eqv_ii, eqv_bb, wRaise0, e_raiseG, grK_i, e_raise1, onK_i, e_callX, xa_1, xa_2, xa_3, xa_4, xa_5, xa_6, xa_7, e_many, e_most, e_number, e_row, isLst_l, lsK_l, e_rd, e_br, brS_o, brS_v, arS_o, arS_v, avbK_n, avbK_f, avbK_l, scK_b, scK_i, scK_n, scK_s, e_callS, tmK_t, e_rep, enK_l, e_ienum, wTry, eqv_ss, tpK_v, txK_1, tutK_t, e_repT, e_callT, enTK_t, e_ienumT, r3K_i, e_rng3, dcS_d, dcB_d, tkK_m, tkK_2, zlK_c, $xs,*] $[$l]?)
def sumS (R : Int) (cs : List (Int × Int)) : Int := (cs.map fun c => R / c.1).sum
def topG (cs : List (Int × Int)) : Int := (Int.gcd (rnd 1 cs) (sumS (rnd 1 cs) cs) : Nat)
def sp_shares_of : Spc := fun avs Kr _ => match avs with
  | [.val (.tuple ds)] => RndOk ds fun cs => cs.length ≤ 100000 ∧ Kr [] (.val (.tuple [.int (sumS (rnd 1 cs) cs / topG cs), .int (rnd 1 cs / topG cs)]))
  | [.val (.list ds)] => RndOk ds fun cs => cs.length ≤ 100000 ∧ Kr [] (.val (.tuple [.int (sumS (rnd 1 cs) cs / topG cs), .int (rnd 1 cs / topG cs)]))
  | _ => False
def w_shares_of_C1 : WE :=
  wLc [4, 5] (wISeq (wVar 0)) (gT 2 (gCons' (gN 4) (gCons' (gN 5) gNil'))) wYes (wBin oFdiv (wVar 1) (wVar 4))
/-- shares_of: 0 clocks, 1 bottom, 2 top, 3 share, 4 step, 5 rest -/
def w_shares_of : WS :=
  (wSeq (wSet 1 (wCall 1 sp_round_of (wMCons (wVar 0) wMNil)))
    (wSeq (wSet 2 (wCallB oSum (wACons w_shares_of_C1 wANil)))
    (wSeq (wSet 3 (wCall 2 sp_divisor_of (wMCons (wVar 1) (wMCons (wVar 2) wMNil))))
    (wRet (wTup (wFCons (wBin oFdiv (wVar 2) (wVar 3)) (wFCons (wBin oFdiv (wVar 1) (wVar 3)) wFNil)))))))

theorem sum_nonneg : ∀ {l : List Int}, (∀ x ∈ l, 0 ≤ x) → 0 ≤ l.sum
  | [], _ => by decide
  | x :: l, h => by
    have h1 := h x List.mem_cons_self
    have h2 := sum_nonneg fun y hy => h y (List.mem_cons_of_mem _ hy)
    rw [List.sum_cons]
    omega
theorem sumS_nonneg {R : Int} {cs : List (Int × Int)} (hR : 0 ≤ R) (hc : ∀ c ∈ cs, 1 ≤ c.1) : 0 ≤ sumS R cs :=
  sum_nonneg fun x hx => by
    obtain ⟨c, h, rfl⟩ := List.mem_map.mp hx
    exact Int.ediv_nonneg hR (by have := hc c h; omega)
theorem small100000 {n : Nat} (h : n ≤ 100000) : n ≤ sizeLine := Nat.le_trans h (by decide)
theorem m_shares_of {d : PyData} {cs : List (Int × Int)} {k : Ken} (hd : d = .tuple (cks cs) ∨ d = .list (cks cs)) (hc : ∀ c ∈ cs, 1 ≤ c.1) (hb : (prodS cs).natAbs < 2 ^ 8000) (hl : cs.length ≤ 100000)
    (hk : ∀ env, k.rt (.val d :: env) (.val (.tuple [.int (sumS (rnd 1 cs) cs / topG cs), .int (rnd 1 cs / topG cs)]))) : w_shares_of [.val d, .un, .un, .un, .un, .un] k := by
  obtain ⟨r1, r2, r3, r4⟩ := rnd_spec cs 1 (by decide) hc
  have rl : rnd 1 cs ≤ prodS cs := by have := rnd_le (f := 1) (by decide) hc; omega
  have rb : (rnd 1 cs).natAbs < 2 ^ 8000 := nab_lt (by omega) rl hb
  have sn := sumS_nonneg (R := rnd 1 cs) (by omega) hc
  have hg : 0 < Int.gcd (rnd 1 cs) (sumS (rnd 1 cs) cs) := Int.gcd_pos_of_ne_zero_left _ (by omega)
  have hgl : (Int.gcd (rnd 1 cs) (sumS (rnd 1 cs) cs) : Int) ≤ rnd 1 cs := Int.gcd_le_left _ r1
  have elt : ∀ c ∈ cs, ∀ (A : PyData → Ev → Prop) (x2 x3 : Sl), A (.int (rnd 1 cs / c.1)) [.val d, .val (.int (rnd 1 cs)), x2, x3, .un, .un] →
      (gT 2 (gCons' (gN 4) (gCons' (gN 5) gNil'))) (ck c) [.val d, .val (.int (rnd 1 cs)), x2, x3, .un, .un] (fun e1 => wFz (wBin oFdiv (wVar 1) (wVar 4)) e1 (fun e3 y => A y (wipeE e3 [4, 5])) NoX) := fun c h A x2 x3 hA => by
    have c1 := hc c h
    have cl : c.1 ≤ rnd 1 cs := Int.le_of_dvd r1 (r3 c h)
    dsimp? [ck]
    exact ⟨by omega, log_of (by omega) (nab_lt (by omega) cl rb), hA⟩
  have fin : ∀ (x4 x5 : Sl), wSeq (wSet 3 (wCall 2 sp_divisor_of (wMCons (wVar 1) (wMCons (wVar 2) wMNil)))) (wRet (wTup (wFCons (wBin oFdiv (wVar 2) (wVar 3)) (wFCons (wBin oFdiv (wVar 1) (wVar 3)) wFNil))))
      [.val d, .val (.int (rnd 1 cs)), .val (.int (sumS (rnd 1 cs) cs)), .un, x4, x5] k := fun x4 x5 => by
    dsimp? [sp_divisor_of]
    exact ⟨by omega, sn, by omega, log_of (by omega) (nab_lt (by omega) hgl rb), by omega, log_of (by omega) (nab_lt (by omega) hgl rb), by decide, hk _⟩
  unfold w_shares_of
  rcases hd with rfl | rfl
  · refine seq_cut fun R hR => ?_
    dsimp? [sp_round_of]
    refine ⟨cs, rfl, hc, hb, hR _ ?_⟩
    refine seq_cut fun R hR => ?_
    dsimp? [w_shares_of_C1, wLc, oSum]
    refine lc_map ck (fun c => .int (rnd 1 cs / c.1)) cs (fun c h A hA => elt c h A _ _ hA) (small100000 hl) ?_
    dsimp? []
    exact ⟨cs.map fun (c : Int × Int) => rnd 1 cs / c.1, by rw [List.map_map]; rfl, hR _ (fin _ _)⟩
  · refine seq_cut fun R hR => ?_
    dsimp? [sp_round_of]
    refine ⟨cs, rfl, hc, hb, hR _ ?_⟩
    refine seq_cut fun R hR => ?_
    dsimp? [w_shares_of_C1, wLc, oSum]
    refine lc_map ck (fun c => .int (rnd 1 cs / c.1)) cs (fun c h A hA => elt c h A _ _ hA) (small100000 hl) ?_
    dsimp? []
    exact ⟨cs.map fun (c : Int × Int) => rnd 1 cs / c.1, by rw [List.map_map]; rfl, hR _ (fin _ _)⟩
theorem vc_shares_of : ∀ avs Kr Kx, avs.length = 1 → sp_shares_of avs Kr Kx → lsFrom 0 avs = [] ∧ w_shares_of (startEv 6 avs) (kenD [] Kr Kx) := by
  intro avs Kr Kx hl h
  unfold sp_shares_of at h
  split at h
  · obtain ⟨cs, rfl, h1, h2, h3, q⟩ := h
    refine ⟨rfl, m_shares_of (.inl rfl) h1 h2 h3 fun env => ?_⟩
    dsimp? []
    exact q
  · obtain ⟨cs, rfl, h1, h2, h3, q⟩ := h
    refine ⟨rfl, m_shares_of (.inr rfl) h1 h2 h3 fun env => ?_⟩
    dsimp? []
    exact q
  · exact h.elim
theorem prodS_le {m : Int} (hm : 1 ≤ m) : ∀ {cs : List (Int × Int)}, (∀ c ∈ cs, 1 ≤ c.1 ∧ c.1 ≤ m) → prodS cs ≤ m ^ cs.length
  | [], _ => by
    show (1 : Int) ≤ m ^ 0
    rw [Int.pow_zero]
    exact Int.le_refl _
  | c :: cs, h => by
    have h1 := h c List.mem_cons_self
    have h2 := prodS_le hm fun d hd => h d (List.mem_cons_of_mem _ hd)
    have h3 := prodS_pos fun d hd => (h d (List.mem_cons_of_mem _ hd)).1
    show c.1 * prodS cs ≤ m ^ (cs.length + 1)
    rw [Int.pow_succ, Int.mul_comm]
    exact Int.mul_le_mul h2 h1.2 (by omega) (Int.le_trans (by omega) h2)
theorem prodS_b {cs : List (Int × Int)} (h : ∀ c ∈ cs, CkOk 1000 c) (hl : cs.length ≤ 100) : (prodS cs).natAbs < 2 ^ 8000 := by
  have h1 := prodS_le (m := 1000) (by decide) fun c hc => ⟨(h c hc).1, (h c hc).2.1⟩
  have h0 := prodS_pos fun c hc => (h c hc).1
  have h2 : (1000 : Int) ^ cs.length ≤ 1000 ^ 100 := by
    have : (1000 : Nat) ^ cs.length ≤ 1000 ^ 100 := Nat.pow_le_pow_right (by decide) hl
    exact_mod_cast this
  have h3 : ((1000 : Int) ^ 100).natAbs < 2 ^ 8000 := by decide +kernel
  exact nab_lt (by omega) (Int.le_trans h1 h2) h3
/-- for x in .. of ints -/
theorem each_ints {i : Nat} {t : WS} {k : Ken} (J : Ev → Prop) (fin : ∀ e, J e → k.nx e) (step : ∀ (n : Int) e (R : Ev → Prop), J e → (∀ e2, J e2 → R e2) → t (e.set i (.val (.int n))) { k with nx := R, ct := R, bk := k.nx }) :
    ∀ (ds : List PyData) e, (∀ d ∈ ds, ∃ n : Int, d = .int n) → J e → wEach (gN i) t ds e k
  | [], e, _, h => fin e h
  | d :: ds, e, hd, h => by
    obtain ⟨n, rfl⟩ := hd d List.mem_cons_self
    exact step n e _ h fun e2 h2 => each_ints J fin step ds e2 (fun d q => hd d (List.mem_cons_of_mem _ q)) h2
theorem take_ints {ns : List Int} (lo hi : Option Int) : cutD (ns.map PyData.int) lo hi = (cutD ns lo hi).map .int := by
  unfold cutD
  rw [List.length_map, List.map_take, List.map_drop]
theorem cut_len {α : Type} {xs : List α} (lo hi : Option Int) : (cutD xs lo hi).length ≤ xs.length := by
  unfold cutD
  rw [List.length_take, List.length_drop]
  omega
/-- [cell] + script[a:b] -/
theorem cells_ints {ns : List Int} {n : Int} {lo hi : Option Int} : ∀ d ∈ PyData.int n :: cutD (ns.map PyData.int) lo hi, ∃ n : Int, d = .int n := by
  intro d hd
  rcases List.mem_cons.mp hd with z | z
  · exact ⟨_, z⟩
  · rw [take_ints] at z
    obtain ⟨m, _, rfl⟩ := List.mem_map.mp z
    exact ⟨_, rfl⟩
theorem cells_len {ns : List Int} {lo hi : Option Int} (h : ns.length ≤ 63) : 1 + (cutD (ns.map PyData.int) lo hi).length ≤ sizeLine := by
  have := cut_len (xs := ns.map PyData.int) lo hi
  rw [List.length_map] at this
  rw [sizeLine_eq]
  omega
end Dl
end L2

/-! The plain half, 6: two clocks' meeting. -/
namespace L2
namespace Dl
open PySem PySem.Spec PyProof.Rows
local macro_rules | `(tactic| dsimp? [$xs,*] $[$l]?) => `(tactic| simp only [wSeq, wNext, wBreak, wCont, wDrop, wRet, wRetN, wIfS, wSet, wAsgT, e_aug, e_setIx, e_par, e_gN, getS_0, getS_s, setS_0, setS_s, e_var, varK_v, varK_o, varK_u, wC, wBin, rdK_v, rdK_t, rdK_s, rdS_v, rdS_o, rdS_u, fzK_v, fzK_t, fzK_s, fzS_v, fzS_o, fzS_l, fzS_u, e_fz, asg_v, asg_t, asg_s, e_tb, tbK_b, wAnd, wOr, wNot, e_notV, e_andV, e_orV, wBV, wIf, e_neg, intK_i, e_oso, wONo, e_rng1, e_rng2, wFNil, wFCons, wANil, wACons, wTup, wLst, e_callB, rdAllK_n, rdAllK_c, wIsi, e_call, wMNil, wMCons, e_ld, lnsOf, avsK_n, avsK_f, avsK_l, lnS_o, lnS_v, lnS_u, poK_n, poK_c, poS_o, inS_0, inS_s, rsK_v, rsK_o, wSl, e_ownF, e_own0, ownB_o, oS_o, oS_v, oS_u, agS_i, muApp, oAdd_i, oAdd_l, oAdd_t, oAdd_s, oSub_i, oMul_i, oFdiv_i, oMod_i, oPow_i, oShl_i, oShr_i, oOr_i, oAndB_i, oLt_i, oLe_i, oGt_i, oGe_i, oEq_i, oNe_i, oEq, oNe, oIx_l, oIx_t, oLen_l, oLen_t, oInt_i, oInt_b, oMax_i, oMin_i, oList_l, oList_t, oTuple_l, oTuple_t, oSorted_l, oSorted_t, oIs_n, oIsN_n, oIs_b, oIsN_b, isNone_n, isNone_t, isNone_l, isNone_i, isNone_s, isNone_b, oSl_l, oSl_t, oIn, gT_t, gC_c, gNil', e_iseq, sqK_l, sqK_t, e_isq, sq2K_l, sq2K_t, e_sset, ssK_l, ssK_t, e_chain, e_lr1, e_lr2, wRev, rvD_l, rvD_t, e_in1, e_in2, negB_f, negB_t, wIZip, zpK_m, e_extend, extR_t, wYes, startEv, kenD_nx, kenD_rt, kenD_bk, kenD_ct, kenD_ex, outK_n, outK_c, otS_o, rvK_v, rvK_t, rvK_s, rvS_v, rvS_o, slOf, lsFrom, wipeE, restE, List.map_cons, List.map_nil, List.length_cons, List.length_nil, List.replicate, List.append_nil, List.cons_append, List.nil_append, List.getElem?_cons_zero, List.getElem?_cons_succ, List.getElem?_nil, List.set_cons_zero, List.set_cons_succ, List.set_nil, Option.getD_some, Option.getD_none, Option.map_some, Option.map_none, Option.some.injEq, Rs.val.injEq, Rs.tmp.injEq, Rs.slot.injEq, Sl.own.injEq, Sl.val.injEq, PyData.int.injEq, PyData.bool.injEq, PyData.str.injEq, PyData.list.injEq, PyData.tuple.injEq, Prod.mk.injEq, Nat.sub_self, Nat.zero_add, Nat.reduceAdd, Nat.reduceSub, Nat.add_zero, isTy_int_int, isTy_bool_int, isTy_int_bool, isTy_bool_bool, isTy_int_tup, isTy_int_lst, isTy_int_non, isTy_int_str, isTy_tup_tup, isTy_tup_lst, isTy_tup_int, isTy_tup_bool, isTy_tup_non, isTy_tup_str, isTy_lst_lst, isTy_lst_tup, isTy_lst_int, exists_eq_left', exists_eq_left, exists_and_left, exists_eq_right, exists_eq, exists_eq', exists_const, true_and, and_true, and_self, Bool.not_true, Bool.not_false, if_true, if_false, Bool.false_eq_true, reduceIte, reduceCtorEq, List.nodup_nil, decide_eq_true_eq, atI_0, atI_1, atI_2, atI_3, atI_4, atI_5, atI_6, atI_7, atI_8, atI_9, atI_10, atI_11, ixN_3_0, ixN_3_1, ixN_3_2, sh_int, sh_bool, sh_non, and_assoc, nd1, nd_true, eq_self, decide_true, decide_false, Int.cast_ofNat_Int, not_true_eq_false, not_false_eq_true, eqv_ii, eqv_bb, wRaise0, e_raiseG, grK_i, e_raise1, onK_i, e_callX, xa_1, xa_2, xa_3, xa_4, xa_5, xa_6, xa_7, e_many, e_most, e_number, e_row, isLst_l, lsK_l, e_rd, e_br, brS_o, brS_v, arS_o, arS_v, avbK_n, avbK_f, avbK_l, scK_b, scK_i, scK_n, scK_s, e_callS, tmK_t, e_rep, enK_l, e_ienum, wTry, eqv_ss, tpK_v, txK_1, tutK_t, e_repT, e_callT, enTK_t, e_ienumT, r3K_i, e_rng3, dcS_d, dcB_d, tkK_m, tkK_2, zlK_c, $xs,*] $[$l]?)
def sp_back_of : Spc := fun avs Kr _ => match avs with
  | [.val (.int a), .val (.int m)] => 1 ≤ m ∧ m.natAbs < 2 ^ 8000 ∧ ∀ b, 0 ≤ b → b < m → m ∣ a * b - (Int.gcd a m : Nat) → Kr [] (.val (.int b))
  | _ => False
def w_back_of_T1 : WT :=
  (wTB (wBin oGt (wVar 5) (wC (.int 0))))
def w_back_of_B1 : WS :=
  (wSeq (wSet 6 (wBin oFdiv (wVar 4) (wVar 5)))
    (wSeq (wPar 2 3 (wFCons (wVar 3) (wFCons (wBin oSub (wVar 2) (wBin oMul (wVar 6) (wVar 3))) wFNil)))
    (wPar 4 5 (wFCons (wVar 5) (wFCons (wBin oSub (wVar 4) (wBin oMul (wVar 6) (wVar 5))) wFNil)))))
def w_back_of_L1 : WS :=
  wWhile w_back_of_T1 w_back_of_B1
def w_back_of_R1 : WS :=
  (wRet (wBin oMod (wVar 2) (wVar 1)))
/-- back_of: 0 one, 1 other, 2 before, 3 now, 4 left, 5 right, 6 often -/
def w_back_of : WS :=
  (wSeq (wAsgT (wTup (wFCons (wC (.int 0)) (wFCons (wC (.int 1)) wFNil))) (gT 2 (gCons' (gN 2) (gCons' (gN 3) gNil'))))
    (wSeq (wPar 4 5 (wFCons (wVar 1) (wFCons (wBin oMod (wVar 0) (wVar 1)) wFNil)))
    (wSeq w_back_of_L1
    w_back_of_R1)))

theorem vc_back_of : ∀ avs Kr Kx, avs.length = 2 → sp_back_of avs Kr Kx → lsFrom 0 avs = [] ∧ w_back_of (startEv 7 avs) (kenD [] Kr Kx) := by
  intro avs Kr Kx hl h
  unfold sp_back_of at h
  split at h
  · rename_i a m
    obtain ⟨hm, hb, q⟩ := h
    refine ⟨rfl, ?_⟩
    dsimp? [w_back_of]
    have e0 := Int.emod_nonneg a (show m ≠ 0 by omega)
    have e1 := Int.emod_lt_of_pos a (show 0 < m by omega)
    refine ⟨by decide, by omega, ?_⟩
    refine ⟨fun n e => ∃ (p q l r P Q : Int) (x6 : Sl), e = [.val (.int a), .val (.int m), .val (.int p), .val (.int q), .val (.int l), .val (.int r), x6] ∧ 0 < l ∧ l ≤ m ∧ 0 ≤ r ∧ r < l ∧ m ∣ l - p * a ∧ m ∣ r - q * a ∧ Int.gcd l r = Int.gcd a m ∧
      0 ≤ P ∧ -P ≤ p ∧ p ≤ P ∧ 0 ≤ Q ∧ -Q ≤ q ∧ q ≤ Q ∧ P * r + Q * l ≤ m ∧ n = r.toNat,
      ⟨_, 0, 1, m, a % m, 0, 1, _, rfl, by omega, by omega, e0, e1, ?_, ?_, gcd_mod a m, by omega, by omega, by omega, by omega, by omega, by omega, by omega, rfl⟩, ?_⟩
    · rw [Int.zero_mul, Int.sub_zero]
      exact Int.dvd_refl _
    · rw [Int.one_mul, Int.emod_def, show a - m * (a / m) - a = m * (-(a / m)) by grind]
      exact Int.dvd_mul_right _ _
    rintro n e ⟨p, q0, l, r, P, Q, x6, rfl, l0, lm, r0, rl, d1, d2, hg, P0, p1, p2, Q0, q1, q2, hS, rfl⟩
    dsimp? [w_back_of_T1, w_back_of_B1]
    have Pr : 0 ≤ P * r := Int.mul_nonneg P0 r0
    have Ql : Q ≤ Q * l := by
      have := Int.mul_le_mul_of_nonneg_left (show 1 ≤ l by omega) Q0
      rwa [Int.mul_one] at this
    split
    · rename_i hr
      have o0 : 0 ≤ l / r := Int.ediv_nonneg (by omega) r0
      have o1 : l / r ≤ l := Int.ediv_le_self _ (by omega)
      have em : l - l / r * r = l % r := by rw [Int.emod_def, Int.mul_comm]
      have m0 := Int.emod_nonneg l (show r ≠ 0 by omega)
      have m1 := Int.emod_lt_of_pos l hr
      have bo : (l / r).natAbs < 2 ^ 8000 := nab_lt o0 (show l / r ≤ m by omega) hb
      have bq : q0.natAbs < 2 ^ 8000 := by
        have h1 : q0.natAbs ≤ Q.natAbs := by omega
        exact Nat.lt_of_le_of_lt h1 (nab_lt Q0 (show Q ≤ m by omega) hb)
      have br : r.natAbs < 2 ^ 8000 := nab_lt r0 (show r ≤ m by omega) hb
      have a1 : l / r * q0 ≤ l / r * Q := Int.mul_le_mul_of_nonneg_left q2 o0
      have a2 : l / r * (-Q) ≤ l / r * q0 := Int.mul_le_mul_of_nonneg_left q1 o0
      have a3 : 0 ≤ l / r * Q := Int.mul_nonneg o0 Q0
      have a4 : l / r * (-Q) = -(l / r * Q) := Int.mul_neg _ _
      refine ⟨hr, log_of hr br, mulx_ok bo bq (by decide), mulx_ok bo br (by decide), (l - l / r * r).toNat, by omega, _, _, _, _, Q, P + l / r * Q, _, rfl, hr, by omega, by omega, by omega, d2, ?_, ?_, Q0, q1, q2, by omega, by omega, by omega, ?_, rfl⟩
      · have : l - l / r * r - (p - l / r * q0) * a = (l - p * a) - l / r * (r - q0 * a) := by grind
        rw [this]
        exact Int.dvd_sub d1 (Int.dvd_mul_of_dvd_right d2)
      · rw [em, gcd_mod]
        exact hg
      · have : Q * (l - l / r * r) + (P + l / r * Q) * r = P * r + Q * l := by grind
        rw [this]
        exact hS
    · have : r = 0 := by omega
      subst this
      dsimp? [w_back_of_R1]
      refine ⟨by omega, q _ (Int.emod_nonneg _ (by omega)) (Int.emod_lt_of_pos _ (by omega)) ?_⟩
      rw [Int.gcd_zero_right] at hg
      have hl : l = (Int.gcd a m : Nat) := by omega
      rw [← hl, Int.emod_def, show a * (p - m * (p / m)) - l = -(l - p * a) - m * (a * (p / m)) by grind]
      exact Int.dvd_sub (Int.dvd_neg.mpr d1) (Int.dvd_mul_right _ _)
  · exact h.elim
end Dl
end L2

/-! The plain half, 7: two clocks' meeting, told. -/
namespace L2
namespace Dl
open PySem PySem.Spec PyProof.Rows
local macro_rules | `(tactic| dsimp? [$xs,*] $[$l]?) => `(tactic| simp only [wSeq, wNext, wBreak, wCont, wDrop, wRet, wRetN, wIfS, wSet, wAsgT, e_aug, e_setIx, e_par, e_gN, getS_0, getS_s, setS_0, setS_s, e_var, varK_v, varK_o, varK_u, wC, wBin, rdK_v, rdK_t, rdK_s, rdS_v, rdS_o, rdS_u, fzK_v, fzK_t, fzK_s, fzS_v, fzS_o, fzS_l, fzS_u, e_fz, asg_v, asg_t, asg_s, e_tb, tbK_b, wAnd, wOr, wNot, e_notV, e_andV, e_orV, wBV, wIf, e_neg, intK_i, e_oso, wONo, e_rng1, e_rng2, wFNil, wFCons, wANil, wACons, wTup, wLst, e_callB, rdAllK_n, rdAllK_c, wIsi, e_call, wMNil, wMCons, e_ld, lnsOf, avsK_n, avsK_f, avsK_l, lnS_o, lnS_v, lnS_u, poK_n, poK_c, poS_o, inS_0, inS_s, rsK_v, rsK_o, wSl, e_ownF, e_own0, ownB_o, oS_o, oS_v, oS_u, agS_i, muApp, oAdd_i, oAdd_l, oAdd_t, oAdd_s, oSub_i, oMul_i, oFdiv_i, oMod_i, oPow_i, oShl_i, oShr_i, oOr_i, oAndB_i, oLt_i, oLe_i, oGt_i, oGe_i, oEq_i, oNe_i, oEq, oNe, oIx_l, oIx_t, oLen_l, oLen_t, oInt_i, oInt_b, oMax_i, oMin_i, oList_l, oList_t, oTuple_l, oTuple_t, oSorted_l, oSorted_t, oIs_n, oIsN_n, oIs_b, oIsN_b, isNone_n, isNone_t, isNone_l, isNone_i, isNone_s, isNone_b, oSl_l, oSl_t, oIn, gT_t, gC_c, gNil', e_iseq, sqK_l, sqK_t, e_isq, sq2K_l, sq2K_t, e_sset, ssK_l, ssK_t, e_chain, e_lr1, e_lr2, wRev, rvD_l, rvD_t, e_in1, e_in2, negB_f, negB_t, wIZip, zpK_m, e_extend, extR_t, wYes, startEv, kenD_nx, kenD_rt, kenD_bk, kenD_ct, kenD_ex, outK_n, outK_c, otS_o, rvK_v, rvK_t, rvK_s, rvS_v, rvS_o, slOf, lsFrom, wipeE, restE, List.map_cons, List.map_nil, List.length_cons, List.length_nil, List.replicate, List.append_nil, List.cons_append, List.nil_append, List.getElem?_cons_zero, List.getElem?_cons_succ, List.getElem?_nil, List.set_cons_zero, List.set_cons_succ, List.set_nil, Option.getD_some, Option.getD_none, Option.map_some, Option.map_none, Option.some.injEq, Rs.val.injEq, Rs.tmp.injEq, Rs.slot.injEq, Sl.own.injEq, Sl.val.injEq, PyData.int.injEq, PyData.bool.injEq, PyData.str.injEq, PyData.list.injEq, PyData.tuple.injEq, Prod.mk.injEq, Nat.sub_self, Nat.zero_add, Nat.reduceAdd, Nat.reduceSub, Nat.add_zero, isTy_int_int, isTy_bool_int, isTy_int_bool, isTy_bool_bool, isTy_int_tup, isTy_int_lst, isTy_int_non, isTy_int_str, isTy_tup_tup, isTy_tup_lst, isTy_tup_int, isTy_tup_bool, isTy_tup_non, isTy_tup_str, isTy_lst_lst, isTy_lst_tup, isTy_lst_int, exists_eq_left', exists_eq_left, exists_and_left, exists_eq_right, exists_eq, exists_eq', exists_const, true_and, and_true, and_self, Bool.not_true, Bool.not_false, if_true, if_false, Bool.false_eq_true, reduceIte, reduceCtorEq, List.nodup_nil, decide_eq_true_eq, atI_0, atI_1, atI_2, atI_3, atI_4, atI_5, atI_6, atI_7, atI_8, atI_9, atI_10, atI_11, ixN_3_0, ixN_3_1, ixN_3_2, sh_int, sh_bool, sh_non, and_assoc, nd1, nd_true, eq_self, decide_true, decide_false, Int.cast_ofNat_Int, not_true_eq_false, not_false_eq_true, eqv_ii, eqv_bb, wRaise0, e_raiseG, grK_i, e_raise1, onK_i, e_callX, xa_1, xa_2, xa_3, xa_4, xa_5, xa_6, xa_7, e_many, e_most, e_number, e_row, isLst_l, lsK_l, e_rd, e_br, brS_o, brS_v, arS_o, arS_v, avbK_n, avbK_f, avbK_l, scK_b, scK_i, scK_n, scK_s, e_callS, tmK_t, e_rep, enK_l, e_ienum, wTry, eqv_ss, tpK_v, txK_1, tutK_t, e_repT, e_callT, enTK_t, e_ienumT, r3K_i, e_rng3, dcS_d, dcB_d, tkK_m, tkK_2, zlK_c, $xs,*] $[$l]?)
/-- x is a ring of c -/
def Rg (c : Int × Int) (x : Int) : Prop := c.1 ∣ x - c.2
def Meets (c d : Int × Int) (x : Int) : Prop := Rg c x ∧ Rg d x
def lcm2 (c d : Int × Int) : Int := (Int.lcm c.1 d.1 : Nat)
def CkB (c : Int × Int) : Prop := 1 ≤ c.1 ∧ c.1.natAbs < 2 ^ 3000 ∧ c.2.natAbs < 2 ^ 3000
theorem CkOk.b {m : Int} {c : Int × Int} (h : CkOk m c) (hm : m ≤ 2 ^ 60) : CkB c := by
  obtain ⟨h1, h2, h3, h4⟩ := h
  have e : (2 : Nat) ^ 60 < 2 ^ 3000 := by decide +kernel
  exact ⟨h1, Nat.lt_of_le_of_lt (show c.1.natAbs ≤ 2 ^ 60 by omega) e, Nat.lt_of_le_of_lt (show c.2.natAbs ≤ 2 ^ 60 by omega) e⟩
theorem lcm2_pos {c d : Int × Int} (hc : 1 ≤ c.1) (hd : 1 ≤ d.1) : 0 < lcm2 c d := by
  have := Int.lcm_pos (show c.1 ≠ 0 by omega) (show d.1 ≠ 0 by omega)
  unfold lcm2
  omega
theorem dvd_lcm2 {c d : Int × Int} {x : Int} (h1 : c.1 ∣ x) (h2 : d.1 ∣ x) : lcm2 c d ∣ x := by
  have a1 : c.1 ∣ ((x.natAbs : Nat) : Int) := Int.dvd_natAbs.mpr h1
  have a2 : d.1 ∣ ((x.natAbs : Nat) : Int) := Int.dvd_natAbs.mpr h2
  exact Int.dvd_natAbs.mp (Int.natCast_dvd_natCast.mpr (Int.lcm_dvd a1 a2))
theorem lcm2_l (c d : Int × Int) : c.1 ∣ lcm2 c d := Int.dvd_lcm_left _ _
theorem lcm2_r (c d : Int × Int) : d.1 ∣ lcm2 c d := Int.dvd_lcm_right _ _
/-- two numbers below a round that leave alike are one -/
theorem dvd_small {m x y : Int} (h : m ∣ x - y) (x0 : 0 ≤ x) (x1 : x < m) (y0 : 0 ≤ y) (y1 : y < m) : x = y := by
  have h1 : m ∣ y - x := by
    have := Int.dvd_neg.mpr h
    rwa [Int.neg_sub] at this
  by_cases c : x - y = 0
  · omega
  · by_cases c2 : 0 < x - y
    · have := Int.le_of_dvd c2 h
      omega
    · have := Int.le_of_dvd (show 0 < y - x by omega) h1
      omega
theorem Meets.one {c d : Int × Int} {x y : Int} (hx : Meets c d x) (hy : Meets c d y) (x0 : 0 ≤ x) (x1 : x < lcm2 c d) (y0 : 0 ≤ y) (y1 : y < lcm2 c d) : x = y := by
  refine dvd_small (dvd_lcm2 ?_ ?_) x0 x1 y0 y1
  · have := Int.dvd_sub hx.1 hy.1
    rwa [show x - c.2 - (y - c.2) = x - y by omega] at this
  · have := Int.dvd_sub hx.2 hy.2
    rwa [show x - d.2 - (y - d.2) = x - y by omega] at this
theorem Rg.mod {c : Int × Int} {x m : Int} (h : c.1 ∣ m) : Rg c (x % m) ↔ Rg c x := by
  unfold Rg
  have h2 : c.1 ∣ m * (x / m) := Int.dvd_trans h (Int.dvd_mul_right _ _)
  have e : x % m - c.2 = (x - c.2) - m * (x / m) := by rw [Int.emod_def]; omega
  rw [e]
  constructor
  · intro z
    have := Int.dvd_add z h2
    rwa [Int.sub_add_cancel] at this
  · intro z
    exact Int.dvd_sub z h2
/-- what meet_of tells, into K -/
def MeetK (c d : Int × Int) (K : PyData → Prop) : Prop := ((∀ x, ¬ Meets c d x) → K .none) ∧ ∀ x, Meets c d x → 0 ≤ x → x < lcm2 c d → K (ck (lcm2 c d, x))
def sp_meet_of : Spc := fun avs Kr _ => match avs with
  | [.val (.tuple [.int s1, .int r1]), .val (.tuple [.int s2, .int r2])] => CkB (s1, r1) ∧ CkB (s2, r2) ∧ MeetK (s1, r1) (s2, r2) fun d => Kr [] (.val d)
  | _ => False
/-- meet_of: 0 one, 1 other, 2 share, 3 step, 4 turns -/
def w_meet_of : WS :=
  (wSeq (wSet 2 (wCall 2 sp_divisor_of (wMCons (wBin oIx (wVar 0) (wC (.int 0))) (wMCons (wBin oIx (wVar 1) (wC (.int 0))) wMNil))))
    (wSeq (wIfS (wTB (wBin oNe (wBin oMod (wBin oSub (wBin oIx (wVar 1) (wC (.int 1))) (wBin oIx (wVar 0) (wC (.int 1)))) (wVar 2)) (wC (.int 0)))) (wRet (wC .none)) wNext)
    (wSeq (wSet 3 (wBin oMul (wBin oFdiv (wBin oIx (wVar 0) (wC (.int 0))) (wVar 2)) (wBin oIx (wVar 1) (wC (.int 0)))))
    (wSeq (wSet 4 (wBin oMul (wBin oFdiv (wBin oSub (wBin oIx (wVar 1) (wC (.int 1))) (wBin oIx (wVar 0) (wC (.int 1)))) (wVar 2)) (wCall 2 sp_back_of (wMCons (wBin oFdiv (wBin oIx (wVar 0) (wC (.int 0))) (wVar 2)) (wMCons (wBin oFdiv (wBin oIx (wVar 1) (wC (.int 0))) (wVar 2)) wMNil)))))
    (wRet (wTup (wFCons (wVar 3) (wFCons (wBin oMod (wBin oAdd (wBin oIx (wVar 0) (wC (.int 1))) (wBin oMul (wBin oIx (wVar 0) (wC (.int 0))) (wVar 4))) (wVar 3)) wFNil))))))))

theorem vc_meet_of : ∀ avs Kr Kx, avs.length = 2 → sp_meet_of avs Kr Kx → lsFrom 0 avs = [] ∧ w_meet_of (startEv 5 avs) (kenD [] Kr Kx) := by
  intro avs Kr Kx hl h
  unfold sp_meet_of at h
  split at h
  · rename_i s1 r1 s2 r2
    obtain ⟨⟨a1, a2, a3⟩, ⟨b1, b2, b3⟩, q1, q2⟩ := h
    have a1 : 1 ≤ s1 := a1
    have b1 : 1 ≤ s2 := b1
    have a2 : s1.natAbs < 2 ^ 3000 := a2
    have b2 : s2.natAbs < 2 ^ 3000 := b2
    have a3 : r1.natAbs < 2 ^ 3000 := a3
    have b3 : r2.natAbs < 2 ^ 3000 := b3
    have up : (2 : Nat) ^ 3000 < 2 ^ 8000 := by decide +kernel
    refine ⟨rfl, ?_⟩
    unfold w_meet_of
    refine seq_cut fun R hR => ?_
    dsimp? [sp_divisor_of]
    refine ⟨by omega, by omega, hR _ ?_⟩
    have hg : 0 < Int.gcd s1 s2 := Int.gcd_pos_of_ne_zero_left _ (by omega)
    have hgl : (Int.gcd s1 s2 : Int) ≤ s1 := Int.gcd_le_left _ (by omega)
    obtain ⟨a, ea⟩ : (Int.gcd s1 s2 : Int) ∣ s1 := Int.gcd_dvd_left _ _
    obtain ⟨b, eb⟩ : (Int.gcd s1 s2 : Int) ∣ s2 := Int.gcd_dvd_right _ _
    have hgm := Int.gcd_mul_left (Int.gcd s1 s2 : Nat) a b
    rw [← ea, ← eb] at hgm
    have hle := lcm_eq (show 0 < s1 by omega) (show 0 < s2 by omega)
    have hlc : lcm2 (s1, r1) (s2, r2) = (Int.lcm s1 s2 : Nat) := rfl
    generalize hG : Int.gcd s1 s2 = g at *
    have g1 : ((g : Int)).natAbs = g := Int.natAbs_natCast g
    rw [g1] at hgm
    have hab : Int.gcd a b = 1 := by
      have : g * Int.gcd a b = g * 1 := by rw [← hgm, Nat.mul_one]
      exact Nat.eq_of_mul_eq_mul_left hg this
    have ea2 : s1 / (g : Int) = a := by rw [ea]; exact Int.mul_ediv_cancel_left _ (by omega)
    have eb2 : s2 / (g : Int) = b := by rw [eb]; exact Int.mul_ediv_cancel_left _ (by omega)
    have hL : a * s2 = lcm2 (s1, r1) (s2, r2) := by
      rw [hlc, ← hle, show s1 * s2 = (g : Int) * (a * s2) by rw [← Int.mul_assoc, ← ea]]
      exact (Int.mul_ediv_cancel_left _ (by omega)).symm
    have ha0 : 0 < a := by
      rw [ea] at a1
      exact Int.pos_of_mul_pos_right (show 0 < (g : Int) * a by omega) (by omega)
    have hb0 : 0 < b := by
      rw [eb] at b1
      exact Int.pos_of_mul_pos_right (show 0 < (g : Int) * b by omega) (by omega)
    have hL0 := lcm2_pos (c := (s1, r1)) (d := (s2, r2)) a1 b1
    have gb : ((g : Int)).natAbs < 2 ^ 8000 := nab_lt (by omega) hgl (by omega)
    have ba : a.natAbs < 2 ^ 3000 := nab_lt (y := s1) (by omega) (by
      have := Int.mul_le_mul_of_nonneg_right (show 1 ≤ (g : Int) by omega) (show 0 ≤ a by omega)
      rw [← ea, Int.one_mul] at this
      exact this) a2
    have bb : b.natAbs < 2 ^ 3000 := nab_lt (y := s2) (by omega) (by
      have := Int.mul_le_mul_of_nonneg_right (show 1 ≤ (g : Int) by omega) (show 0 ≤ b by omega)
      rw [← eb, Int.one_mul] at this
      exact this) b2
    refine seq_cut fun R hR => ?_
    dsimp? []
    refine ⟨by omega, ?_⟩
    split
    · rename_i hne
      refine q1 fun x ⟨h1, h2⟩ => hne ?_
      have h1 : s1 ∣ x - r1 := h1
      have h2 : s2 ∣ x - r2 := h2
      have d1 : (g : Int) ∣ x - r1 := Int.dvd_trans ⟨a, ea⟩ h1
      have d2 : (g : Int) ∣ x - r2 := Int.dvd_trans ⟨b, eb⟩ h2
      have := Int.dvd_sub d1 d2
      rw [show x - r1 - (x - r2) = r2 - r1 by omega] at this
      exact Int.emod_eq_zero_of_dvd this
    · rename_i heq
      have heq : (r2 - r1) % (g : Int) = 0 := Decidable.not_not.mp heq
      obtain ⟨t, et⟩ := Int.dvd_of_emod_eq_zero heq
      have et2 : (r2 - r1) / (g : Int) = t := by rw [et]; exact Int.mul_ediv_cancel_left _ (by omega)
      refine hR _ ?_
      refine seq_cut fun R hR => ?_
      dsimp? []
      rw [ea2]
      have bL := wide_lt ba b2
      refine ⟨by omega, log_of (by omega) gb, mulx_ok ba b2 (by decide), hR _ ?_⟩
      rw [hL]
      refine seq_cut fun R hR => ?_
      dsimp? [sp_back_of]
      rw [ea2, eb2, et2]
      have tb : t.natAbs < 2 ^ 3001 := by
        have h1 : t.natAbs ≤ (r2 - r1).natAbs := by
          rw [et, Int.natAbs_mul, g1]
          have := Nat.mul_le_mul_right t.natAbs hg
          simpa using this
        have h2 : (2 : Nat) ^ 3001 = 2 ^ 3000 + 2 ^ 3000 := by decide +kernel
        rw [h2]
        omega
      refine ⟨by omega, log_of (by omega) gb, by omega, log_of (by omega) gb, by omega, log_of (by omega) gb, by omega, by omega, fun k k0 k1 kd => ?_⟩
      rw [hab] at kd
      have kb : k.natAbs < 2 ^ 3000 := nab_lt k0 (show k ≤ b by omega) bb
      have tkb := wide_lt tb kb
      refine ⟨mulx_ok tb kb (by decide), hR _ ?_⟩
      rw [← hL] at hL0
      dsimp? []
      refine ⟨mulx_ok (a := 3000) (b := 3001 + 3000) a2 tkb (by decide), by rw [← hL]; exact hL0, by decide, ?_⟩
      refine q2 _ ⟨?_, ?_⟩ (Int.emod_nonneg _ (by omega)) (Int.emod_lt_of_pos _ (by omega))
      · refine (Rg.mod (lcm2_l (s1, r1) (s2, r2))).mpr ?_
        show s1 ∣ r1 + s1 * (t * k) - r1
        rw [show r1 + s1 * (t * k) - r1 = s1 * (t * k) by omega]
        exact Int.dvd_mul_right _ _
      · refine (Rg.mod (c := (s2, r2)) (lcm2_r (s1, r1) (s2, r2))).mpr ?_
        show s2 ∣ r1 + s1 * (t * k) - r2
        obtain ⟨u, eu⟩ := kd
        have eu : a * k - 1 = b * u := eu
        have : r1 + s1 * (t * k) - r2 = s2 * (t * u) := by
          have h2 : r1 = r2 - (g : Int) * t := by omega
          have h3 : a * k = b * u + 1 := by omega
          calc r1 + s1 * (t * k) - r2 = (g : Int) * t * (a * k) - (g : Int) * t := by rw [h2]; conv => lhs; rw [ea]
                                                                                      grind
            _ = (g : Int) * t * (b * u + 1) - (g : Int) * t := by rw [h3]
            _ = s2 * (t * u) := by conv => rhs; rw [eb]
                                   grind
        rw [this]
        exact Int.dvd_mul_right _ _
  · exact h.elim
end Dl
end L2

/-! The plain half, 8: loops over ranges; clash_of; the laws' own rounds. -/
namespace L2
namespace Dl
open PySem PySem.Spec PyProof.Rows
local macro_rules | `(tactic| dsimp? [$xs,*] $[$l]?) => `(tactic| simp only [wSeq, wNext, wBreak, wCont, wDrop, wRet, wRetN, wIfS, wSet, wAsgT, e_aug, e_setIx, e_par, e_gN, getS_0, getS_s, setS_0, setS_s, e_var, varK_v, varK_o, varK_u, wC, wBin, rdK_v, rdK_t, rdK_s, rdS_v, rdS_o, rdS_u, fzK_v, fzK_t, fzK_s, fzS_v, fzS_o, fzS_l, fzS_u, e_fz, asg_v, asg_t, asg_s, e_tb, tbK_b, wAnd, wOr, wNot, e_notV, e_andV, e_orV, wBV, wIf, e_neg, intK_i, e_oso, wONo, e_rng1, e_rng2, wFNil, wFCons, wANil, wACons, wTup, wLst, e_callB, rdAllK_n, rdAllK_c, wIsi, e_call, wMNil, wMCons, e_ld, lnsOf, avsK_n, avsK_f, avsK_l, lnS_o, lnS_v, lnS_u, poK_n, poK_c, poS_o, inS_0, inS_s, rsK_v, rsK_o, wSl, e_ownF, e_own0, ownB_o, oS_o, oS_v, oS_u, agS_i, muApp, oAdd_i, oAdd_l, oAdd_t, oAdd_s, oSub_i, oMul_i, oFdiv_i, oMod_i, oPow_i, oShl_i, oShr_i, oOr_i, oAndB_i, oLt_i, oLe_i, oGt_i, oGe_i, oEq_i, oNe_i, oEq, oNe, oIx_l, oIx_t, oLen_l, oLen_t, oInt_i, oInt_b, oMax_i, oMin_i, oList_l, oList_t, oTuple_l, oTuple_t, oSorted_l, oSorted_t, oIs_n, oIsN_n, oIs_b, oIsN_b, isNone_n, isNone_t, isNone_l, isNone_i, isNone_s, isNone_b, oSl_l, oSl_t, oIn, gT_t, gC_c, gNil', e_iseq, sqK_l, sqK_t, e_isq, sq2K_l, sq2K_t, e_sset, ssK_l, ssK_t, e_chain, e_lr1, e_lr2, wRev, rvD_l, rvD_t, e_in1, e_in2, negB_f, negB_t, wIZip, zpK_m, e_extend, extR_t, wYes, startEv, kenD_nx, kenD_rt, kenD_bk, kenD_ct, kenD_ex, outK_n, outK_c, otS_o, rvK_v, rvK_t, rvK_s, rvS_v, rvS_o, slOf, lsFrom, wipeE, restE, List.map_cons, List.map_nil, List.length_cons, List.length_nil, List.replicate, List.append_nil, List.cons_append, List.nil_append, List.getElem?_cons_zero, List.getElem?_cons_succ, List.getElem?_nil, List.set_cons_zero, List.set_cons_succ, List.set_nil, Option.getD_some, Option.getD_none, Option.map_some, Option.map_none, Option.some.injEq, Rs.val.injEq, Rs.tmp.injEq, Rs.slot.injEq, Sl.own.injEq, Sl.val.injEq, PyData.int.injEq, PyData.bool.injEq, PyData.str.injEq, PyData.list.injEq, PyData.tuple.injEq, Prod.mk.injEq, Nat.sub_self, Nat.zero_add, Nat.reduceAdd, Nat.reduceSub, Nat.add_zero, isTy_int_int, isTy_bool_int, isTy_int_bool, isTy_bool_bool, isTy_int_tup, isTy_int_lst, isTy_int_non, isTy_int_str, isTy_tup_tup, isTy_tup_lst, isTy_tup_int, isTy_tup_bool, isTy_tup_non, isTy_tup_str, isTy_lst_lst, isTy_lst_tup, isTy_lst_int, exists_eq_left', exists_eq_left, exists_and_left, exists_eq_right, exists_eq, exists_eq', exists_const, true_and, and_true, and_self, Bool.not_true, Bool.not_false, if_true, if_false, Bool.false_eq_true, reduceIte, reduceCtorEq, List.nodup_nil, decide_eq_true_eq, atI_0, atI_1, atI_2, atI_3, atI_4, atI_5, atI_6, atI_7, atI_8, atI_9, atI_10, atI_11, ixN_3_0, ixN_3_1, ixN_3_2, sh_int, sh_bool, sh_non, and_assoc, nd1, nd_true, eq_self, decide_true, decide_false, Int.cast_ofNat_Int, not_true_eq_false, not_false_eq_true, eqv_ii, eqv_bb, wRaise0, e_raiseG, grK_i, e_raise1, onK_i, e_callX, xa_1, xa_2, xa_3, xa_4, xa_5, xa_6, xa_7, e_many, e_most, e_number, e_row, isLst_l, lsK_l, e_rd, e_br, brS_o, brS_v, arS_o, arS_v, avbK_n, avbK_f, avbK_l, scK_b, scK_i, scK_n, scK_s, e_callS, tmK_t, e_rep, enK_l, e_ienum, wTry, eqv_ss, tpK_v, txK_1, tutK_t, e_repT, e_callT, enTK_t, e_ienumT, r3K_i, e_rng3, dcS_d, dcB_d, tkK_m, tkK_2, zlK_c, $xs,*] $[$l]?)
theorem each_rng {sl : Nat} {t : WS} {k : Ken} {n : Nat} (f : Nat → PyData) (J : Nat → Ev → Prop) (fin : ∀ e, J n e → k.nx e)
    (step : ∀ (i : Nat) e (R : Ev → Prop), i < n → J i e → (∀ e2, J (i + 1) e2 → R e2) → t (e.set sl (.val (f i))) { k with nx := R, ct := R, bk := k.nx }) :
    ∀ (c a : Nat) e, a + c = n → J a e → wEach (gN sl) t ((List.range' a c).map f) e k
  | 0, a, e, h, hJ => by
    have : a = n := by omega
    subst this
    exact fin e hJ
  | c + 1, a, e, h, hJ => by
    rw [List.range'_succ]
    exact step a e _ (by omega) hJ fun e2 h2 => each_rng f J fin step c (a + 1) e2 (by omega) h2
/-- for x in range(n) -/
theorem each_range1 {sl : Nat} {t : WS} {k : Ken} {env : Ev} {n : Nat} (J : Nat → Ev → Prop) (h0 : J 0 env) (fin : ∀ e, J n e → k.nx e)
    (step : ∀ (i : Nat) e (R : Ev → Prop), i < n → J i e → (∀ e2, J (i + 1) e2 → R e2) → t (e.set sl (.val (.int (i : Int)))) { k with nx := R, ct := R, bk := k.nx }) :
    wEach (gN sl) t ((List.range n).map fun (i : Nat) => PyData.int (i : Int)) env k := by
  rw [List.range_eq_range']
  exact each_rng (fun i => .int (i : Int)) J fin step n 0 env (by omega) h0
/-- for x in range(lo, ..) -/
theorem each_range2 {sl : Nat} {t : WS} {k : Ken} {env : Ev} {lo : Int} {n : Nat} (J : Nat → Ev → Prop) (h0 : J 0 env) (fin : ∀ e, J n e → k.nx e)
    (step : ∀ (i : Nat) e (R : Ev → Prop), i < n → J i e → (∀ e2, J (i + 1) e2 → R e2) → t (e.set sl (.val (.int (lo + i)))) { k with nx := R, ct := R, bk := k.nx }) :
    wEach (gN sl) t ((List.range n).map fun (i : Nat) => PyData.int (lo + i)) env k := by
  rw [List.range_eq_range']
  exact each_rng (fun i => .int (lo + i)) J fin step n 0 env (by omega) h0
theorem atI_ck {cs : List (Int × Int)} {i : Nat} {c : Int × Int} (h : cs[i]? = some c) : atI (cks cs) (i : Int) = some (ck c) := atI_nat (by rw [cks, List.getElem?_map, h]; rfl)
/-- the first pair that meets, into K -/
def PairsK (cs : List (Int × Int)) (K : PyData → Prop) : Prop :=
  ((∀ (i j : Nat) ci cj x, i < j → cs[i]? = some ci → cs[j]? = some cj → ¬ Meets ci cj x) → K .none) ∧
  ∀ (i j : Nat) ci cj x, i < j → cs[i]? = some ci → cs[j]? = some cj → Meets ci cj x → 0 ≤ x → x < lcm2 ci cj →
    (∀ (i' j' : Nat) ci' cj' x', i' < j' → cs[i']? = some ci' → cs[j']? = some cj' → (i' < i ∨ (i' = i ∧ j' < j)) → ¬ Meets ci' cj' x') → K (.tuple [.int i, .int j, .int x])
def sp_clash_of : Spc := fun avs Kr _ => match avs with
  | [.val (.tuple ds)] => ∃ cs, ds = cks cs ∧ (∀ c ∈ cs, CkB c) ∧ cs.length ≤ 100000 ∧ PairsK cs fun d => Kr [] (.val d)
  | _ => False
def w_clash_of_B1 : WS :=
  (wSeq (wSet 3 (wCall 2 sp_meet_of (wMCons (wBin oIx (wVar 0) (wVar 1)) (wMCons (wBin oIx (wVar 0) (wVar 2)) wMNil))))
    (wIfS (wTB (wBin oIsNot (wVar 3) (wC .none))) (wRet (wTup (wFCons (wVar 1) (wFCons (wVar 2) (wFCons (wBin oIx (wVar 3) (wC (.int 1))) wFNil))))) wNext))
def w_clash_of_L1 : WS :=
  wFor (wIRng2 (wBin oAdd (wVar 1) (wC (.int 1))) (wCallB oLen (wACons (wVar 0) wANil))) (gN 2) w_clash_of_B1
def w_clash_of_B2 : WS :=
  w_clash_of_L1
def w_clash_of_L2 : WS :=
  wFor (wIRng1 (wCallB oLen (wACons (wVar 0) wANil))) (gN 1) w_clash_of_B2
def w_clash_of_R1 : WS :=
  (wRet (wC .none))
/-- clash_of: 0 clocks, 1 place, 2 other, 3 met -/
def w_clash_of : WS :=
  (wSeq w_clash_of_L2
    w_clash_of_R1)

theorem vc_clash_of : ∀ avs Kr Kx, avs.length = 1 → sp_clash_of avs Kr Kx → lsFrom 0 avs = [] ∧ w_clash_of (startEv 4 avs) (kenD [] Kr Kx) := by
  intro avs Kr Kx hl h
  unfold sp_clash_of at h
  split at h
  · obtain ⟨cs, rfl, hc, hlen, q1, q2⟩ := h
    refine ⟨rfl, ?_⟩
    dsimp? [w_clash_of, w_clash_of_L2, wFor, w_clash_of_R1]
    refine ⟨by omega, by rw [List.length_map]; omega, ?_⟩
    rw [List.length_map, Int.toNat_natCast]
    refine each_range1 (fun i e => (∃ x1 x2 x3, e = [.val (.tuple (cks cs)), x1, x2, x3]) ∧ ∀ (i' j' : Nat) ci' cj' x', i' < j' → cs[i']? = some ci' → cs[j']? = some cj' → i' < i → ¬ Meets ci' cj' x') ⟨⟨_, _, _, rfl⟩, fun _ _ _ _ _ _ _ _ h => absurd h (Nat.not_lt_zero _)⟩ ?_ ?_
    · rintro e ⟨⟨x1, x2, x3, rfl⟩, hno⟩
      refine q1 fun i j ci cj x h1 h2 h3 => hno i j ci cj x h1 h2 h3 ?_
      exact (List.getElem?_eq_some_iff.mp h2).1
    · rintro i e R hi ⟨⟨x1, x2, x3, rfl⟩, hno⟩ ih
      obtain ⟨ci, hci⟩ : ∃ ci, cs[i]? = some ci := ⟨cs[i], List.getElem?_eq_getElem hi⟩
      dsimp? [w_clash_of_B2, w_clash_of_L1, wFor]
      rw [List.length_map]
      refine ⟨by omega, by omega, by omega, by omega, ?_⟩
      refine each_range2 (fun j e => (∃ x2 x3, e = [.val (.tuple (cks cs)), .val (.int i), x2, x3]) ∧ ∀ (j' : Nat) cj' x', i < j' → cs[j']? = some cj' → j' < i + 1 + j → ¬ Meets ci cj' x') ⟨⟨_, _, rfl⟩, fun _ _ _ h1 _ h2 => by omega⟩ ?_ ?_
      · rintro e ⟨⟨x2, x3, rfl⟩, hno2⟩
        refine ih _ ⟨⟨_, _, _, rfl⟩, fun i' j' ci' cj' x' h1 h2 h3 h4 => ?_⟩
        by_cases c : i' < i
        · exact hno i' j' ci' cj' x' h1 h2 h3 c
        · have : i' = i := by omega
          subst this
          rw [hci] at h2
          cases h2
          refine hno2 j' cj' x' h1 h3 ?_
          have := (List.getElem?_eq_some_iff.mp h3).1
          omega
      · rintro j e R2 hj ⟨⟨x2, x3, rfl⟩, hno2⟩ ih2
        have hjl : i + 1 + j < cs.length := by omega
        obtain ⟨cj, hcj⟩ : ∃ cj, cs[i + 1 + j]? = some cj := ⟨cs[i + 1 + j], List.getElem?_eq_getElem hjl⟩
        have ej : ((i : Int) + 1 + (j : Int)) = ((i + 1 + j : Nat) : Int) := by omega
        rw [ej]
        unfold w_clash_of_B1
        refine seq_cut fun R3 hR3 => ?_
        dsimp? [atI_ck hci, atI_ck hcj, ck, sp_meet_of]
        refine ⟨hc ci (List.mem_of_getElem? hci), hc cj (List.mem_of_getElem? hcj), fun hn => ?_, fun x hx x0 x1 => ?_⟩
        · refine hR3 _ ?_
          dsimp? []
          refine ih2 _ ⟨⟨_, _, rfl⟩, fun j' cj' x' h1 h2 h3 => ?_⟩
          by_cases c : j' < i + 1 + j
          · exact hno2 j' cj' x' h1 h2 c
          · have : j' = i + 1 + j := by omega
            subst this
            rw [hcj] at h2
            cases h2
            exact hn x'
        · refine hR3 _ ?_
          dsimp? [ck]
          refine ⟨by decide, ?_⟩
          refine q2 i (i + 1 + j) ci cj x (by omega) hci hcj hx x0 x1 fun i' j' ci' cj' x' h1 h2 h3 h4 => ?_
          rcases h4 with h4 | ⟨rfl, h4⟩
          · exact hno i' j' ci' cj' x' h1 h2 h3 h4
          · rw [hci] at h2
            cases h2
            exact hno2 j' cj' x' h1 h3 h4
  · exact h.elim
end Dl
end L2

/-! The plain half, 9: the laws' own gcd, round, rings. -/
namespace L2
namespace Dl
open PySem PySem.Spec PyProof.Rows
end Dl
end L2

/-! The plain half, 10: shapes and likeness of data; loops over clocks. -/
namespace L2
namespace Dl
open PySem PySem.Spec PyProof.Rows
/-- layable, of depth at most n -/
def ShN (n : Nat) (d : PyData) : Prop := d.canLay0 = true ∧ d.depth ≤ n
theorem shAll {n : Nat} : ∀ {ds : List PyData}, (∀ d ∈ ds, ShN n d) → PyData.canLayAll0 ds = true ∧ PyData.depthAll ds ≤ n
  | [], _ => ⟨rfl, Nat.zero_le _⟩
  | d :: ds, h => by
    obtain ⟨h1, h2⟩ := h d List.mem_cons_self
    obtain ⟨h3, h4⟩ := shAll fun e he => h e (List.mem_cons_of_mem _ he)
    refine ⟨?_, ?_⟩
    · show (d.canLay0 && PyData.canLayAll0 ds) = true
      rw [h1, h3]; rfl
    · show max d.depth (PyData.depthAll ds) ≤ n
      omega
theorem ShN.lst {n : Nat} {ds : List PyData} (h : ∀ d ∈ ds, ShN n d) : ShN (n + 1) (.list ds) := by
  obtain ⟨h1, h2⟩ := shAll h
  exact ⟨h1, Nat.succ_le_succ h2⟩
theorem ShN.tup {n : Nat} {ds : List PyData} (h : ∀ d ∈ ds, ShN n d) : ShN (n + 1) (.tuple ds) := by
  obtain ⟨h1, h2⟩ := shAll h
  exact ⟨h1, Nat.succ_le_succ h2⟩
theorem ShN.mono {m n : Nat} {d : PyData} (h : ShN m d) (hm : m ≤ n) : ShN n d := ⟨h.1, Nat.le_trans h.2 hm⟩
theorem ShN.int (i : Int) : ShN 0 (.int i) := ⟨rfl, Nat.le_refl _⟩
theorem ShN.bool (i : Bool) : ShN 0 (.bool i) := ⟨rfl, Nat.le_refl _⟩
theorem ShN.none : ShN 0 .none := ⟨rfl, Nat.le_refl _⟩
theorem ShN.ck (c : Int × Int) : ShN 1 (ck c) := ⟨rfl, Nat.le_refl _⟩
theorem ShN.sh {n : Nat} {d : PyData} (h : ShN n d) (hn : n ≤ 64) : SeqAt.shaped d = true := by
  unfold SeqAt.shaped
  rw [h.1]
  have := h.2
  simp only [Bool.true_and, decide_eq_true_eq]
  omega
theorem ShN.cks (cs : List (Int × Int)) : ∀ d ∈ cks cs, ShN 1 d := fun d h => by
  obtain ⟨c, _, rfl⟩ := List.mem_map.mp h
  exact ShN.ck c
theorem ShN.ints (ns : List Int) : ∀ d ∈ ns.map PyData.int, ShN 0 d := fun d h => by
  obtain ⟨c, _, rfl⟩ := List.mem_map.mp h
  exact ShN.int c
theorem sh_lck (cs : List (Int × Int)) : SeqAt.shaped (.list (cks cs)) = true := (ShN.lst (ShN.cks cs)).sh (by decide)
theorem sh_tck (cs : List (Int × Int)) : SeqAt.shaped (.tuple (cks cs)) = true := (ShN.tup (ShN.cks cs)).sh (by decide)
theorem sh_lin (ns : List Int) : SeqAt.shaped (.list (ns.map .int)) = true := (ShN.lst (ShN.ints ns)).sh (by decide)
theorem sh_tin (ns : List Int) : SeqAt.shaped (.tuple (ns.map .int)) = true := (ShN.tup (ShN.ints ns)).sh (by decide)
/-- no bool within -/
def io : PyData → Bool
  | .none | .int _ | .str _ => true
  | .list xs | .tuple xs => ioAll xs
  | _ => false
where ioAll : List PyData → Bool
  | [] => true
  | x :: xs => io x && ioAll xs
theorem io_all {ds : List PyData} (h : ∀ d ∈ ds, io d = true) : io.ioAll ds = true := by
  induction ds with
  | nil => rfl
  | cons d ds ih =>
    show (io d && io.ioAll ds) = true
    rw [h d List.mem_cons_self, ih fun e he => h e (List.mem_cons_of_mem _ he)]
    rfl
mutual
theorem eqv_io : ∀ d e : PyData, io d = true → io e = true → (PyData.eqv d e = true ↔ d = e)
  | .none, e, _, h => by cases e <;> simp [PyData.eqv]
  | .bool _, e, h, _ => by simp [io] at h
  | .int i, e, _, h => by cases e <;> first | (simp [PyData.eqv]; done) | (simp [io] at h)
  | .str i, e, _, h => by cases e <;> first | (simp [PyData.eqv]; done) | (simp [io] at h)
  | .list xs, e, h1, h => by
    cases e with
    | list ys =>
      rw [PyData.eqv, eqv_ioAll xs ys h1 h]
      simp
    | _ => simp [PyData.eqv]
  | .tuple xs, e, h1, h => by
    cases e with
    | tuple ys =>
      rw [PyData.eqv, eqv_ioAll xs ys h1 h]
      simp
    | _ => simp [PyData.eqv]
  | .dict _, e, h, _ => by simp [io] at h
theorem eqv_ioAll : ∀ xs ys : List PyData, io.ioAll xs = true → io.ioAll ys = true → (PyData.eqvAll xs ys = true ↔ xs = ys)
  | [], [], _, _ => by simp [PyData.eqvAll]
  | [], _ :: _, _, _ => by simp [PyData.eqvAll]
  | _ :: _, [], _, _ => by simp [PyData.eqvAll]
  | x :: xs, y :: ys, h1, h2 => by
    have a1 : io x = true ∧ io.ioAll xs = true := by
      have : (io x && io.ioAll xs) = true := h1
      simpa using this
    have a2 : io y = true ∧ io.ioAll ys = true := by
      have : (io y && io.ioAll ys) = true := h2
      simpa using this
    rw [PyData.eqvAll, Bool.and_eq_true, eqv_io x y a1.1 a2.1, eqv_ioAll xs ys a1.2 a2.2]
    simp
end
theorem io_cks (cs : List (Int × Int)) : io.ioAll (cks cs) = true := io_all fun d h => by
  obtain ⟨c, _, rfl⟩ := List.mem_map.mp h
  rfl
theorem ck_inj {c d : Int × Int} (h : ck c = ck d) : c = d := by
  unfold ck at h
  simp only [PyData.tuple.injEq, List.cons.injEq, PyData.int.injEq, and_true] at h
  exact Prod.ext h.1 h.2
theorem cks_inj : ∀ {cs ds : List (Int × Int)}, cks cs = cks ds → cs = ds
  | [], [], _ => rfl
  | [], _ :: _, h => by cases h
  | _ :: _, [], h => by cases h
  | c :: cs, d :: ds, h => by
    simp only [cks, List.map_cons, List.cons.injEq] at h
    rw [ck_inj h.1, cks_inj h.2]
theorem eqv_ck (c d : Int × Int) : PyData.eqv (ck c) (ck d) = decide (c = d) := by
  by_cases h : c = d
  · subst h
    rw [decide_eq_true rfl]
    exact (eqv_io _ _ rfl rfl).mpr rfl
  · rw [decide_eq_false h]
    cases e : PyData.eqv (ck c) (ck d) with
    | false => rfl
    | true => exact absurd (ck_inj ((eqv_io _ _ rfl rfl).mp e)) h
theorem eqv_lcks (cs ds : List (Int × Int)) : PyData.eqv (.list (cks cs)) (.list (cks ds)) = decide (cs = ds) := by
  have q := eqv_io (.list (cks cs)) (.list (cks ds)) (io_cks cs) (io_cks ds)
  by_cases h : cs = ds
  · subst h
    rw [decide_eq_true rfl]
    exact q.mpr rfl
  · rw [decide_eq_false h]
    cases e : PyData.eqv (.list (cks cs)) (.list (cks ds)) with
    | false => rfl
    | true => exact absurd (cks_inj (by simpa using q.mp e)) h
theorem eqv_tcks (cs ds : List (Int × Int)) : PyData.eqv (.tuple (cks cs)) (.tuple (cks ds)) = decide (cs = ds) := eqv_lcks cs ds
theorem fm_filter (cs : List (Int × Int)) (p : Int × Int → Bool) : (cs.filterMap fun c => if p c = true then some (ck c) else none) = cks (cs.filter p) := by
  induction cs with
  | nil => rfl
  | cons c cs ih =>
    cases h : p c with
    | true =>
      rw [List.filterMap_cons_some (b := ck c) (by simp [h]), List.filter_cons_of_pos h, ih]
      rfl
    | false =>
      rw [List.filterMap_cons_none (by simp [h]), List.filter_cons_of_neg (by simp [h]), ih]
end Dl
end L2

/-! The plain half, 11: rings. -/
namespace L2
namespace Dl
open PySem PySem.Spec PyProof.Rows
local macro_rules | `(tactic| dsimp? [$xs,*] $[$l]?) => `(tactic| simp only [wSeq, wNext, wBreak, wCont, wDrop, wRet, wRetN, wIfS, wSet, wAsgT, e_aug, e_setIx, e_par, e_gN, getS_0, getS_s, setS_0, setS_s, e_var, varK_v, varK_o, varK_u, wC, wBin, rdK_v, rdK_t, rdK_s, rdS_v, rdS_o, rdS_u, fzK_v, fzK_t, fzK_s, fzS_v, fzS_o, fzS_l, fzS_u, e_fz, asg_v, asg_t, asg_s, e_tb, tbK_b, wAnd, wOr, wNot, e_notV, e_andV, e_orV, wBV, wIf, e_neg, intK_i, e_oso, wONo, e_rng1, e_rng2, wFNil, wFCons, wANil, wACons, wTup, wLst, e_callB, rdAllK_n, rdAllK_c, wIsi, e_call, wMNil, wMCons, e_ld, lnsOf, avsK_n, avsK_f, avsK_l, lnS_o, lnS_v, lnS_u, poK_n, poK_c, poS_o, inS_0, inS_s, rsK_v, rsK_o, wSl, e_ownF, e_own0, ownB_o, oS_o, oS_v, oS_u, agS_i, muApp, oAdd_i, oAdd_l, oAdd_t, oAdd_s, oSub_i, oMul_i, oFdiv_i, oMod_i, oPow_i, oShl_i, oShr_i, oOr_i, oAndB_i, oLt_i, oLe_i, oGt_i, oGe_i, oEq_i, oNe_i, oEq, oNe, oIx_l, oIx_t, oLen_l, oLen_t, oInt_i, oInt_b, oMax_i, oMin_i, oList_l, oList_t, oTuple_l, oTuple_t, oSorted_l, oSorted_t, oIs_n, oIsN_n, oIs_b, oIsN_b, isNone_n, isNone_t, isNone_l, isNone_i, isNone_s, isNone_b, oSl_l, oSl_t, oIn, gT_t, gC_c, gNil', e_iseq, sqK_l, sqK_t, e_isq, sq2K_l, sq2K_t, e_sset, ssK_l, ssK_t, e_chain, e_lr1, e_lr2, wRev, rvD_l, rvD_t, e_in1, e_in2, negB_f, negB_t, wIZip, zpK_m, e_extend, extR_t, wYes, startEv, kenD_nx, kenD_rt, kenD_bk, kenD_ct, kenD_ex, outK_n, outK_c, otS_o, rvK_v, rvK_t, rvK_s, rvS_v, rvS_o, slOf, lsFrom, wipeE, restE, List.map_cons, List.map_nil, List.length_cons, List.length_nil, List.replicate, List.append_nil, List.cons_append, List.nil_append, List.getElem?_cons_zero, List.getElem?_cons_succ, List.getElem?_nil, List.set_cons_zero, List.set_cons_succ, List.set_nil, Option.getD_some, Option.getD_none, Option.map_some, Option.map_none, Option.some.injEq, Rs.val.injEq, Rs.tmp.injEq, Rs.slot.injEq, Sl.own.injEq, Sl.val.injEq, PyData.int.injEq, PyData.bool.injEq, PyData.str.injEq, PyData.list.injEq, PyData.tuple.injEq, Prod.mk.injEq, Nat.sub_self, Nat.zero_add, Nat.reduceAdd, Nat.reduceSub, Nat.add_zero, isTy_int_int, isTy_bool_int, isTy_int_bool, isTy_bool_bool, isTy_int_tup, isTy_int_lst, isTy_int_non, isTy_int_str, isTy_tup_tup, isTy_tup_lst, isTy_tup_int, isTy_tup_bool, isTy_tup_non, isTy_tup_str, isTy_lst_lst, isTy_lst_tup, isTy_lst_int, exists_eq_left', exists_eq_left, exists_and_left, exists_eq_right, exists_eq, exists_eq', exists_const, true_and, and_true, and_self, Bool.not_true, Bool.not_false, if_true, if_false, Bool.false_eq_true, reduceIte, reduceCtorEq, List.nodup_nil, decide_eq_true_eq, atI_0, atI_1, atI_2, atI_3, atI_4, atI_5, atI_6, atI_7, atI_8, atI_9, atI_10, atI_11, ixN_3_0, ixN_3_1, ixN_3_2, sh_int, sh_bool, sh_non, and_assoc, nd1, nd_true, eq_self, decide_true, decide_false, Int.cast_ofNat_Int, not_true_eq_false, not_false_eq_true, eqv_ii, eqv_bb, wRaise0, e_raiseG, grK_i, e_raise1, onK_i, e_callX, xa_1, xa_2, xa_3, xa_4, xa_5, xa_6, xa_7, e_many, e_most, e_number, e_row, isLst_l, lsK_l, e_rd, e_br, brS_o, brS_v, arS_o, arS_v, avbK_n, avbK_f, avbK_l, scK_b, scK_i, scK_n, scK_s, e_callS, tmK_t, e_rep, enK_l, e_ienum, wTry, eqv_ss, tpK_v, txK_1, tutK_t, e_repT, e_callT, enTK_t, e_ienumT, r3K_i, e_rng3, dcS_d, dcB_d, tkK_m, tkK_2, zlK_c, $xs,*] $[$l]?)
def sp_rings : Spc := fun avs Kr _ => match avs with
  | [.val (.tuple [.int s, .int r]), .val (.int n)] => 0 < s ∧ Kr [] (.val (.bool (decide (n % s = r))))
  | _ => False
/-- rings: 0 clock, 1 number -/
def w_rings : WS :=
  (wRet (wBin oEq (wBin oMod (wVar 1) (wBin oIx (wVar 0) (wC (.int 0)))) (wBin oIx (wVar 0) (wC (.int 1)))))

theorem vc_rings : ∀ avs Kr Kx, avs.length = 2 → sp_rings avs Kr Kx → lsFrom 0 avs = [] ∧ w_rings (startEv 2 avs) (kenD [] Kr Kx) := by
  intro avs Kr Kx hl h
  unfold sp_rings at h
  split at h
  · obtain ⟨hs, q⟩ := h
    refine ⟨rfl, ?_⟩
    dsimp? [w_rings]
    exact ⟨hs, q⟩
  · exact h.elim
/-- the clocks that ring -/
def rgF (cs : List (Int × Int)) (n : Int) : List (Int × Int) := cs.filter fun c => decide (n % c.1 = c.2)
def sp_rings_at : Spc := fun avs Kr _ => match avs with
  | [.val (.tuple ds), .val (.int n)] => ∃ cs, ds = cks cs ∧ (∀ c ∈ cs, 1 ≤ c.1) ∧ cs.length ≤ 100000 ∧ Kr [] (.own (cks (rgF cs n)))
  | [.val (.list ds), .val (.int n)] => ∃ cs, ds = cks cs ∧ (∀ c ∈ cs, 1 ≤ c.1) ∧ cs.length ≤ 100000 ∧ Kr [] (.own (cks (rgF cs n)))
  | _ => False
def w_rings_at_C1 : WE :=
  wLc [2] (wISeq (wVar 0)) (gN 2) (wTB (wCall 2 sp_rings (wMCons (wVar 2) (wMCons (wVar 1) wMNil)))) (wVar 2)
/-- rings_at: 0 clocks, 1 number, 2 clock -/
def w_rings_at : WS :=
  (wRet w_rings_at_C1)

theorem vc_rings_at : ∀ avs Kr Kx, avs.length = 2 → sp_rings_at avs Kr Kx → lsFrom 0 avs = [] ∧ w_rings_at (startEv 3 avs) (kenD [] Kr Kx) := by
  intro avs Kr Kx hl h
  unfold sp_rings_at at h
  split at h
  · rename_i ds n
    obtain ⟨cs, rfl, hc, hl, q⟩ := h
    refine ⟨rfl, ?_⟩
    dsimp? [w_rings_at, w_rings_at_C1, wLc]
    refine lc_fm ck (fun c => if decide (n % c.1 = c.2) = true then some (ck c) else none) cs [] (fun c h A N hA => ?_) (by simpa using small100000 hl) ?_
    · have c1 := hc c h
      dsimp? [ck, sp_rings]
      refine ⟨by omega, ?_⟩
      split
      · rename_i z
        simp only [z, decide_true, if_true] at hA
        exact hA
      · rename_i z
        simp only [z, decide_false, Bool.false_eq_true, if_false] at hA
        exact hA
    · rw [List.nil_append, fm_filter]
      exact q
  · rename_i ds n
    obtain ⟨cs, rfl, hc, hl, q⟩ := h
    refine ⟨rfl, ?_⟩
    dsimp? [w_rings_at, w_rings_at_C1, wLc]
    refine lc_fm ck (fun c => if decide (n % c.1 = c.2) = true then some (ck c) else none) cs [] (fun c h A N hA => ?_) (by simpa using small100000 hl) ?_
    · have c1 := hc c h
      dsimp? [ck, sp_rings]
      refine ⟨by omega, ?_⟩
      split
      · rename_i z
        simp only [z, decide_true, if_true] at hA
        exact hA
      · rename_i z
        simp only [z, decide_false, Bool.false_eq_true, if_false] at hA
        exact hA
    · rw [List.nil_append, fm_filter]
      exact q
  · exact h.elim
/-- of a clock with its rest in place: the two ways to ask -/
theorem Rg_mod {c : Int × Int} {n : Int} (h0 : 0 ≤ c.2) (h1 : c.2 < c.1) : Rg c n ↔ n % c.1 = c.2 := by
  constructor
  · intro h
    have a0 := Int.emod_nonneg n (show c.1 ≠ 0 by omega)
    have a1 := Int.emod_lt_of_pos n (show 0 < c.1 by omega)
    refine dvd_small (m := c.1) ?_ a0 a1 h0 h1
    have : n % c.1 - c.2 = (n - c.2) - c.1 * (n / c.1) := by rw [Int.emod_def]; omega
    rw [this]
    exact Int.dvd_sub h (Int.dvd_mul_right _ _)
  · intro h
    have : n - c.2 = c.1 * (n / c.1) := by rw [← h, Int.emod_def]; omega
    exact ⟨_, this⟩
end Dl
end L2

/-! The plain half, 12: all clocks' meeting, a clock inside another. -/
namespace L2
namespace Dl
open PySem PySem.Spec PyProof.Rows
local macro_rules | `(tactic| dsimp? [$xs,*] $[$l]?) => `(tactic| simp only [wSeq, wNext, wBreak, wCont, wDrop, wRet, wRetN, wIfS, wSet, wAsgT, e_aug, e_setIx, e_par, e_gN, getS_0, getS_s, setS_0, setS_s, e_var, varK_v, varK_o, varK_u, wC, wBin, rdK_v, rdK_t, rdK_s, rdS_v, rdS_o, rdS_u, fzK_v, fzK_t, fzK_s, fzS_v, fzS_o, fzS_l, fzS_u, e_fz, asg_v, asg_t, asg_s, e_tb, tbK_b, wAnd, wOr, wNot, e_notV, e_andV, e_orV, wBV, wIf, e_neg, intK_i, e_oso, wONo, e_rng1, e_rng2, wFNil, wFCons, wANil, wACons, wTup, wLst, e_callB, rdAllK_n, rdAllK_c, wIsi, e_call, wMNil, wMCons, e_ld, lnsOf, avsK_n, avsK_f, avsK_l, lnS_o, lnS_v, lnS_u, poK_n, poK_c, poS_o, inS_0, inS_s, rsK_v, rsK_o, wSl, e_ownF, e_own0, ownB_o, oS_o, oS_v, oS_u, agS_i, muApp, oAdd_i, oAdd_l, oAdd_t, oAdd_s, oSub_i, oMul_i, oFdiv_i, oMod_i, oPow_i, oShl_i, oShr_i, oOr_i, oAndB_i, oLt_i, oLe_i, oGt_i, oGe_i, oEq_i, oNe_i, oEq, oNe, oIx_l, oIx_t, oLen_l, oLen_t, oInt_i, oInt_b, oMax_i, oMin_i, oList_l, oList_t, oTuple_l, oTuple_t, oSorted_l, oSorted_t, oIs_n, oIsN_n, oIs_b, oIsN_b, isNone_n, isNone_t, isNone_l, isNone_i, isNone_s, isNone_b, oSl_l, oSl_t, oIn, gT_t, gC_c, gNil', e_iseq, sqK_l, sqK_t, e_isq, sq2K_l, sq2K_t, e_sset, ssK_l, ssK_t, e_chain, e_lr1, e_lr2, wRev, rvD_l, rvD_t, e_in1, e_in2, negB_f, negB_t, wIZip, zpK_m, e_extend, extR_t, wYes, startEv, kenD_nx, kenD_rt, kenD_bk, kenD_ct, kenD_ex, outK_n, outK_c, otS_o, rvK_v, rvK_t, rvK_s, rvS_v, rvS_o, slOf, lsFrom, wipeE, restE, List.map_cons, List.map_nil, List.length_cons, List.length_nil, List.replicate, List.append_nil, List.cons_append, List.nil_append, List.getElem?_cons_zero, List.getElem?_cons_succ, List.getElem?_nil, List.set_cons_zero, List.set_cons_succ, List.set_nil, Option.getD_some, Option.getD_none, Option.map_some, Option.map_none, Option.some.injEq, Rs.val.injEq, Rs.tmp.injEq, Rs.slot.injEq, Sl.own.injEq, Sl.val.injEq, PyData.int.injEq, PyData.bool.injEq, PyData.str.injEq, PyData.list.injEq, PyData.tuple.injEq, Prod.mk.injEq, Nat.sub_self, Nat.zero_add, Nat.reduceAdd, Nat.reduceSub, Nat.add_zero, isTy_int_int, isTy_bool_int, isTy_int_bool, isTy_bool_bool, isTy_int_tup, isTy_int_lst, isTy_int_non, isTy_int_str, isTy_tup_tup, isTy_tup_lst, isTy_tup_int, isTy_tup_bool, isTy_tup_non, isTy_tup_str, isTy_lst_lst, isTy_lst_tup, isTy_lst_int, exists_eq_left', exists_eq_left, exists_and_left, exists_eq_right, exists_eq, exists_eq', exists_const, true_and, and_true, and_self, Bool.not_true, Bool.not_false, if_true, if_false, Bool.false_eq_true, reduceIte, reduceCtorEq, List.nodup_nil, decide_eq_true_eq, atI_0, atI_1, atI_2, atI_3, atI_4, atI_5, atI_6, atI_7, atI_8, atI_9, atI_10, atI_11, ixN_3_0, ixN_3_1, ixN_3_2, sh_int, sh_bool, sh_non, and_assoc, nd1, nd_true, eq_self, decide_true, decide_false, Int.cast_ofNat_Int, not_true_eq_false, not_false_eq_true, eqv_ii, eqv_bb, wRaise0, e_raiseG, grK_i, e_raise1, onK_i, e_callX, xa_1, xa_2, xa_3, xa_4, xa_5, xa_6, xa_7, e_many, e_most, e_number, e_row, isLst_l, lsK_l, e_rd, e_br, brS_o, brS_v, arS_o, arS_v, avbK_n, avbK_f, avbK_l, scK_b, scK_i, scK_n, scK_s, e_callS, tmK_t, e_rep, enK_l, e_ienum, wTry, eqv_ss, tpK_v, txK_1, tutK_t, e_repT, e_callT, enTK_t, e_ienumT, r3K_i, e_rng3, dcS_d, dcB_d, tkK_m, tkK_2, zlK_c, $xs,*] $[$l]?)
theorem prodS_b3 {cs : List (Int × Int)} (h : ∀ c ∈ cs, CkOk 1000 c) (hl : cs.length ≤ 100) : (prodS cs).natAbs < 2 ^ 3000 := by
  have h1 := prodS_le (m := 1000) (by decide) fun c hc => ⟨(h c hc).1, (h c hc).2.1⟩
  have h0 := prodS_pos fun c hc => (h c hc).1
  have h2 : (1000 : Int) ^ cs.length ≤ 1000 ^ 100 := by
    have : (1000 : Nat) ^ cs.length ≤ 1000 ^ 100 := Nat.pow_le_pow_right (by decide) hl
    exact_mod_cast this
  have h3 : ((1000 : Int) ^ 100).natAbs < 2 ^ 3000 := by decide +kernel
  exact nab_lt (by omega) (Int.le_trans h1 h2) h3
/-- one's rings all among other's -/
def inB (c d : Int × Int) : Bool := decide (c.1 % d.1 = 0) && decide (c.2 % d.1 = d.2)
def sp_inside_of : Spc := fun avs Kr _ => match avs with
  | [.val (.tuple [.int s1, .int r1]), .val (.tuple [.int s2, .int r2])] => 0 < s2 ∧ Kr [] (.val (.bool (inB (s1, r1) (s2, r2))))
  | _ => False
/-- inside_of: 0 one, 1 other -/
def w_inside_of : WS :=
  (wRet ((wAndV (wBin oEq (wBin oMod (wBin oIx (wVar 0) (wC (.int 0))) (wBin oIx (wVar 1) (wC (.int 0)))) (wC (.int 0))) (wBin oEq (wBin oMod (wBin oIx (wVar 0) (wC (.int 1))) (wBin oIx (wVar 1) (wC (.int 0)))) (wBin oIx (wVar 1) (wC (.int 1)))))))

theorem vc_inside_of : ∀ avs Kr Kx, avs.length = 2 → sp_inside_of avs Kr Kx → lsFrom 0 avs = [] ∧ w_inside_of (startEv 2 avs) (kenD [] Kr Kx) := by
  intro avs Kr Kx hl h
  unfold sp_inside_of at h
  split at h
  · obtain ⟨hs, q⟩ := h
    refine ⟨rfl, ?_⟩
    dsimp? [w_inside_of]
    refine ⟨hs, ?_⟩
    unfold inB at q
    split
    · rename_i z
      refine ⟨hs, ?_⟩
      simp only [z, decide_true, Bool.true_and] at q
      exact q
    · rename_i z
      simp only [z, decide_false, Bool.false_and] at q
      exact q
  · exact h.elim
end Dl
end L2

/-! The plain half, 13: times; whole numbers; things of any kind. -/
namespace L2
namespace Dl
open PySem PySem.Spec PyProof.Rows
local macro_rules | `(tactic| dsimp? [$xs,*] $[$l]?) => `(tactic| simp only [wSeq, wNext, wBreak, wCont, wDrop, wRet, wRetN, wIfS, wSet, wAsgT, e_aug, e_setIx, e_par, e_gN, getS_0, getS_s, setS_0, setS_s, e_var, varK_v, varK_o, varK_u, wC, wBin, rdK_v, rdK_t, rdK_s, rdS_v, rdS_o, rdS_u, fzK_v, fzK_t, fzK_s, fzS_v, fzS_o, fzS_l, fzS_u, e_fz, asg_v, asg_t, asg_s, e_tb, tbK_b, wAnd, wOr, wNot, e_notV, e_andV, e_orV, wBV, wIf, e_neg, intK_i, e_oso, wONo, e_rng1, e_rng2, wFNil, wFCons, wANil, wACons, wTup, wLst, e_callB, rdAllK_n, rdAllK_c, wIsi, e_call, wMNil, wMCons, e_ld, lnsOf, avsK_n, avsK_f, avsK_l, lnS_o, lnS_v, lnS_u, poK_n, poK_c, poS_o, inS_0, inS_s, rsK_v, rsK_o, wSl, e_ownF, e_own0, ownB_o, oS_o, oS_v, oS_u, agS_i, muApp, oAdd_i, oAdd_l, oAdd_t, oAdd_s, oSub_i, oMul_i, oFdiv_i, oMod_i, oPow_i, oShl_i, oShr_i, oOr_i, oAndB_i, oLt_i, oLe_i, oGt_i, oGe_i, oEq_i, oNe_i, oEq, oNe, oIx_l, oIx_t, oLen_l, oLen_t, oInt_i, oInt_b, oMax_i, oMin_i, oList_l, oList_t, oTuple_l, oTuple_t, oSorted_l, oSorted_t, oIs_n, oIsN_n, oIs_b, oIsN_b, isNone_n, isNone_t, isNone_l, isNone_i, isNone_s, isNone_b, oSl_l, oSl_t, oIn, gT_t, gC_c, gNil', e_iseq, sqK_l, sqK_t, e_isq, sq2K_l, sq2K_t, e_sset, ssK_l, ssK_t, e_chain, e_lr1, e_lr2, wRev, rvD_l, rvD_t, e_in1, e_in2, negB_f, negB_t, wIZip, zpK_m, e_extend, extR_t, wYes, startEv, kenD_nx, kenD_rt, kenD_bk, kenD_ct, kenD_ex, outK_n, outK_c, otS_o, rvK_v, rvK_t, rvK_s, rvS_v, rvS_o, slOf, lsFrom, wipeE, restE, List.map_cons, List.map_nil, List.length_cons, List.length_nil, List.replicate, List.append_nil, List.cons_append, List.nil_append, List.getElem?_cons_zero, List.getElem?_cons_succ, List.getElem?_nil, List.set_cons_zero, List.set_cons_succ, List.set_nil, Option.getD_some, Option.getD_none, Option.map_some, Option.map_none, Option.some.injEq, Rs.val.injEq, Rs.tmp.injEq, Rs.slot.injEq, Sl.own.injEq, Sl.val.injEq, PyData.int.injEq, PyData.bool.injEq, PyData.str.injEq, PyData.list.injEq, PyData.tuple.injEq, Prod.mk.injEq, Nat.sub_self, Nat.zero_add, Nat.reduceAdd, Nat.reduceSub, Nat.add_zero, isTy_int_int, isTy_bool_int, isTy_int_bool, isTy_bool_bool, isTy_int_tup, isTy_int_lst, isTy_int_non, isTy_int_str, isTy_tup_tup, isTy_tup_lst, isTy_tup_int, isTy_tup_bool, isTy_tup_non, isTy_tup_str, isTy_lst_lst, isTy_lst_tup, isTy_lst_int, exists_eq_left', exists_eq_left, exists_and_left, exists_eq_right, exists_eq, exists_eq', exists_const, true_and, and_true, and_self, Bool.not_true, Bool.not_false, if_true, if_false, Bool.false_eq_true, reduceIte, reduceCtorEq, List.nodup_nil, decide_eq_true_eq, atI_0, atI_1, atI_2, atI_3, atI_4, atI_5, atI_6, atI_7, atI_8, atI_9, atI_10, atI_11, ixN_3_0, ixN_3_1, ixN_3_2, sh_int, sh_bool, sh_non, and_assoc, nd1, nd_true, eq_self, decide_true, decide_false, Int.cast_ofNat_Int, not_true_eq_false, not_false_eq_true, eqv_ii, eqv_bb, wRaise0, e_raiseG, grK_i, e_raise1, onK_i, e_callX, xa_1, xa_2, xa_3, xa_4, xa_5, xa_6, xa_7, e_many, e_most, e_number, e_row, isLst_l, lsK_l, e_rd, e_br, brS_o, brS_v, arS_o, arS_v, avbK_n, avbK_f, avbK_l, scK_b, scK_i, scK_n, scK_s, e_callS, tmK_t, e_rep, enK_l, e_ienum, wTry, eqv_ss, tpK_v, txK_1, tutK_t, e_repT, e_callT, enTK_t, e_ienumT, r3K_i, e_rng3, dcS_d, dcB_d, tkK_m, tkK_2, zlK_c, $xs,*] $[$l]?)
/-- a whole number that is no bool -/
def isI : PyData → Bool
  | .int _ => true
  | _ => false
def sp_is_whole : Spc := fun avs Kr _ => match avs with
  | [.val d] => Kr [] (.val (.bool (isI d)))
  | _ => False
/-- is_whole: 0 thing -/
def w_is_whole : WS :=
  (wRet ((wAndV (wIsi "int" (wVar 0)) (wNotV (wIsi "bool" (wVar 0))))))

theorem vc_is_whole : ∀ avs Kr Kx, avs.length = 1 → sp_is_whole avs Kr Kx → lsFrom 0 avs = [] ∧ w_is_whole (startEv 1 avs) (kenD [] Kr Kx) := by
  intro avs Kr Kx hl h
  unfold sp_is_whole at h
  split at h
  · rename_i d
    refine ⟨rfl, ?_⟩
    dsimp? [w_is_whole]
    cases d <;> dsimp? [isTy, tyN] <;> exact h
  · exact h.elim
theorem isI_int {d : PyData} (h : isI d = true) : ∃ i, d = .int i := by
  cases d <;> first | exact ⟨_, rfl⟩ | cases h
/-- tuples are of no overgreat length -/
def TL (d : PyData) : Prop := ∀ xs, d = .tuple xs → xs.length ≤ 1000
theorem TL.no {d : PyData} (h : ∀ xs, d ≠ .tuple xs) : TL d := fun xs e => absurd e (h xs)
theorem TL.tup {xs : List PyData} (h : xs.length ≤ 1000) : TL (.tuple xs) := fun ys e => by
  cases e
  exact h
end Dl
end L2

/-! The plain half, 14: clocks of splits, of ways, wide ones. -/
namespace L2
namespace Dl
open PySem PySem.Spec PyProof.Rows
local macro_rules | `(tactic| dsimp? [$xs,*] $[$l]?) => `(tactic| simp only [wSeq, wNext, wBreak, wCont, wDrop, wRet, wRetN, wIfS, wSet, wAsgT, e_aug, e_setIx, e_par, e_gN, getS_0, getS_s, setS_0, setS_s, e_var, varK_v, varK_o, varK_u, wC, wBin, rdK_v, rdK_t, rdK_s, rdS_v, rdS_o, rdS_u, fzK_v, fzK_t, fzK_s, fzS_v, fzS_o, fzS_l, fzS_u, e_fz, asg_v, asg_t, asg_s, e_tb, tbK_b, wAnd, wOr, wNot, e_notV, e_andV, e_orV, wBV, wIf, e_neg, intK_i, e_oso, wONo, e_rng1, e_rng2, wFNil, wFCons, wANil, wACons, wTup, wLst, e_callB, rdAllK_n, rdAllK_c, wIsi, e_call, wMNil, wMCons, e_ld, lnsOf, avsK_n, avsK_f, avsK_l, lnS_o, lnS_v, lnS_u, poK_n, poK_c, poS_o, inS_0, inS_s, rsK_v, rsK_o, wSl, e_ownF, e_own0, ownB_o, oS_o, oS_v, oS_u, agS_i, muApp, oAdd_i, oAdd_l, oAdd_t, oAdd_s, oSub_i, oMul_i, oFdiv_i, oMod_i, oPow_i, oShl_i, oShr_i, oOr_i, oAndB_i, oLt_i, oLe_i, oGt_i, oGe_i, oEq_i, oNe_i, oEq, oNe, oIx_l, oIx_t, oLen_l, oLen_t, oInt_i, oInt_b, oMax_i, oMin_i, oList_l, oList_t, oTuple_l, oTuple_t, oSorted_l, oSorted_t, oIs_n, oIsN_n, oIs_b, oIsN_b, isNone_n, isNone_t, isNone_l, isNone_i, isNone_s, isNone_b, oSl_l, oSl_t, oIn, gT_t, gC_c, gNil', e_iseq, sqK_l, sqK_t, e_isq, sq2K_l, sq2K_t, e_sset, ssK_l, ssK_t, e_chain, e_lr1, e_lr2, wRev, rvD_l, rvD_t, e_in1, e_in2, negB_f, negB_t, wIZip, zpK_m, e_extend, extR_t, wYes, startEv, kenD_nx, kenD_rt, kenD_bk, kenD_ct, kenD_ex, outK_n, outK_c, otS_o, rvK_v, rvK_t, rvK_s, rvS_v, rvS_o, slOf, lsFrom, wipeE, restE, List.map_cons, List.map_nil, List.length_cons, List.length_nil, List.replicate, List.append_nil, List.cons_append, List.nil_append, List.getElem?_cons_zero, List.getElem?_cons_succ, List.getElem?_nil, List.set_cons_zero, List.set_cons_succ, List.set_nil, Option.getD_some, Option.getD_none, Option.map_some, Option.map_none, Option.some.injEq, Rs.val.injEq, Rs.tmp.injEq, Rs.slot.injEq, Sl.own.injEq, Sl.val.injEq, PyData.int.injEq, PyData.bool.injEq, PyData.str.injEq, PyData.list.injEq, PyData.tuple.injEq, Prod.mk.injEq, Nat.sub_self, Nat.zero_add, Nat.reduceAdd, Nat.reduceSub, Nat.add_zero, isTy_int_int, isTy_bool_int, isTy_int_bool, isTy_bool_bool, isTy_int_tup, isTy_int_lst, isTy_int_non, isTy_int_str, isTy_tup_tup, isTy_tup_lst, isTy_tup_int, isTy_tup_bool, isTy_tup_non, isTy_tup_str, isTy_lst_lst, isTy_lst_tup, isTy_lst_int, exists_eq_left', exists_eq_left, exists_and_left, exists_eq_right, exists_eq, exists_eq', exists_const, true_and, and_true, and_self, Bool.not_true, Bool.not_false, if_true, if_false, Bool.false_eq_true, reduceIte, reduceCtorEq, List.nodup_nil, decide_eq_true_eq, atI_0, atI_1, atI_2, atI_3, atI_4, atI_5, atI_6, atI_7, atI_8, atI_9, atI_10, atI_11, ixN_3_0, ixN_3_1, ixN_3_2, sh_int, sh_bool, sh_non, and_assoc, nd1, nd_true, eq_self, decide_true, decide_false, Int.cast_ofNat_Int, not_true_eq_false, not_false_eq_true, eqv_ii, eqv_bb, wRaise0, e_raiseG, grK_i, e_raise1, onK_i, e_callX, xa_1, xa_2, xa_3, xa_4, xa_5, xa_6, xa_7, e_many, e_most, e_number, e_row, isLst_l, lsK_l, e_rd, e_br, brS_o, brS_v, arS_o, arS_v, avbK_n, avbK_f, avbK_l, scK_b, scK_i, scK_n, scK_s, e_callS, tmK_t, e_rep, enK_l, e_ienum, wTry, eqv_ss, tpK_v, txK_1, tutK_t, e_repT, e_callT, enTK_t, e_ienumT, r3K_i, e_rng3, dcS_d, dcB_d, tkK_m, tkK_2, zlK_c, $xs,*] $[$l]?)
/-- as drawn clocks are: their round is at most 720 -/
def Ck7 (c : Int × Int) : Prop := CkOk 24 c ∧ c.1 ∣ 720
theorem Ck7.all {cs : List (Int × Int)} (h : ∀ c ∈ cs, Ck7 c) : ∀ c ∈ cs, CkOk 24 c := fun c hc => (h c hc).1
theorem em_mul {n st k : Int} (h : 1 ≤ st) : n % (st * k) = n % st + st * (n / st % k) := by
  have e : n / (st * k) = n / st / k := by
    rw [Int.ediv_ediv, if_neg (fun h => by have := h.1; omega), Int.sub_zero]
  rw [Int.emod_def, Int.emod_def n st, Int.emod_def (n / st) k, Int.mul_sub, e, Int.mul_assoc]
  omega
/-- just one rings, always; short ones have small steps -/
def SpW (cs : List (Int × Int)) : Prop := (∀ n, (rgF cs n).length = 1) ∧ ∀ c ∈ cs, 2 * c.1 ≤ 2 ^ cs.length
theorem SpW.one : SpW [(1, 0)] := ⟨fun n => by
  have : n % 1 = 0 := Int.emod_one n
  simp [rgF, this], fun c h => by
  rw [List.mem_singleton] at h
  subst h
  decide⟩
theorem rg_aux {N st re k r v : Int} (e : N = r + st * v) (h2 : 0 ≤ re) (h3 : re < st) (r0 : 0 ≤ r) (r1 : r < st) (v0 : 0 ≤ v) (v1 : v < k) (hk : 2 ≤ k ∧ k ≤ 3) :
    ((List.range k.toNat).filter fun (i : Nat) => decide (N = re + st * (i : Int))).length = if r = re then 1 else 0 := by
  subst e
  obtain rfl | rfl : k = 2 ∨ k = 3 := by omega
  · rw [show (List.range (2 : Int).toNat) = [0, 1] from rfl]
    simp only [List.filter_cons, List.filter_nil, decide_eq_true_eq]
    rw [show st * ((0 : Nat) : Int) = 0 from Int.mul_zero st, show st * ((1 : Nat) : Int) = st from Int.mul_one st]
    obtain rfl | rfl : v = 0 ∨ v = 1 := by omega
    · rw [Int.mul_zero]
      repeat' split
      all_goals (try simp only [List.length_cons, List.length_nil]) <;> omega
    · rw [Int.mul_one]
      repeat' split
      all_goals (try simp only [List.length_cons, List.length_nil]) <;> omega
  · rw [show (List.range (3 : Int).toNat) = [0, 1, 2] from rfl]
    simp only [List.filter_cons, List.filter_nil, decide_eq_true_eq]
    rw [show st * ((0 : Nat) : Int) = 0 from Int.mul_zero st, show st * ((1 : Nat) : Int) = st from Int.mul_one st, show st * ((2 : Nat) : Int) = st + st by rw [show ((2 : Nat) : Int) = 1 + 1 from rfl, Int.mul_add, Int.mul_one]]
    obtain rfl | rfl | rfl : v = 0 ∨ v = 1 ∨ v = 2 := by omega
    · rw [Int.mul_zero]
      repeat' split
      all_goals (try simp only [List.length_cons, List.length_nil]) <;> omega
    · rw [Int.mul_one]
      repeat' split
      all_goals (try simp only [List.length_cons, List.length_nil]) <;> omega
    · rw [show st * (2 : Int) = st + st by omega]
      repeat' split
      all_goals (try simp only [List.length_cons, List.length_nil]) <;> omega
theorem rg_parts {n st re k : Int} (h1 : 1 ≤ st) (h2 : 0 ≤ re) (h3 : re < st) (hk : 2 ≤ k ∧ k ≤ 3) : (rgF ((List.range k.toNat).map fun (i : Nat) => (st * k, re + st * (i : Int))) n).length = (rgF [(st, re)] n).length := by
  have e := rg_aux (em_mul (n := n) (k := k) h1) h2 h3 (Int.emod_nonneg n (show st ≠ 0 by omega)) (Int.emod_lt_of_pos n (show 0 < st by omega)) (Int.emod_nonneg (n / st) (show k ≠ 0 by omega)) (Int.emod_lt_of_pos (n / st) (show 0 < k by omega)) hk
  unfold rgF
  rw [List.filter_map, List.length_map]
  refine Eq.trans e ?_
  rw [List.filter_cons, List.filter_nil]
  by_cases z : n % st = re
  · rw [if_pos z, if_pos (decide_eq_true z)]
    rfl
  · rw [if_neg z, if_neg (by rw [decide_eq_false z]; decide)]
    rfl
theorem SpW.put {cs : List (Int × Int)} {j : Nat} {k : Int} (h : SpW cs) (hj : j < cs.length) (h1 : 1 ≤ cs[j].1) (h2 : 0 ≤ cs[j].2) (h3 : cs[j].2 < cs[j].1) (hk : 2 ≤ k ∧ k ≤ 3) :
    SpW (cs.take j ++ ((List.range k.toNat).map fun (i : Nat) => (cs[j].1 * k, cs[j].2 + cs[j].1 * (i : Int))) ++ cs.drop (j + 1)) := by
  have sp : cs = cs.take j ++ cs[j] :: cs.drop (j + 1) := by rw [← List.drop_eq_getElem_cons hj, List.take_append_drop]
  have hl : (cs.take j ++ ((List.range k.toNat).map fun (i : Nat) => (cs[j].1 * k, cs[j].2 + cs[j].1 * (i : Int))) ++ cs.drop (j + 1)).length = cs.length + k.toNat - 1 := by
    simp only [List.length_append, List.length_map, List.length_range, List.length_take, List.length_drop]
    omega
  refine ⟨fun n => ?_, fun c hc => ?_⟩
  · have e := h.1 n
    rw [sp] at e
    have e2 := rg_parts (n := n) (k := k) h1 h2 h3 hk
    unfold rgF at *
    rw [List.filter_append, List.length_append, List.filter_cons] at e
    rw [List.filter_append, List.filter_append, List.length_append, List.length_append, e2, List.filter_cons, List.filter_nil]
    by_cases z : n % cs[j].1 = cs[j].2
    · rw [if_pos (decide_eq_true z)] at e ⊢
      simp only [List.length_cons, List.length_nil] at e ⊢
      omega
    · rw [if_neg (by rw [decide_eq_false z]; decide)] at e ⊢
      simp only [List.length_nil] at e ⊢
      omega
  · rw [hl]
    have up : (2 : Int) ^ (cs.length + k.toNat - 1) = 2 ^ cs.length * 2 ^ (k.toNat - 1) := by rw [← Int.pow_add]; congr 1; omega
    have p0 : (0 : Int) < 2 ^ cs.length := Int.pow_pos (by decide)
    have old : ∀ d ∈ cs, 2 * d.1 ≤ 2 ^ (cs.length + k.toNat - 1) := fun d hd => by
      have := h.2 d hd
      rw [up]
      obtain rfl | rfl : k = 2 ∨ k = 3 := by omega
      · rw [show (2 : Int) ^ ((2 : Int).toNat - 1) = 2 from rfl]; omega
      · rw [show (2 : Int) ^ ((3 : Int).toNat - 1) = 4 from rfl]; omega
    rcases List.mem_append.mp hc with hc | hc
    · rcases List.mem_append.mp hc with hc | hc
      · exact old c (List.mem_of_mem_take hc)
      · obtain ⟨i, _, rfl⟩ := List.mem_map.mp hc
        have := h.2 _ (List.getElem_mem hj)
        show 2 * (cs[j].1 * k) ≤ _
        rw [up]
        generalize cs[j].1 = s at *
        obtain rfl | rfl : k = 2 ∨ k = 3 := by omega
        · rw [show (2 : Int) ^ ((2 : Int).toNat - 1) = 2 from rfl]; omega
        · rw [show (2 : Int) ^ ((3 : Int).toNat - 1) = 4 from rfl]; omega
    · exact old c (List.mem_of_mem_drop hc)
theorem cut_from {α : Type} (xs : List α) {j : Nat} (h : j ≤ xs.length) : cutD xs (some (j : Int)) none = xs.drop j := by
  unfold cutD
  rw [HT.sIx_none, HT.sIx_nat, Nat.min_eq_left h, List.take_of_length_le (by rw [List.length_drop]; exact Nat.le_refl _)]
theorem cle_total (a b : Int × Int) : (cle a b || cle b a) = true := by
  unfold cle
  simp only [Bool.or_eq_true, decide_eq_true_eq]
  omega
theorem cle_trans (a b c : Int × Int) (h1 : cle a b = true) (h2 : cle b c = true) : cle a c = true := by
  unfold cle at *
  simp only [decide_eq_true_eq] at *
  omega
theorem sort_clt {cs : List (Int × Int)} (nd : cs.Nodup) : (cs.mergeSort cle).Pairwise clt := by
  have h1 : (cs.mergeSort cle).Pairwise (fun a b => cle a b = true) := List.pairwise_mergeSort (fun a b c => cle_trans a b c) (fun a b => cle_total a b) cs
  have h2 : (cs.mergeSort cle).Nodup := (List.mergeSort_perm cs cle).nodup_iff.mpr nd
  refine List.Pairwise.imp (fun {a b} ⟨x, y⟩ => ?_) (h1.and h2)
  unfold cle at x
  simp only [decide_eq_true_eq] at x
  unfold clt
  by_cases e : a.1 = b.1
  · have : a.2 ≠ b.2 := fun z => y (Prod.ext e z)
    omega
  · omega
end Dl
end L2

/-! The plain half, 15: small helpers. -/
namespace L2
namespace Dl
open PySem PySem.Spec PyProof.Rows
theorem eqv_lnil (xs : List PyData) : PyData.eqv (.list xs) (.list []) = xs.isEmpty := by cases xs <;> rfl
def iv : PyData → Int
  | .int n => n
  | _ => 0
end Dl
end L2

/-! The plain half, 16: refusals; rounds gone through. -/
namespace L2
namespace Dl
open PySem PySem.Spec PyProof.Rows
/-- clocks as all are -/
structure GC (cs : List (Int × Int)) : Prop where
  ok : ∀ c ∈ cs, CkOk 1000 c
  len : cs.length ≤ 100
theorem GC.one {cs : List (Int × Int)} (h : GC cs) : ∀ c ∈ cs, 1 ≤ c.1 := fun c z => (h.ok c z).1
theorem GC.pb3 {cs : List (Int × Int)} (h : GC cs) : (prodS cs).natAbs < 2 ^ 3000 := prodS_b3 h.ok h.len
theorem GC.pb {cs : List (Int × Int)} (h : GC cs) : (prodS cs).natAbs < 2 ^ 8000 := prodS_b h.ok h.len
theorem GC.rp {cs : List (Int × Int)} (h : GC cs) : 0 < rnd 1 cs := (rnd_spec cs 1 (by decide) h.one).1
theorem GC.rb {cs : List (Int × Int)} (h : GC cs) : (rnd 1 cs).natAbs < 2 ^ 3000 := nab_lt (by have := h.rp; omega) (by have := rnd_le (f := 1) (by decide) h.one; omega) h.pb3
theorem GC.rok {cs : List (Int × Int)} (h : GC cs) {Q : List (Int × Int) → Prop} (q : Q cs) : RndOk (cks cs) Q := ⟨cs, rfl, h.one, h.pb, q⟩
theorem GC.nil : GC [] := ⟨fun _ z => (by cases z), by decide⟩
theorem GC.of {m : Int} {cs : List (Int × Int)} (hm : m ≤ 1000) (h : ∀ c ∈ cs, CkOk m c) (hl : cs.length ≤ 100) : GC cs := ⟨ck_mono hm h, hl⟩
/-- 0, 1, .. below n -/
def rgI (n : Int) : List Int := (List.range n.toNat).map fun (i : Nat) => (i : Int)
theorem rgI_d (n : Int) : ((List.range n.toNat).map fun (i : Nat) => PyData.int (i : Int)) = (rgI n).map .int := by
  unfold rgI
  rw [List.map_map]
  rfl
theorem rgI_len (n : Int) : (rgI n).length = n.toNat := by unfold rgI; rw [List.length_map, List.length_range]
theorem rgI_mem {n m : Int} : m ∈ rgI n ↔ 0 ≤ m ∧ m < n := by
  unfold rgI
  constructor
  · intro h
    obtain ⟨i, hi, rfl⟩ := List.mem_map.mp h
    have := List.mem_range.mp hi
    omega
  · intro ⟨h1, h2⟩
    exact List.mem_map.mpr ⟨m.toNat, List.mem_range.mpr (by omega), by omega⟩
/-- a for that returns the first that is so -/
theorem each_find {β : Type} {g : WG} {t : WS} {k : Ken} (en : β → PyData) (xs : List β) (p : β → Bool) (J : Ev → Prop) (fin : ∀ e, J e → xs.find? p = none → k.nx e)
    (step : ∀ n ∈ xs, ∀ e (R : Ev → Prop), J e → (p n = true → xs.find? p = some n) → (p n = false → ∀ e2, J e2 → R e2) → g (en n) e (fun e1 => t e1 { k with nx := R, ct := R, bk := k.nx })) :
    ∀ e, J e → wEach g t (xs.map en) e k := by
  have gen : ∀ (l : List β) e, (∀ n ∈ l, n ∈ xs) → xs.find? p = l.find? p → J e → wEach g t (l.map en) e k := by
    intro l
    induction l with
    | nil => intro e _ hf h; exact fin e h (by rw [hf]; rfl)
    | cons n l ih =>
      intro e hs hf h
      refine step n (hs n List.mem_cons_self) e _ h (fun hp => by rw [hf, List.find?_cons_of_pos hp]) fun hp e2 h2 => ?_
      exact ih e2 (fun m hm => hs m (List.mem_cons_of_mem _ hm)) (by rw [hf, List.find?_cons_of_neg (by rw [hp]; decide)]) h2
  exact fun e h => gen xs e (fun _ z => z) rfl h
/-! ### what an exception is called -/
end Dl
end L2

/-! The plain half, 17: what goes round: missed numbers. -/
namespace L2
namespace Dl
open PySem PySem.Spec PyProof.Rows
/-- the missed numbers of a round -/
def msF (cs : List (Int × Int)) : List Int := (rgI (rnd 1 cs)).filter fun n => decide (rgF cs n = [])
/-! a list that is as it is due, of whole numbers -/
theorem ints_inj : ∀ {a b : List Int}, a.map PyData.int = b.map PyData.int → a = b
  | [], [], _ => rfl
  | [], _ :: _, h => by cases h
  | _ :: _, [], h => by cases h
  | x :: a, y :: b, h => by
    simp only [List.map_cons, List.cons.injEq, PyData.int.injEq] at h
    rw [h.1, ints_inj h.2]
theorem io_ints (ns : List Int) : io.ioAll (ns.map .int) = true := io_all fun d h => by
  obtain ⟨c, _, rfl⟩ := List.mem_map.mp h
  rfl
theorem eqv_lin (a b : List Int) : PyData.eqv (.list (a.map .int)) (.list (b.map .int)) = decide (a = b) := by
  have q := eqv_io (.list (a.map .int)) (.list (b.map .int)) (io_ints a) (io_ints b)
  by_cases h : a = b
  · subst h
    rw [decide_eq_true rfl]
    exact q.mpr rfl
  · rw [decide_eq_false h]
    cases e : PyData.eqv (.list (a.map .int)) (.list (b.map .int)) with
    | false => rfl
    | true => exact absurd (ints_inj (by simpa using q.mp e)) h
end Dl
end L2

/-! The plain half, 18: clocks in order, stretched, put in. -/
namespace L2
namespace Dl
open PySem PySem.Spec PyProof.Rows
/-! clocks rising, each once -/
theorem clt_tr {a b c : Int × Int} (h1 : clt a b) (h2 : clt b c) : clt a c := by
  unfold clt at *
  omega
theorem clt_ir {a : Int × Int} (h : clt a a) : False := by
  unfold clt at h
  omega
theorem clt_uniq : ∀ {M N : List (Int × Int)}, M.Pairwise clt → N.Pairwise clt → (∀ c, c ∈ M ↔ c ∈ N) → M = N
  | [], [], _, _, _ => rfl
  | [], b :: N, _, _, h => by cases (h b).mpr List.mem_cons_self
  | a :: M, [], _, _, h => by cases (h a).mp List.mem_cons_self
  | a :: M, b :: N, h1, h2, h => by
    obtain ⟨p1, q1⟩ := List.pairwise_cons.mp h1
    obtain ⟨p2, q2⟩ := List.pairwise_cons.mp h2
    have e : a = b := by
      rcases List.mem_cons.mp ((h a).mp List.mem_cons_self) with z | z
      · exact z
      · rcases List.mem_cons.mp ((h b).mpr List.mem_cons_self) with y | y
        · exact y.symm
        · exact (clt_ir (clt_tr (p1 b y) (p2 a z))).elim
    subst e
    rw [clt_uniq q1 q2 fun c => ?_]
    constructor
    · intro hc
      rcases List.mem_cons.mp ((h c).mp (List.mem_cons_of_mem _ hc)) with z | z
      · subst z; exact (clt_ir (p1 c hc)).elim
      · exact z
    · intro hc
      rcases List.mem_cons.mp ((h c).mpr (List.mem_cons_of_mem _ hc)) with z | z
      · subst z; exact (clt_ir (p2 c hc)).elim
      · exact z
/-- each once, rising -/
def ordC (cs : List (Int × Int)) : List (Int × Int) := cs.eraseDups.mergeSort cle
theorem mem_ordC {cs : List (Int × Int)} {c : Int × Int} : c ∈ ordC cs ↔ c ∈ cs := by
  unfold ordC
  rw [(List.mergeSort_perm _ cle).mem_iff, List.mem_eraseDups]
theorem nodup_eraseDups : ∀ (n : Nat) (cs : List (Int × Int)), cs.length ≤ n → cs.eraseDups.Nodup
  | _, [], _ => by simp
  | 0, _ :: _, h => by cases h
  | n + 1, c :: cs, h => by
    rw [List.eraseDups_cons]
    refine List.nodup_cons.mpr ⟨fun z => ?_, nodup_eraseDups n _ (Nat.le_trans (List.length_filter_le _ _) (by simpa using h))⟩
    rw [List.mem_eraseDups, List.mem_filter] at z
    simp at z
theorem clt_ordC (cs : List (Int × Int)) : (ordC cs).Pairwise clt := sort_clt (nodup_eraseDups _ _ (Nat.le_refl _))
theorem clt_nodup {cs : List (Int × Int)} (h : cs.Pairwise clt) : cs.Nodup := h.imp fun {a b} z e => by subst e; exact clt_ir z
theorem ordC_eq {cs M : List (Int × Int)} (h : M.Pairwise clt) (hm : ∀ c, c ∈ M ↔ c ∈ cs) : M = ordC cs := clt_uniq h (clt_ordC cs) fun c => by rw [hm c, mem_ordC]
theorem len_eraseDups : ∀ (n : Nat) (cs : List (Int × Int)), cs.length ≤ n → cs.eraseDups.length ≤ cs.length
  | _, [], _ => by simp
  | 0, _ :: _, h => by cases h
  | n + 1, c :: cs, h => by
    rw [List.eraseDups_cons, List.length_cons, List.length_cons]
    have h1 := List.length_filter_le (fun b => !b == c) cs
    have h2 := len_eraseDups n (cs.filter fun b => !b == c) (Nat.le_trans h1 (by simpa using h))
    omega
theorem ordC_len (cs : List (Int × Int)) : (ordC cs).length ≤ cs.length := by
  unfold ordC
  rw [List.length_mergeSort]
  exact len_eraseDups _ _ (Nat.le_refl _)
theorem ordC_ss {cs : List (Int × Int)} {K : Rs → Prop} {m : Int} (hm : m ≤ 2 ^ 60) (hc : ∀ c ∈ cs, CkOk m c) (hl : cs.length < 64) (h : K (.tmp (cks (ordC cs)))) : oSortSet (cks cs) K :=
  ss_clocks hm hc hl fun ms nd mem pw => by rw [ordC_eq pw mem]; exact h
def InO (ds : List PyData) (K : List (Int × Int) → Prop) : Prop := ∃ (m : Int) (cs : List (Int × Int)), ds = cks cs ∧ m ≤ 2 ^ 60 ∧ (∀ c ∈ cs, CkOk m c) ∧ cs.length < 64 ∧ K (ordC cs)
theorem InO.mk {m : Int} {cs : List (Int × Int)} {K : List (Int × Int) → Prop} (hm : m ≤ 2 ^ 60) (h : ∀ c ∈ cs, CkOk m c) (hl : cs.length < 64) (k : K (ordC cs)) : InO (cks cs) K := ⟨m, cs, rfl, hm, h, hl, k⟩
theorem cks_snc (ms : List (Int × Int)) (c : Int × Int) : cks ms ++ [ck c] = cks (ms ++ [c]) := by simp only [cks, List.map_append]; rfl
theorem sh_ck (c : Int × Int) : SeqAt.shaped (ck c) = true := (ShN.ck c).sh (by decide)
/-- [clock for clock in clocks if ..] -/
theorem lc_flt {vs : List Nat} {g : WG} {ct : WT} {we : WE} {K : Ev → List PyData → Prop} {env : Ev} {cs : List (Int × Int)} (p : Int × Int → Bool) (hl : cs.length ≤ 100000)
    (h : ∀ c ∈ cs, ∀ (A : PyData → Ev → Prop) (N : Ev → Prop), (if p c = true then A (ck c) env else N env) → g (ck c) env (fun e1 => ct e1 (fun e2 b => if b = true then wFz we e2 (fun e3 y => A y (wipeE e3 vs)) NoX else N (wipeE e2 vs)) NoX))
    (hK : K env (cks (cs.filter p))) : wLcE vs g ct we (cks cs) [] env K := by
  refine lc_fm ck (fun c => if p c = true then some (ck c) else none) cs [] (fun c hn A N hA => h c hn A N ?_) (small100000 (by rw [List.length_nil]; omega)) ?_
  · generalize p c = z at *
    cases z with
    | true => exact hA
    | false => exact hA
  · rw [List.nil_append, fm_filter cs p]
    exact hK
/-! what is told of a refusal -/
end Dl
end L2

/-! The plain half, 19: clocks that ring alone; no places. -/
namespace L2
namespace Dl
open PySem PySem.Spec PyProof.Rows

def optI : Option Int → PyData
  | some n => .int n
  | none => .none
theorem each_all {β : Type} {g : WG} {t : WS} {k : Ken} (en : β → PyData) (xs : List β) (J : Ev → Prop) (fin : ∀ e, J e → k.nx e)
    (step : ∀ n ∈ xs, ∀ e (R : Ev → Prop), J e → (∀ e2, J e2 → R e2) → g (en n) e (fun e1 => t e1 { k with nx := R, ct := R, bk := k.nx })) :
    ∀ e, J e → wEach g t (xs.map en) e k :=
  each_find en xs (fun _ => false) J (fun e h _ => fin e h) fun n hn e R h _ ih => step n hn e R h (ih rfl)
theorem lc_fl {β : Type} {vs : List Nat} {g : WG} {ct : WT} {we : WE} {K : Ev → List PyData → Prop} {env : Ev} (en : β → PyData) (p : β → Bool) (xs : List β) (hl : xs.length ≤ 100000)
    (h : ∀ c ∈ xs, ∀ (A : PyData → Ev → Prop) (N : Ev → Prop), (if p c = true then A (en c) env else N env) → g (en c) env (fun e1 => ct e1 (fun e2 b => if b = true then wFz we e2 (fun e3 y => A y (wipeE e3 vs)) NoX else N (wipeE e2 vs)) NoX))
    (hK : K env ((xs.filter p).map en)) : wLcE vs g ct we (xs.map en) [] env K := by
  refine lc_fm en (fun c => if p c = true then some (en c) else none) xs [] (fun c hn A N hA => h c hn A N ?_) (small100000 (by rw [List.length_nil]; omega)) ?_
  · generalize p c = z at *
    cases z with
    | true => exact hA
    | false => exact hA
  · have e : xs.filterMap (fun c => if p c = true then some (en c) else none) = (xs.filter p).map en := by
      clear hK h hl
      induction xs with
      | nil => rfl
      | cons x xs ih =>
        rw [List.filterMap_cons, List.filter_cons]
        cases hx : p x with
        | true =>
          simp only [if_true, List.map_cons]
          rw [ih]
        | false =>
          simp only [Bool.false_eq_true, if_false]
          rw [ih]
    rw [List.nil_append, e]
    exact hK


end Dl
end L2

/-! The plain half, 20: clocks mirrored, stretched; numbers; what rings. -/
namespace L2
namespace Dl
open PySem PySem.Spec PyProof.Rows
end Dl
end L2

/-! The plain half, 21: what is a clock; where two meet, by looking. -/
namespace L2
namespace Dl
open PySem PySem.Spec PyProof.Rows
theorem Meets.mod {c d : Int × Int} {x : Int} : Meets c d (x % lcm2 c d) ↔ Meets c d x := by
  unfold Meets
  rw [Rg.mod (lcm2_l c d), Rg.mod (lcm2_r c d)]
end Dl
end L2

/-! The plain half, 22: clocks good or not, told by anybody. -/
namespace L2
namespace Dl
open PySem PySem.Spec PyProof.Rows
/-- all([p(x) for x in xs]) -/
theorem lc_p {vs : List Nat} {g : WG} {we : WE} {K : Ev → List PyData → Prop} {env : Ev} {xs : List PyData} (p : PyData → Bool) (h : ∀ x ∈ xs, ∀ (A : PyData → Ev → Prop), A (.bool (p x)) env → g x env (fun e1 => wFz we e1 (fun e3 y => A y (wipeE e3 vs)) NoX))
    (hl : xs.length ≤ 100000) (hK : K env ((xs.map p).map .bool)) : wLcE vs g wYes we xs [] env K := by
  have := lc_map (vs := vs) (g := g) (we := we) (K := K) (env := env) (fun d => d) (fun d => .bool (p d)) xs h (small100000 hl) (by rw [List.map_map] at hK; exact hK)
  rwa [List.map_id'] at this
theorem all_map_id {α : Type} (p : α → Bool) (xs : List α) : (xs.map p).all id = xs.all p := by
  rw [List.all_map]
  rfl


end Dl
end L2

/-! The plain half, 23: papers of cases. -/
namespace L2
namespace Dl
open PySem PySem.Spec PyProof.Rows
/-- set rests, None where none is -/
abbrev kps (ks : List (Option Int)) : List PyData := ks.map optI
def fr (ks : List (Option Int)) (i : Nat) : Bool := match ks[i]? with
  | some none => true
  | _ => false
/-- the places of those not set, below m -/
def freeU (ks : List (Option Int)) (m : Nat) : List Nat := (List.range m).filter (fr ks)
abbrev freeI (ks : List (Option Int)) : List Nat := freeU ks ks.length
theorem cut_toN {α : Type} (xs : List α) (m : Nat) : cutD xs none (some (m : Int)) = xs.take m := by
  unfold cutD
  rw [HT.sIx_none, HT.sIx_nat, List.drop_zero, Nat.sub_zero, List.take_eq_take_iff]
  omega
end Dl
end L2

/-! The plain half, 24: comprehensions that draw. -/
namespace L2
namespace Dl
open PySem PySem.Spec PyProof.Rows
end Dl
end L2

/-! The plain half, 25: steps, and rests that cover. -/
namespace L2
namespace Dl
open PySem PySem.Spec PyProof.Rows
def st0 (ns : List Int) : List (Int × Int) := ns.map fun s => (s, 0)
def stp : PyData → Bool
  | .int s => decide (2 ≤ s) && decide (s ≤ 24)
  | _ => false
def stB : PyData → Bool
  | .list xs => decide (1 ≤ xs.length) && (decide (xs.length ≤ 6) && xs.all stp)
  | _ => false
theorem stB_at (xs : List PyData) : stB (.list xs) = (decide (1 ≤ xs.length) && (decide (xs.length ≤ 6) && xs.all stp)) := rfl
theorem stB_ints {ns : List Int} (h1 : 1 ≤ ns.length) (h6 : ns.length ≤ 6) (hs : ∀ s ∈ ns, 2 ≤ s ∧ s ≤ 24) : stB (.list (ns.map .int)) = true := by
  rw [stB_at, List.length_map, decide_eq_true h1, decide_eq_true h6, Bool.true_and, Bool.true_and, List.all_map, List.all_eq_true]
  intro s h
  have := hs s h
  show (decide (2 ≤ s) && decide (s ≤ 24)) = true
  rw [decide_eq_true this.1, decide_eq_true this.2]
  rfl
/-- what steps are refused, and what is told of the others -/
def StK (d : PyData) (X : Prop) (K : List Int → Prop) : Prop := (stB d = false → X) ∧ ∀ ns : List Int, d = .list (ns.map .int) → 1 ≤ ns.length → ns.length ≤ 6 → (∀ s ∈ ns, 2 ≤ s ∧ s ≤ 24) → K ns
end Dl
end L2

/-! The plain half, 26: rests found and not found; papers of cases. -/
namespace L2
namespace Dl
open PySem PySem.Spec PyProof.Rows
/-! ### papers of cases -/
theorem enD_rg (xs : List PyData) (d : PyData) : enD xs = (List.range xs.length).map fun (i : Nat) => PyData.tuple [.int (i : Int), xs.getD i d] := by
  refine List.ext_getElem (by rw [enD_len, List.length_map, List.length_range]) fun i h1 h2 => ?_
  rw [enD_len] at h1
  have := enD_at (List.getElem?_eq_getElem h1)
  rw [List.getElem_map, List.getElem_range, List.getD_eq_getElem?_getD, List.getElem?_eq_getElem h1]
  rw [List.getElem?_eq_getElem (by rw [enD_len]; exact h1)] at this
  exact Option.some.inj this
end Dl
end L2

/-! The plain half, 27: marks. -/
namespace L2
namespace Dl
open PySem PySem.Spec PyProof.Rows
def rp : Int × PyData → Bool
  | (s, .int r) => decide (0 ≤ r) && decide (r < s)
  | _ => false
end Dl
end L2

/-! The plain half, 28: all rests, counted. -/
namespace L2
namespace Dl
open PySem PySem.Spec PyProof.Rows
/-- a for, by what it has gone over -/
theorem each_pre {β : Type} {g : WG} {t : WS} {k : Ken} (en : β → PyData) (all : List β) (J : List β → Ev → Prop) (fin : ∀ e, J all e → k.nx e)
    (step : ∀ (pre : List β) (x : β) (post : List β), all = pre ++ x :: post → ∀ e (R : Ev → Prop), J pre e → (∀ e2, J (pre ++ [x]) e2 → R e2) → g (en x) e (fun e1 => t e1 { k with nx := R, ct := R, bk := k.nx })) (e : Ev) (h : J [] e) : wEach g t (all.map en) e k := by
  have gen : ∀ (post pre : List β) (e : Ev), all = pre ++ post → J pre e → wEach g t (post.map en) e k := by
    intro post
    induction post with
    | nil =>
      intro pre e he hJ
      rw [List.append_nil] at he
      subst he
      exact fin e hJ
    | cons x post ih =>
      intro pre e he hJ
      exact step pre x post he e _ hJ fun e2 h2 => ih (pre ++ [x]) e2 (by rw [he, List.append_assoc]; rfl) h2
  exact gen all [] e rfl h
abbrev nats (ms : List Nat) : List PyData := ms.map fun (m : Nat) => PyData.int (m : Int)
theorem StK.good {ns : List Int} {X : Prop} {K : List Int → Prop} (h1 : 1 ≤ ns.length) (h6 : ns.length ≤ 6) (hs : ∀ s ∈ ns, 2 ≤ s ∧ s ≤ 24) (k : K ns) : StK (.list (ns.map .int)) X K := by
  refine ⟨fun h => ?_, fun ms e _ _ _ => ?_⟩
  · rw [stB_ints h1 h6 hs] at h
    cases h
  · have e2 : ns = ms := ints_inj (PyData.list.inj e)
    rw [← e2]
    exact k
end Dl
end L2

/-! The plain half, 29: the law's own look at rests. -/
namespace L2
namespace Dl
open PySem PySem.Spec PyProof.Rows

theorem rnd_c (f : Int) (c : Int × Int) (cs : List (Int × Int)) : rnd f (c :: cs) = rnd (f * c.1 / (Int.gcd f c.1 : Nat)) cs := rfl
end Dl
end L2

/-! The plain half, 30: clocks split; split papers. -/
namespace L2
namespace Dl
open PySem PySem.Spec PyProof.Rows
local macro_rules | `(tactic| dsimp? [$xs,*] $[$l]?) => `(tactic| simp only [wSeq, wNext, wBreak, wCont, wDrop, wRet, wRetN, wIfS, wSet, wAsgT, e_aug, e_setIx, e_par, e_gN, getS_0, getS_s, setS_0, setS_s, e_var, varK_v, varK_o, varK_u, wC, wBin, rdK_v, rdK_t, rdK_s, rdS_v, rdS_o, rdS_u, fzK_v, fzK_t, fzK_s, fzS_v, fzS_o, fzS_l, fzS_u, e_fz, asg_v, asg_t, asg_s, e_tb, tbK_b, wAnd, wOr, wNot, e_notV, e_andV, e_orV, wBV, wIf, e_neg, intK_i, e_oso, wONo, e_rng1, e_rng2, wFNil, wFCons, wANil, wACons, wTup, wLst, e_callB, rdAllK_n, rdAllK_c, wIsi, e_call, wMNil, wMCons, e_ld, lnsOf, avsK_n, avsK_f, avsK_l, lnS_o, lnS_v, lnS_u, poK_n, poK_c, poS_o, inS_0, inS_s, rsK_v, rsK_o, wSl, e_ownF, e_own0, ownB_o, oS_o, oS_v, oS_u, agS_i, muApp, oAdd_i, oAdd_l, oAdd_t, oAdd_s, oSub_i, oMul_i, oFdiv_i, oMod_i, oPow_i, oShl_i, oShr_i, oOr_i, oAndB_i, oLt_i, oLe_i, oGt_i, oGe_i, oEq_i, oNe_i, oEq, oNe, oIx_l, oIx_t, oLen_l, oLen_t, oInt_i, oInt_b, oMax_i, oMin_i, oList_l, oList_t, oTuple_l, oTuple_t, oSorted_l, oSorted_t, oIs_n, oIsN_n, oIs_b, oIsN_b, isNone_n, isNone_t, isNone_l, isNone_i, isNone_s, isNone_b, oSl_l, oSl_t, oIn, gT_t, gC_c, gNil', e_iseq, sqK_l, sqK_t, e_isq, sq2K_l, sq2K_t, e_sset, ssK_l, ssK_t, e_chain, e_lr1, e_lr2, wRev, rvD_l, rvD_t, e_in1, e_in2, negB_f, negB_t, wIZip, zpK_m, e_extend, extR_t, wYes, startEv, kenD_nx, kenD_rt, kenD_bk, kenD_ct, kenD_ex, outK_n, outK_c, otS_o, rvK_v, rvK_t, rvK_s, rvS_v, rvS_o, slOf, lsFrom, wipeE, restE, List.map_cons, List.map_nil, List.length_cons, List.length_nil, List.replicate, List.append_nil, List.cons_append, List.nil_append, List.getElem?_cons_zero, List.getElem?_cons_succ, List.getElem?_nil, List.set_cons_zero, List.set_cons_succ, List.set_nil, Option.getD_some, Option.getD_none, Option.map_some, Option.map_none, Option.some.injEq, Rs.val.injEq, Rs.tmp.injEq, Rs.slot.injEq, Sl.own.injEq, Sl.val.injEq, PyData.int.injEq, PyData.bool.injEq, PyData.str.injEq, PyData.list.injEq, PyData.tuple.injEq, Prod.mk.injEq, Nat.sub_self, Nat.zero_add, Nat.reduceAdd, Nat.reduceSub, Nat.add_zero, isTy_int_int, isTy_bool_int, isTy_int_bool, isTy_bool_bool, isTy_int_tup, isTy_int_lst, isTy_int_non, isTy_int_str, isTy_tup_tup, isTy_tup_lst, isTy_tup_int, isTy_tup_bool, isTy_tup_non, isTy_tup_str, isTy_lst_lst, isTy_lst_tup, isTy_lst_int, exists_eq_left', exists_eq_left, exists_and_left, exists_eq_right, exists_eq, exists_eq', exists_const, true_and, and_true, and_self, Bool.not_true, Bool.not_false, if_true, if_false, Bool.false_eq_true, reduceIte, reduceCtorEq, List.nodup_nil, decide_eq_true_eq, atI_0, atI_1, atI_2, atI_3, atI_4, atI_5, atI_6, atI_7, atI_8, atI_9, atI_10, atI_11, ixN_3_0, ixN_3_1, ixN_3_2, sh_int, sh_bool, sh_non, and_assoc, nd1, nd_true, eq_self, decide_true, decide_false, Int.cast_ofNat_Int, not_true_eq_false, not_false_eq_true, eqv_ii, eqv_bb, wRaise0, e_raiseG, grK_i, e_raise1, onK_i, e_callX, xa_1, xa_2, xa_3, xa_4, xa_5, xa_6, xa_7, e_many, e_most, e_number, e_row, isLst_l, lsK_l, e_rd, e_br, brS_o, brS_v, arS_o, arS_v, avbK_n, avbK_f, avbK_l, scK_b, scK_i, scK_n, scK_s, e_callS, tmK_t, e_rep, enK_l, e_ienum, wTry, eqv_ss, tpK_v, txK_1, tutK_t, e_repT, e_callT, enTK_t, e_ienumT, r3K_i, e_rng3, dcS_d, dcB_d, tkK_m, tkK_2, zlK_c, $xs,*] $[$l]?)
def prts (c : Int × Int) (k : Nat) : List (Int × Int) := (List.range k).map fun (i : Nat) => (c.1 * k, c.2 + c.1 * i)
theorem prts_len (c : Int × Int) (k : Nat) : (prts c k).length = k := by unfold prts; rw [List.length_map, List.length_range]
theorem prts_cks (c : Int × Int) (k : Nat) : ((List.range k).map fun (i : Nat) => PyData.tuple [.int (c.1 * (k : Int)), .int (c.2 + c.1 * (i : Int))]) = cks (prts c k) := by
  unfold prts cks
  rw [List.map_map]
  rfl
def sp_parts_of : Spc := fun avs Kr Kx => match avs with
  | [.val (.tuple [.int s, .int r]), .val (.int k)] => ∃ n : Nat, k = (n : Int) ∧ n ≤ 100000 ∧ s.natAbs < 2 ^ 8000 ∧ Kr [] (.own (cks (prts (s, r) n)))
  | _ => False
def w_parts_of_C1 : WE :=
  wLc [2] (wIRng1 (wVar 1)) (gN 2) wYes (wTup (wFCons (wBin oMul (wBin oIx (wVar 0) (wC (.int 0))) (wVar 1)) (wFCons (wBin oAdd (wBin oIx (wVar 0) (wC (.int 1))) (wBin oMul (wBin oIx (wVar 0) (wC (.int 0))) (wVar 2))) wFNil)))
/-- parts_of: 0 clock, 1 k, 2 part -/
def w_parts_of : WS :=
  (wRet w_parts_of_C1)

theorem vc_parts_of : ∀ avs Kr Kx, avs.length = 2 → sp_parts_of avs Kr Kx → lsFrom 0 avs = [] ∧ w_parts_of (startEv 3 avs) (kenD [] Kr Kx) := by
  intro avs Kr Kx hl h
  unfold sp_parts_of at h
  split at h
  · rename_i s r k
    obtain ⟨n, rfl, hn, hs, q⟩ := h
    refine ⟨rfl, ?_⟩
    dsimp? [w_parts_of, w_parts_of_C1, wLc]
    refine ⟨by omega, by omega, ?_⟩
    rw [Int.toNat_natCast]
    refine lc_map (fun (i : Nat) => PyData.int (i : Int)) (fun i => .tuple [.int (s * (n : Int)), .int (r + s * (i : Int))]) (List.range n) (fun i hi A hA => ?_) (small100000 (by rw [List.length_range]; omega)) ?_
    · have hi := List.mem_range.mp hi
      dsimp? []
      exact ⟨mulx_ok (a := 8000) (b := 60) hs (by omega) (by decide), mulx_ok (a := 8000) (b := 60) hs (by omega) (by decide), by decide, hA⟩
    · rw [prts_cks (s, r) n]
      exact q
  · exact h.elim
def sp__law_parts : Spc := fun avs Kr Kx => match avs with
  | [.val (.tuple [.int s, .int r]), .val (.int k)] => ∃ n : Nat, k = (n : Int) ∧ n ≤ 100000 ∧ s.natAbs < 2 ^ 8000 ∧ Kr [] (.own (cks (prts (s, r) n)))
  | _ => False
def w__law_parts_C1 : WE :=
  wLc [2] (wIRng1 (wVar 1)) (gN 2) wYes (wTup (wFCons (wBin oMul (wBin oIx (wVar 0) (wC (.int 0))) (wVar 1)) (wFCons (wBin oAdd (wBin oIx (wVar 0) (wC (.int 1))) (wBin oMul (wBin oIx (wVar 0) (wC (.int 0))) (wVar 2))) wFNil)))
/-- _law_parts: 0 clock, 1 k, 2 part -/
def w__law_parts : WS :=
  (wRet w__law_parts_C1)

theorem vc__law_parts : ∀ avs Kr Kx, avs.length = 2 → sp__law_parts avs Kr Kx → lsFrom 0 avs = [] ∧ w__law_parts (startEv 3 avs) (kenD [] Kr Kx) := by
  intro avs Kr Kx hl h
  unfold sp__law_parts at h
  split at h
  · rename_i s r k
    obtain ⟨n, rfl, hn, hs, q⟩ := h
    refine ⟨rfl, ?_⟩
    dsimp? [w__law_parts, w__law_parts_C1, wLc]
    refine ⟨by omega, by omega, ?_⟩
    rw [Int.toNat_natCast]
    refine lc_map (fun (i : Nat) => PyData.int (i : Int)) (fun i => .tuple [.int (s * (n : Int)), .int (r + s * (i : Int))]) (List.range n) (fun i hi A hA => ?_) (small100000 (by rw [List.length_range]; omega)) ?_
    · have hi := List.mem_range.mp hi
      dsimp? []
      exact ⟨mulx_ok (a := 8000) (b := 60) hs (by omega) (by decide), mulx_ok (a := 8000) (b := 60) hs (by omega) (by decide), by decide, hA⟩
    · rw [prts_cks (s, r) n]
      exact q
  · exact h.elim
/-- no deeper than n, no wider than 8 -/
def SpN : Nat → PyData → Prop
  | 0, _ => False
  | n + 1, d => ∀ k ps, d = .tuple [k, .tuple ps] → ps.length ≤ 8 ∧ ∀ p ∈ ps, SpN n p
def pgB : Nat → PyData → Bool
  | 0, _ => false
  | _ + 1, .none => true
  | n + 1, .tuple [.int k, .tuple ps] => decide (2 ≤ k) && (decide ((ps.length : Int) = k) && ps.all (pgB n))
  | _ + 1, _ => false
theorem pgB_at (n : Nat) (k : Int) (ps : List PyData) : pgB (n + 1) (.tuple [.int k, .tuple ps]) = (decide (2 ≤ k) && (decide ((ps.length : Int) = k) && ps.all (pgB n))) := rfl
theorem pgB_no {n : Nat} {d : PyData} (h0 : d ≠ .none) (h : ∀ k ps, d ≠ .tuple [.int k, .tuple ps]) : pgB (n + 1) d = false := by
  unfold pgB
  split
  · rename_i e; cases e
  · exact (h0 rfl).elim
  · exact (h _ _ rfl).elim
  · rfl
def spA_paper_good (n : Nat) : Spc := fun avs Kr Kx => match avs with
  | [.val d] => ∃ m, m ≤ n ∧ SpN (m + 1) d ∧ Kr [] (.val (.bool (pgB (m + 1) d)))
  | _ => False
def sp_paper_good : Nat → Spc
  | 0 => fun _ _ _ => False
  | n + 1 => spA_paper_good n
def w_paper_good_C1 (n : Nat) : WE :=
  wLc [1] (wISeq (wBin oIx (wVar 0) (wC (.int 1)))) (gN 1) wYes (wCall 1 (sp_paper_good n) (wMCons (wVar 1) wMNil))
/-- paper_good: 0 thing, 1 paper -/
def w_paper_good (n : Nat) : WS :=
  (wSeq (wIfS (wTB (wBin oIs (wVar 0) (wC .none))) (wRet (wC (.bool true))) wNext)
    (wSeq (wIfS (wOr (wNot (wTB (wIsi "tuple" (wVar 0)))) (wOr (wTB (wBin oNe (wCallB oLen (wACons (wVar 0) wANil)) (wC (.int 2)))) (wOr (wNot (wTB (wCall 1 sp_is_whole (wMCons (wBin oIx (wVar 0) (wC (.int 0))) wMNil)))) (wTB (wBin oLt (wBin oIx (wVar 0) (wC (.int 0))) (wC (.int 2))))))) (wRet (wC (.bool false))) wNext)
    (wSeq (wIfS (wOr (wNot (wTB (wIsi "tuple" (wBin oIx (wVar 0) (wC (.int 1)))))) (wTB (wBin oNe (wCallB oLen (wACons (wBin oIx (wVar 0) (wC (.int 1))) wANil)) (wBin oIx (wVar 0) (wC (.int 0)))))) (wRet (wC (.bool false))) wNext)
    (wRet (wCallB oAll (wACons ((w_paper_good_C1 n)) wANil))))))

theorem vc_paper_good : ∀ n avs Kr Kx, avs.length = 1 → sp_paper_good (n + 1) avs Kr Kx → lsFrom 0 avs = [] ∧ w_paper_good n (startEv 2 avs) (kenD [] Kr Kx) := by
  intro n avs Kr Kx hl h
  replace h : spA_paper_good n avs Kr Kx := h
  unfold spA_paper_good at h
  split at h
  · rename_i d
    obtain ⟨m, hmn, hd, q⟩ := h
    refine ⟨rfl, ?_⟩
    have no : d ≠ .none → (∀ k ps, d ≠ .tuple [.int k, .tuple ps]) → Kr [] (.val (.bool false)) := fun h0 h => by
      rw [pgB_no h0 h] at q
      exact q
    unfold w_paper_good
    refine seq_cut fun R hR => ?_
    cases d with
    | none => dsimp? []; exact q
    | tuple xs =>
      dsimp? []
      refine hR _ ?_
      refine seq_cut fun R hR => ?_
      match xs, hd, q, no with
      | [], _, _, no => dsimp? []; rw [if_pos (by decide)]; exact no (fun h => by cases h) fun _ _ h => by cases h
      | [a], _, _, no => dsimp? []; rw [if_pos (by decide)]; exact no (fun h => by cases h) fun _ _ h => by cases h
      | a :: b :: c :: l, _, _, no => dsimp? []; rw [if_pos (by omega)]; exact no (fun h => by cases h) fun _ _ h => by cases h
      | [a, b], hd, q, no =>
        dsimp? [sp_is_whole]
        by_cases ha : isI a = true
        · obtain ⟨k, rfl⟩ := isI_int ha
          dsimp? [isI]
          cases b with
          | tuple ps =>
            rw [pgB_at] at q
            obtain ⟨h8, hps⟩ := hd _ _ rfl
            split
            · rename_i hk
              rw [decide_eq_false (show ¬ (2 : Int) ≤ k by omega)] at q
              exact q
            · rename_i hk
              rw [decide_eq_true (show (2 : Int) ≤ k by omega), Bool.true_and] at q
              refine hR _ ?_
              refine seq_cut fun R hR => ?_
              dsimp? []
              by_cases hl : (ps.length : Int) = k
              · rw [if_neg (fun h => h hl)]
                rw [decide_eq_true hl, Bool.true_and] at q
                refine hR _ ?_
                dsimp? [w_paper_good_C1, wLc]
                refine lc_p (pgB m) (fun p hp A hA => ?_) (by omega) ?_
                · obtain ⟨m', rfl⟩ : ∃ m', m = m' + 1 := ⟨m - 1, by
                    have := hps p hp
                    cases m with
                    | zero => exact this.elim
                    | succ m => omega⟩
                  obtain ⟨n', rfl⟩ : ∃ n', n = n' + 1 := ⟨n - 1, by omega⟩
                  dsimp? [sp_paper_good, spA_paper_good]
                  exact ⟨m', by omega, hps p hp, hA⟩
                · dsimp? [oAll]
                  refine ⟨ps.map (pgB m), by rw [List.map_map], ?_⟩
                  rw [all_map_id]
                  exact q
              · rw [if_pos hl]
                rw [decide_eq_false hl] at q
                exact q
          | _ =>
            have nn := no (fun h => by cases h) fun _ _ h => by cases h
            split
            · exact nn
            · refine hR _ ?_
              refine seq_cut fun R hR => ?_
              dsimp? [isTy, tyN]
              exact nn
        · have e : isI a = false := eq_false_of_ne_true ha
          rw [e]
          dsimp? []
          exact no (fun h => by cases h) fun _ _ h => by cases h; exact ha rfl
    | _ => dsimp? [isTy, tyN]; refine hR _ ?_; refine seq_cut fun R hR => ?_; dsimp? [isTy, tyN]; exact no (fun h => by cases h) fun _ _ h => by cases h
  · exact h.elim

def mdF : Nat → Int × Int → PyData → List (Int × Int)
  | 0, c, _ => [c]
  | n + 1, c, .tuple [.int _, .tuple ps] => ((prts c ps.length).zip ps).flatMap fun p => mdF n p.1 p.2
  | _ + 1, c, _ => [c]
theorem mdF_at (n : Nat) (c : Int × Int) (k : Int) (ps : List PyData) : mdF (n + 1) c (.tuple [.int k, .tuple ps]) = ((prts c ps.length).zip ps).flatMap fun p => mdF n p.1 p.2 := rfl
theorem mdF_none (n : Nat) (c : Int × Int) : mdF (n + 1) c .none = [c] := rfl
theorem pgB_inv {n : Nat} {d : PyData} (h : pgB (n + 1) d = true) : d = .none ∨ ∃ ps : List PyData, d = .tuple [.int (ps.length : Int), .tuple ps] ∧ 2 ≤ ps.length ∧ ∀ p ∈ ps, pgB n p = true := by
  unfold pgB at h
  split at h
  · rename_i e; cases e
  · exact .inl rfl
  · rename_i m k ps e
    cases e
    rw [Bool.and_eq_true, Bool.and_eq_true, decide_eq_true_iff, decide_eq_true_iff, List.all_eq_true] at h
    obtain ⟨h1, h2, h3⟩ := h
    subst h2
    exact .inr ⟨ps, rfl, by omega, h3⟩
  · cases h
theorem zip_cd (cs : List (Int × Int)) (ps : List PyData) : zipD (cks cs) ps = (cs.zip ps).map fun p => PyData.tuple [ck p.1, p.2] := by
  unfold zipD cks
  rw [List.zip_map_left, List.map_map]
  rfl
theorem mem_prts {c d : Int × Int} {k : Nat} (h : d ∈ prts c k) : ∃ i : Nat, i < k ∧ d = (c.1 * k, c.2 + c.1 * i) := by
  unfold prts at h
  obtain ⟨i, hi, rfl⟩ := List.mem_map.mp h
  exact ⟨i, List.mem_range.mp hi, rfl⟩
/-- a clock that may be split n times by 8 -/
def Spl (n : Nat) (c : Int × Int) : Prop := 1 ≤ c.1 ∧ 0 ≤ c.2 ∧ c.2 < c.1 ∧ c.1 * 8 ^ n < 2 ^ 60
theorem spl_prts {n k : Nat} {c d : Int × Int} (hc : Spl (n + 1) c) (hk : k ≤ 8) (h : d ∈ prts c k) : Spl n d := by
  obtain ⟨i, hi, rfl⟩ := mem_prts h
  obtain ⟨h1, h2, h3, h4⟩ := hc
  have e1 : c.1 * 8 ^ (n + 1) = c.1 * 8 * 8 ^ n := by rw [Int.pow_succ, Int.mul_comm ((8 : Int) ^ n) 8, ← Int.mul_assoc]
  have p8 : (0 : Int) < 8 ^ n := Int.pow_pos (by decide)
  have l1 : c.1 * (k : Int) ≤ c.1 * 8 := Int.mul_le_mul_of_nonneg_left (by omega) (by omega)
  have l2 : c.1 * (k : Int) * 8 ^ n ≤ c.1 * 8 * 8 ^ n := Int.mul_le_mul_of_nonneg_right l1 (by omega)
  have l3 : c.1 * ((i : Int) + 1) ≤ c.1 * (k : Int) := Int.mul_le_mul_of_nonneg_left (by omega) (by omega)
  have l4 : 0 ≤ c.1 * (i : Int) := Int.mul_nonneg (by omega) (by omega)
  rw [Int.mul_add, Int.mul_one] at l3
  unfold Spl
  simp only
  refine ⟨by omega, by omega, by omega, by omega⟩
theorem Spl.nab {n : Nat} {c : Int × Int} (h : Spl n c) : c.1.natAbs < 2 ^ 60 := by
  obtain ⟨h1, _, _, h4⟩ := h
  have p8 : (1 : Int) ≤ 8 ^ n := Int.pow_pos (by decide)
  have := Int.mul_le_mul_of_nonneg_left p8 (show 0 ≤ c.1 by omega)
  omega
theorem mdF_or (n : Nat) (c : Int × Int) (d : PyData) : (∃ k ps, d = .tuple [.int k, .tuple ps]) ∨ mdF (n + 1) c d = [c] := by
  unfold mdF
  split
  · rename_i e; cases e
  · exact .inl ⟨_, _, rfl⟩
  · exact .inr rfl
theorem mdF_len : ∀ (n : Nat) (c : Int × Int) (d : PyData), SpN n d → (mdF n c d).length ≤ 8 ^ n
  | 0, _, _, h => h.elim
  | n + 1, c, d, h => by
    have one : (1 : Nat) ≤ 8 ^ (n + 1) := Nat.one_le_pow _ _ (by decide)
    rcases mdF_or n c d with ⟨k, ps, rfl⟩ | e
    · rw [mdF_at]
      obtain ⟨h8, hps⟩ := h _ _ rfl
      have g : ∀ (l : List ((Int × Int) × PyData)), (∀ p ∈ l, p.2 ∈ ps) → (l.flatMap fun p => mdF n p.1 p.2).length ≤ l.length * 8 ^ n := by
        intro l
        induction l with
        | nil => intro _; exact Nat.zero_le _
        | cons p l ih =>
          intro hl
          have a := mdF_len n p.1 p.2 (hps _ (hl p List.mem_cons_self))
          have b := ih fun q hq => hl q (List.mem_cons_of_mem _ hq)
          rw [List.flatMap_cons, List.length_append, List.length_cons, Nat.succ_mul]
          omega
      have a := g ((prts c ps.length).zip ps) fun p hp => (List.of_mem_zip (show (p.1, p.2) ∈ _ from hp)).2
      have b : ((prts c ps.length).zip ps).length ≤ 8 := by rw [List.length_zip]; omega
      have c2 := Nat.mul_le_mul_right (8 ^ n) b
      rw [Nat.pow_succ, Nat.mul_comm (8 ^ n) 8]
      omega
    · rw [e]
      exact one
def spA_made_of (n : Nat) : Spc := fun avs Kr Kx => match avs with
  | [.val (.tuple [.int s, .int r]), .val d] => ∃ m, m ≤ n ∧ m ≤ 7 ∧ Spl (m + 1) (s, r) ∧ SpN (m + 1) d ∧ pgB (m + 1) d = true ∧ Kr [] (.own (cks (mdF (m + 1) (s, r) d)))
  | _ => False
def sp_made_of : Nat → Spc
  | 0 => fun _ _ _ => False
  | n + 1 => spA_made_of n
def w_made_of_B1 (n : Nat) : WS :=
  (wDrop (wExtend 2 (wCall 2 (sp_made_of n) (wMCons (wVar 3) (wMCons (wVar 4) wMNil)))))
def w_made_of_L1 (n : Nat) : WS :=
  wFor (wIZip (wFCons (wCall 2 sp_parts_of (wMCons (wVar 0) (wMCons (wBin oIx (wVar 1) (wC (.int 0))) wMNil))) (wFCons (wBin oIx (wVar 1) (wC (.int 1))) wFNil))) (gT 2 (gCons' (gN 3) (gCons' (gN 4) gNil'))) (w_made_of_B1 n)
def w_made_of_R1 (n : Nat) : WS :=
  (wRet (wVar 2))
/-- made_of: 0 clock, 1 paper, 2 found, 3 part, 4 own -/
def w_made_of (n : Nat) : WS :=
  (wSeq (wIfS (wTB (wBin oIs (wVar 1) (wC .none))) (wRet (wLst (wFCons (wVar 0) wFNil))) wNext)
    (wSeq (wSet 2 (wLst wFNil))
    (wSeq (w_made_of_L1 n)
    (w_made_of_R1 n))))

theorem vc_made_of : ∀ n avs Kr Kx, avs.length = 2 → sp_made_of (n + 1) avs Kr Kx → lsFrom 0 avs = [] ∧ w_made_of n (startEv 5 avs) (kenD [] Kr Kx) := by
  intro n avs Kr Kx hl h
  replace h : spA_made_of n avs Kr Kx := h
  unfold spA_made_of at h
  split at h
  · rename_i s r d
    obtain ⟨m, hmn, h7, hc, hd, hg, q⟩ := h
    refine ⟨rfl, ?_⟩
    unfold w_made_of
    refine seq_cut fun R hR => ?_
    rcases pgB_inv hg with rfl | ⟨ps, rfl, h2, hps⟩
    · rw [mdF_none] at q
      dsimp? []
      exact ⟨by decide, q⟩
    · rw [mdF_at] at q
      obtain ⟨h8, hsp⟩ := hd _ _ rfl
      dsimp? []
      refine hR _ ?_
      refine seq_cut fun R hR => ?_
      dsimp? []
      refine ⟨by decide, hR _ ?_⟩
      refine seq_cut fun R hR => ?_
      dsimp? [w_made_of_L1, wFor, sp_parts_of]
      have nb := hc.nab
      simp only at nb
      refine ⟨ps.length, rfl, by omega, Nat.lt_of_lt_of_le nb (Nat.pow_le_pow_right (by decide) (by decide)), ?_⟩
      rw [zip_cd]
      refine each_pre (fun (p : (Int × Int) × PyData) => PyData.tuple [ck p.1, p.2]) ((prts (s, r) ps.length).zip ps) (fun pre e => ∃ x3 x4, e = [.val (.tuple [.int s, .int r]), .val (.tuple [.int (ps.length : Int), .tuple ps]), .own false (cks (pre.flatMap fun p => mdF m p.1 p.2)), x3, x4]) ?_ ?_ _ ⟨_, _, rfl⟩
      · rintro e ⟨x3, x4, rfl⟩
        refine hR _ ?_
        dsimp? [w_made_of_R1]
        exact q
      · rintro pre ⟨c, p⟩ post he e R9 ⟨x3, x4, rfl⟩ ih
        have hm : (c, p) ∈ (prts (s, r) ps.length).zip ps := by rw [he]; exact List.mem_append_right _ List.mem_cons_self
        obtain ⟨m1, m2⟩ := List.of_mem_zip hm
        have sp := spl_prts hc h8 m1
        obtain ⟨m', rfl⟩ : ∃ m', m = m' + 1 := ⟨m - 1, by
          have := hsp p m2
          cases m with
          | zero => exact this.elim
          | succ m => omega⟩
        obtain ⟨n', rfl⟩ : ∃ n', n = n' + 1 := ⟨n - 1, by omega⟩
        obtain ⟨cs, cr⟩ := c
        have tot := mdF_len (m' + 1 + 1) (s, r) _ hd
        rw [mdF_at, he, List.flatMap_append, List.flatMap_cons, List.length_append, List.length_append] at tot
        have tot2 : (8 : Nat) ^ (m' + 1 + 1) ≤ 8 ^ 8 := Nat.pow_le_pow_right (by decide) (by omega)
        have tot3 : (8 : Nat) ^ 8 = sizeLine := by rw [sizeLine_eq]
        simp only at tot
        have e1 : cks (pre.flatMap fun p => mdF (m' + 1) p.1 p.2) ++ cks (mdF (m' + 1) (cs, cr) p) = cks ((pre ++ [((cs, cr), p)]).flatMap fun p => mdF (m' + 1) p.1 p.2) := by
          rw [List.flatMap_append, List.flatMap_cons, List.flatMap_nil, List.append_nil, cks_app]
        dsimp? [w_made_of_B1, ck, sp_made_of, spA_made_of]
        refine ⟨m', by omega, by omega, sp, hsp p m2, hps p m2, by rw [List.length_map, List.length_map]; omega, ?_⟩
        rw [e1]
        exact ih _ ⟨_, _, rfl⟩
  · exact h.elim

theorem SpN.up : ∀ {n : Nat} {d : PyData}, SpN n d → SpN (n + 1) d
  | 0, _, h => h.elim
  | n + 1, d, h => fun k ps e => ⟨(h k ps e).1, fun p hp => ((h k ps e).2 p hp).up⟩
theorem SpN.mono {m n : Nat} {d : PyData} (h : SpN m d) (hm : m ≤ n) : SpN n d := by
  induction n with
  | zero =>
    have : m = 0 := by omega
    subst this
    exact h
  | succ n ih =>
    by_cases e : m = n + 1
    · subst e
      exact h
    · exact (ih (by omega)).up
def PpN : Nat → PyData → Prop
  | 0, d => d = .none
  | n + 1, d => d = .none ∨ ∃ ps : List PyData, d = .tuple [.int (ps.length : Int), .tuple ps] ∧ 2 ≤ ps.length ∧ ps.length ≤ 7 ∧ ∀ p ∈ ps, PpN n p
theorem PpN.sp : ∀ {n : Nat} {d : PyData}, PpN n d → SpN (n + 1) d
  | 0, d, h => fun k ps e => by
    have h : d = .none := h
    subst h
    cases e
  | n + 1, d, h => fun k ps e => by
    rcases h with rfl | ⟨qs, rfl, h2, h7, hq⟩
    · cases e
    · cases e
      exact ⟨by omega, fun p hp => (hq p hp).sp⟩
theorem PpN.pg : ∀ {n : Nat} {d : PyData}, PpN n d → pgB (n + 1) d = true
  | 0, d, h => by
    have h : d = .none := h
    subst h
    rfl
  | n + 1, d, h => by
    rcases h with rfl | ⟨qs, rfl, h2, h7, hq⟩
    · rfl
    · rw [pgB_at, decide_eq_true (show (2 : Int) ≤ (qs.length : Int) by omega), decide_eq_true rfl, Bool.true_and, Bool.true_and, List.all_eq_true]
      exact fun p hp => (hq p hp).pg
theorem spl_one {m : Nat} (h : m ≤ 7) : Spl (m + 1) (1, 0) := by
  have e : (8 : Int) ^ (m + 1) ≤ 8 ^ 8 := by
    have : (8 : Nat) ^ (m + 1) ≤ 8 ^ 8 := Nat.pow_le_pow_right (by decide) (by omega)
    exact_mod_cast this
  refine ⟨by decide, by decide, by decide, ?_⟩
  rw [Int.one_mul]
  exact Int.lt_of_le_of_lt e (by decide)
end Dl
end L2

/-! The plain half, 31: split papers by least primes. -/
namespace L2
namespace Dl
open PySem PySem.Spec PyProof.Rows
local macro_rules | `(tactic| dsimp? [$xs,*] $[$l]?) => `(tactic| simp only [wSeq, wNext, wBreak, wCont, wDrop, wRet, wRetN, wIfS, wSet, wAsgT, e_aug, e_setIx, e_par, e_gN, getS_0, getS_s, setS_0, setS_s, e_var, varK_v, varK_o, varK_u, wC, wBin, rdK_v, rdK_t, rdK_s, rdS_v, rdS_o, rdS_u, fzK_v, fzK_t, fzK_s, fzS_v, fzS_o, fzS_l, fzS_u, e_fz, asg_v, asg_t, asg_s, e_tb, tbK_b, wAnd, wOr, wNot, e_notV, e_andV, e_orV, wBV, wIf, e_neg, intK_i, e_oso, wONo, e_rng1, e_rng2, wFNil, wFCons, wANil, wACons, wTup, wLst, e_callB, rdAllK_n, rdAllK_c, wIsi, e_call, wMNil, wMCons, e_ld, lnsOf, avsK_n, avsK_f, avsK_l, lnS_o, lnS_v, lnS_u, poK_n, poK_c, poS_o, inS_0, inS_s, rsK_v, rsK_o, wSl, e_ownF, e_own0, ownB_o, oS_o, oS_v, oS_u, agS_i, muApp, oAdd_i, oAdd_l, oAdd_t, oAdd_s, oSub_i, oMul_i, oFdiv_i, oMod_i, oPow_i, oShl_i, oShr_i, oOr_i, oAndB_i, oLt_i, oLe_i, oGt_i, oGe_i, oEq_i, oNe_i, oEq, oNe, oIx_l, oIx_t, oLen_l, oLen_t, oInt_i, oInt_b, oMax_i, oMin_i, oList_l, oList_t, oTuple_l, oTuple_t, oSorted_l, oSorted_t, oIs_n, oIsN_n, oIs_b, oIsN_b, isNone_n, isNone_t, isNone_l, isNone_i, isNone_s, isNone_b, oSl_l, oSl_t, oIn, gT_t, gC_c, gNil', e_iseq, sqK_l, sqK_t, e_isq, sq2K_l, sq2K_t, e_sset, ssK_l, ssK_t, e_chain, e_lr1, e_lr2, wRev, rvD_l, rvD_t, e_in1, e_in2, negB_f, negB_t, wIZip, zpK_m, e_extend, extR_t, wYes, startEv, kenD_nx, kenD_rt, kenD_bk, kenD_ct, kenD_ex, outK_n, outK_c, otS_o, rvK_v, rvK_t, rvK_s, rvS_v, rvS_o, slOf, lsFrom, wipeE, restE, List.map_cons, List.map_nil, List.length_cons, List.length_nil, List.replicate, List.append_nil, List.cons_append, List.nil_append, List.getElem?_cons_zero, List.getElem?_cons_succ, List.getElem?_nil, List.set_cons_zero, List.set_cons_succ, List.set_nil, Option.getD_some, Option.getD_none, Option.map_some, Option.map_none, Option.some.injEq, Rs.val.injEq, Rs.tmp.injEq, Rs.slot.injEq, Sl.own.injEq, Sl.val.injEq, PyData.int.injEq, PyData.bool.injEq, PyData.str.injEq, PyData.list.injEq, PyData.tuple.injEq, Prod.mk.injEq, Nat.sub_self, Nat.zero_add, Nat.reduceAdd, Nat.reduceSub, Nat.add_zero, isTy_int_int, isTy_bool_int, isTy_int_bool, isTy_bool_bool, isTy_int_tup, isTy_int_lst, isTy_int_non, isTy_int_str, isTy_tup_tup, isTy_tup_lst, isTy_tup_int, isTy_tup_bool, isTy_tup_non, isTy_tup_str, isTy_lst_lst, isTy_lst_tup, isTy_lst_int, exists_eq_left', exists_eq_left, exists_and_left, exists_eq_right, exists_eq, exists_eq', exists_const, true_and, and_true, and_self, Bool.not_true, Bool.not_false, if_true, if_false, Bool.false_eq_true, reduceIte, reduceCtorEq, List.nodup_nil, decide_eq_true_eq, atI_0, atI_1, atI_2, atI_3, atI_4, atI_5, atI_6, atI_7, atI_8, atI_9, atI_10, atI_11, ixN_3_0, ixN_3_1, ixN_3_2, sh_int, sh_bool, sh_non, and_assoc, nd1, nd_true, eq_self, decide_true, decide_false, Int.cast_ofNat_Int, not_true_eq_false, not_false_eq_true, eqv_ii, eqv_bb, wRaise0, e_raiseG, grK_i, e_raise1, onK_i, e_callX, xa_1, xa_2, xa_3, xa_4, xa_5, xa_6, xa_7, e_many, e_most, e_number, e_row, isLst_l, lsK_l, e_rd, e_br, brS_o, brS_v, arS_o, arS_v, avbK_n, avbK_f, avbK_l, scK_b, scK_i, scK_n, scK_s, e_callS, tmK_t, e_rep, enK_l, e_ienum, wTry, eqv_ss, tpK_v, txK_1, tutK_t, e_repT, e_callT, enTK_t, e_ienumT, r3K_i, e_rng3, dcS_d, dcB_d, tkK_m, tkK_2, zlK_c, $xs,*] $[$l]?)
def dvA (c : Int × Int) (cs : List (Int × Int)) (k : Nat) : Bool := cs.all fun d => decide (d.1 / c.1 % (k : Int) = 0)
def lpF (c : Int × Int) (cs : List (Int × Int)) : Option Nat := (List.range' 2 999).find? (dvA c cs)
/-- the steps are multiples of the clock's -/
def Mul (c : Int × Int) (cs : List (Int × Int)) : Prop := 1 ≤ c.1 ∧ (0 ≤ c.2 ∧ c.2 < c.1) ∧ (∀ d ∈ cs, CkOk 1000 d) ∧ ∀ d ∈ cs, c.1 ∣ d.1
theorem mul_dv {c : Int × Int} {cs : List (Int × Int)} (h : Mul c cs) {k : Nat} (hk : dvA c cs k = true) : ∀ d ∈ cs, c.1 * (k : Int) ∣ d.1 ∧ (k : Int) ≤ d.1 / c.1 := fun d hd => by
  have e := of_decide_eq_true (List.all_eq_true.mp hk d hd)
  obtain ⟨j, hj⟩ := Int.dvd_of_emod_eq_zero e
  obtain ⟨i, hi⟩ := h.2.2.2 d hd
  have c1 := h.1
  have d1 := (h.2.2.1 d hd).1
  rw [hi, Int.mul_ediv_cancel_left _ (by omega)] at hj
  refine ⟨⟨j, by rw [hi, hj, Int.mul_assoc]⟩, ?_⟩
  rw [hi, Int.mul_ediv_cancel_left _ (by omega)]
  have ip : 0 < i := by
    rcases Int.lt_or_le 0 i with z | z
    · exact z
    · have := Int.mul_nonpos_of_nonneg_of_nonpos (show 0 ≤ c.1 by omega) z
      omega
  exact Int.le_of_dvd ip ⟨j, hj⟩
/-- the same, by going less far -/
theorem lp_to {c : Int × Int} {cs : List (Int × Int)} {m : Nat} (hm : m ≤ 999) (h : ∀ k : Nat, 2 ≤ k → k ≤ 1000 → dvA c cs k = true → k < 2 + m) : (List.range' 2 m).find? (dvA c cs) = lpF c cs := by
  unfold lpF
  have e : List.range' 2 999 = List.range' 2 m ++ List.range' (2 + m) (999 - m) := by
    rw [List.range'_append_1]
    congr 1
    omega
  rw [e, List.find?_append]
  cases (List.range' 2 m).find? (dvA c cs) with
  | some k => rfl
  | none =>
    rw [Option.none_or]
    symm
    rw [List.find?_eq_none]
    intro k hk hd
    have := List.mem_range'_1.mp hk
    have := h k (by omega) (by omega) hd
    omega
theorem lp_some {c : Int × Int} {cs : List (Int × Int)} {k : Nat} (h : lpF c cs = some k) : 2 ≤ k ∧ k ≤ 1000 ∧ dvA c cs k = true := by
  have h1 := List.find?_some h
  have h2 := List.mem_range'_1.mp (List.mem_of_find?_eq_some h)
  exact ⟨h2.1, by omega, h1⟩
def lpD (c : Int × Int) (cs : List (Int × Int)) : PyData := match lpF c cs with
  | some k => .int (k : Int)
  | none => .none
/-- for k in range(2, ..) with a return -/
theorem each_first {sl : Nat} {t : WS} {k : Ken} {m : Nat} (p : Nat → Bool) (J : Ev → Prop) (fin : ∀ e, J e → (List.range' 2 m).find? p = none → k.nx e)
    (step : ∀ i ∈ List.range' 2 m, ∀ e (R : Ev → Prop), J e → (p i = true → (List.range' 2 m).find? p = some i) → (p i = false → ∀ e2, J e2 → R e2) → t (e.set sl (.val (.int (i : Int)))) { k with nx := R, ct := R, bk := k.nx }) (e : Ev) (h : J e) :
    wEach (gN sl) t ((List.range m).map fun (i : Nat) => PyData.int (2 + (i : Int))) e k := by
  have e1 : (List.range m).map (fun (i : Nat) => PyData.int (2 + (i : Int))) = (List.range' 2 m).map fun (i : Nat) => PyData.int (i : Int) := by
    rw [List.range'_eq_map_range, List.map_map]
    refine List.map_congr_left fun i _ => ?_
    show PyData.int (2 + (i : Int)) = .int ((2 + i : Nat) : Int)
    rw [Int.natCast_add]
    rfl
  rw [e1]
  exact each_find (fun (i : Nat) => PyData.int (i : Int)) (List.range' 2 m) p J fin step e h
def sp_least_prime : Spc := fun avs Kr Kx => match avs with
  | [.val (.tuple [.int s, .int r]), .val d] => ∃ cs, (d = .tuple (cks cs) ∨ d = .list (cks cs)) ∧ cs.length ≤ 1000 ∧ cs ≠ [] ∧ Mul (s, r) cs ∧ Kr [] (.val (lpD (s, r) cs))
  | _ => False
def w_least_prime_C1 : WE :=
  wLc [3, 4] (wISeq (wVar 1)) (gT 2 (gCons' (gN 3) (gCons' (gN 4) gNil'))) wYes (wVar 3)
def w_least_prime_C2 : WE :=
  wLc [3, 4] (wISeq (wVar 1)) (gT 2 (gCons' (gN 3) (gCons' (gN 4) gNil'))) wYes (wBin oEq (wBin oMod (wBin oFdiv (wVar 3) (wBin oIx (wVar 0) (wC (.int 0)))) (wVar 2)) (wC (.int 0)))
def w_least_prime_B1 : WS :=
  (wIfS (wTB (wCallB oAll (wACons w_least_prime_C2 wANil))) (wRet (wVar 2)) wNext)
def w_least_prime_L1 : WS :=
  wFor (wIRng2 (wC (.int 2)) (wBin oAdd (wBin oFdiv (wCallB oMax (wACons w_least_prime_C1 wANil)) (wBin oIx (wVar 0) (wC (.int 0)))) (wC (.int 1)))) (gN 2) w_least_prime_B1
def w_least_prime_R1 : WS :=
  (wRet (wC .none))
/-- least_prime: 0 clock, 1 clocks, 2 k, 3 step, 4 rest -/
def w_least_prime : WS :=
  (wSeq w_least_prime_L1
    w_least_prime_R1)

theorem vc_least_prime : ∀ avs Kr Kx, avs.length = 2 → sp_least_prime avs Kr Kx → lsFrom 0 avs = [] ∧ w_least_prime (startEv 5 avs) (kenD [] Kr Kx) := by
  intro avs Kr Kx hl h
  unfold sp_least_prime at h
  split at h
  · rename_i s r d
    obtain ⟨cs, hd, hl, hne, hm, q⟩ := h
    refine ⟨rfl, ?_⟩
    have s1 : 1 ≤ s := hm.1
    unfold w_least_prime
    refine seq_cut fun R hR => ?_
    have items : ∀ (K : List PyData → Prop), K (cks cs) → sqK d K := fun K h => by
      rcases hd with rfl | rfl
      · rw [sqK_t]; exact h
      · rw [sqK_l]; exact h
    dsimp? [w_least_prime_L1, wFor, w_least_prime_C1, wLc]
    refine items _ ?_
    refine lc_map ck (fun c => .int c.1) cs (fun c hc A hA => ?_) (small100000 (by omega)) ?_
    · dsimp? [ck]
      exact hA
    have e1 : (cs.map fun c => PyData.int c.1) = (cs.map (·.1)).map .int := by rw [List.map_map]; rfl
    have lp : 0 < cs.length := List.length_pos_iff.mpr hne
    rw [e1]
    dsimp? [oMax]
    refine ⟨cs.map (·.1), rfl, by rw [List.length_map]; omega, fun mx hmx hub => ?_⟩
    have hmx2 : mx ≤ 1000 := by
      obtain ⟨c, hc, rfl⟩ := List.mem_map.mp hmx
      exact (hm.2.2.1 c hc).2.1
    have hmx1 : 1 ≤ mx := by
      obtain ⟨c, hc, rfl⟩ := List.mem_map.mp hmx
      exact (hm.2.2.1 c hc).1
    have dv1 : mx / s ≤ mx := Int.ediv_le_self _ (by omega)
    have dv0 : 0 ≤ mx / s := Int.ediv_nonneg (by omega) (by omega)
    have s1000 : s ≤ 1000 := by
      obtain ⟨c, hc, rfl⟩ := List.mem_map.mp hmx
      have := Int.le_of_dvd (by omega) (hm.2.2.2 c hc)
      simp only at this
      omega
    have far : ∀ k : Nat, 2 ≤ k → k ≤ 1000 → dvA (s, r) cs k = true → k < 2 + (mx / s + 1 - 2).toNat := fun k k2 k3 hk => by
      obtain ⟨c, hc, rfl⟩ := List.mem_map.mp hmx
      have := (mul_dv hm hk c hc).2
      simp only at this
      omega
    have lpe := lp_to (m := (mx / s + 1 - 2).toNat) (by omega) far
    dsimp? []
    refine ⟨s1, log_small s1 (by omega), by omega, by omega, by omega, by omega, ?_⟩
    refine each_first (dvA (s, r) cs) (fun e => ∃ x2, e = [.val (.tuple [.int s, .int r]), .val d, x2, .un, .un]) ?_ ?_ _ ⟨_, rfl⟩
    · rintro e ⟨x2, rfl⟩ hf
      rw [lpe] at hf
      unfold lpD at q
      rw [hf] at q
      refine hR _ ?_
      dsimp? [w_least_prime_R1]
      exact q
    · rintro k hk e R9 ⟨x2, rfl⟩ hf ih
      have hk2 := List.mem_range'_1.mp hk
      dsimp? [w_least_prime_B1, w_least_prime_C2, wLc]
      refine items _ ?_
      refine lc_map ck (fun c => .bool (decide (c.1 / s % (k : Int) = 0))) cs (fun c hc A hA => ?_) (small100000 (by omega)) ?_
      · dsimp? [ck]
        exact ⟨s1, log_small s1 (by omega), by omega, hA⟩
      dsimp? [oAll]
      refine ⟨cs.map fun c => decide (c.1 / s % (k : Int) = 0), by rw [List.map_map]; rfl, ?_⟩
      rw [List.all_map, show cs.all (id ∘ fun c => decide (c.1 / s % (k : Int) = 0)) = dvA (s, r) cs k from rfl]
      cases hd2 : dvA (s, r) cs k with
      | false => exact ih hd2 _ ⟨_, rfl⟩
      | true =>
        have hf := hf hd2
        rw [lpe] at hf
        unfold lpD at q
        rw [hf] at q
        exact q
  · exact h.elim

/-- the papers (one or none) by least primes -/
def ppF : Nat → Int × Int → List (Int × Int) → List PyData
  | 0, _, _ => []
  | n + 1, c, cs => if cs = [c] then [.none] else if cs = [] ∨ c ∈ cs then [] else
    match lpF c cs with
    | none => []
    | some k => if (((prts c k).flatMap fun p => ppF n p (cs.filter fun d => inB d p)).length < k) then [] else [.tuple [.int (k : Int), .tuple ((prts c k).flatMap fun p => ppF n p (cs.filter fun d => inB d p))]]
theorem ppF_le : ∀ (n : Nat) (c : Int × Int) (cs : List (Int × Int)), (ppF n c cs).length ≤ 1
  | 0, _, _ => Nat.zero_le _
  | n + 1, c, cs => by
    unfold ppF
    split
    · exact Nat.le_refl _
    · split
      · exact Nat.zero_le _
      · split
        · exact Nat.zero_le _
        · split
          · exact Nat.zero_le _
          · exact Nat.le_refl _
theorem fm_le {α β : Type} (f : α → List β) (h : ∀ x, (f x).length ≤ 1) : ∀ xs : List α, (xs.flatMap f).length ≤ xs.length
  | [] => Nat.le_refl _
  | x :: xs => by
    have a := h x
    have b := fm_le f h xs
    rw [List.flatMap_cons, List.length_append, List.length_cons]
    omega
/-- a paper that may be told -/
def QpN : Nat → PyData → Prop
  | 0, _ => False
  | n + 1, d => d = .none ∨ ∃ (k : Int) (ps : List PyData), d = .tuple [.int k, .tuple ps] ∧ ps.length ≤ 1000 ∧ ∀ p ∈ ps, QpN n p
theorem QpN.shn : ∀ {n : Nat} {d : PyData}, QpN n d → ShN (2 * n) d
  | 0, _, h => h.elim
  | n + 1, d, h => by
    rcases h with rfl | ⟨k, ps, rfl, hl, hp⟩
    · exact ShN.none.mono (Nat.zero_le _)
    · have h1 : ShN (2 * n + 1) (.tuple ps) := ShN.tup fun p h => (hp p h).shn
      refine ShN.tup (n := 2 * n + 1) fun x hx => ?_
      simp only [List.mem_cons, List.not_mem_nil, or_false] at hx
      rcases hx with rfl | rfl
      · exact (ShN.int _).mono (Nat.zero_le _)
      · exact h1
theorem ppF_qp : ∀ (n : Nat) (c : Int × Int) (cs : List (Int × Int)), ∀ d ∈ ppF n c cs, QpN n d
  | 0, _, _, _, h => by cases h
  | n + 1, c, cs, d, h => by
    unfold ppF at h
    split at h
    · simp only [List.mem_singleton] at h
      exact .inl h
    · split at h
      · cases h
      · split at h
        · cases h
        · rename_i k hk
          split at h
          · cases h
          · simp only [List.mem_singleton] at h
            have k2 := lp_some hk
            refine .inr ⟨_, _, h, ?_, fun p hp => ?_⟩
            · have a := fm_le (fun p => ppF n p (cs.filter fun d => inB d p)) (fun p => ppF_le n _ _) (prts c k)
              rw [prts_len] at a
              omega
            · obtain ⟨q, _, hq⟩ := List.mem_flatMap.mp hp
              exact ppF_qp n _ _ p hq
theorem mul_prts {c p : Int × Int} {cs : List (Int × Int)} {k : Nat} (hm : Mul c cs) (hk : dvA c cs k = true) (hne : cs ≠ []) (hk2 : 2 ≤ k) (hp : p ∈ prts c k) : Mul p (cs.filter fun d => inB d p) ∧ p.1 = c.1 * k ∧ p.1 ≤ 1000 := by
  obtain ⟨i, hi, rfl⟩ := mem_prts hp
  have c1 := hm.1
  have l4 : 0 ≤ c.1 * (i : Int) := Int.mul_nonneg (by omega) (by omega)
  have l5 : c.1 * ((i : Int) + 1) ≤ c.1 * (k : Int) := Int.mul_le_mul_of_nonneg_left (by omega) (by omega)
  rw [Int.mul_add, Int.mul_one] at l5
  obtain ⟨d, hd⟩ := List.exists_mem_of_ne_nil cs hne
  have hd1 := hm.2.2.1 d hd
  have := Int.le_of_dvd (by have := hd1.1; omega) (mul_dv hm hk d hd).1
  have d2 := hd1.2.1
  refine ⟨⟨by simp only; omega, by simp only; have := hm.2.1; omega, fun d hd => hm.2.2.1 d (List.mem_filter.mp hd).1, fun d hd => ?_⟩, rfl, by simp only; omega⟩
  exact (mul_dv hm hk d (List.mem_filter.mp hd).1).1
theorem eqv_lck (cs : List (Int × Int)) (s r : Int) : PyData.eqv (.list (cks cs)) (.list [.tuple [.int s, .int r]]) = decide (cs = [(s, r)]) := eqv_lcks cs [(s, r)]
theorem any_ck (cs : List (Int × Int)) (s r : Int) : ((cks cs).any fun z => PyData.eqv z (.tuple [.int s, .int r])) = decide ((s, r) ∈ cs) := by
  rw [List.any_map, Bool.eq_iff_iff, List.any_eq_true, decide_eq_true_iff]
  constructor
  · rintro ⟨c, hc, e⟩
    have e : PyData.eqv (ck c) (ck (s, r)) = true := e
    rw [eqv_ck, decide_eq_true_iff] at e
    subst e
    exact hc
  · intro h
    refine ⟨(s, r), h, ?_⟩
    show PyData.eqv (ck (s, r)) (ck (s, r)) = true
    rw [eqv_ck, decide_eq_true_iff]
def PpK (n : Nat) (c : Int × Int) (cs : List (Int × Int)) : Prop := cs.length ≤ 1000 ∧ Mul c cs ∧ c.1 ≤ 1000 ∧ 1000 < c.1 * 2 ^ n
def spA_paper_for (n : Nat) : Spc := fun avs Kr Kx => match avs with
  | [.val (.tuple [.int s, .int r]), .val d] => ∃ cs, (d = .tuple (cks cs) ∨ d = .list (cks cs)) ∧ n ≤ 20 ∧ PpK n (s, r) cs ∧ Kr [] (.own (ppF (n + 1) (s, r) cs))
  | _ => False
def sp_paper_for : Nat → Spc
  | 0 => fun _ _ _ => False
  | n + 1 => spA_paper_for n
def w_paper_for_C1 (n : Nat) : WE :=
  wLc [5] (wISeq (wVar 1)) (gN 5) (wTB (wCall 2 sp_inside_of (wMCons (wVar 5) (wMCons (wVar 4) wMNil)))) (wVar 5)
def w_paper_for_B1 (n : Nat) : WS :=
  (wDrop (wExtend 3 (wCall 2 (sp_paper_for n) (wMCons (wVar 4) (wMCons ((w_paper_for_C1 n)) wMNil)))))
def w_paper_for_L1 (n : Nat) : WS :=
  wFor (wISeq (wCall 2 sp_parts_of (wMCons (wVar 0) (wMCons (wVar 2) wMNil)))) (gN 4) (w_paper_for_B1 n)
def w_paper_for_R1 (n : Nat) : WS :=
  (wSeq (wIfS (wTB (wBin oLt (wCallB oLen (wACons (wVar 3) wANil)) (wVar 2))) (wRet (wLst wFNil)) wNext)
    (wRet (wLst (wFCons (wTup (wFCons (wVar 2) (wFCons (wCallB oTuple (wACons (wVar 3) wANil)) wFNil))) wFNil))))
/-- paper_for: 0 clock, 1 clocks, 2 k, 3 papers, 4 part, 5 one -/
def w_paper_for (n : Nat) : WS :=
  (wSeq (wIfS (wTB (wBin oEq (wCallB oList (wACons (wVar 1) wANil)) (wLst (wFCons (wVar 0) wFNil)))) (wRet (wLst (wFCons (wC .none) wFNil))) wNext)
    (wSeq (wIfS (wOr (wTB (wBin oEq (wCallB oList (wACons (wVar 1) wANil)) (wLst wFNil))) (wTB (wBin (oIn false) (wVar 0) (wVar 1)))) (wRet (wLst wFNil)) wNext)
    (wSeq (wSet 2 (wCall 2 sp_least_prime (wMCons (wVar 0) (wMCons (wVar 1) wMNil))))
    (wSeq (wIfS (wTB (wBin oIs (wVar 2) (wC .none))) (wRet (wLst wFNil)) wNext)
    (wSeq (wSet 3 (wLst wFNil))
    (wSeq (w_paper_for_L1 n)
    (w_paper_for_R1 n)))))))

theorem vc_paper_for : ∀ n avs Kr Kx, avs.length = 2 → sp_paper_for (n + 1) avs Kr Kx → lsFrom 0 avs = [] ∧ w_paper_for n (startEv 6 avs) (kenD [] Kr Kx) := by
  intro n avs Kr Kx hl h
  replace h : spA_paper_for n avs Kr Kx := h
  unfold spA_paper_for at h
  split at h
  · rename_i s r d
    obtain ⟨cs, hd, h20, ⟨hl, hm, s1000, hn⟩, q⟩ := h
    refine ⟨rfl, ?_⟩
    have s1 : 1 ≤ s := hm.1
    have sz := sizeLine_eq
    unfold w_paper_for
    refine seq_cut fun R hR => ?_
    have items : ∀ (K : List PyData → Prop), K (cks cs) → sqK d K := fun K h => by
      rcases hd with rfl | rfl
      · rw [sqK_t]; exact h
      · rw [sqK_l]; exact h
    have lst : ∀ (K : Rs → Prop), K (.tmp (cks cs)) → oList [d] K := fun K h => by
      rcases hd with rfl | rfl
      · rw [oList_t]; exact h
      · rw [oList_l]; exact h
    have isin : ∀ (K : Rs → Prop), K (.val (.bool (decide ((s, r) ∈ cs)))) → oIn false (.tuple [.int s, .int r]) d K := fun K h => by
      have sh1 : SeqAt.shaped (.tuple [.int s, .int r]) = true := sh_ck (s, r)
      rcases hd with rfl | rfl
      · refine ⟨sh1, sh_tck _, ?_⟩
        rw [any_ck]
        exact h
      · refine ⟨sh1, sh_lck _, ?_⟩
        rw [any_ck]
        exact h
    dsimp? []
    refine lst _ ?_
    dsimp? []
    refine ⟨by decide, sh_lck _, sh_lck [(s, r)], ?_⟩
    rw [eqv_lck]
    unfold ppF at q
    split
    · rename_i h1
      rw [if_pos (of_decide_eq_true h1)] at q
      exact ⟨by decide, q⟩
    rename_i h1
    rw [if_neg (fun h => h1 (decide_eq_true h))] at q
    refine hR _ ?_
    refine seq_cut fun R hR => ?_
    have nil : (cs = [] ∨ (s, r) ∈ cs) → Kr [] (.own []) := fun h => by
      rw [if_pos h] at q
      exact q
    have main : cs ≠ [] → (s, r) ∉ cs → R [.val (.tuple [.int s, .int r]), .val d, .un, .un, .un, .un] := fun hne hni => by
      rw [if_neg (fun h => h.elim hne hni)] at q
      refine hR _ ?_
      refine seq_cut fun R hR => ?_
      dsimp? [sp_least_prime]
      refine ⟨cs, hd, hl, hne, hm, hR _ ?_⟩
      refine seq_cut fun R hR => ?_
      unfold lpD
      cases ho : lpF (s, r) cs with
      | none =>
        rw [ho] at q
        dsimp? []
        exact ⟨by decide, q⟩
      | some k =>
        rw [ho] at q
        simp only at q
        obtain ⟨k2, k3, kd⟩ := lp_some ho
        dsimp? []
        refine hR _ ?_
        refine seq_cut fun R hR => ?_
        dsimp? []
        refine ⟨by decide, hR _ ?_⟩
        refine seq_cut fun R hR => ?_
        dsimp? [w_paper_for_L1, wFor, sp_parts_of]
        refine ⟨k, rfl, by omega, Nat.lt_of_lt_of_le (by omega : s.natAbs < 2 ^ 60) (Nat.pow_le_pow_right (by decide) (by decide)), ?_⟩
        refine each_pre ck (prts (s, r) k) (fun pre e => ∃ x4, e = [.val (.tuple [.int s, .int r]), .val d, .val (.int (k : Int)), .own false (pre.flatMap fun p => ppF n p (cs.filter fun d => inB d p)), x4, .un]) ?_ ?_ _ ⟨_, rfl⟩
        · rintro e ⟨x4, rfl⟩
          refine hR _ ?_
          have fl := fm_le (fun p => ppF n p (cs.filter fun d => inB d p)) (fun p => ppF_le n _ _) (prts (s, r) k)
          rw [prts_len] at fl
          generalize (prts (s, r) k).flatMap (fun p => ppF n p (cs.filter fun d => inB d p)) = ps at *
          dsimp? [w_paper_for_R1]
          split
          · rename_i hlt
            rw [if_pos (by omega)] at q
            exact ⟨by decide, q⟩
          · rename_i hlt
            rw [if_neg (by omega)] at q
            exact ⟨by decide, by decide, q⟩
        · rintro pre p post he e R9 ⟨x4, rfl⟩ ih
          have hp : p ∈ prts (s, r) k := by rw [he]; exact List.mem_append_right _ List.mem_cons_self
          obtain ⟨m1, m2, m3⟩ := mul_prts hm kd hne k2 hp
          have pl : pre.length + 1 ≤ k := by rw [← prts_len (s, r) k, he, List.length_append, List.length_cons]; omega
          have fl := fm_le (fun p => ppF n p (cs.filter fun d => inB d p)) (fun p => ppF_le n _ _) pre
          obtain ⟨ps, pr⟩ := p
          have hlf := List.length_filter_le (fun d => inB d (ps, pr)) cs
          dsimp? [w_paper_for_B1, ck, w_paper_for_C1, wLc]
          refine items _ ?_
          refine lc_flt (fun d => inB d (ps, pr)) (by omega) (fun c hc A N hA => ?_) ?_
          · dsimp? [ck, sp_inside_of]
            refine ⟨by have := m1.1; simp only at this; omega, ?_⟩
            exact hA
          · obtain ⟨n', rfl⟩ : ∃ n', n = n' + 1 := ⟨n - 1, by
              cases n with
              | zero =>
                simp only [Int.pow_zero, Int.mul_one] at hn
                omega
              | succ n => omega⟩
            have hn2 : 1000 < ps * 2 ^ n' := by
              simp only at m2 hn
              rw [m2]
              rw [Int.pow_succ, Int.mul_comm ((2 : Int) ^ n') 2, ← Int.mul_assoc] at hn
              have p2 : (0 : Int) < 2 ^ n' := Int.pow_pos (by decide)
              have l1 : s * 2 ≤ s * (k : Int) := Int.mul_le_mul_of_nonneg_left (by omega) (by omega)
              have := Int.mul_le_mul_of_nonneg_right l1 (show (0 : Int) ≤ 2 ^ n' by omega)
              omega
            dsimp? [sp_paper_for, spA_paper_for]
            refine ⟨cs.filter fun d => inB d (ps, pr), .inr rfl, by omega, ⟨by omega, m1, m3, hn2⟩, ?_⟩
            have lp1 := ppF_le (n' + 1) (ps, pr) (cs.filter fun d => inB d (ps, pr))
            refine ⟨by omega, ?_⟩
            rw [show pre.flatMap (fun p => ppF (n' + 1) p (cs.filter fun d => inB d p)) ++ ppF (n' + 1) (ps, pr) (cs.filter fun d => inB d (ps, pr)) = (pre ++ [(ps, pr)]).flatMap (fun p => ppF (n' + 1) p (cs.filter fun d => inB d p)) by rw [List.flatMap_append, List.flatMap_cons, List.flatMap_nil, List.append_nil]]
            exact ih _ ⟨_, rfl⟩
    rcases hd with rfl | rfl
    all_goals
      dsimp? []
      refine ⟨by decide, sh_lck _, sh_lck [], ?_⟩
      rw [eqv_lnil, List.isEmpty_map]
      cases cs with
      | nil => exact ⟨by decide, nil (.inl rfl)⟩
      | cons c0 cs0 =>
        have sh1 : SeqAt.shaped (.tuple [.int s, .int r]) = true := sh_ck (s, r)
        have hne : c0 :: cs0 ≠ [] := List.cons_ne_nil _ _
        rw [if_neg (show ¬ (c0 :: cs0).isEmpty = true from Bool.false_ne_true)]
        generalize c0 :: cs0 = cs at *
        refine ⟨sh1, by first | exact sh_tck _ | exact sh_lck _, ?_⟩
        rw [any_ck]
        by_cases hin : (s, r) ∈ cs
        · rw [if_pos (decide_eq_true hin)]
          exact ⟨by decide, nil (.inr hin)⟩
        · rw [if_neg (fun h => hin (of_decide_eq_true h))]
          exact main hne hin
  · exact h.elim
def sp_split_paper : Spc := fun avs Kr Kx => match avs with
  | [.val (.tuple ds)] => ∃ cs, ds = cks cs ∧ cs.length ≤ 1000 ∧ (∀ c ∈ cs, CkOk 1000 c) ∧ Kr [] (.val ((ppF 12 (1, 0) cs).headD .none))
  | _ => False
/-- split_paper: 0 clocks, 1 found -/
def w_split_paper : WS :=
  (wSeq (wSet 1 (wCall 2 (sp_paper_for 12) (wMCons (wTup (wFCons (wC (.int 1)) (wFCons (wC (.int 0)) wFNil))) (wMCons (wVar 0) wMNil))))
    (wSeq (wIfS (wTB (wBin oEq (wVar 1) (wLst wFNil))) (wRet (wC .none)) wNext)
    (wRet (wBin oIx (wVar 1) (wC (.int 0))))))

theorem vc_split_paper : ∀ avs Kr Kx, avs.length = 1 → sp_split_paper avs Kr Kx → lsFrom 0 avs = [] ∧ w_split_paper (startEv 2 avs) (kenD [] Kr Kx) := by
  intro avs Kr Kx hl h
  unfold sp_split_paper at h
  split at h
  · rename_i ds
    obtain ⟨cs, rfl, hl, hc, q⟩ := h
    refine ⟨rfl, ?_⟩
    have pk : PpK 11 (1, 0) cs := ⟨hl, ⟨by decide, by decide, hc, fun d _ => Int.one_dvd _⟩, by decide, by decide⟩
    have shp : SeqAt.shaped (.list (ppF 12 (1, 0) cs)) = true := (ShN.lst (n := 24) fun d hd => (ppF_qp 12 _ _ d hd).shn).sh (by decide)
    have l1 := ppF_le 12 (1, 0) cs
    unfold w_split_paper
    refine seq_cut fun R hR => ?_
    dsimp? [sp_paper_for, spA_paper_for]
    refine ⟨by decide, cs, .inl rfl, by decide, pk, hR _ ?_⟩
    refine seq_cut fun R hR => ?_
    generalize ppF 12 (1, 0) cs = ps at *
    dsimp? []
    refine ⟨by decide, shp, sh_lin [], ?_⟩
    rw [eqv_lnil]
    cases ps with
    | nil => exact q
    | cons p ps =>
      rw [if_neg (show ¬ (p :: ps).isEmpty = true from Bool.false_ne_true)]
      refine hR _ ?_
      dsimp? []
      exact q
  · exact h.elim
end Dl
end L2

/-! The plain half, 33: cover papers looked at by anybody. -/
namespace L2
namespace Dl
open PySem PySem.Spec PyProof.Rows
/-- a clock that may be split n times by 24 -/
def SplW (n : Nat) (c : Int × Int) : Prop := 1 ≤ c.1 ∧ 0 ≤ c.2 ∧ c.2 < c.1 ∧ c.1 * 24 ^ n < 2 ^ 60
theorem SplW.nab {n : Nat} {c : Int × Int} (h : SplW n c) : c.1.natAbs < 2 ^ 60 := by
  obtain ⟨h1, _, _, h4⟩ := h
  have p8 : (1 : Int) ≤ 24 ^ n := Int.pow_pos (by decide)
  have := Int.mul_le_mul_of_nonneg_left p8 (show 0 ≤ c.1 by omega)
  omega
end Dl
end L2

/-! The plain half, 34: cover papers found. -/
namespace L2
namespace Dl
open PySem PySem.Spec PyProof.Rows

def Cov (cs : List (Int × Int)) : Prop := ∀ x : Int, ∃ d ∈ cs, Rg d x
theorem cov_ms {cs : List (Int × Int)} (hc : GC cs) (h : msF cs = []) : Cov cs := fun x => by
  have rp := hc.rp
  have m0 := Int.emod_nonneg x (show rnd 1 cs ≠ 0 by omega)
  have m1 := Int.emod_lt_of_pos x rp
  have hn : rgF cs (x % rnd 1 cs) ≠ [] := fun e => by
    have : x % rnd 1 cs ∈ msF cs := List.mem_filter.mpr ⟨rgI_mem.mpr ⟨m0, m1⟩, decide_eq_true e⟩
    rw [h] at this
    cases this
  obtain ⟨d, hd⟩ := List.exists_mem_of_ne_nil _ hn
  obtain ⟨hd1, hd2⟩ := List.mem_filter.mp hd
  have ok := hc.ok d hd1
  have := (Rg_mod ok.2.2.1 ok.2.2.2).mpr (of_decide_eq_true hd2)
  refine ⟨d, hd1, (Rg.mod ?_).mp this⟩
  exact (rnd_spec cs 1 (by decide) hc.one).2.2.1 d hd1
end Dl
end L2

/-! The plain half, 35: misses, tallies, exactness, splits. -/
namespace L2
namespace Dl
open PySem PySem.Spec PyProof.Rows
local macro_rules | `(tactic| dsimp? [$xs,*] $[$l]?) => `(tactic| simp only [wSeq, wNext, wBreak, wCont, wDrop, wRet, wRetN, wIfS, wSet, wAsgT, e_aug, e_setIx, e_par, e_gN, getS_0, getS_s, setS_0, setS_s, e_var, varK_v, varK_o, varK_u, wC, wBin, rdK_v, rdK_t, rdK_s, rdS_v, rdS_o, rdS_u, fzK_v, fzK_t, fzK_s, fzS_v, fzS_o, fzS_l, fzS_u, e_fz, asg_v, asg_t, asg_s, e_tb, tbK_b, wAnd, wOr, wNot, e_notV, e_andV, e_orV, wBV, wIf, e_neg, intK_i, e_oso, wONo, e_rng1, e_rng2, wFNil, wFCons, wANil, wACons, wTup, wLst, e_callB, rdAllK_n, rdAllK_c, wIsi, e_call, wMNil, wMCons, e_ld, lnsOf, avsK_n, avsK_f, avsK_l, lnS_o, lnS_v, lnS_u, poK_n, poK_c, poS_o, inS_0, inS_s, rsK_v, rsK_o, wSl, e_ownF, e_own0, ownB_o, oS_o, oS_v, oS_u, agS_i, muApp, oAdd_i, oAdd_l, oAdd_t, oAdd_s, oSub_i, oMul_i, oFdiv_i, oMod_i, oPow_i, oShl_i, oShr_i, oOr_i, oAndB_i, oLt_i, oLe_i, oGt_i, oGe_i, oEq_i, oNe_i, oEq, oNe, oIx_l, oIx_t, oLen_l, oLen_t, oInt_i, oInt_b, oMax_i, oMin_i, oList_l, oList_t, oTuple_l, oTuple_t, oSorted_l, oSorted_t, oIs_n, oIsN_n, oIs_b, oIsN_b, isNone_n, isNone_t, isNone_l, isNone_i, isNone_s, isNone_b, oSl_l, oSl_t, oIn, gT_t, gC_c, gNil', e_iseq, sqK_l, sqK_t, e_isq, sq2K_l, sq2K_t, e_sset, ssK_l, ssK_t, e_chain, e_lr1, e_lr2, wRev, rvD_l, rvD_t, e_in1, e_in2, negB_f, negB_t, wIZip, zpK_m, e_extend, extR_t, wYes, startEv, kenD_nx, kenD_rt, kenD_bk, kenD_ct, kenD_ex, outK_n, outK_c, otS_o, rvK_v, rvK_t, rvK_s, rvS_v, rvS_o, slOf, lsFrom, wipeE, restE, List.map_cons, List.map_nil, List.length_cons, List.length_nil, List.replicate, List.append_nil, List.cons_append, List.nil_append, List.getElem?_cons_zero, List.getElem?_cons_succ, List.getElem?_nil, List.set_cons_zero, List.set_cons_succ, List.set_nil, Option.getD_some, Option.getD_none, Option.map_some, Option.map_none, Option.some.injEq, Rs.val.injEq, Rs.tmp.injEq, Rs.slot.injEq, Sl.own.injEq, Sl.val.injEq, PyData.int.injEq, PyData.bool.injEq, PyData.str.injEq, PyData.list.injEq, PyData.tuple.injEq, Prod.mk.injEq, Nat.sub_self, Nat.zero_add, Nat.reduceAdd, Nat.reduceSub, Nat.add_zero, isTy_int_int, isTy_bool_int, isTy_int_bool, isTy_bool_bool, isTy_int_tup, isTy_int_lst, isTy_int_non, isTy_int_str, isTy_tup_tup, isTy_tup_lst, isTy_tup_int, isTy_tup_bool, isTy_tup_non, isTy_tup_str, isTy_lst_lst, isTy_lst_tup, isTy_lst_int, exists_eq_left', exists_eq_left, exists_and_left, exists_eq_right, exists_eq, exists_eq', exists_const, true_and, and_true, and_self, Bool.not_true, Bool.not_false, if_true, if_false, Bool.false_eq_true, reduceIte, reduceCtorEq, List.nodup_nil, decide_eq_true_eq, atI_0, atI_1, atI_2, atI_3, atI_4, atI_5, atI_6, atI_7, atI_8, atI_9, atI_10, atI_11, ixN_3_0, ixN_3_1, ixN_3_2, sh_int, sh_bool, sh_non, and_assoc, nd1, nd_true, eq_self, decide_true, decide_false, Int.cast_ofNat_Int, not_true_eq_false, not_false_eq_true, eqv_ii, eqv_bb, wRaise0, e_raiseG, grK_i, e_raise1, onK_i, e_callX, xa_1, xa_2, xa_3, xa_4, xa_5, xa_6, xa_7, e_many, e_most, e_number, e_row, isLst_l, lsK_l, e_rd, e_br, brS_o, brS_v, arS_o, arS_v, avbK_n, avbK_f, avbK_l, scK_b, scK_i, scK_n, scK_s, e_callS, tmK_t, e_rep, enK_l, e_ienum, wTry, eqv_ss, tpK_v, txK_1, tutK_t, e_repT, e_callT, enTK_t, e_ienumT, r3K_i, e_rng3, dcS_d, dcB_d, tkK_m, tkK_2, zlK_c, $xs,*] $[$l]?)
theorem cks_put (cs : List (Int × Int)) (a b : Int) : cks cs ++ [PyData.tuple [.int a, .int b]] = cks (cs ++ [(a, b)]) := by
  unfold cks
  rw [List.map_append]
  rfl
theorem GC.put {cs : List (Int × Int)} {c : Int × Int} (h : GC cs) (hl : cs.length ≤ 90) (hc : CkOk 1000 c) : GC (cs ++ [c]) := ⟨fun d hd => by
  rcases List.mem_append.mp hd with z | z
  · exact h.ok d z
  · simp only [List.mem_singleton] at z
    rw [z]
    exact hc, by rw [List.length_append, List.length_singleton]; omega⟩
def ExC (cs : List (Int × Int)) : Prop := sumS (rnd 1 cs) cs = rnd 1 cs ∧ ∀ (i j : Nat) ci cj x, i < j → cs[i]? = some ci → cs[j]? = some cj → ¬ Meets ci cj x
/-- exact -/
noncomputable def exB (cs : List (Int × Int)) : Bool := open Classical in decide (ExC cs)
theorem exB_iff {cs : List (Int × Int)} : exB cs = true ↔ ExC cs := by
  unfold exB
  exact @decide_eq_true_iff _ (Classical.propDecidable _)
theorem share_one {cs : List (Int × Int)} (hp : 0 < rnd 1 cs) : (sumS (rnd 1 cs) cs / topG cs = 1 ∧ rnd 1 cs / topG cs = 1) ↔ sumS (rnd 1 cs) cs = rnd 1 cs := by
  unfold topG
  generalize sumS (rnd 1 cs) cs = s
  generalize rnd 1 cs = m at *
  obtain ⟨a, ha⟩ := Int.gcd_dvd_left m s
  obtain ⟨b, hb⟩ := Int.gcd_dvd_right m s
  have g0 : (0 : Int) < (Int.gcd m s : Nat) := by
    have := Int.gcd_pos_of_ne_zero_left s (show m ≠ 0 by omega)
    omega
  constructor
  · rintro ⟨h1, h2⟩
    generalize ((Int.gcd m s : Nat) : Int) = g at *
    rw [hb, Int.mul_ediv_cancel_left _ (by omega)] at h1
    rw [ha, Int.mul_ediv_cancel_left _ (by omega)] at h2
    rw [ha, hb, h1, h2]
  · intro e
    subst e
    rw [Int.gcd_self]
    have : ((s.natAbs : Nat) : Int) = s := by omega
    rw [this, Int.ediv_self (by omega)]
    exact ⟨rfl, rfl⟩
theorem shn_pr (a b : Int) : ShN 1 (.tuple [.int a, .int b]) := ShN.ck (a, b)
theorem sh_pr (a b : Int) : SeqAt.shaped (.tuple [.int a, .int b]) = true := (shn_pr a b).sh (by decide)
theorem eqv_pr (a b : Int) : PyData.eqv (.tuple [.int a, .int b]) (.tuple [.int a, .int b]) = true := by
  have := eqv_ck (a, b) (a, b)
  rw [decide_eq_true rfl] at this
  exact this
theorem pr_eqv {a b c d : Int} (h : PyData.eqv (.tuple [.int a, .int b]) (.tuple [.int c, .int d]) = true) : a = c ∧ b = d := by
  have e : PyData.eqv (ck (a, b)) (ck (c, d)) = true := h
  rw [eqv_ck, decide_eq_true_iff] at e
  cases e
  exact ⟨rfl, rfl⟩
def sp_exact_good : Spc := fun avs Kr Kx => match avs with
  | [.val (.tuple ds)] => ∃ cs, ds = cks cs ∧ GC cs ∧ Kr [] (.val (.bool (exB cs)))
  | _ => False
/-- exact_good: 0 clocks -/
def w_exact_good : WS :=
  (wRet ((wAndV (wBin oEq (wCall 1 sp_shares_of (wMCons (wVar 0) wMNil)) (wTup (wFCons (wC (.int 1)) (wFCons (wC (.int 1)) wFNil)))) (wBin oIs (wCall 1 sp_clash_of (wMCons (wVar 0) wMNil)) (wC .none)))))

theorem vc_exact_good : ∀ avs Kr Kx, avs.length = 1 → sp_exact_good avs Kr Kx → lsFrom 0 avs = [] ∧ w_exact_good (startEv 1 avs) (kenD [] Kr Kx) := by
  intro avs Kr Kx hl h
  unfold sp_exact_good at h
  split at h
  · rename_i ds
    obtain ⟨cs, rfl, hc, q⟩ := h
    refine ⟨rfl, ?_⟩
    dsimp? [w_exact_good, sp_shares_of]
    refine hc.rok ?_
    have hl := hc.len
    refine ⟨by omega, by decide, sh_pr _ _, sh_pr _ _, ?_⟩
    by_cases hs : sumS (rnd 1 cs) cs = rnd 1 cs
    · have h1 := (share_one hc.rp).mpr hs
      rw [if_pos (by rw [h1.1, h1.2]; exact eqv_pr 1 1)]
      dsimp? [sp_clash_of]
      refine ⟨cs, rfl, fun c h => (hc.ok c h).b (by decide), by omega, fun hno => ?_, fun i j ci cj x h1 h2 h3 h4 _ _ _ => ?_⟩
      · rw [exB_iff.mpr ⟨hs, hno⟩] at q
        exact q
      · have e : exB cs = false := eq_false_of_ne_true fun h => (exB_iff.mp h).2 i j ci cj x h1 h2 h3 h4
        rw [e] at q
        exact q
    · have e : exB cs = false := eq_false_of_ne_true fun h => hs (exB_iff.mp h).1
      rw [e] at q
      rw [if_neg (fun h => hs ((share_one hc.rp).mp (pr_eqv h)))]
      exact q
  · exact h.elim
/-- put behind where not yet in -/
def addN (acc ps : List (Int × Int)) : List (Int × Int) := ps.foldl (fun acc p => if p ∈ acc then acc else acc ++ [p]) acc
theorem addN_cons (acc : List (Int × Int)) (p : Int × Int) (ps : List (Int × Int)) : addN acc (p :: ps) = addN (if p ∈ acc then acc else acc ++ [p]) ps := rfl
theorem mem_addN {c : Int × Int} : ∀ {ps acc : List (Int × Int)}, c ∈ addN acc ps ↔ c ∈ acc ∨ c ∈ ps
  | [], acc => by simp [addN]
  | p :: ps, acc => by
    rw [addN_cons, mem_addN]
    split
    · rename_i h
      rw [List.mem_cons]
      constructor
      · rintro (h1 | h1)
        · exact .inl h1
        · exact .inr (.inr h1)
      · rintro (h1 | h1 | h1)
        · exact .inl h1
        · subst h1; exact .inl h
        · exact .inr h1
    · rw [List.mem_append, List.mem_singleton, List.mem_cons, or_assoc]
theorem nodup_addN : ∀ {ps acc : List (Int × Int)}, acc.Nodup → (addN acc ps).Nodup
  | [], _, h => h
  | p :: ps, acc, h => by
    rw [addN_cons]
    refine nodup_addN ?_
    split
    · exact h
    · rename_i hn
      rw [List.nodup_append]
      refine ⟨h, by simp, fun x hx y hy e => ?_⟩
      simp only [List.mem_singleton] at hy
      subst hy
      subst e
      exact hn hx
theorem addN_len : ∀ (ps acc : List (Int × Int)), (addN acc ps).length ≤ acc.length + ps.length
  | [], acc => Nat.le_refl _
  | p :: ps, acc => by
    rw [addN_cons]
    have := addN_len ps (if p ∈ acc then acc else acc ++ [p])
    rw [List.length_cons]
    split at this
    · rename_i h; rw [if_pos h]; omega
    · rename_i h
      rw [if_neg h]
      rw [List.length_append, List.length_singleton] at this
      omega
/-- the clocks with the parts in the stead of the one at i -/
def spF (cs : List (Int × Int)) (i k : Nat) : List (Int × Int) := addN (cs.eraseIdx i) (prts (cs.getD i (0, 0)) k)
def sp_split_at : Spc := fun avs Kr Kx => match avs with
  | [.val (.tuple ds), .val p, .val (.int k)] => ∃ (cs : List (Int × Int)) (n : Nat), ds = cks cs ∧ k = (n : Int) ∧ n ≤ 1000 ∧ cs.length ≤ 1000 ∧ (∀ c ∈ cs, CkOk 1000 c) ∧ (∀ i : Nat, p = .int i → i < cs.length → ((spF cs i n).length ≤ 12 → (cs.getD i (0, 0)).1 * n ≤ 1000 → Kr [] (.val (.tuple (cks ((spF cs i n).mergeSort cle))))) ∧ (12 < (spF cs i n).length → False) ∧ ((spF cs i n).length ≤ 12 → 1000 < (cs.getD i (0, 0)).1 * n → False)) ∧ ((∀ i : Nat, i < cs.length → p ≠ .int i) → False)
  | _ => False
def w_split_at_B1 : WS :=
  (wIfS (wTB (wBin (oIn true) (wVar 4) (wVar 3))) (wDrop (wOwnF 3 (wVar 4) muApp)) wNext)
def w_split_at_L1 : WS :=
  wFor (wISeq (wCall 2 sp_parts_of (wMCons (wBin oIx (wVar 0) (wVar 1)) (wMCons (wVar 2) wMNil)))) (gN 4) w_split_at_B1
def w_split_at_R1 : WS :=
  (wSeq (wIfS (wTB (wBin oGt (wCallB oLen (wACons (wVar 3) wANil)) (wC (.int 12)))) wNever wNext)
    (wSeq (wIfS (wTB (wBin oGt (wBin oMul (wBin oIx (wBin oIx (wVar 0) (wVar 1)) (wC (.int 0))) (wVar 2)) (wC (.int 1000)))) wNever wNext)
    (wRet (wCallB oTuple (wACons (wCallB oSorted (wACons (wVar 3) wANil)) wANil)))))
/-- split_at: 0 clocks, 1 place, 2 k, 3 found, 4 part -/
def w_split_at : WS :=
  (wSeq (wIfS (wOr (wNot (wTB (wCall 1 sp_is_whole (wMCons (wVar 1) wMNil)))) (wOr (wTB (wBin oLt (wVar 1) (wC (.int 0)))) (wTB (wBin oGe (wVar 1) (wCallB oLen (wACons (wVar 0) wANil)))))) wNever wNext)
    (wSeq (wSet 3 (wCallB oList (wACons (wBin oAdd (wSl (wVar 0) wONo (wOSo (wVar 1))) (wSl (wVar 0) (wOSo (wBin oAdd (wVar 1) (wC (.int 1)))) wONo)) wANil)))
    (wSeq w_split_at_L1
    w_split_at_R1)))

theorem vc_split_at : ∀ avs Kr Kx, avs.length = 3 → sp_split_at avs Kr Kx → lsFrom 0 avs = [] ∧ w_split_at (startEv 5 avs) (kenD [] Kr Kx) := by
  intro avs Kr Kx hl h
  unfold sp_split_at at h
  split at h
  · rename_i ds p k
    obtain ⟨cs, n, rfl, rfl, hn, hl, hc, q1, q2⟩ := h
    refine ⟨rfl, ?_⟩
    unfold w_split_at
    refine seq_cut fun R hR => ?_
    have lc : (cks cs).length = cs.length := List.length_map _
    dsimp? [sp_is_whole, lc]
    by_cases hp : ∃ i : Nat, i < cs.length ∧ p = .int i
    · obtain ⟨i, hi, rfl⟩ := hp
      obtain ⟨r1, r2, r3⟩ := q1 i rfl hi
      clear q1 q2
      have hb := List.getElem?_eq_getElem hi
      have g := hc cs[i] (List.getElem_mem hi)
      have e0 : cs.getD i (0, 0) = cs[i] := by rw [List.getD_eq_getElem?_getD, hb]; rfl
      have e9 : spF cs i n = addN (cs.eraseIdx i) (prts cs[i] n) := by unfold spF; rw [e0]
      rw [e0] at r1 r3
      rw [e9] at r1 r2 r3
      generalize cs[i] = c at *
      have sz := sizeLine_eq
      have gi : (cks cs)[i]? = some (ck c) := by rw [cks, List.getElem?_map, hb]; rfl
      dsimp? [isI]
      rw [if_neg (by omega), if_neg (by omega)]
      refine hR _ ?_
      refine seq_cut fun R hR => ?_
      dsimp? []
      have ce : cutD (cks cs) none (some (i : Int)) ++ cutD (cks cs) (some ((i : Int) + 1)) none = cks (cs.eraseIdx i) := by
        rw [cut_toN, show ((i : Int) + 1) = ((i + 1 : Nat) : Int) by omega, cut_from (cks cs) (by omega), List.eraseIdx_eq_take_drop_succ]
        simp only [cks, List.map_append, List.map_take, List.map_drop]
      have el : (cks (cs.eraseIdx i)).length + 1 = cs.length := by
        rw [List.length_map, List.length_eraseIdx_of_lt hi]
        omega
      rw [ce]
      refine ⟨by have := congrArg List.length ce; rw [List.length_append] at this; omega, hR _ ?_⟩
      refine seq_cut fun R hR => ?_
      obtain ⟨c1, c2⟩ := c
      have nb : c1.natAbs < 2 ^ 60 := by
        have h1 := g.1
        have h2 := g.2.1
        simp only at h1 h2
        omega
      dsimp? [w_split_at_L1, wFor, atI_nat gi, ck, sp_parts_of]
      refine ⟨n, rfl, by omega, Nat.lt_of_lt_of_le nb (Nat.pow_le_pow_right (by decide) (by decide)), ?_⟩
      refine each_pre ck (prts (c1, c2) n) (fun pre e => ∃ x4, e = [.val (.tuple (cks cs)), .val (.int (i : Int)), .val (.int (n : Int)), .own false (cks (addN (cs.eraseIdx i) pre)), x4]) ?_ ?_ _ ⟨_, rfl⟩
      · rintro e ⟨x4, rfl⟩
        refine hR _ ?_
        generalize addN (cs.eraseIdx i) (prts (c1, c2) n) = ms at *
        unfold w_split_at_R1
        refine seq_cut fun R hR => ?_
        dsimp? [List.length_map]
        split
        · rename_i h12
          exact r2 (by omega)
        · rename_i h12
          refine hR _ ?_
          refine seq_cut fun R hR => ?_
          have hb1 : CMulX c1 n := mulx_ok (a := 60) (b := 60) nb (by omega) (by decide)
          dsimp? [atI_nat gi, ck]
          refine ⟨hb1, ?_⟩
          split
          · rename_i h9
            first | exact r3 (by omega) h9 | exact ⟨hb1, r3 (by omega) h9⟩
          · rename_i h9
            refine hR _ ?_
            dsimp? []
            refine ⟨srt_cks _, ?_⟩
            rw [sort_cks]
            exact r1 (by omega) (by simp only; omega)
      · rintro pre c post he e R9 ⟨x4, rfl⟩ ih
        have lpre : pre.length + (post.length + 1) = n := by
          have := congrArg List.length he
          rw [prts_len, List.length_append, List.length_cons] at this
          omega
        have la := addN_len pre (cs.eraseIdx i)
        rw [List.length_map] at el
        have ea : addN (cs.eraseIdx i) (pre ++ [c]) = if c ∈ addN (cs.eraseIdx i) pre then addN (cs.eraseIdx i) pre else addN (cs.eraseIdx i) pre ++ [c] := by
          unfold addN
          rw [List.foldl_append]
          rfl
        rw [ea] at ih
        generalize addN (cs.eraseIdx i) pre = acc at *
        obtain ⟨d1, d2⟩ := c
        dsimp? [w_split_at_B1, ck]
        refine ⟨sh_ck (d1, d2), sh_lck _, ?_⟩
        rw [any_ck]
        by_cases hm : (d1, d2) ∈ acc
        · rw [if_pos hm] at ih
          rw [decide_eq_true hm, if_neg (by decide)]
          exact ih _ ⟨_, rfl⟩
        · rw [if_neg hm] at ih
          rw [decide_eq_false hm, if_pos (by decide)]
          refine ⟨by rw [List.length_map]; omega, ?_⟩
          rw [cks_put]
          exact ih _ ⟨_, rfl⟩
    · by_cases hi : isI p = true
      · obtain ⟨i, rfl⟩ := isI_int hi
        have g := q2 fun j hj e => hp ⟨j, hj, e⟩
        dsimp? [isI]
        by_cases h0 : i < 0
        · rw [if_pos h0]
          exact g
        · rw [if_neg h0]
          by_cases h1 : (cs.length : Int) ≤ i
          · rw [if_pos h1]
            exact g
          · obtain ⟨j, rfl⟩ := Int.eq_ofNat_of_zero_le (show 0 ≤ i by omega)
            exact (hp ⟨j, by omega, rfl⟩).elim
      · rw [if_pos (by rw [eq_false_of_ne_true hi]; rfl)]
        exact q2 fun j hj e => hp ⟨j, hj, e⟩
  · exact h.elim
end Dl
end L2

/-! The plain half, 36: exact clocks cover; sums over a round. -/
namespace L2
namespace Dl
open PySem PySem.Spec PyProof.Rows
def sumN (f : Nat → Int) : Nat → Int
  | 0 => 0
  | n + 1 => sumN f n + f n
theorem sumN_add (f : Nat → Int) (a : Nat) : ∀ b, sumN f (a + b) = sumN f a + sumN (fun n => f (a + n)) b
  | 0 => by show sumN f a = sumN f a + 0; omega
  | b + 1 => by
    show sumN f (a + b) + f (a + b) = sumN f a + (sumN (fun n => f (a + n)) b + f (a + b))
    rw [sumN_add f a b]
    omega
theorem sumN_congr {f g : Nat → Int} : ∀ {n : Nat}, (∀ i < n, f i = g i) → sumN f n = sumN g n
  | 0, _ => rfl
  | n + 1, h => by
    show sumN f n + f n = sumN g n + g n
    rw [sumN_congr fun i hi => h i (by omega), h n (by omega)]
theorem sumN_plus (f g : Nat → Int) : ∀ n, sumN (fun i => f i + g i) n = sumN f n + sumN g n
  | 0 => rfl
  | n + 1 => by
    show sumN (fun i => f i + g i) n + (f n + g n) = sumN f n + f n + (sumN g n + g n)
    rw [sumN_plus f g n]
    omega
theorem sumN_zero : ∀ n, sumN (fun _ => 0) n = 0
  | 0 => rfl
  | n + 1 => by
    show sumN (fun _ => 0) n + 0 = 0
    rw [sumN_zero n]
    rfl
/-- each at most 1 -/
theorem sumN_le {f : Nat → Int} : ∀ {n : Nat}, (∀ i < n, f i ≤ 1) → sumN f n ≤ n
  | 0, _ => Int.le_refl _
  | n + 1, h => by
    have a := sumN_le (f := f) (n := n) fun i hi => h i (by omega)
    have b := h n (by omega)
    show sumN f n + f n ≤ ((n + 1 : Nat) : Int)
    omega
theorem sumN_lt {f : Nat → Int} : ∀ {n : Nat}, (∀ i < n, f i ≤ 1) → ∀ j < n, f j ≤ 0 → sumN f n < n
  | 0, _, j, hj, _ => by omega
  | n + 1, h, j, hj, h0 => by
    show sumN f n + f n < ((n + 1 : Nat) : Int)
    have b := h n (by omega)
    by_cases e : j = n
    · subst e
      have a := sumN_le (f := f) (n := j) fun i hi => h i (by omega)
      omega
    · have a := sumN_lt (f := f) (n := n) (fun i hi => h i (by omega)) j (by omega) h0
      omega
/-- it rings there -/
def indC (c : Int × Int) (n : Nat) : Int := if (n : Int) % c.1 = c.2 then 1 else 0
theorem ind_blk {s r : Nat} (hr : r < s) : ∀ m ≤ s, sumN (indC ((s : Int), (r : Int))) m = if r < m then 1 else 0
  | 0, _ => by rw [if_neg (by omega)]; rfl
  | m + 1, h => by
    show sumN (indC ((s : Int), (r : Int))) m + indC ((s : Int), (r : Int)) m = _
    rw [ind_blk hr m (by omega)]
    unfold indC
    simp only
    rw [Int.emod_eq_of_lt (by omega) (by omega)]
    by_cases e : m = r
    · subst e
      rw [if_pos rfl, if_neg (by omega), if_pos (by omega)]
      rfl
    · rw [if_neg (show ¬ (m : Int) = (r : Int) by omega)]
      by_cases l : r < m
      · rw [if_pos l, if_pos (by omega)]; rfl
      · rw [if_neg l, if_neg (by omega)]; rfl
theorem ind_all {s r : Nat} (hr : r < s) : ∀ q : Nat, sumN (indC ((s : Int), (r : Int))) (s * q) = q
  | 0 => rfl
  | q + 1 => by
    rw [Nat.mul_succ, sumN_add, ind_all hr q]
    have e : sumN (fun n => indC ((s : Int), (r : Int)) (s * q + n)) s = sumN (indC ((s : Int), (r : Int))) s := sumN_congr fun i hi => by
      unfold indC
      simp only
      rw [Int.natCast_add, Int.natCast_mul, Int.mul_add_emod_self_left]
    rw [e, ind_blk hr s (Nat.le_refl _), if_pos hr]
    omega
theorem ind_cnt {c : Int × Int} {M : Int} (hc : CkOk 1000 c) (hd : c.1 ∣ M) (hM : 0 ≤ M) : sumN (indC c) M.toNat = M / c.1 := by
  obtain ⟨s, r⟩ := c
  obtain ⟨h1, h2, h3, h4⟩ := hc
  simp only at *
  obtain ⟨q, rfl⟩ := hd
  obtain ⟨s, rfl⟩ := Int.eq_ofNat_of_zero_le (show 0 ≤ s by omega)
  obtain ⟨r, rfl⟩ := Int.eq_ofNat_of_zero_le h3
  have q0 : 0 ≤ q := by
    by_cases z : 0 ≤ q
    · exact z
    · have := Int.mul_le_mul_of_nonneg_left (show q ≤ -1 by omega) (show (0 : Int) ≤ (s : Int) by omega)
      omega
  obtain ⟨q, rfl⟩ := Int.eq_ofNat_of_zero_le q0
  rw [Int.mul_ediv_cancel_left _ (by omega), show ((s : Int) * (q : Int)).toNat = s * q by rw [← Int.natCast_mul]; rfl]
  exact ind_all (by omega) q
/-- how many ring, all numbers of a round together -/
theorem rg_sum {M : Int} (hM : 0 ≤ M) : ∀ {cs : List (Int × Int)}, (∀ c ∈ cs, CkOk 1000 c ∧ c.1 ∣ M) → sumN (fun n => ((rgF cs (n : Int)).length : Int)) M.toNat = (cs.map fun c => M / c.1).sum
  | [], _ => by
    show sumN (fun _ => 0) _ = 0
    exact sumN_zero _
  | c :: cs, h => by
    rw [List.map_cons, List.sum_cons, ← rg_sum hM fun d hd => h d (List.mem_cons_of_mem _ hd), ← ind_cnt (h c List.mem_cons_self).1 (h c List.mem_cons_self).2 hM, ← sumN_plus]
    refine sumN_congr fun i _ => ?_
    unfold rgF indC
    rw [List.filter_cons]
    by_cases e : (i : Int) % c.1 = c.2
    · rw [if_pos e, if_pos (decide_eq_true e), List.length_cons]
      omega
    · rw [if_neg e, if_neg (by rw [decide_eq_false e]; decide)]
      omega
theorem two_at {α : Type} (p : α → Bool) : ∀ {xs : List α}, 2 ≤ (xs.filter p).length → ∃ (i j : Nat) (a b : α), i < j ∧ xs[i]? = some a ∧ xs[j]? = some b ∧ p a = true ∧ p b = true
  | [], h => by cases h
  | x :: xs, h => by
    cases hx : p x with
    | true =>
      rw [List.filter_cons, if_pos hx, List.length_cons] at h
      have hne : xs.filter p ≠ [] := fun e => by
        rw [e] at h
        simp at h
      obtain ⟨y, hy⟩ := List.exists_mem_of_ne_nil _ hne
      obtain ⟨h1, h2⟩ := List.mem_filter.mp hy
      obtain ⟨j, hj, rfl⟩ := List.mem_iff_getElem.mp h1
      exact ⟨0, j + 1, x, xs[j], by omega, rfl, by rw [List.getElem?_cons_succ, List.getElem?_eq_getElem hj], hx, h2⟩
    | false =>
      rw [List.filter_cons, if_neg (by rw [hx]; decide)] at h
      obtain ⟨i, j, a, b, h1, h2, h3, h4, h5⟩ := two_at p h
      exact ⟨i + 1, j + 1, a, b, by omega, by rw [List.getElem?_cons_succ]; exact h2, by rw [List.getElem?_cons_succ]; exact h3, h4, h5⟩
theorem ex_le {cs : List (Int × Int)} (hc : GC cs) (h : ∀ (i j : Nat) ci cj x, i < j → cs[i]? = some ci → cs[j]? = some cj → ¬ Meets ci cj x) (n : Int) : (rgF cs n).length ≤ 1 := by
  by_cases z : (rgF cs n).length ≤ 1
  · exact z
  · obtain ⟨i, j, a, b, h1, h2, h3, h4, h5⟩ := two_at (fun c : Int × Int => decide (n % c.1 = c.2)) (xs := cs) (show 2 ≤ (rgF cs n).length by omega)
    have oa := hc.ok a (List.mem_of_getElem? h2)
    have ob := hc.ok b (List.mem_of_getElem? h3)
    exact (h i j a b n h1 h2 h3 ⟨(Rg_mod oa.2.2.1 oa.2.2.2).mpr (of_decide_eq_true h4), (Rg_mod ob.2.2.1 ob.2.2.2).mpr (of_decide_eq_true h5)⟩).elim
/-- exact clocks cover -/
theorem ex_cov {cs : List (Int × Int)} (hc : GC cs) (h : ExC cs) : msF cs = [] := by
  have rp := hc.rp
  have hs := rg_sum (M := rnd 1 cs) (by omega) (cs := cs) fun c hcm => ⟨hc.ok c hcm, (rnd_spec cs 1 (by decide) hc.one).2.2.1 c hcm⟩
  have h1 : (cs.map fun c => rnd 1 cs / c.1).sum = rnd 1 cs := h.1
  rw [h1] at hs
  unfold msF
  rw [List.filter_eq_nil_iff]
  intro n hn hz
  obtain ⟨n0, n1⟩ := rgI_mem.mp hn
  have hz := of_decide_eq_true hz
  have := sumN_lt (f := fun n => ((rgF cs (n : Int)).length : Int)) (n := (rnd 1 cs).toNat) (fun i _ => by have := ex_le hc h.2 (i : Int); omega) n.toNat (by omega) (by
    rw [show ((n.toNat : Nat) : Int) = n by omega, hz]
    exact Int.le_refl _)
  rw [hs] at this
  omega
theorem prts_rg {c : Int × Int} {k : Nat} {x : Int} (hk : 1 ≤ k) (hc : 1 ≤ c.1) : (∃ p ∈ prts c k, Rg p x) ↔ Rg c x := by
  constructor
  · rintro ⟨p, hp, hr⟩
    obtain ⟨i, hi, rfl⟩ := mem_prts hp
    have hr : c.1 * (k : Int) ∣ x - (c.2 + c.1 * (i : Int)) := hr
    have h3 := Int.dvd_add (Int.dvd_trans (Int.dvd_mul_right c.1 (k : Int)) hr) (Int.dvd_mul_right c.1 (i : Int))
    show c.1 ∣ x - c.2
    rwa [show x - (c.2 + c.1 * (i : Int)) + c.1 * (i : Int) = x - c.2 by omega] at h3
  · rintro ⟨t, ht⟩
    have h0 := Int.emod_nonneg t (show (k : Int) ≠ 0 by omega)
    have h1 := Int.emod_lt_of_pos t (show (0 : Int) < (k : Int) by omega)
    refine ⟨(c.1 * (k : Int), c.2 + c.1 * ((t % (k : Int)).toNat : Int)), ?_, ?_⟩
    · unfold prts
      exact List.mem_map.mpr ⟨(t % (k : Int)).toNat, List.mem_range.mpr (by omega), rfl⟩
    · show c.1 * (k : Int) ∣ x - (c.2 + c.1 * ((t % (k : Int)).toNat : Int))
      rw [show ((t % (k : Int)).toNat : Int) = t % (k : Int) by omega]
      refine ⟨t / (k : Int), ?_⟩
      have e := Int.mul_ediv_add_emod t (k : Int)
      have e2 : x - (c.2 + c.1 * (t % (k : Int))) = c.1 * (t - t % (k : Int)) := by rw [Int.mul_sub]; omega
      rw [e2, Int.mul_assoc, show t - t % (k : Int) = (k : Int) * (t / (k : Int)) by omega]
end Dl
end L2

/-! The plain half, 37: tuples of places, sorted. -/
namespace L2
namespace Dl
open PySem PySem.Spec PyProof.Rows
def tpl (l : List Int) : PyData := .tuple (l.map .int)
def lle (a b : List Int) : Bool := decide (a ≤ b)
theorem tpl_io (l : List Int) : io (tpl l) = true := by
  show io.ioAll (l.map .int) = true
  induction l with
  | nil => rfl
  | cons x l ih => exact ih
theorem tpl_inj {a b : List Int} (h : tpl a = tpl b) : a = b := by
  unfold tpl at h
  injection h with h
  exact List.map_inj_right (fun x y e => by cases e; rfl) |>.mp h
theorem tpl_sh (l : List Int) : ShN 1 (tpl l) := ShN.tup (ShN.ints l)
theorem sh_tpls (xs : List (List Int)) : SeqAt.shaped (.list (xs.map tpl)) = true := (ShN.lst (n := 1) fun d hd => by
  obtain ⟨l, _, rfl⟩ := List.mem_map.mp hd
  exact tpl_sh l).sh (by decide)
theorem alike_ints : ∀ a b : List Int, PySem.W.alikeAll (a.map .int) (b.map .int) = true
  | [], _ => by simp [PySem.W.alikeAll]
  | _ :: _, [] => by simp [PySem.W.alikeAll]
  | x :: a, y :: b => by
    have := alike_ints a b
    simp [PySem.W.alikeAll, PySem.W.alike, this]
theorem srt_tpls {xs : List (List Int)} (h : ∀ l ∈ xs, l ≠ []) : Srts (xs.map tpl) := by
  refine ⟨fun d hd e he => ?_, .inl fun d hd => ?_, fun d hd => ?_⟩
  · obtain ⟨c, _, rfl⟩ := List.mem_map.mp hd
    obtain ⟨c2, _, rfl⟩ := List.mem_map.mp he
    show PySem.W.alike (.tuple _) (.tuple _) = true
    simp only [PySem.W.alike]
    exact alike_ints c c2
  · obtain ⟨c, hc, rfl⟩ := List.mem_map.mp hd
    cases c with
    | nil => exact (h [] hc rfl).elim
    | cons x c => exact ⟨_, _, rfl⟩
  · obtain ⟨c, _, rfl⟩ := List.mem_map.mp hd
    exact (tpl_sh c).sh (by decide)
theorem sort_tpls (xs : List (List Int)) : (xs.map tpl).mergeSort dLe = (xs.mergeSort lle).map tpl := by
  refine (PySem.W.sort_maps tpl fun a _ b _ => ?_).symm
  show lle a b = (!PySem.W.dataLt (.tuple (b.map .int)) (.tuple (a.map .int)))
  rw [PySem.W.dataLt_tuple]
  show lle a b = (!PySem.W.rowLt (b.map .int) (a.map .int))
  rw [PySem.W.dataLt_ints]
  unfold lle
  by_cases h : b < a
  · have h' : ¬ a ≤ b := fun r => List.not_lt.mpr r h
    simp [h, h']
  · have h' : a ≤ b := List.not_lt.mp h
    simp [h, h']
end Dl
end L2

/-! The plain half, 38: marks of clocks; least covers. -/
namespace L2
namespace Dl
open PySem PySem.Spec PyProof.Rows
/-! the law's own way -/
def kc (c : Int × Int) : List Int := [c.1, c.2]
theorem nd_len {α : Type} [DecidableEq α] : ∀ {L M : List α}, L.Nodup → (∀ x ∈ L, x ∈ M) → L.length ≤ M.length
  | [], _, _, _ => Nat.zero_le _
  | x :: L, M, nd, h => by
    rw [List.nodup_cons] at nd
    have hx := h x List.mem_cons_self
    have := nd_len (L := L) (M := M.erase x) nd.2 fun y hy => (List.mem_erase_of_ne (fun e => nd.1 (by subst e; exact hy))).mpr (h y (List.mem_cons_of_mem _ hy))
    rw [List.length_erase_of_mem hx] at this
    have := List.length_pos_of_mem hx
    rw [List.length_cons]
    omega
/-- those that rang alone up to here -/
def AlI (sm : List (Int × Int)) (pre : List Int) (kvs : List (List Int × PyData)) : Prop := (kvs.map (·.1)).Nodup ∧ ∀ k, k ∈ kvs.map (·.1) ↔ ∃ n ∈ pre, ∃ c, rgF sm n = [c] ∧ k = kc c
theorem AlI.len {sm : List (Int × Int)} {pre : List Int} {kvs : List (List Int × PyData)} (h : AlI sm pre kvs) : kvs.length ≤ sm.length := by
  have := nd_len (M := sm.map kc) h.1 fun k hk => by
    obtain ⟨n, _, c, h1, rfl⟩ := (h.2 k).mp hk
    have : c ∈ rgF sm n := by rw [h1]; exact List.mem_cons_self
    exact List.mem_map_of_mem (List.mem_filter.mp this).1
  rwa [List.length_map, List.length_map] at this
end Dl
end L2

/-! The plain half, 39: least covers: what they are, drawn clocks. -/
namespace L2
namespace Dl
open PySem PySem.Spec PyProof.Rows

/-! rising tuples of places -/
end Dl
end L2

/-! The plain half, 40: all sets of places; least covers in order. -/
namespace L2
namespace Dl
open PySem PySem.Spec PyProof.Rows

end Dl
end L2

/-! The plain half, 41: clocks seen within a clock. -/
namespace L2
namespace Dl
open PySem PySem.Spec PyProof.Rows
end Dl
end L2

/-! The plain half, 42: exact clocks are those of which just one rings; changed clocks. -/
namespace L2
namespace Dl
open PySem PySem.Spec PyProof.Rows
theorem two_len {α : Type} {p : α → Bool} : ∀ {xs : List α} {i j : Nat} {a b : α}, i < j → xs[i]? = some a → xs[j]? = some b → p a = true → p b = true → 2 ≤ (xs.filter p).length
  | [], i, j, a, b, _, h1, _, _, _ => by simp at h1
  | x :: xs, 0, j + 1, a, b, _, h1, h2, h3, h4 => by
    rw [List.getElem?_cons_zero] at h1
    rw [List.getElem?_cons_succ] at h2
    cases h1
    rw [List.filter_cons, if_pos h3, List.length_cons]
    have := List.length_pos_of_mem (List.mem_filter.mpr ⟨List.mem_of_getElem? h2, h4⟩)
    omega
  | x :: xs, i + 1, j + 1, a, b, hl, h1, h2, h3, h4 => by
    rw [List.getElem?_cons_succ] at h1 h2
    have := two_len (by omega) h1 h2 h3 h4
    rw [List.filter_cons]
    split
    · rw [List.length_cons]; omega
    · exact this
/-- just one rings -/
def One (cs : List (Int × Int)) : Prop := ∀ n, (rgF cs n).length = 1
theorem rg_mem {cs : List (Int × Int)} {n : Int} {c : Int × Int} : c ∈ rgF cs n ↔ c ∈ cs ∧ n % c.1 = c.2 := by
  unfold rgF
  rw [List.mem_filter, decide_eq_true_iff]
theorem sumN_one (n : Nat) : sumN (fun _ => 1) n = n := by
  induction n with
  | zero => rfl
  | succ n ih =>
    show sumN (fun _ => 1) n + 1 = _
    rw [ih]
    omega
theorem ex_one {cs : List (Int × Int)} (hc : GC cs) : ExC cs ↔ One cs := by
  constructor
  · intro h n
    have h1 := ex_le hc h.2 n
    obtain ⟨d, hd, hr⟩ := cov_ms hc (ex_cov hc h) n
    have ok := hc.ok d hd
    have := List.length_pos_of_mem (rg_mem.mpr ⟨hd, (Rg_mod ok.2.2.1 ok.2.2.2).mp hr⟩)
    omega
  · intro h
    have rp := hc.rp
    refine ⟨?_, fun i j ci cj x hij hi hj hm => ?_⟩
    · have hs := rg_sum (M := rnd 1 cs) (by omega) (cs := cs) fun c hcm => ⟨hc.ok c hcm, (rnd_spec cs 1 (by decide) hc.one).2.2.1 c hcm⟩
      rw [sumN_congr (g := fun _ => 1) (fun i _ => by rw [h]; rfl), sumN_one] at hs
      show (cs.map fun c => rnd 1 cs / c.1).sum = _
      rw [← hs]
      omega
    · have oi := hc.ok ci (List.mem_of_getElem? hi)
      have oj := hc.ok cj (List.mem_of_getElem? hj)
      have := two_len (p := fun c : Int × Int => decide (x % c.1 = c.2)) hij hi hj (decide_eq_true ((Rg_mod oi.2.2.1 oi.2.2.2).mp hm.1)) (decide_eq_true ((Rg_mod oj.2.2.1 oj.2.2.2).mp hm.2))
      have := h x
      unfold rgF at this
      omega
theorem exB_one {cs : List (Int × Int)} (hc : GC cs) : exB cs = true ↔ One cs := exB_iff.trans (ex_one hc)
theorem One.perm {cs ds : List (Int × Int)} (h : One cs) (p : cs.Perm ds) : One ds := fun n => by
  rw [← h n]
  exact (p.filter _).length_eq.symm
/-! mirrored -/
/-! stretched, and seen -/
/-! put in -/
/-- short covers by splits -/
theorem SpW.ok {cs : List (Int × Int)} (h : SpW cs) (hl : cs.length ≤ 3) (hc : ∀ c ∈ cs, CkOk 1000 c) : ∀ c ∈ cs, CkOk 4 c ∧ c.1 ∣ 12 := fun c hcm => by
  have h1 := h.2 c hcm
  obtain ⟨a1, a2, a3, a4⟩ := hc c hcm
  have h4 : c.1 ≤ 4 := by
    have : cs.length = 0 ∨ cs.length = 1 ∨ cs.length = 2 ∨ cs.length = 3 := by omega
    rcases this with e | e | e | e <;> rw [e] at h1
    · have : (2 : Int) ^ 0 = 1 := rfl
      omega
    · have : (2 : Int) ^ 1 = 2 := rfl
      omega
    · have : (2 : Int) ^ 2 = 4 := rfl
      omega
    · have : (2 : Int) ^ 3 = 8 := rfl
      omega
  refine ⟨⟨a1, h4, a3, a4⟩, ?_⟩
  have : c.1 = 1 ∨ c.1 = 2 ∨ c.1 = 3 ∨ c.1 = 4 := by omega
  rcases this with e | e | e | e <;> rw [e] <;> decide
end Dl
end L2

/-! The plain half, 43: papers of needs; least covers: there are some, none is part of another, the fewest. -/
namespace L2
namespace Dl
open PySem PySem.Spec PyProof.Rows
theorem lt_uniq : ∀ {M N : List Int}, M.Pairwise (· < ·) → N.Pairwise (· < ·) → (∀ c, c ∈ M ↔ c ∈ N) → M = N
  | [], [], _, _, _ => rfl
  | [], y :: N, _, _, h => by cases (h y).mpr List.mem_cons_self
  | x :: M, [], _, _, h => by cases (h x).mp List.mem_cons_self
  | x :: M, y :: N, h1, h2, h => by
    rw [List.pairwise_cons] at h1 h2
    have e : x = y := by
      rcases List.mem_cons.mp ((h x).mp List.mem_cons_self) with z | z
      · exact z
      · rcases List.mem_cons.mp ((h y).mpr List.mem_cons_self) with z2 | z2
        · exact z2.symm
        · have := h1.1 y z2
          have := h2.1 x z
          omega
    subst e
    rw [lt_uniq h1.2 h2.2 fun c => ⟨fun hc => ?_, fun hc => ?_⟩]
    · rcases List.mem_cons.mp ((h c).mp (List.mem_cons_of_mem _ hc)) with z | z
      · subst z
        have := h1.1 _ hc
        omega
      · exact z
    · rcases List.mem_cons.mp ((h c).mpr (List.mem_cons_of_mem _ hc)) with z | z
      · subst z
        have := h2.1 _ hc
        omega
      · exact z
theorem rgI_lt (n : Int) : (rgI n).Pairwise (· < ·) := by
  unfold rgI
  rw [List.pairwise_map]
  exact List.pairwise_lt_range.imp fun h => by omega
end Dl
end L2

/-! The plain half, 44: rests that cover, going round; all rests; the share. -/
namespace L2
namespace Dl
open PySem PySem.Spec PyProof.Rows
theorem rnd_fst : ∀ (cs : List (Int × Int)) (f : Int), rnd f cs = rnd f (st0 (cs.map (·.1)))
  | [], _ => rfl
  | c :: cs, f => by
    rw [rnd_c, rnd_fst cs]
    rfl
end Dl
end L2

/-! The plain half, 45: rests that cover: as many in another order; steps put in their stead; shares. -/
namespace L2
namespace Dl
open PySem PySem.Spec PyProof.Rows

/-! shares -/
/-! steps in the stead of others -/
end Dl
end L2

/-! The plain half, 46: tallies summed, clashes and unlike counts told. -/
namespace L2
namespace Dl
open PySem PySem.Spec PyProof.Rows
end Dl
end L2

/-! The plain half, 47: tuples of clocks, sorted. -/
namespace L2
namespace Dl
open PySem PySem.Spec PyProof.Rows
end Dl
end L2

/-! The plain half, 48: exact clocks of a round, filled. -/
namespace L2
namespace Dl
open PySem PySem.Spec PyProof.Rows
end Dl
end L2

/-! The plain half, 49: clocks met of all choices. -/
namespace L2
namespace Dl
open PySem PySem.Spec PyProof.Rows
abbrev lsD (L : List (List (Int × Int))) : List (List PyData) := L.map cks
end Dl
end L2

/-! The plain half, 50: numbers counted below a bound. -/
namespace L2
namespace Dl
open PySem PySem.Spec PyProof.Rows
/-- how many below b are rung by just k -/
def cnt (cs : List (Int × Int)) (k : Nat) (b : Nat) : Int := sumN (fun x => if (rgF cs (x : Int)).length = k then 1 else 0) b
end Dl
end L2

/-! The plain half, 51: counts over rounds. -/
namespace L2
namespace Dl
open PySem PySem.Spec PyProof.Rows
end Dl
end L2

/-! The plain half, 52: the missed ones numbered. -/
namespace L2
namespace Dl
open PySem PySem.Spec PyProof.Rows
/-- how many are missed below b -/
abbrev msd (cs : List (Int × Int)) (b : Nat) : Int := cnt cs 0 b
/-- all that is asked of clocks with a round that is not too great -/
structure FarOk (cs : List (Int × Int)) : Prop where
  gc : GC cs
  rb : rnd 1 cs < 2 ^ 40



end Dl
end L2

/-! The plain half, 53: so many clocks that ring at 2 ^ n numbers, one behind the other, ring at all. -/
namespace L2
namespace Dl
open PySem PySem.Spec PyProof.Rows
end Dl
end L2

/-! The plain half, 54: so many, one behind the other, are all. -/
namespace L2
namespace Dl
open PySem PySem.Spec PyProof.Rows
end Dl
end L2

/-! The plain half, 55: exact clocks of a round, told. -/
namespace L2
namespace Dl
open PySem PySem.Spec PyProof.Rows

end Dl
end L2

/-! The plain half, 56: clocks moved. -/
namespace L2
namespace Dl
open PySem PySem.Spec PyProof.Rows
end Dl
end L2

/-! The plain half, 62: exact clocks that have some steps. -/
namespace L2
namespace Dl
open PySem PySem.Spec PyProof.Rows
theorem bez (a b : Nat) : ∃ x y : Int, ((Nat.gcd a b : Nat) : Int) = a * x + b * y := by
  induction a, b using Nat.gcd.induction with
  | H0 n => exact ⟨0, 1, by simp⟩
  | H1 m n hm ih =>
    obtain ⟨x, y, h⟩ := ih
    refine ⟨y - (n / m : Nat) * x, x, ?_⟩
    rw [Nat.gcd_rec, h]
    have e : ((n % m : Nat) : Int) = n - m * (n / m : Nat) := by
      have := Nat.div_add_mod n m
      have : (m : Int) * (n / m : Nat) + (n % m : Nat) = n := by exact_mod_cast this
      omega
    rw [e, Int.sub_mul, Int.mul_sub, Int.mul_assoc]
    omega
/-- two clocks that never ring together -/
def apB (c d : Int × Int) : Bool := !decide (((Int.gcd c.1 d.1 : Nat) : Int) ∣ c.2 - d.2)
theorem ap_iff {c d : Int × Int} (hc : 1 ≤ c.1) (hd : 1 ≤ d.1) : apB c d = true ↔ Apart c d := by
  unfold apB
  rw [Bool.not_eq_true', decide_eq_false_iff_not]
  constructor
  · intro h x ⟨h1, h2⟩
    refine h ?_
    have := Int.dvd_sub (Int.dvd_trans (Int.gcd_dvd_right c.1 d.1) h2) (Int.dvd_trans (Int.gcd_dvd_left c.1 d.1) h1)
    rwa [show x - d.2 - (x - c.2) = c.2 - d.2 by omega] at this
  · rintro h ⟨k, hk⟩
    obtain ⟨x, y, e⟩ := bez c.1.natAbs d.1.natAbs
    have e1 : (c.1.natAbs : Int) = c.1 := by omega
    have e2 : (d.1.natAbs : Int) = d.1 := by omega
    have eg : ((Int.gcd c.1 d.1 : Nat) : Int) = c.1 * x + d.1 * y := by
      rw [← e1, ← e2]
      have : ((Int.gcd c.1 d.1 : Nat) : Int) = ((Nat.gcd c.1.natAbs d.1.natAbs : Nat) : Int) := rfl
      rw [e1, e2, this, e, e1, e2]
    refine h (c.2 - c.1 * (x * k)) ⟨⟨-(x * k), by rw [Int.mul_neg]; omega⟩, ⟨y * k, ?_⟩⟩
    have : c.2 - d.2 = c.1 * (x * k) + d.1 * (y * k) := by
      rw [hk, eg, Int.add_mul, Int.mul_assoc, Int.mul_assoc]
    omega
/-- clocks on the way to exact ones, and the steps left -/
structure GS (R : Int) (cl : List (Int × Int)) (ls : List Int) : Prop where
  ok : ∀ c ∈ cl, CkOk 1000 c ∧ c.1 ∣ R
  ap : cl.Pairwise Apart
  st : ∀ s ∈ ls, 1 ≤ s ∧ s ≤ 60 ∧ s ∣ R
  sm : (cl.map fun c => R / c.1).sum + (ls.map fun s => R / s).sum = R
  rp : 0 < R
theorem GS.pos {R : Int} {cl : List (Int × Int)} {ls : List Int} (h : GS R cl ls) : ∀ s ∈ ls, 1 ≤ R / s := fun s hs => by
  obtain ⟨h1, h2, k, hk⟩ := h.st s hs
  have := h.rp
  rw [hk, Int.mul_ediv_cancel_left _ (by omega)]
  rcases Int.lt_or_le k 1 with z | z
  · have : s * k ≤ s * 0 := Int.mul_le_mul_of_nonneg_left (by omega) (by omega)
    omega
  · exact z
theorem sum_perm2 {xs ys : List Int} (h : xs.Perm ys) (R : Int) : (xs.map fun s => R / s).sum = (ys.map fun s => R / s).sum := sum_perm (h.map _)
theorem GS.next {R : Int} {cl : List (Int × Int)} {ls : List Int} (h : GS R cl ls) {s g : Int} (hs : s ∈ ls) (ha : cl.all (fun d => apB (s, g % s) d) = true) : GS R (cl ++ [(s, g % s)]) (ls.erase s) := by
  obtain ⟨h1, h2, h3⟩ := h.st s hs
  have ck : CkOk 1000 (s, g % s) := ⟨h1, by show s ≤ 1000; omega, Int.emod_nonneg _ (by omega), Int.emod_lt_of_pos _ (by omega)⟩
  refine ⟨fun c hc => ?_, ?_, fun t ht => h.st t (List.mem_of_mem_erase ht), ?_, h.rp⟩
  · rcases List.mem_append.mp hc with hc | hc
    · exact h.ok c hc
    · rw [List.mem_singleton.mp hc]
      exact ⟨ck, h3⟩
  · rw [List.pairwise_append]
    refine ⟨h.ap, List.pairwise_singleton _ _, fun c hc d hd => ?_⟩
    rw [List.mem_singleton.mp hd]
    exact ((ap_iff h1 ((h.ok c hc).1.1)).mp (List.all_eq_true.mp ha c hc)).symm
  · have e := sum_perm2 (List.perm_cons_erase hs) R
    rw [List.map_cons, List.sum_cons] at e
    have := h.sm
    rw [List.map_append, List.sum_append, List.map_cons, List.map_nil, List.sum_cons, List.sum_nil]
    show _ + (R / s + 0) + _ = _
    omega
end Dl
end L2

/-! The plain half, 63: with_steps and exact_with. -/
namespace L2
namespace Dl
open PySem PySem.Spec PyProof.Rows

/-! the least of some -/
/-- steps that are some -/
structure SG (ss : List Int) : Prop where
  st : ∀ s ∈ ss, 1 ≤ s ∧ s ≤ 60
  len : ss.length ≤ 10
def rsS (ss : List Int) : Int := rnd 1 (st0 ss)
theorem SG.gc {ss : List Int} (h : SG ss) : GC (st0 ss) := ⟨fun c hc => by
  obtain ⟨s, hs, rfl⟩ := List.mem_map.mp hc
  obtain ⟨h1, h2⟩ := h.st s hs
  exact ⟨h1, by show s ≤ 1000; omega, Int.le_refl 0, by show (0 : Int) < s; omega⟩, by unfold st0; rw [List.length_map]; have := h.len; omega⟩
theorem SG.gs {ss : List Int} (h : SG ss) (hs : sumS (rsS ss) (st0 ss) = rsS ss) : GS (rsS ss) [] ss := by
  have dv := (rnd_spec (st0 ss) 1 (by decide) h.gc.one).2.2.1
  refine ⟨fun c hc => (by cases hc), List.Pairwise.nil, fun s hsm => ⟨(h.st s hsm).1, (h.st s hsm).2, dv (s, 0) (List.mem_map.mpr ⟨s, hsm, rfl⟩)⟩, ?_, h.gc.rp⟩
  unfold sumS st0 at hs
  rw [List.map_map] at hs
  rw [List.map_nil, List.sum_nil, Int.zero_add]
  exact hs
end Dl
end L2

/-! The plain half, 64: the counts by steps; the law's own ways. -/
namespace L2
namespace Dl
open PySem PySem.Spec PyProof.Rows
end Dl
end L2

/-! The plain half, 65: the law's look at exact clocks. -/
namespace L2
namespace Dl
open PySem PySem.Spec PyProof.Rows
/-- exact clocks -/
structure XC63 (cs : List (Int × Int)) : Prop where
  gc : GC cs
  ap : cs.Pairwise Apart
  sm : sumS (rnd 1 cs) cs = rnd 1 cs

/-- made clocks whose steps are told -/
structure GM (made : List (Int × Int)) : Prop where
  ok : ∀ c ∈ made, CkOk 1000 c ∧ c.1 ≤ 60
  len : made.length ≤ 9
  pos : 1 ≤ made.length
  ap : made.Pairwise Apart
  lt : made.Pairwise clt
  sm : sumS (rnd 1 made) made = rnd 1 made
def stF (cs : List (Int × Int)) : List Int := cs.map (·.1)
theorem GM.sg {made : List (Int × Int)} (h : GM made) : SG (stF made) := ⟨fun s hs => by
  obtain ⟨c, hc, rfl⟩ := List.mem_map.mp hs
  exact ⟨(h.ok c hc).1.1, (h.ok c hc).2⟩, by unfold stF; rw [List.length_map]; have := h.len; omega⟩
theorem sumS_st (R : Int) (cs : List (Int × Int)) : sumS R (st0 (stF cs)) = sumS R cs := by
  unfold sumS st0 stF
  rw [List.map_map, List.map_map]
  rfl
theorem rs_st (cs : List (Int × Int)) : rsS (stF cs) = rnd 1 cs := (rnd_fst cs 1).symm
theorem GM.sum {made : List (Int × Int)} (h : GM made) : sumS (rsS (stF made)) (st0 (stF made)) = rsS (stF made) := by rw [sumS_st, rs_st]; exact h.sm
theorem apart_nd {m : List (Int × Int)} (h : m.Pairwise Apart) : m.Nodup := h.imp fun {a b} z e => by
  subst e
  exact z a.2 ⟨⟨0, by omega⟩, ⟨0, by omega⟩⟩
end Dl
end L2

/-! The plain half, 66: of exact clocks the greatest step stands twice. -/
namespace L2
namespace Dl
open PySem PySem.Spec PyProof.Rows
end Dl
end L2

/-! The plain half, 67: clocks joined. -/
namespace L2
namespace Dl
open PySem PySem.Spec PyProof.Rows
local macro_rules | `(tactic| dsimp? [$xs,*] $[$l]?) => `(tactic| simp only [wSeq, wNext, wBreak, wCont, wDrop, wRet, wRetN, wIfS, wSet, wAsgT, e_aug, e_setIx, e_par, e_gN, getS_0, getS_s, setS_0, setS_s, e_var, varK_v, varK_o, varK_u, wC, wBin, rdK_v, rdK_t, rdK_s, rdS_v, rdS_o, rdS_u, fzK_v, fzK_t, fzK_s, fzS_v, fzS_o, fzS_l, fzS_u, e_fz, asg_v, asg_t, asg_s, e_tb, tbK_b, wAnd, wOr, wNot, e_notV, e_andV, e_orV, wBV, wIf, e_neg, intK_i, e_oso, wONo, e_rng1, e_rng2, wFNil, wFCons, wANil, wACons, wTup, wLst, e_callB, rdAllK_n, rdAllK_c, wIsi, e_call, wMNil, wMCons, e_ld, lnsOf, avsK_n, avsK_f, avsK_l, lnS_o, lnS_v, lnS_u, poK_n, poK_c, poS_o, inS_0, inS_s, rsK_v, rsK_o, wSl, e_ownF, e_own0, ownB_o, oS_o, oS_v, oS_u, agS_i, muApp, oAdd_i, oAdd_l, oAdd_t, oAdd_s, oSub_i, oMul_i, oFdiv_i, oMod_i, oPow_i, oShl_i, oShr_i, oOr_i, oAndB_i, oLt_i, oLe_i, oGt_i, oGe_i, oEq_i, oNe_i, oEq, oNe, oIx_l, oIx_t, oLen_l, oLen_t, oInt_i, oInt_b, oMax_i, oMin_i, oList_l, oList_t, oTuple_l, oTuple_t, oSorted_l, oSorted_t, oIs_n, oIsN_n, oIs_b, oIsN_b, isNone_n, isNone_t, isNone_l, isNone_i, isNone_s, isNone_b, oSl_l, oSl_t, oIn, gT_t, gC_c, gNil', e_iseq, sqK_l, sqK_t, e_isq, sq2K_l, sq2K_t, e_sset, ssK_l, ssK_t, e_chain, e_lr1, e_lr2, wRev, rvD_l, rvD_t, e_in1, e_in2, negB_f, negB_t, wIZip, zpK_m, e_extend, extR_t, wYes, startEv, kenD_nx, kenD_rt, kenD_bk, kenD_ct, kenD_ex, outK_n, outK_c, otS_o, rvK_v, rvK_t, rvK_s, rvS_v, rvS_o, slOf, lsFrom, wipeE, restE, List.map_cons, List.map_nil, List.length_cons, List.length_nil, List.replicate, List.append_nil, List.cons_append, List.nil_append, List.getElem?_cons_zero, List.getElem?_cons_succ, List.getElem?_nil, List.set_cons_zero, List.set_cons_succ, List.set_nil, Option.getD_some, Option.getD_none, Option.map_some, Option.map_none, Option.some.injEq, Rs.val.injEq, Rs.tmp.injEq, Rs.slot.injEq, Sl.own.injEq, Sl.val.injEq, PyData.int.injEq, PyData.bool.injEq, PyData.str.injEq, PyData.list.injEq, PyData.tuple.injEq, Prod.mk.injEq, Nat.sub_self, Nat.zero_add, Nat.reduceAdd, Nat.reduceSub, Nat.add_zero, isTy_int_int, isTy_bool_int, isTy_int_bool, isTy_bool_bool, isTy_int_tup, isTy_int_lst, isTy_int_non, isTy_int_str, isTy_tup_tup, isTy_tup_lst, isTy_tup_int, isTy_tup_bool, isTy_tup_non, isTy_tup_str, isTy_lst_lst, isTy_lst_tup, isTy_lst_int, exists_eq_left', exists_eq_left, exists_and_left, exists_eq_right, exists_eq, exists_eq', exists_const, true_and, and_true, and_self, Bool.not_true, Bool.not_false, if_true, if_false, Bool.false_eq_true, reduceIte, reduceCtorEq, List.nodup_nil, decide_eq_true_eq, atI_0, atI_1, atI_2, atI_3, atI_4, atI_5, atI_6, atI_7, atI_8, atI_9, atI_10, atI_11, ixN_3_0, ixN_3_1, ixN_3_2, sh_int, sh_bool, sh_non, and_assoc, nd1, nd_true, eq_self, decide_true, decide_false, Int.cast_ofNat_Int, not_true_eq_false, not_false_eq_true, eqv_ii, eqv_bb, wRaise0, e_raiseG, grK_i, e_raise1, onK_i, e_callX, xa_1, xa_2, xa_3, xa_4, xa_5, xa_6, xa_7, e_many, e_most, e_number, e_row, isLst_l, lsK_l, e_rd, e_br, brS_o, brS_v, arS_o, arS_v, avbK_n, avbK_f, avbK_l, scK_b, scK_i, scK_n, scK_s, e_callS, tmK_t, e_rep, enK_l, e_ienum, wTry, eqv_ss, tpK_v, txK_1, tutK_t, e_repT, e_callT, enTK_t, e_ienumT, r3K_i, e_rng3, dcS_d, dcB_d, tkK_m, tkK_2, zlK_c, $xs,*] $[$l]?)
def optC : Option (Int × Int) → PyData
  | none => .none
  | some c => ck c
def subC (cs : List (Int × Int)) (l : List Int) : List (Int × Int) := l.map fun i => cs.getD i.toNat (0, 0)
/-- the clock whose parts they are -/
def woF : List (Int × Int) → Option (Int × Int)
  | [] => none
  | c :: cs => if c.1 % ((cs.length + 1 : Nat) : Int) = 0 ∧ prts (c.1 / ((cs.length + 1 : Nat) : Int), c.2 % (c.1 / ((cs.length + 1 : Nat) : Int))) (cs.length + 1) = c :: cs then some (c.1 / ((cs.length + 1 : Nat) : Int), c.2 % (c.1 / ((cs.length + 1 : Nat) : Int))) else none
theorem woF_at (c : Int × Int) (cs : List (Int × Int)) (k : Nat) (hk : (c :: cs).length = k) : woF (c :: cs) = if c.1 % (k : Int) = 0 ∧ prts (c.1 / (k : Int), c.2 % (c.1 / (k : Int))) k = c :: cs then some (c.1 / (k : Int), c.2 % (c.1 / (k : Int))) else none := by
  subst hk
  rfl
theorem atI_sub {cs : List (Int × Int)} {i : Int} (h0 : 0 ≤ i) (h1 : i < cs.length) : atI (cks cs) i = some (ck (cs.getD i.toNat (0, 0))) := by
  obtain ⟨i, rfl⟩ := Int.eq_ofNat_of_zero_le h0
  have hi : i < cs.length := by omega
  have hat := List.getElem?_eq_getElem hi
  rw [atI_ck hat, Int.toNat_natCast, List.getD_eq_getElem?_getD, hat]
  rfl
theorem mem_sub {cs : List (Int × Int)} {i : Int} (h0 : 0 ≤ i) (h1 : i < cs.length) : cs.getD i.toNat (0, 0) ∈ cs := by
  have hi : i.toNat < cs.length := by omega
  rw [List.getD_eq_getElem?_getD, List.getElem?_eq_getElem hi]
  exact List.getElem_mem hi
theorem div_pos {s k : Int} (hs : 1 ≤ s) (hk : 1 ≤ k) (h : s % k = 0) : 1 ≤ s / k ∧ s / k ≤ s ∧ k * (s / k) = s := by
  have e := Int.mul_ediv_add_emod s k
  rw [h, Int.add_zero] at e
  have h2 : 1 ≤ s / k := by
    by_cases z : 1 ≤ s / k
    · exact z
    · have := Int.mul_le_mul_of_nonneg_left (show s / k ≤ 0 by omega) (show 0 ≤ k by omega)
      rw [e, Int.mul_zero] at this
      omega
  have h3 := Int.mul_le_mul_of_nonneg_right hk (show 0 ≤ s / k by omega)
  rw [e, Int.one_mul] at h3
  exact ⟨h2, h3, e⟩
def sp_whole_of : Spc := fun avs Kr Kx => match avs with
  | [.val (.tuple ds), .val (.tuple ps)] => ∃ (cs : List (Int × Int)) (l : List Int), ds = cks cs ∧ ps = l.map .int ∧ l ≠ [] ∧ l.length ≤ 1000 ∧ (∀ i ∈ l, 0 ≤ i ∧ i < cs.length) ∧ (∀ c ∈ cs, CkOk 1000 c) ∧ Kr [] (.val (optC (woF (subC cs l))))
  | _ => False
def w_whole_of_C1 : WE :=
  wLc [5] (wISeq (wVar 1)) (gN 5) wYes (wBin oIx (wVar 0) (wVar 5))
/-- whole_of: 0 clocks, 1 places, 2 step, 3 rest, 4 clock, 5 place -/
def w_whole_of : WS :=
  (wSeq (wAsgT (wBin oIx (wVar 0) (wBin oIx (wVar 1) (wC (.int 0)))) (gT 2 (gCons' (gN 2) (gCons' (gN 3) gNil'))))
    (wSeq (wIfS (wTB (wBin oNe (wBin oMod (wVar 2) (wCallB oLen (wACons (wVar 1) wANil))) (wC (.int 0)))) (wRet (wC .none)) wNext)
    (wSeq (wSet 4 (wTup (wFCons (wBin oFdiv (wVar 2) (wCallB oLen (wACons (wVar 1) wANil))) (wFCons (wBin oMod (wVar 3) (wBin oFdiv (wVar 2) (wCallB oLen (wACons (wVar 1) wANil)))) wFNil))))
    (wSeq (wIfS (wTB (wBin oNe (wCall 2 sp_parts_of (wMCons (wVar 4) (wMCons (wCallB oLen (wACons (wVar 1) wANil)) wMNil))) w_whole_of_C1)) (wRet (wC .none)) wNext)
    (wRet (wVar 4))))))

theorem vc_whole_of : ∀ avs Kr Kx, avs.length = 2 → sp_whole_of avs Kr Kx → lsFrom 0 avs = [] ∧ w_whole_of (startEv 6 avs) (kenD [] Kr Kx) := by
  intro avs Kr Kx hl h
  unfold sp_whole_of at h
  split at h
  · rename_i ds ps
    obtain ⟨cs, l, rfl, rfl, hne, hl, hi, hc, q⟩ := h
    refine ⟨rfl, ?_⟩
    cases l with
    | nil => exact (hne rfl).elim
    | cons i l =>
      obtain ⟨i0, i1⟩ := hi i List.mem_cons_self
      have g := hc _ (mem_sub i0 i1)
      have hs : subC cs (i :: l) = cs.getD i.toNat (0, 0) :: subC cs l := rfl
      have ls : (subC cs (i :: l)).length = l.length + 1 := by unfold subC; rw [List.length_map]; rfl
      rw [hs] at ls
      rw [hs, woF_at _ _ _ ls] at q
      unfold w_whole_of
      refine seq_cut fun R hR => ?_
      dsimp? [atI_sub i0 i1]
      generalize hcc : cs.getD i.toNat (0, 0) = c at *
      obtain ⟨s, r⟩ := c
      have s1 : 1 ≤ s := g.1
      have s2 : s ≤ 1000 := g.2.1
      have r0 : 0 ≤ r := g.2.2.1
      have rs : r < s := g.2.2.2
      dsimp? [ck]
      refine hR _ ?_
      refine seq_cut fun R hR => ?_
      dsimp? [List.length_map]
      simp only [List.length_cons] at hl
      by_cases hz : s % ((l.length + 1 : Nat) : Int) = 0
      · obtain ⟨d1, d2, d3⟩ := div_pos s1 (show (1 : Int) ≤ ((l.length + 1 : Nat) : Int) by omega) hz
        rw [if_neg (fun h => h hz)]
        refine ⟨by omega, hR _ ?_⟩
        refine seq_cut fun R hR => ?_
        dsimp? [List.length_map]
        refine ⟨by omega, log_small (by omega) (by omega), by omega, log_small (by omega) (by omega), by omega, by decide, hR _ ?_⟩
        refine seq_cut fun R hR => ?_
        generalize hd9 : s / ((l.length + 1 : Nat) : Int) = d at *
        dsimp? [sp_parts_of, List.length_map]
        refine ⟨l.length + 1, rfl, by omega, Nat.lt_of_lt_of_le (show d.natAbs < 2 ^ 60 by omega) (Nat.pow_le_pow_right (by decide) (by decide)), ?_⟩
        dsimp? [w_whole_of_C1, wLc]
        refine lc_map PyData.int (fun i => ck (cs.getD i.toNat (0, 0))) (i :: l) (fun j hj A hA => ?_) (small100000 (by rw [List.length_cons]; omega)) ?_
        · obtain ⟨j0, j1⟩ := hi j hj
          dsimp? [atI_sub j0 j1]
          exact hA
        · have e5 : (i :: l).map (fun i => ck (cs.getD i.toNat (0, 0))) = cks (subC cs (i :: l)) := by unfold subC cks; rw [List.map_map]; rfl
          rw [e5, hs]
          refine ⟨sh_lck _, sh_lck _, ?_⟩
          rw [eqv_lcks]
          by_cases hp : prts (d, r % d) (l.length + 1) = (s, r) :: subC cs l
          · rw [decide_eq_true hp, if_neg (by decide)]
            refine hR _ ?_
            rw [if_pos ⟨hz, hp⟩] at q
            dsimp? []
            exact q
          · rw [decide_eq_false hp, if_pos (by decide)]
            rw [if_neg (fun h => hp h.2)] at q
            exact q
      · rw [if_pos hz]
        rw [if_neg (fun h => hz h.1)] at q
        exact ⟨by omega, q⟩
  · exact h.elim
def unI : PyData → Int
  | .int i => i
  | _ => 0
theorem unI_ints (l : List Int) : (l.map PyData.int).map unI = l := by
  rw [List.map_map]
  exact List.map_id'' (fun _ => rfl) l
/-- a rising tuple of two places or more -/
def plB (n : Nat) : PyData → Bool
  | .tuple xs => decide (2 ≤ xs.length) && (xs.all isI && decide (xs.map unI = (rgI n).filter fun i => decide (i ∈ xs.map unI)))
  | _ => false
theorem plB_at (n : Nat) (xs : List PyData) : plB n (.tuple xs) = (decide (2 ≤ xs.length) && (xs.all isI && decide (xs.map unI = (rgI n).filter fun i => decide (i ∈ xs.map unI)))) := rfl
theorem allI : ∀ {xs : List PyData}, xs.all isI = true → ∃ l : List Int, xs = l.map .int
  | [], _ => ⟨[], rfl⟩
  | x :: xs, h => by
    rw [List.all_cons, Bool.and_eq_true] at h
    obtain ⟨i, rfl⟩ := isI_int h.1
    obtain ⟨l, rfl⟩ := allI h.2
    exact ⟨i :: l, rfl⟩
theorem any_int (ns : List Int) (n : Int) : ((ns.map PyData.int).any fun z => PyData.eqv z (.int n)) = decide (n ∈ ns) := by
  rw [List.any_map, Bool.eq_iff_iff, List.any_eq_true, decide_eq_true_iff]
  constructor
  · rintro ⟨m, hm, e⟩
    have e : PyData.eqv (.int m) (.int n) = true := e
    rw [eqv_ii, decide_eq_true_iff] at e
    subst e
    exact hm
  · intro h
    refine ⟨n, h, ?_⟩
    show PyData.eqv (.int n) (.int n) = true
    rw [eqv_ii, decide_eq_true_iff]
def sp_places_good_k34 : Spc := fun avs Kr Kx => match avs with
  | [.val (.tuple ds), .val d] => ∃ cs, ds = cks cs ∧ cs.length ≤ 1000 ∧ TL d ∧ Kr [] (.val (.bool (plB cs.length d)))
  | _ => False
def w_places_good_k34_C1 : WE :=
  wLc [2] (wISeq (wVar 1)) (gN 2) wYes (wCall 1 sp_is_whole (wMCons (wVar 2) wMNil))
def w_places_good_k34_C2 : WE :=
  wLc [2] (wIRng1 (wCallB oLen (wACons (wVar 0) wANil))) (gN 2) (wTB (wBin (oIn false) (wVar 2) (wVar 1))) (wVar 2)
/-- places_good: 0 clocks, 1 thing, 2 place -/
def w_places_good_k34 : WS :=
  (wSeq (wIfS (wOr (wNot (wTB (wIsi "tuple" (wVar 1)))) (wOr (wTB (wBin oLt (wCallB oLen (wACons (wVar 1) wANil)) (wC (.int 2)))) (wNot (wTB (wCallB oAll (wACons w_places_good_k34_C1 wANil)))))) (wRet (wC (.bool false))) wNext)
    (wRet (wBin oEq (wCallB oList (wACons (wVar 1) wANil)) w_places_good_k34_C2)))

theorem vc_places_good_k34 : ∀ avs Kr Kx, avs.length = 2 → sp_places_good_k34 avs Kr Kx → lsFrom 0 avs = [] ∧ w_places_good_k34 (startEv 3 avs) (kenD [] Kr Kx) := by
  intro avs Kr Kx hl h
  unfold sp_places_good_k34 at h
  split at h
  · rename_i ds d
    obtain ⟨cs, rfl, hl, ht, q⟩ := h
    refine ⟨rfl, ?_⟩
    have lc : (cks cs).length = cs.length := List.length_map _
    unfold w_places_good_k34
    refine seq_cut fun R hR => ?_
    cases d with
    | tuple xs =>
      have hx := ht xs rfl
      rw [plB_at] at q
      dsimp? []
      by_cases h2 : 2 ≤ xs.length
      · rw [if_neg (by omega)]
        rw [decide_eq_true h2, Bool.true_and] at q
        dsimp? [w_places_good_k34_C1, wLc]
        refine lc_p isI (fun x hxm A hA => ?_) (by omega) ?_
        · dsimp? [sp_is_whole]
          exact hA
        · dsimp? [oAll]
          refine ⟨xs.map isI, by rw [List.map_map], ?_⟩
          rw [all_map_id]
          by_cases ha : xs.all isI = true
          · rw [ha, if_neg (by decide)]
            rw [ha, Bool.true_and] at q
            refine hR _ ?_
            obtain ⟨l, rfl⟩ := allI ha
            rw [unI_ints] at q
            dsimp? [w_places_good_k34_C2, wLc, lc]
            dsimp? [rgI_d]
            refine ⟨by omega, by omega, ?_⟩
            refine lc_fl PyData.int (fun i => decide (i ∈ l)) (rgI cs.length) (by rw [rgI_len]; omega) (fun i hi A N hA => ?_) ?_
            · dsimp? []
              refine ⟨sh_tin _, ?_⟩
              rw [any_int]
              exact hA
            · refine ⟨sh_lin _, sh_lin _, ?_⟩
              rw [eqv_lin]
              exact q
          · rw [eq_false_of_ne_true ha, if_pos (by decide)]
            rw [eq_false_of_ne_true ha, Bool.false_and] at q
            exact q
      · rw [if_pos (by omega)]
        rw [decide_eq_false h2, Bool.false_and] at q
        exact q
    | _ => dsimp? [isTy, tyN]; exact q
  · exact h.elim
theorem woF_ok {cs : List (Int × Int)} {c : Int × Int} (hc : ∀ d ∈ cs, CkOk 1000 d) (h : woF cs = some c) : CkOk 1000 c := by
  cases cs with
  | nil => cases h
  | cons d cs =>
    have g := hc d List.mem_cons_self
    rw [woF_at d cs _ rfl] at h
    split at h
    · rename_i hz
      cases h
      obtain ⟨d1, d2, d3⟩ := div_pos g.1 (show (1 : Int) ≤ (((d :: cs).length : Nat) : Int) by rw [List.length_cons]; omega) hz.1
      have := g.2.1
      exact ⟨d1, by simp only; omega, Int.emod_nonneg _ (by omega), Int.emod_lt_of_pos _ (by omega)⟩
    · cases h
/-- those at no such place -/
def lfF (cs : List (Int × Int)) (l : List Int) : List (Int × Int) := (List.range cs.length).filterMap fun (i : Nat) => if (i : Int) ∈ l then none else some (cs.getD i (0, 0))
theorem lfF_mem {cs : List (Int × Int)} {l : List Int} {c : Int × Int} (h : c ∈ lfF cs l) : c ∈ cs := by
  unfold lfF at h
  obtain ⟨i, hi, e⟩ := List.mem_filterMap.mp h
  split at e
  · cases e
  · cases e
    have hi := List.mem_range.mp hi
    rw [List.getD_eq_getElem?_getD, List.getElem?_eq_getElem hi]
    exact List.getElem_mem hi
theorem lfF_len (cs : List (Int × Int)) (l : List Int) : (lfF cs l).length ≤ cs.length := by
  have := List.length_filterMap_le (fun (i : Nat) => if (i : Int) ∈ l then none else some (cs.getD i (0, 0))) (List.range cs.length)
  rw [List.length_range] at this
  exact this
theorem lfF_lc {vs : List Nat} {g : WG} {ct : WT} {we : WE} {K : Ev → List PyData → Prop} {env : Ev} {cs : List (Int × Int)} {l : List Int} (hl : cs.length ≤ 1000)
    (h : ∀ (i : Nat) c, cs[i]? = some c → ∀ (A : PyData → Ev → Prop) (N : Ev → Prop), (if (i : Int) ∈ l then N env else A (ck c) env) → g (.tuple [.int (i : Int), ck c]) env (fun e1 => ct e1 (fun e2 b => if b = true then wFz we e2 (fun e3 y => A y (wipeE e3 vs)) NoX else N (wipeE e2 vs)) NoX))
    (hK : K env (cks (lfF cs l))) : wLcE vs g ct we (enD (cks cs)) [] env K := by
  rw [enD_rg (cks cs) .none, List.length_map]
  refine lc_fm _ (fun (i : Nat) => if (i : Int) ∈ l then none else some (ck (cs.getD i (0, 0)))) _ [] (fun i hi A N hA => ?_) (small100000 (by rw [List.length_nil, List.length_range]; omega)) ?_
  · have hi := List.mem_range.mp hi
    have hat := List.getElem?_eq_getElem hi
    have e1 : (cks cs).getD i .none = ck cs[i] := by
      rw [List.getD_eq_getElem?_getD, cks, List.getElem?_map, hat]
      rfl
    have e2 : cs.getD i (0, 0) = cs[i] := by rw [List.getD_eq_getElem?_getD, hat]; rfl
    rw [e1]
    refine h i _ hat A N ?_
    rw [e2] at hA
    by_cases z : (i : Int) ∈ l
    · rw [if_pos z] at hA ⊢
      exact hA
    · rw [if_neg z] at hA ⊢
      exact hA
  · rw [List.nil_append]
    have e3 : (List.range cs.length).filterMap (fun (i : Nat) => if (i : Int) ∈ l then none else some (ck (cs.getD i (0, 0)))) = cks (lfF cs l) := by
      unfold lfF cks
      rw [List.map_filterMap]
      congr 1
      funext i
      split <;> rfl
    rw [e3]
    exact hK
theorem plB_inv {n : Nat} {d : PyData} (h : plB n d = true) : ∃ l, d = tpl l ∧ 2 ≤ l.length ∧ l = (rgI n).filter fun i => decide (i ∈ l) := by
  cases d with
  | tuple xs =>
    rw [plB_at, Bool.and_eq_true, Bool.and_eq_true, decide_eq_true_iff, decide_eq_true_iff] at h
    obtain ⟨h1, h2, h3⟩ := h
    obtain ⟨l, rfl⟩ := allI h2
    rw [unI_ints] at h3
    rw [List.length_map] at h1
    exact ⟨l, rfl, h1, h3⟩
  | _ => cases h
theorem rgI_in {n : Nat} {l : List Int} (h : l = (rgI n).filter fun i => decide (i ∈ l)) : ∀ i ∈ l, 0 ≤ i ∧ i < (n : Int) := fun i hi => by
  rw [h] at hi
  exact rgI_mem.mp (List.mem_filter.mp hi).1
theorem rg_len {n : Nat} {l : List Int} (h : l = (rgI n).filter fun i => decide (i ∈ l)) : l.length ≤ n := by
  have := List.length_filter_le (fun i => decide (i ∈ l)) (rgI n)
  rw [← h, rgI_len] at this
  omega
theorem sub_ok {cs : List (Int × Int)} {l : List Int} (hc : ∀ c ∈ cs, CkOk 1000 c) (hi : ∀ i ∈ l, 0 ≤ i ∧ i < (cs.length : Int)) : ∀ c ∈ subC cs l, CkOk 1000 c := fun c h => by
  obtain ⟨i, him, rfl⟩ := List.mem_map.mp h
  exact hc _ (mem_sub (hi i him).1 (hi i him).2)
def sp_join_at : Spc := fun avs Kr Kx => match avs with
  | [.val (.tuple ds), .val d] => ∃ cs, ds = cks cs ∧ cs.length ≤ 40 ∧ (∀ c ∈ cs, CkOk 1000 c) ∧ TL d ∧ (∀ l c, d = tpl l → plB cs.length d = true → woF (subC cs l) = some c → Kr [] (.val (.tuple (cks (ordC (lfF cs l ++ [c])))))) ∧ ((∀ l c, d = tpl l → plB cs.length d = true → woF (subC cs l) ≠ some c) → False)
  | _ => False
def w_join_at_C1 : WE :=
  wLc [3, 4] (wIEnumT (wFCons (wVar 0) wFNil)) (gT 2 (gCons' (gN 3) (gCons' (gN 4) gNil'))) (wTB (wBin (oIn true) (wVar 3) (wVar 1))) (wVar 4)
/-- join_at: 0 clocks, 1 places, 2 left, 3 place, 4 clock -/
def w_join_at : WS :=
  (wSeq (wIfS (wOr (wNot (wTB (wCall 2 sp_places_good_k34 (wMCons (wVar 0) (wMCons (wVar 1) wMNil))))) (wTB (wBin oIs (wCall 2 sp_whole_of (wMCons (wVar 0) (wMCons (wVar 1) wMNil))) (wC .none)))) wNever wNext)
    (wSeq (wSet 2 w_join_at_C1)
    (wRet (wCallB oTuple (wACons (wSortSet (wBin oAdd (wVar 2) (wLst (wFCons (wCall 2 sp_whole_of (wMCons (wVar 0) (wMCons (wVar 1) wMNil))) wFNil)))) wANil)))))

theorem vc_join_at : ∀ avs Kr Kx, avs.length = 2 → sp_join_at avs Kr Kx → lsFrom 0 avs = [] ∧ w_join_at (startEv 5 avs) (kenD [] Kr Kx) := by
  intro avs Kr Kx hl h
  unfold sp_join_at at h
  split at h
  · rename_i ds d
    obtain ⟨cs, rfl, hl, hc, ht, q1, q2⟩ := h
    refine ⟨rfl, ?_⟩
    have lc : (cks cs).length = cs.length := List.length_map _
    unfold w_join_at
    refine seq_cut fun R hR => ?_
    dsimp? [sp_places_good_k34]
    refine ⟨cs, rfl, by omega, ht, ?_⟩
    by_cases hp : plB cs.length d = true
    · rw [hp, if_neg (by decide)]
      obtain ⟨l, rfl, l2, lr⟩ := plB_inv hp
      have li := rgI_in lr
      have ll := rg_len lr
      have lne : l ≠ [] := fun e => by rw [e] at l2; cases l2
      unfold tpl
      dsimp? [sp_whole_of]
      refine ⟨cs, rfl, l, rfl, lne, by omega, li, hc, ?_⟩
      cases hw : woF (subC cs l) with
      | none =>
        exact q2 fun l2 c2 e2 _ => by rw [← tpl_inj e2, hw]; exact fun h => by cases h
      | some c =>
        have q := q1 l c rfl hp hw
        rw [if_neg (by exact Bool.false_ne_true)]
        refine hR _ ?_
        refine seq_cut fun R hR => ?_
        dsimp? [w_join_at_C1, wLc]
        refine lfF_lc (l := l) (by omega) (fun i c hi A N hA => ?_) ?_
        · dsimp? [ck]
          refine ⟨sh_tin _, ?_⟩
          rw [any_int]
          by_cases z : (i : Int) ∈ l
          · rw [if_pos z] at hA
            rw [decide_eq_true z, if_neg (by decide)]
            exact hA
          · rw [if_neg z] at hA
            rw [decide_eq_false z, if_pos (by decide)]
            exact hA
        · have cok := woF_ok (sub_ok hc li) hw
          have okm : ∀ d ∈ lfF cs l ++ [c], CkOk 1000 d := fun d hd => by
            rcases List.mem_append.mp hd with h | h
            · exact hc d (lfF_mem h)
            · simp only [List.mem_singleton] at h
              subst h
              exact cok
          have lfl := lfF_len cs l
          dsimp? []
          refine hR _ ?_
          dsimp? [sp_whole_of]
          refine ⟨cs, rfl, l, rfl, lne, by omega, li, hc, ?_⟩
          rw [hw]
          dsimp? [optC]
          rw [cks_snc]
          refine ⟨by decide, by rw [sizeLine_eq, List.length_map]; omega, ?_⟩
          refine ordC_ss (m := 1000) (by decide) okm (by rw [List.length_append, List.length_singleton]; omega) ?_
          dsimp? []
          exact q
    · rw [eq_false_of_ne_true hp, if_pos (by decide)]
      exact q2 fun l c _ h => (hp h).elim
  · exact h.elim
/-- the places of the parts, where all are there -/
def jnF (cs : List (Int × Int)) (c : Int × Int) (k : Nat) : Option (List Int) := if c.1 % (k : Int) = 0 ∧ c.2 < c.1 / (k : Int) ∧ ((prts (c.1 / (k : Int), c.2) k).all fun p => decide (p ∈ cs)) = true then some ((prts (c.1 / (k : Int), c.2) k).map fun p => (cs.idxOf p : Int)) else none
def jnsF (cs : List (Int × Int)) (c : Int × Int) (m : Nat) : List (List Int) := (List.range m).filterMap fun j => jnF cs c (j + 2)
def joF (cs : List (Int × Int)) : List (List Int) := cs.flatMap fun c => jnsF cs c (cs.length - 1)
theorem jnF_some {cs : List (Int × Int)} {c : Int × Int} {k : Nat} {l : List Int} (h : jnF cs c k = some l) : c.1 % (k : Int) = 0 ∧ c.2 < c.1 / (k : Int) ∧ (∀ p ∈ prts (c.1 / (k : Int), c.2) k, p ∈ cs) ∧ l = (prts (c.1 / (k : Int), c.2) k).map fun p => (cs.idxOf p : Int) := by
  unfold jnF at h
  split at h
  · rename_i hz
    obtain ⟨h1, h2, h3⟩ := hz
    cases h
    exact ⟨h1, h2, fun p hp => of_decide_eq_true (List.all_eq_true.mp h3 p hp), rfl⟩
  · cases h
theorem jn_len {cs : List (Int × Int)} {c : Int × Int} {k : Nat} {l : List Int} (h : jnF cs c k = some l) : l.length = k := by
  rw [(jnF_some h).2.2.2, List.length_map, prts_len]
theorem jns_ne {cs : List (Int × Int)} {c : Int × Int} {m : Nat} : ∀ l ∈ jnsF cs c m, l ≠ [] := fun l hl e => by
  obtain ⟨j, _, hj⟩ := List.mem_filterMap.mp hl
  have := jn_len hj
  rw [e] at this
  cases this
theorem jns_len (cs : List (Int × Int)) (c : Int × Int) (m : Nat) : (jnsF cs c m).length ≤ m := by
  have := List.length_filterMap_le (fun j => jnF cs c (j + 2)) (List.range m)
  rw [List.length_range] at this
  exact this
theorem jns_succ (cs : List (Int × Int)) (c : Int × Int) (m : Nat) : jnsF cs c (m + 1) = jnsF cs c m ++ (jnF cs c (m + 2)).toList := by
  unfold jnsF
  rw [List.range_succ, List.filterMap_append]
  congr 1
theorem fm_len2 {α β : Type} (f : α → List β) (m : Nat) (h : ∀ x, (f x).length ≤ m) : ∀ xs : List α, (xs.flatMap f).length ≤ xs.length * m
  | [] => Nat.zero_le _
  | x :: xs => by
    have a := h x
    have b := fm_len2 f m h xs
    rw [List.flatMap_cons, List.length_append, List.length_cons, Nat.succ_mul]
    omega
theorem ix_ck {cs : List (Int × Int)} {p : Int × Int} (h : p ∈ cs) : (cks cs)[cs.idxOf p]? = some (ck p) ∧ ∀ (m : Nat) (z : PyData), m < cs.idxOf p → (cks cs)[m]? = some z → PyData.eqv z (ck p) = false := by
  have hl := List.idxOf_lt_length_of_mem h
  refine ⟨?_, fun m z hm hz => ?_⟩
  · rw [cks, List.getElem?_map, List.getElem?_eq_getElem hl, List.getElem_idxOf hl]
    rfl
  · have hml : m < cs.length := by omega
    rw [cks, List.getElem?_map, List.getElem?_eq_getElem hml] at hz
    cases hz
    rw [eqv_ck]
    have := List.not_of_lt_findIdx (p := fun x => x == p) (xs := cs) (show m < cs.findIdx fun x => x == p from hm)
    refine decide_eq_false fun e => ?_
    rw [e, beq_self_eq_true] at this
    cases this
def sp_joins_of : Spc := fun avs Kr Kx => match avs with
  | [.val (.tuple ds)] => ∃ cs, ds = cks cs ∧ cs.length ≤ 40 ∧ (∀ c ∈ cs, CkOk 1000 c) ∧ Kr [] (.own (((joF cs).mergeSort lle).map tpl))
  | _ => False
def w_joins_of_C1 : WE :=
  wLc [6] (wISeq (wVar 5)) (gN 6) wYes (wBin (oIn false) (wVar 6) (wVar 0))
def w_joins_of_C2 : WE :=
  wLc [6] (wISeq (wVar 5)) (gN 6) wYes ((wIdxT (wVar 0) (wVar 6)))
def w_joins_of_B1 : WS :=
  (wIfS (wAnd (wTB (wBin oEq (wBin oMod (wVar 2) (wVar 4)) (wC (.int 0)))) (wTB (wBin oLt (wVar 3) (wBin oFdiv (wVar 2) (wVar 4))))) (wSeq (wSet 5 (wCall 2 sp_parts_of (wMCons (wTup (wFCons (wBin oFdiv (wVar 2) (wVar 4)) (wFCons (wVar 3) wFNil))) (wMCons (wVar 4) wMNil))))
    (wIfS (wTB (wCallB oAll (wACons w_joins_of_C1 wANil))) (wDrop (wOwnF 1 (wCallB oTuple (wACons w_joins_of_C2 wANil)) muApp)) wNext)) wNext)
def w_joins_of_L1 : WS :=
  wFor (wIRng2 (wC (.int 2)) (wBin oAdd (wCallB oLen (wACons (wVar 0) wANil)) (wC (.int 1)))) (gN 4) w_joins_of_B1
def w_joins_of_B2 : WS :=
  w_joins_of_L1
def w_joins_of_L2 : WS :=
  wFor (wISeq (wVar 0)) (gT 2 (gCons' (gN 2) (gCons' (gN 3) gNil'))) w_joins_of_B2
def w_joins_of_R1 : WS :=
  (wRet (wCallB oSorted (wACons (wVar 1) wANil)))
/-- joins_of: 0 clocks, 1 found, 2 step, 3 rest, 4 k, 5 parts, 6 part -/
def w_joins_of : WS :=
  (wSeq (wSet 1 (wLst wFNil))
    (wSeq w_joins_of_L2
    w_joins_of_R1))

theorem vc_joins_of : ∀ avs Kr Kx, avs.length = 1 → sp_joins_of avs Kr Kx → lsFrom 0 avs = [] ∧ w_joins_of (startEv 7 avs) (kenD [] Kr Kx) := by
  intro avs Kr Kx hl h
  unfold sp_joins_of at h
  split at h
  · rename_i ds
    obtain ⟨cs, rfl, hl, hc, q⟩ := h
    refine ⟨rfl, ?_⟩
    have lc : (cks cs).length = cs.length := List.length_map _
    unfold w_joins_of
    refine seq_cut fun R hR => ?_
    dsimp? []
    refine ⟨by decide, hR _ ?_⟩
    refine seq_cut fun R hR => ?_
    dsimp? [w_joins_of_L2, wFor]
    refine each_pre ck cs (fun pre e => ∃ x2 x3 x4 x5, e = [.val (.tuple (cks cs)), .own false ((pre.flatMap fun c => jnsF cs c (cs.length - 1)).map tpl), x2, x3, x4, x5, .un]) ?_ ?_ _ ⟨_, _, _, _, rfl⟩
    · rintro e ⟨x2, x3, x4, x5, rfl⟩
      refine hR _ ?_
      dsimp? [w_joins_of_R1]
      refine ⟨srt_tpls fun l h => ?_, ?_⟩
      · obtain ⟨c, _, hc⟩ := List.mem_flatMap.mp h
        exact jns_ne l hc
      · rw [sort_tpls]
        exact q
    · rintro pre c post he e R9 ⟨x2, x3, x4, x5, rfl⟩ ih
      have hcm : c ∈ cs := by rw [he]; exact List.mem_append_right _ List.mem_cons_self
      have g := hc c hcm
      obtain ⟨s, r⟩ := c
      have s1 : 1 ≤ s := g.1
      have s2 : s ≤ 1000 := g.2.1
      have r0 : 0 ≤ r := g.2.2.1
      have rs : r < s := g.2.2.2
      dsimp? [ck, w_joins_of_B2, w_joins_of_L1, wFor, lc]
      refine ⟨by decide, by decide, by omega, by omega, ?_⟩
      rw [show ((cs.length : Int) + 1 - 2).toNat = cs.length - 1 by omega]
      refine each_range2 (fun i e => ∃ x4 x5, e = [.val (.tuple (cks cs)), .own false ((pre.flatMap (fun c => jnsF cs c (cs.length - 1)) ++ jnsF cs (s, r) i).map tpl), .val (.int s), .val (.int r), x4, x5, .un]) ⟨_, _, by rw [show jnsF cs (s, r) 0 = [] from rfl, List.append_nil]⟩ ?_ ?_
      · rintro e ⟨x4, x5, rfl⟩
        refine ih _ ⟨.val (.int s), .val (.int r), x4, x5, ?_⟩
        rw [List.flatMap_append, List.flatMap_cons, List.flatMap_nil, List.append_nil]
      · rintro i e R8 hi2 ⟨x4, x5, rfl⟩ ih2
        rw [jns_succ, ← List.append_assoc] at ih2
        have hlen : (pre.flatMap (fun c => jnsF cs c (cs.length - 1)) ++ jnsF cs (s, r) i).length ≤ 2000 := by
          have a := fm_len2 (fun c => jnsF cs c (cs.length - 1)) 40 (fun c => by have := jns_len cs c (cs.length - 1); omega) pre
          have b := jns_len cs (s, r) i
          have c := congrArg List.length he
          rw [List.length_append, List.length_cons] at c
          rw [List.length_append]
          have : pre.length * 40 ≤ 40 * 40 := Nat.mul_le_mul_right _ (by omega)
          omega
        generalize pre.flatMap (fun c => jnsF cs c (cs.length - 1)) ++ jnsF cs (s, r) i = acc at *
        rw [show (2 : Int) + (i : Int) = ((i + 2 : Nat) : Int) by omega]
        dsimp? [w_joins_of_B1]
        refine ⟨by omega, ?_⟩
        by_cases hz : s % ((i + 2 : Nat) : Int) = 0
        · obtain ⟨d1, d2, d3⟩ := div_pos s1 (show (1 : Int) ≤ ((i + 2 : Nat) : Int) by omega) hz
          rw [if_pos hz]
          refine ⟨by omega, log_small (by omega) (by omega), ?_⟩
          generalize hd9 : s / ((i + 2 : Nat) : Int) = d at *
          by_cases hr : r < d
          · rw [if_pos hr]
            dsimp? [sp_parts_of]
            refine ⟨by omega, log_small (by omega) (by omega), by decide, i + 2, rfl, by omega, Nat.lt_of_lt_of_le (show d.natAbs < 2 ^ 60 by omega) (Nat.pow_le_pow_right (by decide) (by decide)), ?_⟩
            dsimp? [w_joins_of_C1, wLc]
            refine lc_map ck (fun p => .bool (decide (p ∈ cs))) (prts (d, r) (i + 2)) (fun p hp A hA => ?_) (small100000 (by rw [prts_len]; omega)) ?_
            · obtain ⟨p1, p2⟩ := p
              dsimp? [ck]
              refine ⟨sh_ck (p1, p2), sh_tck _, ?_⟩
              rw [any_ck]
              exact hA
            · dsimp? [oAll]
              refine ⟨(prts (d, r) (i + 2)).map fun p => decide (p ∈ cs), by rw [List.map_map]; rfl, ?_⟩
              rw [List.all_map]
              by_cases ha : ((prts (d, r) (i + 2)).all fun p => decide (p ∈ cs)) = true
              · have ha2 : ((prts (d, r) (i + 2)).all (id ∘ fun p => decide (p ∈ cs))) = true := ha
                rw [if_pos ha2]
                dsimp? [w_joins_of_C2, wLc]
                have hin : ∀ p ∈ prts (d, r) (i + 2), p ∈ cs := fun p hp => of_decide_eq_true (List.all_eq_true.mp ha p hp)
                refine lc_map ck (fun p => .int (cs.idxOf p : Int)) (prts (d, r) (i + 2)) (fun p hp A hA => ?_) (small100000 (by rw [prts_len]; omega)) ?_
                · obtain ⟨x1, x2⟩ := ix_ck (hin p hp)
                  obtain ⟨p1, p2⟩ := p
                  dsimp? [ck, wIdxT]
                  exact ⟨ck (p1, p2), rfl, sh_tck cs, sh_ck _, cs.idxOf (p1, p2), ck (p1, p2), x1, by rw [eqv_ck]; exact decide_eq_true rfl, x2, hA⟩
                · have e9 : jnF cs (s, r) (i + 2) = some ((prts (d, r) (i + 2)).map fun p => (cs.idxOf p : Int)) := by
                    unfold jnF
                    rw [if_pos ⟨hz, by simp only [hd9]; exact hr, by simp only [hd9]; exact ha⟩]
                    simp only [hd9]
                  have e8 : ((prts (d, r) (i + 2)).map fun p => PyData.int (cs.idxOf p : Int)) = ((prts (d, r) (i + 2)).map fun p => (cs.idxOf p : Int)).map .int := by rw [List.map_map]; rfl
                  rw [e9] at ih2
                  rw [e8]
                  dsimp? []
                  refine ⟨by rw [sizeLine_eq, List.length_map]; omega, ?_⟩
                  refine ih2 _ ⟨.val (.int ((i + 2 : Nat) : Int)), .val (.list (cks (prts (d, r) (i + 2)))), ?_⟩
                  rw [List.map_append]
                  rfl
              · have ha2 : ¬ ((prts (d, r) (i + 2)).all (id ∘ fun p => decide (p ∈ cs))) = true := ha
                rw [if_neg ha2]
                have e9 : jnF cs (s, r) (i + 2) = none := by
                  unfold jnF
                  rw [if_neg]
                  intro h
                  simp only [hd9] at h
                  exact ha h.2.2
                rw [e9] at ih2
                simp only [Option.toList_none, List.append_nil] at ih2
                exact ih2 _ ⟨_, _, rfl⟩
          · rw [if_neg hr]
            have e9 : jnF cs (s, r) (i + 2) = none := by
              unfold jnF
              rw [if_neg]
              intro h
              simp only [hd9] at h
              exact hr h.2.1
            rw [e9] at ih2
            simp only [Option.toList_none, List.append_nil] at ih2
            exact ih2 _ ⟨_, _, rfl⟩
        · rw [if_neg hz]
          have e9 : jnF cs (s, r) (i + 2) = none := by
            unfold jnF
            rw [if_neg]
            intro h
            exact hz h.1
          rw [e9] at ih2
          simp only [Option.toList_none, List.append_nil] at ih2
          exact ih2 _ ⟨_, _, rfl⟩
  · exact h.elim
end Dl
end L2

/-! The plain half, 68: the joins are just those that are due. -/
namespace L2
namespace Dl
open PySem PySem.Spec PyProof.Rows
/-- rising places below n -/
def Rise (n : Nat) (l : List Int) : Prop := l = (rgI (n : Int)).filter fun i => decide (i ∈ l)
/-- a set of places that is due -/
def okP (cs : List (Int × Int)) (l : List Int) : Bool := decide (1 < l.length) && (woF (subC cs l)).isSome
theorem idx_lt {cs : List (Int × Int)} (hp : cs.Pairwise clt) {p q : Int × Int} (h1 : p ∈ cs) (h2 : q ∈ cs) (h : clt p q) : cs.idxOf p < cs.idxOf q := by
  have l1 := List.idxOf_lt_length_of_mem h1
  have l2 := List.idxOf_lt_length_of_mem h2
  refine Nat.lt_of_not_le fun hle => ?_
  have e1 := List.getElem_idxOf l1
  have e2 := List.getElem_idxOf l2
  by_cases e : cs.idxOf q = cs.idxOf p
  · have : q = p := by rw [← e1, ← e2]; simp only [e]
    rw [this] at h
    exact clt_ir h
  · have := List.pairwise_iff_getElem.mp hp _ _ l2 l1 (by omega)
    rw [e1, e2] at this
    exact clt_ir (clt_tr h this)
theorem sub_idx {cs ps : List (Int × Int)} (h : ∀ p ∈ ps, p ∈ cs) : subC cs (ps.map fun p => (cs.idxOf p : Int)) = ps := by
  unfold subC
  rw [List.map_map]
  have : ∀ p ∈ ps, ((fun i : Int => cs.getD i.toNat (0, 0)) ∘ fun p => (cs.idxOf p : Int)) p = p := fun p hp => by
    have l1 := List.idxOf_lt_length_of_mem (h p hp)
    show cs.getD (cs.idxOf p : Int).toNat (0, 0) = p
    rw [Int.toNat_natCast, List.getD_eq_getElem?_getD, List.getElem?_eq_getElem l1]
    exact List.getElem_idxOf l1
  exact (List.map_congr_left this).trans (List.map_id' ps)
theorem idx_sub {cs : List (Int × Int)} (hp : cs.Pairwise clt) {l : List Int} (h : ∀ i ∈ l, 0 ≤ i ∧ i < (cs.length : Int)) : (subC cs l).map (fun p => (cs.idxOf p : Int)) = l := by
  unfold subC
  rw [List.map_map]
  have : ∀ i ∈ l, ((fun p => (cs.idxOf p : Int)) ∘ fun i : Int => cs.getD i.toNat (0, 0)) i = i := fun i hi => by
    obtain ⟨h0, h1⟩ := h i hi
    have hl : i.toNat < cs.length := by omega
    show (cs.idxOf (cs.getD i.toNat (0, 0)) : Int) = i
    rw [List.getD_eq_getElem?_getD, List.getElem?_eq_getElem hl]
    have := (clt_nodup hp).idxOf_getElem i.toNat hl
    show ((cs.idxOf cs[i.toNat] : Nat) : Int) = i
    rw [this]
    omega
  exact (List.map_congr_left this).trans (List.map_id' l)
theorem prts_lt {d r : Int} (hd : 1 ≤ d) (k : Nat) : (prts (d, r) k).Pairwise clt := by
  unfold prts
  refine (List.pairwise_map).mpr (List.pairwise_lt_range.imp fun {a b} h => ?_)
  refine .inr ⟨rfl, ?_⟩
  show r + d * (a : Int) < r + d * (b : Int)
  have : d * ((a : Int) + 1) ≤ d * (b : Int) := Int.mul_le_mul_of_nonneg_left (by omega) (by omega)
  rw [Int.mul_add, Int.mul_one] at this
  omega
theorem rise_of {n : Nat} {l : List Int} (h1 : l.Pairwise (· < ·)) (h2 : ∀ i ∈ l, 0 ≤ i ∧ i < (n : Int)) : Rise n l := by
  refine lt_uniq h1 ((rgI_lt n).sublist List.filter_sublist) fun i => ?_
  rw [List.mem_filter, rgI_mem, decide_eq_true_iff]
  exact ⟨fun h => ⟨h2 i h, h⟩, fun h => h.2⟩
theorem prts_hd (c : Int × Int) (k : Nat) : prts c (k + 1) = (c.1 * ((k + 1 : Nat) : Int), c.2) :: (prts c (k + 1)).tail := by
  unfold prts
  rw [List.range_succ_eq_map, List.map_cons, List.tail_cons]
  congr 1
  exact Prod.ext rfl (by show c.2 + c.1 * ((0 : Nat) : Int) = c.2; rw [Int.natCast_zero, Int.mul_zero, Int.add_zero])
theorem jo_in {cs : List (Int × Int)} {l : List Int} : l ∈ joF cs ↔ ∃ c ∈ cs, ∃ k : Nat, 2 ≤ k ∧ k ≤ cs.length ∧ jnF cs c k = some l := by
  unfold joF jnsF
  rw [List.mem_flatMap]
  constructor
  · rintro ⟨c, hc, h⟩
    obtain ⟨j, hj, e⟩ := List.mem_filterMap.mp h
    have := List.mem_range.mp hj
    exact ⟨c, hc, j + 2, by omega, by omega, e⟩
  · rintro ⟨c, hc, k, h1, h2, e⟩
    refine ⟨c, hc, List.mem_filterMap.mpr ⟨k - 2, List.mem_range.mpr (by omega), ?_⟩⟩
    rw [show k - 2 + 2 = k by omega]
    exact e
theorem jo_mem {cs : List (Int × Int)} (hp : cs.Pairwise clt) (hc : ∀ c ∈ cs, CkOk 1000 c) (l : List Int) : l ∈ joF cs ↔ Rise cs.length l ∧ okP cs l = true := by
  rw [jo_in]
  constructor
  · rintro ⟨c, hcm, k, k2, kl, h⟩
    obtain ⟨h1, h2, h3, e⟩ := jnF_some h
    obtain ⟨c1, c2, c3, c4⟩ := hc c hcm
    obtain ⟨d1, d2, d3⟩ := div_pos c1 (show (1 : Int) ≤ (k : Int) by omega) h1
    have lt := prts_lt (r := c.2) d1 k
    have hl : l.length = k := jn_len h
    have rise : Rise cs.length l := by
      refine rise_of ?_ ?_
      · rw [e]
        refine (List.pairwise_map).mpr (List.Pairwise.imp_of_mem (fun {p q} hp1 hq1 hpq => ?_) lt)
        have := idx_lt hp (h3 p hp1) (h3 q hq1) hpq
        omega
      · intro i hi
        rw [e] at hi
        obtain ⟨p, hp1, rfl⟩ := List.mem_map.mp hi
        have := List.idxOf_lt_length_of_mem (h3 p hp1)
        omega
    refine ⟨rise, ?_⟩
    unfold okP
    rw [hl, decide_eq_true (by omega), Bool.true_and, e, sub_idx h3]
    obtain ⟨k', rfl⟩ : ∃ k', k = k' + 1 := ⟨k - 1, by omega⟩
    have hd := prts_hd (c.1 / ((k' + 1 : Nat) : Int), c.2) k'
    have ec : c.1 / ((k' + 1 : Nat) : Int) * ((k' + 1 : Nat) : Int) = c.1 := by rw [Int.mul_comm]; exact d3
    have hd : prts (c.1 / ((k' + 1 : Nat) : Int), c.2) (k' + 1) = (c.1, c.2) :: (prts (c.1 / ((k' + 1 : Nat) : Int), c.2) (k' + 1)).tail := hd.trans (congrArg (fun z => z :: (prts (c.1 / ((k' + 1 : Nat) : Int), c.2) (k' + 1)).tail) (Prod.ext ec rfl))
    have len : ((c.1, c.2) :: (prts (c.1 / ((k' + 1 : Nat) : Int), c.2) (k' + 1)).tail).length = k' + 1 := by rw [← hd, prts_len]
    rw [hd, woF_at _ _ _ len, ← hd]
    have em : c.2 % (c.1 / ((k' + 1 : Nat) : Int)) = c.2 := Int.emod_eq_of_lt c3 h2
    rw [if_pos ⟨h1, by simp only [em]⟩]
    rfl
  · rintro ⟨rise, ok⟩
    unfold okP at ok
    rw [Bool.and_eq_true] at ok
    have l2 := of_decide_eq_true ok.1
    have hr := rgI_in rise
    have hlen := rg_len rise
    have subok := sub_ok hc hr
    have slen : (subC cs l).length = l.length := by unfold subC; rw [List.length_map]
    have sin : ∀ p ∈ subC cs l, p ∈ cs := fun p hp1 => by
      unfold subC at hp1
      obtain ⟨i, hi, rfl⟩ := List.mem_map.mp hp1
      exact mem_sub (hr i hi).1 (hr i hi).2
    have back := idx_sub hp hr
    cases hs : subC cs l with
    | nil => rw [hs] at slen; simp at slen; omega
    | cons c rest =>
      rw [hs] at slen sin back
      have o2 := ok.2
      rw [hs, woF_at c rest l.length slen] at o2
      split at o2
      · rename_i hz
        obtain ⟨z1, z2⟩ := hz
        have hcm := sin c List.mem_cons_self
        obtain ⟨c1, c2, c3, c4⟩ := hc c hcm
        obtain ⟨d1, d2, d3⟩ := div_pos c1 (show (1 : Int) ≤ (l.length : Int) by omega) z1
        obtain ⟨k', ek⟩ : ∃ k', l.length = k' + 1 := ⟨l.length - 1, by omega⟩
        have hd := prts_hd (c.1 / (l.length : Int), c.2 % (c.1 / (l.length : Int))) k'
        rw [← ek, z2] at hd
        have ec := (List.cons.inj hd).1
        have e2 : c.2 = c.2 % (c.1 / (l.length : Int)) := congrArg Prod.snd ec
        have lt2 : c.2 < c.1 / (l.length : Int) := by
          have := Int.emod_lt_of_pos c.2 (show 0 < c.1 / (l.length : Int) by omega)
          omega
        rw [← e2] at z2
        refine ⟨c, hcm, l.length, by omega, hlen, ?_⟩
        unfold jnF
        rw [z2, if_pos ⟨z1, lt2, List.all_eq_true.mpr fun p hp1 => decide_eq_true (sin p hp1)⟩, back]
      · cases o2
end Dl
end L2

/-! The plain half, 69: clocks that come by splits. -/
namespace L2
namespace Dl
open PySem PySem.Spec PyProof.Rows
def Okc (c : Int × Int) : Prop := 1 ≤ c.1 ∧ 0 ≤ c.2 ∧ c.2 < c.1
def Pr (p : Nat) : Prop := 2 ≤ p ∧ ∀ m, m ∣ p → m = 1 ∨ m = p
theorem pr_ex (k : Nat) : 2 ≤ k → ∃ p, Pr p ∧ p ∣ k := by
  induction k using Nat.strongRecOn with
  | _ k ih =>
    intro h2
    by_cases h : ∀ m, m ∣ k → m = 1 ∨ m = k
    · exact ⟨k, ⟨h2, h⟩, Nat.dvd_refl k⟩
    · have ⟨m, hm⟩ : ∃ m, ¬ (m ∣ k → m = 1 ∨ m = k) := Classical.not_forall.mp h
      have hd : m ∣ k := Classical.byContradiction fun z => hm fun y => (z y).elim
      have hn : ¬ (m = 1 ∨ m = k) := fun z => hm fun _ => z
      have le := Nat.le_of_dvd (by omega) hd
      have m0 : m ≠ 0 := fun e => by
        subst e
        have := Nat.eq_zero_of_zero_dvd hd
        omega
      obtain ⟨p, hp, hpm⟩ := ih m (by omega) (by omega)
      exact ⟨p, hp, Nat.dvd_trans hpm hd⟩
theorem pr_cop {p r : Nat} (hp : Pr p) (hr : Pr r) (hne : r ≠ p) : Nat.Coprime r p := by
  have h1 := Nat.gcd_dvd_left r p
  have h2 := Nat.gcd_dvd_right r p
  rcases hr.2 _ h1 with e | e
  · exact e
  · rw [e] at h2
    rcases hp.2 _ h2 with e | e
    · have := hr.1; omega
    · exact (hne e).elim
theorem cop_dvd {c d : Int} {p r : Nat} (hc : 1 ≤ c) (h : Nat.Coprime r p) (h1 : c * (r : Int) ∣ d) (h2 : c * (p : Int) ∣ d) : c * (p : Int) * (r : Int) ∣ d := by
  obtain ⟨a, rfl⟩ := h1
  obtain ⟨b, hb⟩ := h2
  rw [Int.mul_assoc, Int.mul_assoc] at hb
  have e := Int.eq_of_mul_eq_mul_left (show c ≠ 0 by omega) hb
  have pd : (p : Int) ∣ (r : Int) * a := ⟨b, e⟩
  have pa : p ∣ a.natAbs := by
    have := Int.natAbs_dvd_natAbs.mpr pd
    rw [Int.natAbs_mul, Int.natAbs_natCast, Int.natAbs_natCast] at this
    exact (Nat.Coprime.symm h).dvd_of_dvd_mul_left this
  obtain ⟨q, rfl⟩ : (p : Int) ∣ a := Int.natAbs_dvd_natAbs.mp (by rwa [Int.natAbs_natCast])
  refine ⟨q, ?_⟩
  rw [Int.mul_assoc, Int.mul_assoc, Int.mul_assoc]
  congr 1
  rw [← Int.mul_assoc, ← Int.mul_assoc, Int.mul_comm (r : Int)]
theorem inB_iff {d a : Int × Int} (ha : Okc a) : inB d a = true ↔ a.1 ∣ d.1 ∧ a.1 ∣ d.2 - a.2 := by
  unfold inB
  rw [Bool.and_eq_true, decide_eq_true_iff, decide_eq_true_iff, ← Rg_mod ha.2.1 ha.2.2, ← Int.dvd_iff_emod_eq_zero]
  exact Iff.rfl
theorem okc_prts {c a : Int × Int} {k : Nat} (hc : Okc c) (h : a ∈ prts c k) : Okc a := by
  obtain ⟨i, hi, rfl⟩ := mem_prts h
  obtain ⟨h1, h2, h3⟩ := hc
  have l1 : c.1 * ((i : Int) + 1) ≤ c.1 * (k : Int) := Int.mul_le_mul_of_nonneg_left (by omega) (by omega)
  have l2 : 0 ≤ c.1 * (i : Int) := Int.mul_nonneg (by omega) (by omega)
  have l3 : c.1 * 1 ≤ c.1 * (k : Int) := Int.mul_le_mul_of_nonneg_left (by omega) (by omega)
  rw [Int.mul_add, Int.mul_one] at l1
  refine ⟨?_, ?_, ?_⟩
  all_goals simp only
  all_goals omega
theorem inB_prts {c a : Int × Int} {k : Nat} (hc : Okc c) (h : a ∈ prts c k) : inB a c = true := by
  obtain ⟨i, hi, rfl⟩ := mem_prts h
  rw [inB_iff hc]
  refine ⟨⟨k, rfl⟩, ⟨i, ?_⟩⟩
  simp only
  omega
theorem inB_tr {a b c : Int × Int} (hb : Okc b) (hc : Okc c) (h1 : inB a b = true) (h2 : inB b c = true) : inB a c = true := by
  rw [inB_iff hb] at h1
  rw [inB_iff hc] at h2 ⊢
  refine ⟨Int.dvd_trans h2.1 h1.1, ?_⟩
  have := Int.dvd_add (Int.dvd_trans h2.1 h1.2) h2.2
  rwa [show a.2 - b.2 + (b.2 - c.2) = a.2 - c.2 by omega] at this
/-- that part of them -/
def fB (a : Int × Int) (S : List (Int × Int)) : List (Int × Int) := S.filter fun d => inB d a
theorem mem_fB {a d : Int × Int} {S : List (Int × Int)} : d ∈ fB a S ↔ d ∈ S ∧ inB d a = true := List.mem_filter
theorem fB_fB {a b : Int × Int} {S : List (Int × Int)} (hb : Okc b) (ha : Okc a) (h : inB b a = true) : fB b (fB a S) = fB b S := by
  unfold fB
  rw [List.filter_filter]
  refine List.filter_congr fun d hd => ?_
  cases z : inB d b with
  | false => rfl
  | true => rw [inB_tr hb ha z h]; rfl
/-- come by splits by primes -/
inductive Nt : Int × Int → List (Int × Int) → Prop
  | leaf (c : Int × Int) : Nt c [c]
  | node {c : Int × Int} {S : List (Int × Int)} (r : Nat) (hr : Pr r) (hd : ∀ d ∈ S, c.1 * (r : Int) ∣ d.1) (hp : ∀ a ∈ prts c r, Nt a (fB a S)) : Nt c S
theorem prts_mem {c : Int × Int} {k i : Nat} (h : i < k) : (c.1 * (k : Int), c.2 + c.1 * (i : Int)) ∈ prts c k := by
  unfold prts
  exact List.mem_map.mpr ⟨i, List.mem_range.mpr h, rfl⟩
theorem dv_no {c : Int} {p : Nat} (hc : 1 ≤ c) (hp : 2 ≤ p) : ¬ c * (p : Int) ∣ c := fun h => by
  have := Int.le_of_dvd (by omega) h
  have l : c * 2 ≤ c * (p : Int) := Int.mul_le_mul_of_nonneg_left (by omega) (by omega)
  omega
theorem part_swp {c b : Int × Int} {p r : Nat} (hp : 1 ≤ p) (hr : 1 ≤ r) {a : Int × Int} (ha : a ∈ prts c p) (hb : b ∈ prts a r) : ∃ a' ∈ prts c r, b ∈ prts a' p := by
  obtain ⟨j, hj, rfl⟩ := mem_prts ha
  obtain ⟨l, hl, rfl⟩ := mem_prts hb
  refine ⟨_, prts_mem (i := (j + p * l) % r) (Nat.mod_lt _ (by omega)), ?_⟩
  have lt : (j + p * l) / r < p := by
    rw [Nat.div_lt_iff_lt_mul (by omega)]
    have : p * (l + 1) ≤ p * r := Nat.mul_le_mul_left p (by omega)
    rw [Nat.mul_add, Nat.mul_one] at this
    omega
  have m := prts_mem (c := (c.1 * (r : Int), c.2 + c.1 * (((j + p * l) % r : Nat) : Int))) lt
  have e := Nat.mod_add_div (j + p * l) r
  generalize (j + p * l) % r = u at *
  generalize (j + p * l) / r = v at *
  have e1 : c.1 * (p : Int) * (r : Int) = c.1 * (r : Int) * (p : Int) := by rw [Int.mul_assoc, Int.mul_comm (p : Int), ← Int.mul_assoc]
  have e2 : (u : Int) + (r : Int) * (v : Int) = (j : Int) + (p : Int) * (l : Int) := by exact_mod_cast e
  have e3 : c.2 + c.1 * (j : Int) + c.1 * (p : Int) * (l : Int) = c.2 + c.1 * (u : Int) + c.1 * (r : Int) * (v : Int) := by
    have := congrArg (c.1 * ·) e2
    simp only [Int.mul_add] at this
    rw [Int.mul_assoc, Int.mul_assoc]
    omega
  simp only [e1, e3]
  exact m
theorem Nt.dv {c : Int × Int} {S : List (Int × Int)} (h : Nt c S) : Okc c → ∀ p, Pr p → (∀ d ∈ S, c.1 * (p : Int) ∣ d.1) → ∀ a ∈ prts c p, Nt a (fB a S) := by
  induction h with
  | leaf c => exact fun hc p hp hd => (dv_no hc.1 hp.1 (hd c List.mem_cons_self)).elim
  | @node c S r hr hd hq ih =>
    intro hc p hp hdp a ha
    by_cases e : r = p
    · subst e
      exact hq a ha
    · have cop := pr_cop hp hr e
      have oa := okc_prts hc ha
      refine .node r hr (fun d hm => ?_) fun b hb => ?_
      · have hm1 := (mem_fB.mp hm).1
        obtain ⟨j, _, rfl⟩ := mem_prts ha
        exact cop_dvd hc.1 cop (hd d hm1) (hdp d hm1)
      · have ob := okc_prts oa hb
        rw [fB_fB ob oa (inB_prts oa hb)]
        obtain ⟨a', ha', hb'⟩ := part_swp (by have := hp.1; omega) (by have := hr.1; omega) ha hb
        have oa' := okc_prts hc ha'
        have := ih a' ha' oa' p hp (fun d hm => by
          have hm1 := (mem_fB.mp hm).1
          obtain ⟨j, _, rfl⟩ := mem_prts ha'
          have := cop_dvd hc.1 cop (hd d hm1) (hdp d hm1)
          rwa [Int.mul_assoc, Int.mul_comm (p : Int), ← Int.mul_assoc] at this) b hb'
        rwa [fB_fB ob oa' (inB_prts oa' hb')] at this
theorem prts_clt {c : Int × Int} (hc : 1 ≤ c.1) (k : Nat) : (prts c k).Pairwise clt := prts_lt (d := c.1) (r := c.2) hc k
theorem Nt.prts (k : Nat) : 1 ≤ k → ∀ c, Okc c → Nt c (prts c k) := by
  induction k using Nat.strongRecOn with
  | _ k ih =>
    intro h1 c hc
    by_cases h2 : 2 ≤ k
    · obtain ⟨p, hp, m, rfl⟩ := pr_ex k h2
      have p2 := hp.1
      have m1 : 1 ≤ m := by
        rcases Nat.eq_zero_or_pos m with e | e
        · subst e; omega
        · exact e
      refine .node p hp (fun d hd => ?_) fun a ha => ?_
      · obtain ⟨i, _, rfl⟩ := mem_prts hd
        refine ⟨(m : Int), ?_⟩
        simp only [Int.natCast_mul, Int.mul_assoc]
      · have oa := okc_prts hc ha
        have lt : m < p * m := by
          have := Nat.mul_le_mul_right m p2
          omega
        have e : fB a (Dl.prts c (p * m)) = Dl.prts a m := by
          refine clt_uniq ((prts_clt hc.1 _).sublist List.filter_sublist) (prts_clt oa.1 _) fun d => ?_
          rw [mem_fB, inB_iff oa]
          obtain ⟨i, hi, rfl⟩ := mem_prts ha
          constructor
          · rintro ⟨hd, h3, h4⟩
            obtain ⟨t, ht, rfl⟩ := mem_prts hd
            simp only at h3 h4
            obtain ⟨q, hq⟩ := h4
            have e3 : c.1 * ((t : Int) - (i : Int)) = c.1 * ((p : Int) * q) := by
              rw [← Int.mul_assoc, ← hq, Int.mul_sub]
              omega
            have e4 := Int.eq_of_mul_eq_mul_left (show c.1 ≠ 0 by have := hc.1; omega) e3
            have q0 : 0 ≤ q := by
              rcases Int.lt_or_le q 0 with z | z
              · have := Int.mul_le_mul_of_nonneg_left (show q ≤ -1 by omega) (show (0 : Int) ≤ (p : Int) by omega)
                omega
              · exact z
            obtain ⟨l, rfl⟩ := Int.eq_ofNat_of_zero_le q0
            have hl : l < m := by
              rcases Nat.lt_or_ge l m with z | z
              · exact z
              · have := Nat.mul_le_mul_left p z
                have e5 : (t : Int) = (i : Int) + ((p * l : Nat) : Int) := by rw [Int.natCast_mul]; omega
                omega
            have mm := prts_mem (c := (c.1 * (p : Int), c.2 + c.1 * (i : Int))) hl
            rw [show c.1 * ((p * m : Nat) : Int) = c.1 * (p : Int) * (m : Int) by rw [Int.natCast_mul, Int.mul_assoc], show c.2 + c.1 * (t : Int) = c.2 + c.1 * (i : Int) + c.1 * (p : Int) * (l : Int) by rw [Int.mul_assoc, ← e4, Int.mul_sub]; omega]
            exact mm
          · intro hd
            obtain ⟨l, hl, rfl⟩ := mem_prts hd
            refine ⟨?_, ⟨(m : Int), rfl⟩, ⟨(l : Int), by simp only; omega⟩⟩
            have b : i + p * l < p * m := by
              have := Nat.mul_le_mul_left p (show l + 1 ≤ m by omega)
              rw [Nat.mul_add, Nat.mul_one] at this
              omega
            have mm := prts_mem (c := c) b
            rw [show c.1 * ((p * m : Nat) : Int) = c.1 * (p : Int) * (m : Int) by rw [Int.natCast_mul, Int.mul_assoc], show c.2 + c.1 * ((i + p * l : Nat) : Int) = c.2 + c.1 * (i : Int) + c.1 * (p : Int) * (l : Int) by rw [Int.natCast_add, Int.natCast_mul, Int.mul_add, Int.mul_assoc]; omega] at mm
            exact mm
        rw [e]
        exact ih m lt m1 a oa
    · have : k = 1 := by omega
      subst this
      have e : Dl.prts c 1 = [c] := by
        show [(c.1 * ((1 : Nat) : Int), c.2 + c.1 * ((0 : Nat) : Int))] = [c]
        rw [Int.natCast_one, Int.mul_one, Int.natCast_zero, Int.mul_zero, Int.add_zero]
      rw [e]
      exact .leaf c
/-- one put apart -/
theorem Nt.put {c : Int × Int} {S : List (Int × Int)} (h : Nt c S) : Okc c → S.Pairwise clt → ∀ x ∈ S, Okc x → ∀ k, 1 ≤ k → ∀ S' : List (Int × Int), S'.Pairwise clt → (∀ d, d ∈ S' ↔ (d ∈ S ∧ d ≠ x) ∨ d ∈ Dl.prts x k) → Nt c S' := by
  induction h with
  | leaf c =>
    intro hc _ x hx ox k hk S' hS hm
    simp only [List.mem_singleton] at hx
    subst hx
    have e : S' = Dl.prts x k := clt_uniq hS (prts_clt ox.1 k) fun d => by
      rw [hm d, List.mem_singleton]
      exact ⟨fun z => z.elim (fun y => (y.2 y.1).elim) id, .inr⟩
    rw [e]
    exact Nt.prts k hk x ox
  | @node c S r hr hd hq ih =>
    intro hc hp x hx ox k hk S' hS hm
    refine .node r hr (fun d hdm => ?_) fun a ha => ?_
    · rcases (hm d).mp hdm with z | z
      · exact hd d z.1
      · obtain ⟨i, _, rfl⟩ := mem_prts z
        exact Int.dvd_trans (hd x hx) ⟨(k : Int), rfl⟩
    · have oa := okc_prts hc ha
      by_cases hxa : inB x a = true
      · refine ih a ha oa (hp.sublist List.filter_sublist) x (mem_fB.mpr ⟨hx, hxa⟩) ox k hk _ (hS.sublist List.filter_sublist) fun d => ?_
        have hm := hm d
        show d ∈ fB a S' ↔ _
        rw [mem_fB, mem_fB, hm]
        constructor
        · rintro ⟨z | z, h2⟩
          · exact .inl ⟨⟨z.1, h2⟩, z.2⟩
          · exact .inr z
        · rintro (z | z)
          · exact ⟨.inl ⟨z.1.1, z.2⟩, z.1.2⟩
          · exact ⟨.inr z, inB_tr ox oa (inB_prts ox z) hxa⟩
      · have no : ∀ d ∈ Dl.prts x k, ¬ inB d a = true := fun d hd1 h2 => by
          apply hxa
          have h3 := (inB_iff ox).mp (inB_prts ox hd1)
          have h4 := (inB_iff oa).mp h2
          rw [inB_iff oa]
          have h5 : a.1 ∣ x.1 := by
            obtain ⟨i, _, rfl⟩ := mem_prts ha
            exact hd x hx
          refine ⟨h5, ?_⟩
          have := Int.dvd_sub h4.2 (Int.dvd_trans h5 h3.2)
          rwa [show d.2 - a.2 - (d.2 - x.2) = x.2 - a.2 by omega] at this
        have e : fB a S' = fB a S := clt_uniq (hS.sublist List.filter_sublist) (hp.sublist List.filter_sublist) fun d => by
          rw [mem_fB, mem_fB, hm d]
          constructor
          · rintro ⟨z | z, h2⟩
            · exact ⟨z.1, h2⟩
            · exact (no d z h2).elim
          · rintro ⟨z, h2⟩
            exact ⟨.inl ⟨z, fun e => by subst e; exact hxa h2⟩, h2⟩
        rw [e]
        exact hq a ha
end Dl
end L2

/-! The plain half, 70: split papers are found just where clocks come by splits. -/
namespace L2
namespace Dl
open PySem PySem.Spec PyProof.Rows
theorem Nt.ne {c : Int × Int} {S : List (Int × Int)} (h : Nt c S) : S ≠ [] := by
  induction h with
  | leaf c => exact List.cons_ne_nil _ _
  | @node c S r hr hd hq ih =>
    intro e
    have ha := prts_mem (c := c) (k := r) (i := 0) (by have := hr.1; omega)
    refine ih _ ha ?_
    rw [e]
    rfl
theorem dvA_iff {c : Int × Int} {S : List (Int × Int)} {k : Nat} (hc : 1 ≤ c.1) (hS : ∀ d ∈ S, c.1 ∣ d.1) : dvA c S k = true ↔ ∀ d ∈ S, c.1 * (k : Int) ∣ d.1 := by
  unfold dvA
  rw [List.all_eq_true]
  constructor
  · intro h d hd
    obtain ⟨j, hj⟩ := Int.dvd_of_emod_eq_zero (of_decide_eq_true (h d hd))
    obtain ⟨i, hi⟩ := hS d hd
    rw [hi, Int.mul_ediv_cancel_left _ (by omega)] at hj
    exact ⟨j, by rw [hi, hj, Int.mul_assoc]⟩
  · intro h d hd
    obtain ⟨j, hj⟩ := h d hd
    refine decide_eq_true ?_
    rw [hj, Int.mul_assoc, Int.mul_ediv_cancel_left _ (by omega), Int.mul_emod_right]
theorem lp_pr {c : Int × Int} {S : List (Int × Int)} {k : Nat} (hc : 1 ≤ c.1) (hS : ∀ d ∈ S, c.1 ∣ d.1) (h : lpF c S = some k) : Pr k ∧ ∀ d ∈ S, c.1 * (k : Int) ∣ d.1 := by
  obtain ⟨h2, hk, hd⟩ := lp_some h
  have hd2 := (dvA_iff hc hS).mp hd
  refine ⟨⟨h2, fun m hm => ?_⟩, hd2⟩
  refine Classical.byContradiction fun hn => ?_
  have le := Nat.le_of_dvd (by omega) hm
  have m0 : m ≠ 0 := fun e => by
    subst e
    have := Nat.eq_zero_of_zero_dvd hm
    omega
  have mk : m < k := by omega
  have mm : dvA c S m = true := (dvA_iff hc hS).mpr fun d hd4 => by
    obtain ⟨q, rfl⟩ := hm
    refine Int.dvd_trans ⟨(q : Int), ?_⟩ (hd2 d hd4)
    rw [Int.natCast_mul, Int.mul_assoc]
  unfold lpF at h
  have := List.find?_range'_eq_some.mp h
  have := this.2.2 m (by omega) mk
  rw [mm] at this
  cases this
theorem lp_is {c : Int × Int} {S : List (Int × Int)} {r : Nat} (h2 : 2 ≤ r) (h1 : r ≤ 1000) (h : dvA c S r = true) : ∃ k, lpF c S = some k := by
  cases e : lpF c S with
  | some k => exact ⟨k, rfl⟩
  | none =>
    unfold lpF at e
    have := List.find?_eq_none.mp e r (List.mem_range'_1.mpr ⟨h2, by omega⟩)
    exact (this h).elim
theorem fm_one {α β : Type} {f : α → List β} (h1 : ∀ x, (f x).length ≤ 1) : ∀ {xs : List α}, (∀ x ∈ xs, f x ≠ []) → (xs.flatMap f).length = xs.length
  | [], _ => rfl
  | x :: xs, h => by
    have a := h1 x
    have b := List.length_pos_iff.mpr (h x List.mem_cons_self)
    have := fm_one h1 fun y hy => h y (List.mem_cons_of_mem _ hy)
    rw [List.flatMap_cons, List.length_append, List.length_cons]
    omega
theorem fm_all {α β : Type} {f : α → List β} (h1 : ∀ x, (f x).length ≤ 1) : ∀ {xs : List α}, ¬ (xs.flatMap f).length < xs.length → ∀ x ∈ xs, f x ≠ []
  | [], _, x, hx => by cases hx
  | x :: xs, h, y, hy => by
    have a := h1 x
    have b := fm_le f h1 xs
    rw [List.flatMap_cons, List.length_append, List.length_cons] at h
    rcases List.mem_cons.mp hy with rfl | hy
    · intro e
      rw [e, List.length_nil] at h
      omega
    · exact fm_all h1 (by omega) y hy
theorem pp_nt : ∀ (n : Nat) (c : Int × Int) (S : List (Int × Int)), Nt c S → Okc c → (∀ d ∈ S, c.1 ∣ d.1) → (∀ d ∈ S, CkOk 1000 d) → 1000 < c.1 * 2 ^ n → ppF (n + 1) c S ≠ [] := by
  intro n
  induction n with
  | zero =>
    intro c S h hc hdv hok hn
    obtain ⟨d, hd⟩ := List.exists_mem_of_ne_nil S h.ne
    have g := hok d hd
    have := Int.le_of_dvd (by have := g.1; omega) (hdv d hd)
    have := g.2.1
    omega
  | succ n ih =>
    intro c S h hc hdv hok hn
    unfold ppF
    split
    · exact List.cons_ne_nil _ _
    · rename_i hne
      cases h with
      | leaf => exact (hne rfl).elim
      | node r hr hd hq =>
        have nt : Nt c S := .node r hr hd hq
        obtain ⟨d, hdm⟩ := List.exists_mem_of_ne_nil S nt.ne
        have r2 := hr.1
        rw [if_neg (fun z => z.elim nt.ne fun z => dv_no hc.1 hr.1 (hd c z))]
        have g := hok d hdm
        have r1000 : r ≤ 1000 := by
          have := Int.le_of_dvd (by have := g.1; omega) (hd d hdm)
          have := Int.mul_le_mul_of_nonneg_right hc.1 (show (0 : Int) ≤ (r : Int) by omega)
          have := g.2.1
          omega
        obtain ⟨k, hk⟩ := lp_is (c := c) r2 r1000 ((dvA_iff hc.1 hdv).mpr hd)
        obtain ⟨kp, kd⟩ := lp_pr hc.1 hdv hk
        rw [hk]
        have k2 := kp.1
        have ch := nt.dv hc k kp kd
        have len := fm_one (f := fun p => ppF (n + 1) p (S.filter fun d => inB d p)) (fun p => ppF_le _ _ _) (xs := prts c k) fun a ha => by
          refine ih a _ (ch a ha) (okc_prts hc ha) (fun d hd1 => ?_) (fun d hd1 => hok d (mem_fB.mp hd1).1) ?_
          · exact ((inB_iff (okc_prts hc ha)).mp (mem_fB.mp hd1).2).1
          · obtain ⟨i, _, rfl⟩ := mem_prts ha
            simp only
            have p2 : (0 : Int) ≤ 2 ^ n := Int.le_of_lt (Int.pow_pos (by decide))
            have := Int.mul_le_mul_of_nonneg_right (Int.mul_le_mul_of_nonneg_left (show (2 : Int) ≤ (k : Int) by omega) (show 0 ≤ c.1 by have := hc.1; omega)) p2
            rw [Int.pow_succ, Int.mul_comm ((2 : Int) ^ n), ← Int.mul_assoc] at hn
            omega
        rw [prts_len] at len
        simp only
        rw [if_neg (by omega)]
        exact List.cons_ne_nil _ _
theorem nt_pp : ∀ (n : Nat) (c : Int × Int) (S : List (Int × Int)), Okc c → (∀ d ∈ S, c.1 ∣ d.1) → ppF n c S ≠ [] → Nt c S := by
  intro n
  induction n with
  | zero => exact fun c S _ _ h => (h rfl).elim
  | succ n ih =>
    intro c S hc hdv h
    unfold ppF at h
    split at h
    · rename_i e
      rw [e]
      exact .leaf c
    · split at h
      · exact (h rfl).elim
      · split at h
        · exact (h rfl).elim
        · rename_i k hk
          split at h
          · exact (h rfl).elim
          · rename_i hl
            obtain ⟨kp, kd⟩ := lp_pr hc.1 hdv hk
            refine .node k kp kd fun a ha => ?_
            have := fm_all (f := fun p => ppF n p (S.filter fun d => inB d p)) (fun p => ppF_le _ _ _) (xs := prts c k) (by rw [prts_len]; exact hl) a ha
            exact ih a _ (okc_prts hc ha) (fun d hd1 => ((inB_iff (okc_prts hc ha)).mp (mem_fB.mp hd1).2).1) this
theorem okc1 : Okc (1, 0) := ⟨by decide, by decide, by decide⟩
theorem pp_iff {S : List (Int × Int)} (hok : ∀ d ∈ S, CkOk 1000 d) : ppF 12 (1, 0) S ≠ [] ↔ Nt (1, 0) S :=
  ⟨fun h => nt_pp 12 _ _ okc1 (fun d _ => Int.one_dvd _) h, fun h => pp_nt 11 _ _ h okc1 (fun d _ => Int.one_dvd _) hok (by decide)⟩
/-- just one rings at a number of the clock's -/
theorem Nt.one {c : Int × Int} {S : List (Int × Int)} (h : Nt c S) : Okc c → (∀ d ∈ S, CkOk 1000 d) → ∀ n, Rg c n → (rgF S n).length = 1 := by
  induction h with
  | leaf c =>
    intro hc _ n hr
    unfold rgF
    rw [List.filter_cons, if_pos (decide_eq_true ((Rg_mod hc.2.1 hc.2.2).mp hr))]
    rfl
  | @node c S r hr hd hq ih =>
    intro hc hok n hrg
    obtain ⟨a, ha, har⟩ := (prts_rg (k := r) (by have := hr.1; omega) hc.1).mpr hrg
    have oa := okc_prts hc ha
    have := ih a ha oa (fun d hd1 => hok d (mem_fB.mp hd1).1) n har
    rw [← this]
    unfold rgF fB
    rw [List.filter_filter]
    congr 1
    refine List.filter_congr fun d hdm => ?_
    cases z : decide (n % d.1 = d.2) with
    | false => rfl
    | true =>
      have g := hok d hdm
      have rd : Rg d n := (Rg_mod g.2.2.1 g.2.2.2).mpr (of_decide_eq_true z)
      have adv : a.1 ∣ d.1 := by
        obtain ⟨i, _, rfl⟩ := mem_prts ha
        exact hd d hdm
      rw [(inB_iff oa).mpr ⟨adv, by
        have := Int.dvd_sub har (Int.dvd_trans adv rd)
        rwa [show n - a.2 - (n - d.2) = d.2 - a.2 by omega] at this⟩]
      rfl
theorem Nt.ex {S : List (Int × Int)} (h : Nt (1, 0) S) (hok : ∀ d ∈ S, CkOk 1000 d) : One S := fun n => h.one okc1 hok n (Int.one_dvd _)
end Dl
end L2

/-! The plain half, 71: a split paper told is good. -/
namespace L2
namespace Dl
open PySem PySem.Spec PyProof.Rows
theorem prt_uniq {c a b e : Int × Int} {k : Nat} (ha : a ∈ prts c k) (hb : b ∈ prts c k) (h1 : inB e a = true) (h2 : inB e b = true) : a = b := by
  obtain ⟨i, _, rfl⟩ := mem_prts ha
  obtain ⟨j, _, rfl⟩ := mem_prts hb
  unfold inB at h1 h2
  rw [Bool.and_eq_true, decide_eq_true_iff, decide_eq_true_iff] at h1 h2
  exact Prod.ext rfl (h1.2.symm.trans h2.2)
theorem in_prt {c x : Int × Int} {k : Nat} (hc : Okc c) (hk : 1 ≤ k) (h1 : inB x c = true) (h2 : c.1 * (k : Int) ∣ x.1) : ∃ a ∈ prts c k, inB x a = true := by
  obtain ⟨a, ha, hr⟩ := (prts_rg (x := x.2) hk hc.1).mpr ((inB_iff hc).mp h1).2
  refine ⟨a, ha, (inB_iff (okc_prts hc ha)).mpr ⟨?_, hr⟩⟩
  obtain ⟨i, _, rfl⟩ := mem_prts ha
  exact h2
theorem fm_map {α : Type} {f : α → List PyData} (h1 : ∀ x, (f x).length ≤ 1) : ∀ {xs : List α}, (∀ x ∈ xs, f x ≠ []) → xs.flatMap f = xs.map fun x => (f x).headD .none
  | [], _ => rfl
  | x :: xs, h => by
    have a := h1 x
    rw [List.flatMap_cons, fm_map h1 fun y hy => h y (List.mem_cons_of_mem _ hy), List.map_cons]
    cases e : f x with
    | nil => exact (h x List.mem_cons_self e).elim
    | cons y ys =>
      rw [e] at a
      cases ys with
      | nil => rfl
      | cons z zs => simp at a
theorem headD_mem {xs : List PyData} (h : xs ≠ []) : xs.headD .none ∈ xs := by
  cases xs with
  | nil => exact (h rfl).elim
  | cons x xs => exact List.mem_cons_self
theorem zip_fm {α β γ : Type} (F : α → β → List γ) (g : α → β) : ∀ xs : List α, (xs.zip (xs.map g)).flatMap (fun p => F p.1 p.2) = xs.flatMap fun a => F a (g a)
  | [] => rfl
  | x :: xs => by rw [List.map_cons, List.zip_cons_cons, List.flatMap_cons, List.flatMap_cons, zip_fm F g xs]
theorem fm_ge {α β : Type} {f : α → List β} : ∀ {xs : List α}, (∀ x ∈ xs, f x ≠ []) → xs.length ≤ (xs.flatMap f).length
  | [], _ => Nat.le_refl _
  | x :: xs, h => by
    have b := List.length_pos_iff.mpr (h x List.mem_cons_self)
    have := fm_ge fun y hy => h y (List.mem_cons_of_mem x hy)
    rw [List.flatMap_cons, List.length_append, List.length_cons]
    omega
theorem pp_none : ∀ {n : Nat} {c : Int × Int} {S : List (Int × Int)}, PyData.none ∈ ppF n c S → S = [c]
  | 0, c, S, h => by cases h
  | n + 1, c, S, h => by
    unfold ppF at h
    split at h
    · assumption
    · split at h
      · cases h
      · split at h
        · cases h
        · split at h
          · cases h
          · simp at h
theorem pp_md : ∀ (n : Nat) (c : Int × Int) (S : List (Int × Int)) (d : PyData), d ∈ ppF n c S → Okc c → (∀ e ∈ S, inB e c = true) → S.Pairwise clt → ∀ m, S.length ≤ m + 1 → m ≤ 7 → pgB (m + 1) d = true ∧ SpN (m + 1) d ∧ (mdF (m + 1) c d).mergeSort cle = S := by
  intro n
  induction n with
  | zero => exact fun _ _ _ h => by cases h
  | succ n ih =>
    intro c S d h hc hin hp m hm m7
    have hdv : ∀ e ∈ S, c.1 ∣ e.1 := fun e he => ((inB_iff hc).mp (hin e he)).1
    unfold ppF at h
    split at h
    · rename_i e
      simp only [List.mem_singleton] at h
      subst h
      refine ⟨rfl, fun k ps e => (by cases e), ?_⟩
      rw [mdF_none, e]
      exact List.mergeSort_singleton c
    · split at h
      · cases h
      · split at h
        · cases h
        · rename_i k hk
          split at h
          · cases h
          · rename_i hl
            simp only [List.mem_singleton] at h
            obtain ⟨kp, kd⟩ := lp_pr hc.1 hdv hk
            have k2 := kp.1
            have hall := fm_all (f := fun p => ppF n p (S.filter fun d => inB d p)) (fun p => ppF_le _ _ _) (xs := prts c k) (by rw [prts_len]; exact hl)
            rw [fm_map (f := fun p => ppF n p (S.filter fun d => inB d p)) (fun p => ppF_le _ _ _) hall] at h
            have sne : ∀ a ∈ prts c k, fB a S ≠ [] := fun a ha => (nt_pp n a (fB a S) (okc_prts hc ha) (fun e he => ((inB_iff (okc_prts hc ha)).mp (mem_fB.mp he).2).1) (hall a ha)).ne
            have pne : ∀ a ∈ prts c k, ∃ b ∈ prts c k, b ≠ a := fun a ha => by
              obtain ⟨i, hi, rfl⟩ := mem_prts ha
              have key : ∀ j, j < k → j ≠ i → ∃ b ∈ prts c k, b ≠ (c.1 * (k : Int), c.2 + c.1 * (i : Int)) := fun j hj hji => ⟨_, prts_mem hj, fun e => by
                have e2 := congrArg Prod.snd e
                simp only at e2
                have e3 : c.1 * (j : Int) = c.1 * (i : Int) := by omega
                have := Int.eq_of_mul_eq_mul_left (show c.1 ≠ 0 by have := hc.1; omega) e3
                omega⟩
              by_cases z : i = 0
              · exact key 1 (by omega) (by omega)
              · exact key 0 (by omega) (by omega)
            have slt : ∀ a ∈ prts c k, (fB a S).length < S.length := fun a ha => by
              obtain ⟨b, hb, hba⟩ := pne a ha
              obtain ⟨e, he⟩ := List.exists_mem_of_ne_nil _ (sne b hb)
              obtain ⟨e1, e2⟩ := mem_fB.mp he
              unfold fB
              exact List.length_filter_lt_length_iff_exists.mpr ⟨e, e1, fun z => hba (prt_uniq hb ha e2 z)⟩
            obtain ⟨m, rfl⟩ : ∃ m', m = m' + 1 := by
              have a0 := prts_mem (c := c) (k := k) (i := 0) (by omega)
              have h1 := slt _ a0
              have h2 := List.length_pos_iff.mpr (sne _ a0)
              exact ⟨m - 1, by omega⟩
            have ch : ∀ a ∈ prts c k, pgB (m + 1) ((ppF n a (S.filter fun d => inB d a)).headD .none) = true ∧ SpN (m + 1) ((ppF n a (S.filter fun d => inB d a)).headD .none) ∧ (mdF (m + 1) a ((ppF n a (S.filter fun d => inB d a)).headD .none)).mergeSort cle = fB a S := fun a ha => by
              have := slt a ha
              exact ih a (fB a S) _ (headD_mem (hall a ha)) (okc_prts hc ha) (fun e he => (mem_fB.mp he).2) (hp.sublist List.filter_sublist) m (by omega) (by omega)
            generalize hg : (fun a => (ppF n a (S.filter fun d => inB d a)).headD PyData.none) = g at h
            have ch : ∀ a ∈ prts c k, pgB (m + 1) (g a) = true ∧ SpN (m + 1) (g a) ∧ (mdF (m + 1) a (g a)).mergeSort cle = fB a S := by
              rw [← hg]
              exact ch
            have mem : ∀ a ∈ prts c k, ∀ x, x ∈ mdF (m + 1) a (g a) ↔ x ∈ fB a S := fun a ha x => by
              rw [← (ch a ha).2.2]
              exact (List.mergeSort_perm _ cle).mem_iff.symm
            have nd : ∀ a ∈ prts c k, (mdF (m + 1) a (g a)).Nodup := fun a ha => by
              have : (fB a S).Nodup := clt_nodup (hp.sublist List.filter_sublist)
              rw [← (ch a ha).2.2] at this
              exact (List.mergeSort_perm _ cle).nodup_iff.mp this
            subst h
            have lg : ((prts c k).map g).length = k := by rw [List.length_map, prts_len]
            have mE : mdF (m + 1 + 1) c (.tuple [.int (k : Int), .tuple ((prts c k).map g)]) = (prts c k).flatMap fun a => mdF (m + 1) a (g a) := by
              rw [mdF_at, lg]
              exact zip_fm (mdF (m + 1)) g _
            have ndF : ((prts c k).flatMap fun a => mdF (m + 1) a (g a)).Nodup := by
              refine List.pairwise_flatMap.mpr ⟨nd, ?_⟩
              refine List.Pairwise.imp_of_mem (fun {a b} ha hb hab x hx y hy e => ?_) (clt_nodup (prts_clt hc.1 k))
              subst e
              exact hab (prt_uniq ha hb (mem_fB.mp ((mem a ha x).mp hx)).2 (mem_fB.mp ((mem b hb x).mp hy)).2)
            have fin : (mdF (m + 1 + 1) c (.tuple [.int (k : Int), .tuple ((prts c k).map g)])).mergeSort cle = S := by
              rw [mE]
              refine clt_uniq (sort_clt ndF) hp fun x => ?_
              rw [(List.mergeSort_perm _ cle).mem_iff, List.mem_flatMap]
              constructor
              · rintro ⟨a, ha, hx⟩
                exact (mem_fB.mp ((mem a ha x).mp hx)).1
              · intro hx
                obtain ⟨a, ha, hxa⟩ := in_prt (x := x) hc (show 1 ≤ k by omega) (hin x hx) (kd x hx)
                exact ⟨a, ha, (mem a ha x).mpr (mem_fB.mpr ⟨hx, hxa⟩)⟩
            have k8 : k ≤ 8 := by
              have h1 := fm_ge (f := fun a => mdF (m + 1) a (g a)) (xs := prts c k) fun a ha z => by
                obtain ⟨e, he⟩ := List.exists_mem_of_ne_nil _ (sne a ha)
                have := (mem a ha e).mpr he
                rw [z] at this
                cases this
              have h2 := congrArg List.length fin
              rw [mE, List.length_mergeSort] at h2
              rw [prts_len] at h1
              omega
            refine ⟨?_, fun k' ps' e => ?_, fin⟩
            · rw [pgB_at, decide_eq_true (by omega), lg, decide_eq_true rfl, Bool.true_and, Bool.true_and, List.all_eq_true]
              intro p hp1
              obtain ⟨a, ha, rfl⟩ := List.mem_map.mp hp1
              exact (ch a ha).1
            · injection e with e
              injection e with e1 e2
              injection e2 with e2 _
              injection e2 with e2
              subst e2
              refine ⟨by rw [lg]; exact k8, fun p hp1 => ?_⟩
              obtain ⟨a, ha, rfl⟩ := List.mem_map.mp hp1
              exact (ch a ha).2.1
theorem inB1 (e : Int × Int) : inB e (1, 0) = true := (inB_iff okc1).mpr ⟨Int.one_dvd _, Int.one_dvd _⟩
end Dl
end L2

/-! The plain half, 72: one clock put apart, and put together again. -/
namespace L2
namespace Dl
open PySem PySem.Spec PyProof.Rows
theorem lfF_iff {cs : List (Int × Int)} {l : List Int} (nd : cs.Nodup) (hin : ∀ i ∈ l, 0 ≤ i ∧ i < (cs.length : Int)) (x : Int × Int) : x ∈ lfF cs l ↔ x ∈ cs ∧ x ∉ subC cs l := by
  unfold lfF subC
  rw [List.mem_filterMap]
  constructor
  · rintro ⟨i, hi, e⟩
    have hi := List.mem_range.mp hi
    split at e
    · cases e
    · rename_i hn
      have e := Option.some.inj e
      rw [List.getD_eq_getElem?_getD, List.getElem?_eq_getElem hi] at e
      have e : cs[i] = x := e
      subst e
      refine ⟨List.getElem_mem hi, fun h => ?_⟩
      obtain ⟨j, hj, e⟩ := List.mem_map.mp h
      obtain ⟨j0, j1⟩ := hin j hj
      have hl : j.toNat < cs.length := by omega
      rw [List.getD_eq_getElem?_getD, List.getElem?_eq_getElem hl] at e
      have e : cs[j.toNat] = cs[i] := e
      have this : j.toNat = i := by
        rw [← nd.idxOf_getElem j.toNat hl, e, nd.idxOf_getElem i hi]
      apply hn
      rw [← this, Int.toNat_of_nonneg j0]
      exact hj
  · rintro ⟨hx, hn⟩
    have l1 := List.idxOf_lt_length_of_mem hx
    refine ⟨cs.idxOf x, List.mem_range.mpr l1, ?_⟩
    have g : cs.getD (cs.idxOf x) (0, 0) = x := by
      rw [List.getD_eq_getElem?_getD, List.getElem?_eq_getElem l1]
      exact List.getElem_idxOf l1
    rw [if_neg (fun z => hn (List.mem_map.mpr ⟨_, z, by rw [Int.toNat_natCast]; exact g⟩)), g]
theorem rg_nil {S : List (Int × Int)} (hok : ∀ d ∈ S, CkOk 1000 d) {n : Int} : rgF S n = [] ↔ ∀ d ∈ S, ¬ Rg d n := by
  constructor
  · intro h d hd hr
    have g := hok d hd
    have := rg_mem.mpr ⟨hd, (Rg_mod g.2.2.1 g.2.2.2).mp hr⟩
    rw [h] at this
    cases this
  · intro h
    cases e : rgF S n with
    | nil => rfl
    | cons d ds =>
      have hm : d ∈ rgF S n := by rw [e]; exact List.mem_cons_self
      obtain ⟨h1, h2⟩ := rg_mem.mp hm
      have g := hok d h1
      exact (h d h1 ((Rg_mod g.2.2.1 g.2.2.2).mpr h2)).elim
/-- S' is S with x put apart -/
structure Put (S S' : List (Int × Int)) (x : Int × Int) (k : Nat) : Prop where
  k2 : 2 ≤ k
  hx : x ∈ S
  ok : ∀ d ∈ S, CkOk 1000 d
  ok' : ∀ d ∈ S', CkOk 1000 d
  lt : S.Pairwise clt
  lt' : S'.Pairwise clt
  hm : ∀ d, d ∈ S' ↔ (d ∈ S ∧ d ≠ x) ∨ d ∈ prts x k
theorem okc_of {c : Int × Int} {m : Int} (h : CkOk m c) : Okc c := ⟨h.1, h.2.2.1, h.2.2.2⟩
theorem Put.ox {S S' : List (Int × Int)} {x : Int × Int} {k : Nat} (h : Put S S' x k) : Okc x := okc_of (h.ok x h.hx)
theorem Put.ring {S S' : List (Int × Int)} {x : Int × Int} {k : Nat} (h : Put S S' x k) (n : Int) : rgF S n = [] ↔ rgF S' n = [] := by
  rw [rg_nil h.ok, rg_nil h.ok']
  have k1 := h.k2
  constructor
  · intro z d hd hr
    rcases (h.hm d).mp hd with y | y
    · exact z d y.1 hr
    · exact z x h.hx ((prts_rg (by omega) h.ox.1).mp ⟨d, y, hr⟩)
  · intro z d hd hr
    by_cases e : d = x
    · subst e
      obtain ⟨p, hp, pr⟩ := (prts_rg (k := k) (by omega) h.ox.1).mpr hr
      exact z p ((h.hm p).mpr (.inr hp)) pr
    · exact z d ((h.hm d).mpr (.inl ⟨hd, e⟩)) hr
theorem Put.nt {S S' : List (Int × Int)} {x : Int × Int} {k : Nat} (h : Put S S' x k) (n : Nt (1, 0) S) : Nt (1, 0) S' :=
  n.put okc1 h.lt x h.hx h.ox k (by have := h.k2; omega) S' h.lt' h.hm
theorem Put.okp {S S' : List (Int × Int)} {x : Int × Int} {k : Nat} (h : Put S S' x k) : ∀ d ∈ prts x k, CkOk 1000 d := fun d hd => h.ok' d ((h.hm d).mpr (.inr hd))
theorem Put.cnt {S S' : List (Int × Int)} {x : Int × Int} {k : Nat} (h : Put S S' x k) (hno : ∀ d ∈ prts x k, d ∉ S) (n : Int) : (rgF S' n).length = (rgF S n).length := by
  have nd := clt_nodup h.lt
  have nd' := clt_nodup h.lt'
  have k2 := h.k2
  have p1 : S.Perm (x :: S.erase x) := List.perm_cons_erase h.hx
  have nde : (S.erase x ++ prts x k).Nodup := by
    rw [List.nodup_append]
    refine ⟨nd.sublist List.erase_sublist, clt_nodup (prts_clt h.ox.1 k), fun a ha b hb e => ?_⟩
    subst e
    exact hno a hb (List.mem_of_mem_erase ha)
  have p2 : S'.Perm (S.erase x ++ prts x k) := (List.perm_ext_iff_of_nodup nd' nde).mpr fun d => by
    rw [h.hm d, List.mem_append, List.Nodup.mem_erase_iff nd]
    exact ⟨fun z => z.imp (fun y => ⟨y.2, y.1⟩) id, fun z => z.imp (fun y => ⟨y.2, y.1⟩) id⟩
  have e1 : (rgF S n).length = (rgF (x :: S.erase x) n).length := (p1.filter _).length_eq
  have e2 : (rgF S' n).length = (rgF (S.erase x ++ prts x k) n).length := (p2.filter _).length_eq
  have e3 : rgF (S.erase x ++ prts x k) n = rgF (S.erase x) n ++ rgF (prts x k) n := List.filter_append _ _
  have gx := h.ok x h.hx
  rw [e1, e2, e3, List.length_append]
  by_cases r : Rg x n
  · have e4 : rgF (x :: S.erase x) n = x :: rgF (S.erase x) n := by
      unfold rgF
      rw [List.filter_cons, if_pos (decide_eq_true ((Rg_mod gx.2.2.1 gx.2.2.2).mp r))]
    rw [e4, (Nt.prts k (by omega) x h.ox).one h.ox h.okp n r, List.length_cons]
  · have e4 : rgF (x :: S.erase x) n = rgF (S.erase x) n := by
      unfold rgF
      rw [List.filter_cons, if_neg (fun z => r ((Rg_mod gx.2.2.1 gx.2.2.2).mpr (of_decide_eq_true z)))]
    have e5 : rgF (prts x k) n = [] := (rg_nil h.okp).mpr fun d hd hr => r ((prts_rg (by omega) h.ox.1).mp ⟨d, hd, hr⟩)
    rw [e4, e5, List.length_nil, Nat.add_zero]
theorem Put.one {S S' : List (Int × Int)} {x : Int × Int} {k : Nat} (h : Put S S' x k) (hno : ∀ d ∈ prts x k, d ∉ S) : One S' ↔ One S :=
  ⟨fun z n => (h.cnt hno n).symm.trans (z n), fun z n => (h.cnt hno n).trans (z n)⟩
theorem wo_prts {x : Int × Int} (hx : Okc x) {k : Nat} (hk : 1 ≤ k) : woF (prts x k) = some x := by
  obtain ⟨k, rfl⟩ : ∃ k', k = k' + 1 := ⟨k - 1, by omega⟩
  have e := prts_hd x k
  have len := congrArg List.length e
  rw [prts_len] at len
  rw [e, woF_at _ _ (k + 1) len.symm, ← e]
  simp only
  rw [Int.mul_ediv_cancel _ (by omega), Int.mul_emod_left, Int.emod_eq_of_lt hx.2.1 hx.2.2, if_pos ⟨rfl, rfl⟩]
theorem wo_inv {ps : List (Int × Int)} {c : Int × Int} (h : woF ps = some c) : prts c ps.length = ps := by
  cases ps with
  | nil => cases h
  | cons p ps =>
    rw [woF_at p ps _ rfl] at h
    split at h
    · rename_i hz
      have := Option.some.inj h
      rw [← this]
      exact hz.2
    · cases h
/-- the places of the parts -/
def plP (S' : List (Int × Int)) (x : Int × Int) (k : Nat) : List Int := (prts x k).map fun p => (S'.idxOf p : Int)
theorem Put.join {S S' : List (Int × Int)} {x : Int × Int} {k : Nat} (h : Put S S' x k) (hno : ∀ d ∈ prts x k, d ∉ S) : plP S' x k ∈ joF S' ∧ woF (subC S' (plP S' x k)) = some x ∧ ordC (lfF S' (plP S' x k) ++ [x]) = S ∧ plB S'.length (tpl (plP S' x k)) = true := by
  have k2 := h.k2
  have ox := h.ox
  have pin : ∀ p ∈ prts x k, p ∈ S' := fun p hp => (h.hm p).mpr (.inr hp)
  have sub : subC S' (plP S' x k) = prts x k := sub_idx pin
  have p0 := prts_mem (c := x) (k := k) (i := 0) (by omega)
  rw [Int.natCast_zero, Int.mul_zero, Int.add_zero] at p0
  have klen : k ≤ S'.length := by
    have := (clt_nodup (prts_clt ox.1 k)).length_le_of_subset (l₂ := S') fun p hp => pin p hp
    rwa [prts_len] at this
  have hj : plP S' x k ∈ joF S' := jo_in.mpr ⟨_, pin _ p0, k, k2, klen, by
    unfold jnF
    simp only
    rw [Int.mul_ediv_cancel _ (by omega), Int.mul_emod_left, if_pos ⟨rfl, ox.2.2, List.all_eq_true.mpr fun p hp => decide_eq_true (pin p hp)⟩]
    rfl⟩
  obtain ⟨rise, okp⟩ := (jo_mem h.lt' h.ok' _).mp hj
  have hin := rgI_in rise
  refine ⟨hj, by rw [sub]; exact wo_prts ox (by omega), ?_, ?_⟩
  · symm
    refine ordC_eq h.lt fun d => ?_
    rw [List.mem_append, lfF_iff (clt_nodup h.lt') hin, List.mem_singleton, sub, h.hm d]
    constructor
    · intro hd
      by_cases e : d = x
      · exact .inr e
      · exact .inl ⟨.inl ⟨hd, e⟩, fun z => hno d z hd⟩
    · rintro (⟨z | z, h2⟩ | rfl)
      · exact z.1
      · exact (h2 z).elim
      · exact h.hx
  · have l2 : 2 ≤ (plP S' x k).length := by unfold plP; rw [List.length_map, prts_len]; exact k2
    have ai : ((plP S' x k).map PyData.int).all isI = true := List.all_eq_true.mpr fun d hd => by
      obtain ⟨i, _, rfl⟩ := List.mem_map.mp hd
      rfl
    unfold tpl
    rw [plB_at, unI_ints, List.length_map, decide_eq_true l2, ai, decide_eq_true (show plP S' x k = (rgI (S'.length : Int)).filter fun i => decide (i ∈ plP S' x k) from rise)]
    rfl
theorem jn_one {cs : List (Int × Int)} {l : List Int} {c : Int × Int} (hp : cs.Pairwise clt) (hc : ∀ d ∈ cs, CkOk 1000 d) (h : One cs) (hin : ∀ i ∈ l, 0 ≤ i ∧ i < (cs.length : Int)) (l2 : 2 ≤ l.length) (hw : woF (subC cs l) = some c) : One (ordC (lfF cs l ++ [c])) := by
  have cok := woF_ok (sub_ok hc hin) hw
  have slen : (subC cs l).length = l.length := by unfold subC; rw [List.length_map]
  have e := wo_inv hw
  rw [slen] at e
  have sin : ∀ p ∈ prts c l.length, p ∈ cs := fun p hp1 => by
    rw [e] at hp1
    unfold subC at hp1
    obtain ⟨i, hi, rfl⟩ := List.mem_map.mp hp1
    exact mem_sub (hin i hi).1 (hin i hi).2
  have ne : ∀ d ∈ prts c l.length, d ≠ c := fun d hd z => by
    obtain ⟨i, _, rfl⟩ := mem_prts hd
    have := congrArg Prod.fst z
    simp only at this
    have b := Int.mul_le_mul_of_nonneg_left (show (2 : Int) ≤ (l.length : Int) by omega) (show 0 ≤ c.1 by have := cok.1; omega)
    have := cok.1
    omega
  have cno : c ∉ cs := fun hcm => by
    obtain ⟨p, hp1, pr⟩ := (prts_rg (k := l.length) (x := c.2) (by omega) cok.1).mpr (by rw [show c.2 = c.2 from rfl]; exact ⟨0, by rw [Int.mul_zero]; omega⟩)
    have g := hc p (sin p hp1)
    have m1 := rg_mem.mpr ⟨sin p hp1, (Rg_mod g.2.2.1 g.2.2.2).mp pr⟩
    have m2 : c ∈ rgF cs c.2 := rg_mem.mpr ⟨hcm, Int.emod_eq_of_lt cok.2.2.1 cok.2.2.2⟩
    obtain ⟨z, hz⟩ := List.length_eq_one_iff.mp (h c.2)
    rw [hz, List.mem_singleton] at m1 m2
    exact ne p hp1 (m1.trans m2.symm)
  have mem : ∀ d, d ∈ ordC (lfF cs l ++ [c]) ↔ (d ∈ cs ∧ d ∉ prts c l.length) ∨ d = c := fun d => by
    rw [mem_ordC, List.mem_append, lfF_iff (clt_nodup hp) hin, List.mem_singleton, e]
  refine (Put.one (S := ordC (lfF cs l ++ [c])) (S' := cs) (x := c) (k := l.length) ⟨l2, (mem c).mpr (.inr rfl), fun d hd => ?_, hc, clt_ordC _, hp, fun d => ?_⟩ fun d hd hd2 => ?_).mp h
  · rcases (mem d).mp hd with z | rfl
    · exact hc d z.1
    · exact cok
  · rw [mem d]
    constructor
    · intro hd
      by_cases z : d ∈ prts c l.length
      · exact .inr z
      · exact .inl ⟨.inl ⟨hd, z⟩, fun y => cno (by rw [← y]; exact hd)⟩
    · rintro (⟨z | z, h2⟩ | z)
      · exact z.1
      · exact (h2 z).elim
      · exact sin d z
  · rcases (mem d).mp hd2 with z | z
    · exact z.2 hd
    · exact ne d hd z
end Dl
end L2

/-! k37: whole splits and joins. -/
namespace L2
namespace Dl
open PySem PySem.Spec PyProof.Rows
local macro_rules | `(tactic| dsimp? [$xs,*] $[$l]?) => `(tactic| simp only [wSeq, wNext, wBreak, wCont, wDrop, wRet, wRetN, wIfS, wSet, wAsgT, e_aug, e_setIx, e_par, e_gN, getS_0, getS_s, setS_0, setS_s, e_var, varK_v, varK_o, varK_u, wC, wBin, rdK_v, rdK_t, rdK_s, rdS_v, rdS_o, rdS_u, fzK_v, fzK_t, fzK_s, fzS_v, fzS_o, fzS_l, fzS_u, e_fz, asg_v, asg_t, asg_s, e_tb, tbK_b, wAnd, wOr, wNot, e_notV, e_andV, e_orV, wBV, wIf, e_neg, intK_i, e_oso, wONo, e_rng1, e_rng2, wFNil, wFCons, wANil, wACons, wTup, wLst, e_callB, rdAllK_n, rdAllK_c, wIsi, e_call, wMNil, wMCons, e_ld, lnsOf, avsK_n, avsK_f, avsK_l, lnS_o, lnS_v, lnS_u, poK_n, poK_c, poS_o, inS_0, inS_s, rsK_v, rsK_o, wSl, e_ownF, e_own0, ownB_o, oS_o, oS_v, oS_u, agS_i, muApp, oAdd_i, oAdd_l, oAdd_t, oAdd_s, oSub_i, oMul_i, oFdiv_i, oMod_i, oPow_i, oShl_i, oShr_i, oOr_i, oAndB_i, oLt_i, oLe_i, oGt_i, oGe_i, oEq_i, oNe_i, oEq, oNe, oIx_l, oIx_t, oLen_l, oLen_t, oInt_i, oInt_b, oMax_i, oMin_i, oList_l, oList_t, oTuple_l, oTuple_t, oSorted_l, oSorted_t, oIs_n, oIsN_n, oIs_b, oIsN_b, isNone_n, isNone_t, isNone_l, isNone_i, isNone_s, isNone_b, oSl_l, oSl_t, oIn, gT_t, gC_c, gNil', e_iseq, sqK_l, sqK_t, e_isq, sq2K_l, sq2K_t, e_sset, ssK_l, ssK_t, e_chain, e_lr1, e_lr2, wRev, rvD_l, rvD_t, e_in1, e_in2, negB_f, negB_t, wIZip, zpK_m, e_extend, extR_t, wYes, startEv, kenD_nx, kenD_rt, kenD_bk, kenD_ct, kenD_ex, outK_n, outK_c, otS_o, rvK_v, rvK_t, rvK_s, rvS_v, rvS_o, slOf, lsFrom, wipeE, restE, List.map_cons, List.map_nil, List.length_cons, List.length_nil, List.replicate, List.append_nil, List.cons_append, List.nil_append, List.getElem?_cons_zero, List.getElem?_cons_succ, List.getElem?_nil, List.set_cons_zero, List.set_cons_succ, List.set_nil, Option.getD_some, Option.getD_none, Option.map_some, Option.map_none, Option.some.injEq, Rs.val.injEq, Rs.tmp.injEq, Rs.slot.injEq, Sl.own.injEq, Sl.val.injEq, PyData.int.injEq, PyData.bool.injEq, PyData.str.injEq, PyData.list.injEq, PyData.tuple.injEq, Prod.mk.injEq, Nat.sub_self, Nat.zero_add, Nat.reduceAdd, Nat.reduceSub, Nat.add_zero, isTy_int_int, isTy_bool_int, isTy_int_bool, isTy_bool_bool, isTy_int_tup, isTy_int_lst, isTy_int_non, isTy_int_str, isTy_tup_tup, isTy_tup_lst, isTy_tup_int, isTy_tup_bool, isTy_tup_non, isTy_tup_str, isTy_lst_lst, isTy_lst_tup, isTy_lst_int, exists_eq_left', exists_eq_left, exists_and_left, exists_eq_right, exists_eq, exists_eq', exists_const, true_and, and_true, and_self, Bool.not_true, Bool.not_false, if_true, if_false, Bool.false_eq_true, reduceIte, reduceCtorEq, List.nodup_nil, decide_eq_true_eq, atI_0, atI_1, atI_2, atI_3, atI_4, atI_5, atI_6, atI_7, atI_8, atI_9, atI_10, atI_11, ixN_3_0, ixN_3_1, ixN_3_2, sh_int, sh_bool, sh_non, and_assoc, nd1, nd_true, eq_self, decide_true, decide_false, Int.cast_ofNat_Int, not_true_eq_false, not_false_eq_true, eqv_ii, eqv_bb, wRaise0, e_raiseG, grK_i, e_raise1, onK_i, e_callX, xa_1, xa_2, xa_3, xa_4, xa_5, xa_6, xa_7, e_many, e_most, e_number, e_row, isLst_l, lsK_l, e_rd, e_br, brS_o, brS_v, arS_o, arS_v, avbK_n, avbK_f, avbK_l, scK_b, scK_i, scK_n, scK_s, e_callS, tmK_t, e_rep, enK_l, e_ienum, wTry, eqv_ss, tpK_v, txK_1, tutK_t, e_repT, e_callT, enTK_t, e_ienumT, r3K_i, e_rng3, dcS_d, dcB_d, tkK_m, tkK_2, zlK_c, $xs,*] $[$l]?)
def sgB (m : Nat) (cs : List (Int × Int)) (d : PyData) : Bool := pgB (m + 1) d && decide ((mdF (m + 1) (1, 0) d).mergeSort cle = cs)
def sp_split_good : Spc := fun avs Kr Kx => match avs with
  | [.val (.tuple ds), .val d] => ∃ cs m, ds = cks cs ∧ m ≤ 7 ∧ SpN (m + 1) d ∧ Kr [] (.val (.bool (sgB m cs d)))
  | _ => False
/-- split_good: 0 clocks, 1 thing -/
def w_split_good : WS :=
  (wRet ((wAndV (wCall 1 (sp_paper_good 9) (wMCons (wVar 1) wMNil)) (wBin oEq (wCallB oTuple (wACons (wCallB oSorted (wACons (wCall 2 (sp_made_of 9) (wMCons (wTup (wFCons (wC (.int 1)) (wFCons (wC (.int 0)) wFNil))) (wMCons (wVar 1) wMNil))) wANil)) wANil)) (wVar 0)))))

theorem vc_split_good : ∀ avs Kr Kx, avs.length = 2 → sp_split_good avs Kr Kx → lsFrom 0 avs = [] ∧ w_split_good (startEv 2 avs) (kenD [] Kr Kx) := by
  intro avs Kr Kx hl h
  unfold sp_split_good at h
  split at h
  · rename_i ds d
    obtain ⟨cs, m, rfl, h7, hd, q⟩ := h
    refine ⟨rfl, ?_⟩
    dsimp? [w_split_good, sp_paper_good, spA_paper_good]
    refine ⟨m, by omega, hd, ?_⟩
    unfold sgB at q
    cases hg : pgB (m + 1) d with
    | false =>
      rw [hg] at q
      exact q
    | true =>
      rw [hg, Bool.true_and] at q
      dsimp? [sp_made_of, spA_made_of]
      refine ⟨by decide, m, by omega, h7, spl_one h7, hd, hg, srt_cks _, ?_⟩
      rw [sort_cks]
      refine ⟨sh_tck _, sh_tck _, ?_⟩
      rw [eqv_tcks]
      exact q
  · exact h.elim
theorem put_sp {cs : List (Int × Int)} {i k : Nat} (hi : i < cs.length) (hc : ∀ c ∈ cs, CkOk 1000 c) (hp : cs.Pairwise clt) (hk : 2 ≤ k) (hs : (cs.getD i (0, 0)).1 * (k : Int) ≤ 1000) : Put cs ((spF cs i k).mergeSort cle) (cs.getD i (0, 0)) k := by
  have e0 : cs.getD i (0, 0) = cs[i] := by rw [List.getD_eq_getElem?_getD, List.getElem?_eq_getElem hi]; rfl
  have nd := clt_nodup hp
  have hx : cs.getD i (0, 0) ∈ cs := by rw [e0]; exact List.getElem_mem hi
  have ee : cs.eraseIdx i = cs.erase (cs.getD i (0, 0)) := by
    rw [e0]
    exact (List.erase_eq_eraseIdx_of_idxOf (nd.idxOf_getElem i hi)).symm
  have gx := hc _ hx
  have mem : ∀ d, d ∈ (spF cs i k).mergeSort cle ↔ (d ∈ cs ∧ d ≠ cs.getD i (0, 0)) ∨ d ∈ prts (cs.getD i (0, 0)) k := fun d => by
    rw [(List.mergeSort_perm _ cle).mem_iff]
    unfold spF
    rw [mem_addN, ee, List.Nodup.mem_erase_iff nd]
    exact ⟨fun z => z.imp (fun y => ⟨y.2, y.1⟩) id, fun z => z.imp (fun y => ⟨y.2, y.1⟩) id⟩
  refine ⟨hk, hx, hc, fun d hd => ?_, hp, ?_, mem⟩
  · rcases (mem d).mp hd with z | z
    · exact hc d z.1
    · have o := okc_prts (okc_of gx) z
      refine ⟨o.1, ?_, o.2.1, o.2.2⟩
      obtain ⟨j, _, rfl⟩ := mem_prts z
      exact hs
  · refine sort_clt ?_
    unfold spF
    exact nodup_addN (nd.sublist (List.eraseIdx_sublist _ _))
theorem sp_len {cs : List (Int × Int)} {i k : Nat} (hi : i < cs.length) : (spF cs i k).length + 1 ≤ cs.length + k := by
  unfold spF
  have := addN_len (prts (cs.getD i (0, 0)) k) (cs.eraseIdx i)
  rw [prts_len, List.length_eraseIdx_of_lt hi] at this
  omega
def sp__law_paper_right : Spc := fun avs Kr Kx => match avs with
  | [.val (.tuple ds)] => ∃ cs, ds = cks cs ∧ cs.length ≤ 8 ∧ (∀ c ∈ cs, CkOk 1000 c) ∧ cs.Pairwise clt ∧ Kr [] (.val (.bool true))
  | _ => False
/-- _law_paper_right: 0 clocks, 1 paper -/
def w__law_paper_right : WS :=
  (wSeq (wSet 1 (wCall 1 sp_split_paper (wMCons (wVar 0) wMNil)))
    (wSeq (wIfS (wTB (wBin oIs (wVar 1) (wC .none))) (wRet (wC (.bool true))) wNext)
    (wRet ((wAndV (wBin oIs (wCall 2 sp_split_good (wMCons (wVar 0) (wMCons (wVar 1) wMNil))) (wC (.bool true))) (wBin oIs (wCall 1 sp_exact_good (wMCons (wVar 0) wMNil)) (wC (.bool true))))))))

theorem vc__law_paper_right : ∀ avs Kr Kx, avs.length = 1 → sp__law_paper_right avs Kr Kx → lsFrom 0 avs = [] ∧ w__law_paper_right (startEv 2 avs) (kenD [] Kr Kx) := by
  intro avs Kr Kx hl h
  unfold sp__law_paper_right at h
  split at h
  · rename_i ds
    obtain ⟨cs, rfl, hl, hc, hp, q⟩ := h
    refine ⟨rfl, ?_⟩
    unfold w__law_paper_right
    refine seq_cut fun R hR => ?_
    dsimp? [sp_split_paper]
    refine ⟨cs, rfl, by omega, hc, hR _ ?_⟩
    refine seq_cut fun R hR => ?_
    cases e : ppF 12 (1, 0) cs with
    | nil =>
      dsimp? [List.headD_nil]
      exact q
    | cons d ds =>
      have nt := (pp_iff hc).mp (by rw [e]; exact List.cons_ne_nil _ _)
      have md := pp_md 12 (1, 0) cs d (by rw [e]; exact List.mem_cons_self) okc1 (fun e _ => inB1 e) hp 7 (by omega) (by omega)
      have sg : sgB 7 cs d = true := by
        unfold sgB
        rw [md.1, md.2.2, decide_eq_true rfl]
        rfl
      have gc : GC cs := GC.of (by decide) hc (by omega)
      have ex : exB cs = true := (exB_one gc).mpr (nt.ex hc)
      dsimp? [List.headD_cons]
      cases hd : isNone d with
      | true =>
        rw [if_pos rfl]
        exact q
      | false =>
        rw [if_neg (by decide)]
        refine hR _ ?_
        dsimp? [sp_split_good]
        refine ⟨cs, rfl, 7, by decide, md.2.1, ?_⟩
        rw [sg]
        dsimp? [sp_exact_good]
        refine ⟨cs, rfl, gc, ?_⟩
        rw [ex]
        exact q
  · exact h.elim
def sp__law_split_right : Spc := fun avs Kr Kx => match avs with
  | [.val (.tuple ds), .val (.int p), .val (.int k), .val (.int far)] => ∃ (cs : List (Int × Int)) (i n : Nat), ds = cks cs ∧ p = (i : Int) ∧ k = (n : Int) ∧ i < cs.length ∧ 2 ≤ n ∧ n ≤ 5 ∧ cs.length ≤ 8 ∧ (∀ c ∈ cs, CkOk 1000 c) ∧ cs.Pairwise clt ∧ (cs.getD i (0, 0)).1 * (n : Int) ≤ 1000 ∧ far.natAbs < 2 ^ 170 ∧ Kr [] (.val (.bool true))
  | _ => False
def w__law_split_right_B1 : WS :=
  (wIfS (wTB (wBin oNe (wBin oEq (wCall 2 sp_rings_at (wMCons (wVar 0) (wMCons (wVar 5) wMNil))) (wLst wFNil)) (wBin oEq (wCall 2 sp_rings_at (wMCons (wVar 4) (wMCons (wVar 5) wMNil))) (wLst wFNil)))) (wRet (wC (.bool false))) wNext)
def w__law_split_right_L1 : WS :=
  wFor (wISeq (wBin oAdd (wLR2 false (wNeg (wC (.int 6))) (wC (.int 40))) (wLst (wFCons (wVar 3) (wFCons (wBin oSub (wC (.int 0)) (wVar 3)) wFNil))))) (gN 5) w__law_split_right_B1
def w__law_split_right_C1 : WE :=
  wLc [8] (wISeq (wVar 6)) (gN 8) (wTB (wBin (oIn false) (wVar 8) (wVar 0))) (wVar 8)
def w__law_split_right_C2 : WE :=
  wLc [8] (wISeq (wVar 6)) (gN 8) wYes ((wIdxT (wVar 4) (wVar 8)))
def w__law_split_right_R1 : WS :=
  (wRet (wC (.bool true)))
def w__law_split_right_R2 : WS :=
  (wSeq (wSet 6 (wCall 2 sp__law_parts (wMCons (wBin oIx (wVar 0) (wVar 1)) (wMCons (wVar 2) wMNil))))
    (wSeq (wIfS (wTB (wBin oEq w__law_split_right_C1 (wLst wFNil))) (wSeq (wSet 7 (wCallB oTuple (wACons w__law_split_right_C2 wANil)))
    (wSeq (wIfS (wOr (wTB (wBin (oIn true) (wVar 7) (wCall 1 sp_joins_of (wMCons (wVar 4) wMNil)))) (wTB (wBin oNe (wCall 2 sp_join_at (wMCons (wVar 4) (wMCons (wVar 7) wMNil))) (wVar 0)))) (wRet (wC (.bool false))) wNext)
    (wSeq (wIfS (wTB (wBin oNe (wCall 1 sp_exact_good (wMCons (wVar 4) wMNil)) (wCall 1 sp_exact_good (wMCons (wVar 0) wMNil)))) (wRet (wC (.bool false))) wNext)
    (wIfS (wAnd (wTB (wBin oIsNot (wCall 1 sp_split_paper (wMCons (wVar 0) wMNil)) (wC .none))) (wTB (wBin oIs (wCall 1 sp_split_paper (wMCons (wVar 4) wMNil)) (wC .none)))) (wRet (wC (.bool false))) wNext)))) wNext)
    w__law_split_right_R1))
/-- _law_split_right: 0 clocks, 1 place, 2 k, 3 far, 4 split, 5 number, 6 parts, 7 places, 8 part -/
def w__law_split_right : WS :=
  (wSeq (wSet 4 (wCall 3 sp_split_at (wMCons (wVar 0) (wMCons (wVar 1) (wMCons (wVar 2) wMNil)))))
    (wSeq w__law_split_right_L1
    w__law_split_right_R2))

theorem vc__law_split_right : ∀ avs Kr Kx, avs.length = 4 → sp__law_split_right avs Kr Kx → lsFrom 0 avs = [] ∧ w__law_split_right (startEv 9 avs) (kenD [] Kr Kx) := by
  intro avs Kr Kx hl h
  unfold sp__law_split_right at h
  split at h
  · rename_i ds p k far
    obtain ⟨cs, i, n, rfl, rfl, rfl, hi, n2, n5, hl, hc, hp, hs, hfar, q⟩ := h
    refine ⟨rfl, ?_⟩
    have put := put_sp hi hc hp n2 hs
    have ls := sp_len (k := n) hi
    have ls' : ((spF cs i n).mergeSort cle).length ≤ 12 := by rw [List.length_mergeSort]; omega
    have hat := atI_sub (cs := cs) (i := (i : Int)) (by omega) (by omega)
    rw [Int.toNat_natCast] at hat
    unfold w__law_split_right
    refine seq_cut fun R hR => ?_
    dsimp? [sp_split_at]
    refine ⟨cs, rfl, n, rfl, by omega, by omega, hc, fun j ej hj => ?_, fun z => (z i hi rfl).elim⟩
    injection ej with ej
    have ej : i = j := by omega
    subst ej
    refine ⟨fun _ _ => hR _ ?_, fun z => by omega, fun _ z => by omega⟩
    generalize (spF cs i n).mergeSort cle = S' at *
    generalize cs.getD i (0, 0) = x at *
    refine seq_cut fun R hR => ?_
    dsimp? [w__law_split_right_L1, wFor]
    dsimp? [rgK]
    have e7 : rgD (-6) 40 ++ [PyData.int far, .int (0 - far)] = ((List.range 46).map (fun (i : Nat) => (-6 : Int) + i) ++ [far, 0 - far]).map .int := by
      rw [List.map_append, List.map_map]
      rfl
    have hlen : (rgD (-6) 40).length = 46 := by unfold rgD; rw [List.length_map, List.length_range]; rfl
    rw [hlen, e7]
    refine ⟨by unfold RgOk; omega, by decide, by decide, ?_⟩
    generalize (List.range 46).map (fun (i : Nat) => (-6 : Int) + i) ++ [far, 0 - far] = ms
    refine each_all PyData.int ms (fun e => ∃ x5, e = [Sl.val (PyData.tuple (cks cs)), Sl.val (PyData.int (i : Int)), Sl.val (PyData.int (n : Int)), Sl.val (PyData.int far), Sl.val (PyData.tuple (cks S')), x5, Sl.un, Sl.un, Sl.un]) ?_ ?_ _ ⟨_, rfl⟩
    · rintro e ⟨x5, rfl⟩
      refine hR _ ?_
      unfold w__law_split_right_R2
      refine seq_cut fun R hR => ?_
      dsimp? [hat, sp__law_parts]
      obtain ⟨x1, x2⟩ := x
      dsimp? [ck]
      have gx := put.ok _ put.hx
      have x1b : 1 ≤ x1 := gx.1
      have x1c : x1 ≤ 1000 := gx.2.1
      refine ⟨n, rfl, by omega, Nat.lt_of_lt_of_le (show x1.natAbs < 2 ^ 60 by omega) (Nat.pow_le_pow_right (by decide) (by decide)), hR _ ?_⟩
      refine seq_cut fun R hR => ?_
      have fin : ∀ x6 x7, R [Sl.val (PyData.tuple (cks cs)), Sl.val (PyData.int (i : Int)), Sl.val (PyData.int (n : Int)), Sl.val (PyData.int far), Sl.val (PyData.tuple (cks S')), x5, x6, x7, Sl.un] := fun x6 x7 => by
        refine hR _ ?_
        dsimp? [w__law_split_right_R1]
        exact q
      dsimp? [w__law_split_right_C1, wLc]
      refine lc_flt (fun d => decide (d ∈ cs)) (by rw [prts_len]; omega) (fun d hd A N hA => ?_) ?_
      · obtain ⟨d1, d2⟩ := d
        dsimp? [ck]
        refine ⟨sh_ck (d1, d2), sh_tck _, ?_⟩
        rw [any_ck]
        exact hA
      dsimp? []
      refine ⟨by decide, sh_lck _, sh_lin [], ?_⟩
      rw [eqv_lnil]
      cases hf : (prts (x1, x2) n).filter fun d => decide (d ∈ cs) with
      | cons y ys =>
        rw [if_neg (show ¬ (cks (y :: ys)).isEmpty = true from Bool.false_ne_true)]
        exact fin _ _
      | nil =>
        rw [if_pos (show (cks []).isEmpty = true from rfl)]
        have hno : ∀ d ∈ prts (x1, x2) n, d ∉ cs := fun d hd z => by
          have := (List.mem_filter (p := fun d => decide (d ∈ cs))).mpr ⟨hd, decide_eq_true z⟩
          rw [hf] at this
          cases this
        obtain ⟨j1, j2, j3, j4⟩ := put.join hno
        dsimp? [w__law_split_right_C2, wLc]
        refine lc_map ck (fun p => .int (S'.idxOf p : Int)) (prts (x1, x2) n) (fun p hp1 A hA => ?_) (small100000 (by rw [prts_len]; omega)) ?_
        · obtain ⟨y1, y2⟩ := ix_ck ((put.hm p).mpr (.inr hp1))
          obtain ⟨p1, p2⟩ := p
          dsimp? [ck, wIdxT]
          exact ⟨ck (p1, p2), rfl, sh_tck S', sh_ck _, S'.idxOf (p1, p2), ck (p1, p2), y1, by rw [eqv_ck]; exact decide_eq_true rfl, y2, hA⟩
        rw [show ((prts (x1, x2) n).map fun p => PyData.int (S'.idxOf p : Int)) = (plP S' (x1, x2) n).map .int by unfold plP; rw [List.map_map]; rfl]
        have tE : PyData.tuple ((plP S' (x1, x2) n).map .int) = tpl (plP S' (x1, x2) n) := rfl
        have lpl : (plP S' (x1, x2) n).length = n := by unfold plP; rw [List.length_map, prts_len]
        dsimp? [tE, sp_joins_of]
        have gS : GC S' := GC.of (by decide) put.ok' (by omega)
        have gc : GC cs := GC.of (by decide) hc (by omega)
        have hany : ((((joF S').mergeSort lle).map tpl).any fun z => PyData.eqv z (tpl (plP S' (x1, x2) n))) = true := by
          rw [List.any_eq_true]
          exact ⟨_, List.mem_map.mpr ⟨_, (List.mergeSort_perm _ lle).mem_iff.mpr j1, rfl⟩, (eqv_io _ _ (tpl_io _) (tpl_io _)).mpr rfl⟩
        have ee : exB S' = exB cs := by
          rw [Bool.eq_iff_iff, exB_one gS, exB_one gc]
          exact put.one hno
        refine ⟨S', rfl, by omega, put.ok', (tpl_sh _).sh (by decide), sh_tpls _, ?_⟩
        rw [hany, if_neg (by decide)]
        dsimp? [sp_join_at]
        refine ⟨S', rfl, by omega, put.ok', TL.tup (by rw [List.length_map]; omega), fun l c e h1 h2 => ?_, fun z => (z _ (x1, x2) rfl j4 j2).elim⟩
        have e := tpl_inj e
        subst e
        have ec := Option.some.inj (j2.symm.trans h2)
        subst ec
        rw [j3]
        refine ⟨sh_tck _, sh_tck _, ?_⟩
        rw [eqv_tcks, decide_eq_true rfl, if_neg (by decide)]
        dsimp? [sp_exact_good]
        refine ⟨S', rfl, gS, cs, rfl, gc, ?_⟩
        rw [ee, beq_self_eq_true, if_neg (by decide)]
        dsimp? [sp_split_paper]
        refine ⟨cs, rfl, by omega, hc, ?_⟩
        by_cases hd : isNone ((ppF 12 (1, 0) cs).headD .none) = true
        · rw [if_neg (by rw [hd]; decide)]
          exact fin _ _
        · rw [if_pos (by rw [eq_false_of_ne_true hd]; rfl)]
          have nt := (pp_iff hc).mp (fun z => hd (by rw [z]; rfl))
          have ne := (pp_iff put.ok').mpr (put.nt nt)
          refine ⟨S', rfl, by omega, put.ok', ?_⟩
          have no : ¬ isNone ((ppF 12 (1, 0) S').headD .none) = true := fun z => by
            cases e2 : ppF 12 (1, 0) S' with
            | nil => exact ne e2
            | cons y ys =>
              rw [e2, List.headD_cons] at z
              cases y with
              | none =>
                have e3 := pp_none (n := 12) (c := (1, 0)) (S := S') (by rw [e2]; exact List.mem_cons_self)
                have m0 := (put.hm _).mpr (.inr (prts_mem (c := (x1, x2)) (k := n) (i := 0) (by omega)))
                rw [e3, List.mem_singleton] at m0
                have m1 : x1 * (n : Int) = 1 := congrArg Prod.fst m0
                have b := Int.mul_le_mul_of_nonneg_left (show (2 : Int) ≤ (n : Int) by omega) (show 0 ≤ x1 by omega)
                omega
              | _ => cases z
          rw [if_neg no]
          exact fin _ _
    · rintro m _ e R9 ⟨x5, rfl⟩ ih
      dsimp? []
      unfold w__law_split_right_B1
      dsimp? [sp_rings_at]
      refine ⟨cs, rfl, fun c h => (hc c h).1, by omega, by decide, sh_lck _, sh_lin [], S', rfl, fun c h => (put.ok' c h).1, by omega, by decide, sh_lck _, sh_lin [], ?_⟩
      have er : PyData.eqv (.list (cks (rgF cs m))) (.list []) = PyData.eqv (.list (cks (rgF S' m))) (.list []) := by
        rw [eqv_lnil, eqv_lnil, Bool.eq_iff_iff, List.isEmpty_iff, List.isEmpty_iff]
        unfold cks
        rw [List.map_eq_nil_iff, List.map_eq_nil_iff]
        exact put.ring m
      rw [er, if_neg (by rw [beq_self_eq_true]; decide)]
      exact ih _ ⟨_, rfl⟩
  · exact h.elim
def sp_law_k37 : Spc := spLaw
def w_law_k37_B1 : WS :=
  (wIfS (wAnd (wTB (wCall 1 sp_exact_good (wMCons (wVar 4) wMNil))) (wNot (wTB (wCall 1 sp_exact_good (wMCons (wCall 2 sp_join_at (wMCons (wVar 4) (wMCons (wVar 7) wMNil))) wMNil))))) (wRet (wC (.bool false))) wNext)
def w_law_k37_L1 : WS :=
  wFor (wISeq (wCall 1 sp_joins_of (wMCons (wVar 4) wMNil))) (gN 7) w_law_k37_B1
def w_law_k37_R1 : WS :=
  (wSeq (wIfS (wNot (wTB (wCall 1 sp__law_paper_right (wMCons (wVar 4) wMNil)))) (wRet (wC (.bool false))) wNext)
    w_law_k37_L1)
def w_law_k37_B2 : WS :=
  (wSeq (wIfS (wTB (wBin oNe (wVar 4) (wTup wFNil))) (wSeq (wSet 5 (wCall 2 sp__law_draw (wLd 2 (wMCons (wCallB oLen (wACons (wVar 4) wANil)) wMNil))))
    (wSeq (wSet 6 (wBin oAdd (wC (.int 2)) (wCall 2 sp__law_draw (wLd 2 (wMCons (wC (.int 4)) wMNil)))))
    (wIfS (wAnd (wTB (wBin oLe (wBin oMul (wBin oIx (wBin oIx (wVar 4) (wVar 5)) (wC (.int 0))) (wVar 6)) (wC (.int 1000)))) (wNot (wTB (wCall 4 sp__law_split_right (wMCons (wVar 4) (wMCons (wVar 5) (wMCons (wVar 6) (wMCons (wVar 3) wMNil)))))))) (wRet (wC (.bool false))) wNext))) wNext)
    w_law_k37_R1)
def w_law_k37_L2 : WS :=
  wFor (wISeq (wLst (wFCons (wCall 2 sp__law_clocks_by (wLd 2 (wMCons (wC (.int 8)) wMNil))) (wFCons (wCallB oTuple (wACons (wCall 3 sp__law_parts_by (wLd 2 (wMCons (wC (.int 1)) (wMCons (wC (.int 8)) wMNil)))) wANil)) wFNil)))) (gN 4) w_law_k37_B2
def w_law_k37_B3 : WS :=
  (wSeq (wSet 2 (wCall 1 sp__law_pen_of (wMCons (wVar 1) wMNil)))
    (wSeq (wSet 3 (wCall 2 sp__law_draw (wLd 2 (wMCons (wBin oPow (wC (.int 10)) (wC (.int 40))) wMNil))))
    w_law_k37_L2))
def w_law_k37_L3 : WS :=
  wFor (wISeq (wBin oAdd (wLst (wFCons (wCall 2 sp__law_cell_at (wMCons (wVar 0) (wMCons (wC (.int 0)) wMNil))) wFNil)) (wSl (wVar 0) (wOSo (wC (.int 1))) (wOSo (wC (.int 4)))))) (gN 1) w_law_k37_B3
def w_law_k37_R2 : WS :=
  (wRet (wC (.bool true)))
/-- law: 0 script, 1 cell, 2 pen, 3 far, 4 clocks, 5 place, 6 k, 7 places -/
def w_law_k37 : WS :=
  (wSeq w_law_k37_L3
    w_law_k37_R2)

theorem vc_law_k37 : ∀ avs Kr Kx, avs.length = 1 → sp_law_k37 avs Kr Kx → lsFrom 0 avs = [] ∧ w_law_k37 (startEv 8 avs) (kenD [] Kr Kx) := by
  rintro avs Kr Kx hl ⟨ns, rfl, hn, q⟩
  refine ⟨rfl, ?_⟩
  have e40 : (10 : Int) ^ Int.toNat 40 = 10000000000000000000000000000000000000000 := by decide +kernel
  have cp40 : CPow 10 40 := ⟨by decide, by decide, by decide +kernel⟩
  unfold w_law_k37
  refine seq_cut fun RO hRO => ?_
  dsimp? [w_law_k37_L3, wFor, sp__law_cell_at]
  refine ⟨⟨ns, rfl⟩, by decide, fun n => ⟨by decide, cells_len hn, ?_⟩⟩
  refine each_ints (fun e => ∃ x1 x2 x3 x4 x5 x6 x7, e = [Sl.val (PyData.list (ns.map PyData.int)), x1, x2, x3, x4, x5, x6, x7]) ?_ ?_ _ _ cells_ints ⟨_, _, _, _, _, _, _, rfl⟩
  · rintro e ⟨x1, x2, x3, x4, x5, x6, x7, rfl⟩
    refine hRO _ ?_
    dsimp? [w_law_k37_R2]
    exact q
  rintro m e RI ⟨x1, x2, x3, x4, x5, x6, x7, rfl⟩ ih
  dsimp? []
  unfold w_law_k37_B3
  refine seq_cut fun R hR => ?_
  dsimp? [sp__law_pen_of]
  refine fun pen hp => hR _ ?_
  refine seq_cut fun R hR => ?_
  dsimp? [sp__law_draw]
  rw [e40]
  refine ⟨cp40, hp, by decide, by decide +kernel, fun p1 far hp1 f0 f1 => hR _ ?_⟩
  dsimp? [w_law_k37_L2, wFor, sp__law_clocks_by, sp__law_parts_by]
  refine ⟨hp1, by decide, by decide, fun p2 cs hp2 h1 h2 h3 h4 _ => ⟨hp2, by decide, by decide, by decide, by decide, fun p3 ms hp3 m1 m2 m3 m4 => ⟨by decide, ?_⟩⟩⟩
  obtain ⟨ap, ⟨l0, el⟩, _⟩ := m4
  have mlt : ms.Pairwise clt := by
    have nd := apart_nd ap.1
    rw [el] at nd ⊢
    exact sort_clt ((List.mergeSort_perm l0 cle).nodup_iff.mp nd)
  refine each_all (fun M => PyData.tuple (cks M)) [cs, ms] (fun e => ∃ pen x4 x5 x6 x7, e = [Sl.val (PyData.list (ns.map PyData.int)), Sl.val (PyData.int m), Sl.own false pen, Sl.val (PyData.int far), x4, x5, x6, x7] ∧ pen3 pen) ?_ ?_ _ ⟨_, _, _, _, _, rfl, hp3⟩
  · rintro e ⟨pen, x4, x5, x6, x7, rfl, _⟩
    exact ih _ ⟨_, _, _, _, _, _, _, rfl⟩
  · rintro L hL e R9 ⟨pen, x4, x5, x6, x7, rfl, hp⟩ ih9
    have g : L.length ≤ 8 ∧ (∀ c ∈ L, CkOk 1000 c) ∧ L.Pairwise clt := by
      rcases List.mem_cons.mp hL with rfl | hL
      · exact ⟨by omega, h1, h3⟩
      rcases List.mem_cons.mp hL with rfl | hL
      · exact ⟨by omega, m1, mlt⟩
      · cases hL
    obtain ⟨g1, g2, g3⟩ := g
    dsimp? []
    unfold w_law_k37_B2
    refine seq_cut fun R hR => ?_
    have fin : ∀ pen x5 x6, pen3 pen → R [Sl.val (PyData.list (ns.map PyData.int)), Sl.val (PyData.int m), Sl.own false pen, Sl.val (PyData.int far), Sl.val (PyData.tuple (cks L)), x5, x6, x7] := fun pen x5 x6 hp => by
      refine hR _ ?_
      unfold w_law_k37_R1
      refine seq_cut fun R hR => ?_
      dsimp? [sp__law_paper_right]
      refine ⟨L, rfl, g1, g2, g3, hR _ ?_⟩
      dsimp? [w_law_k37_L1, wFor, sp_joins_of]
      refine ⟨L, rfl, by omega, g2, ?_⟩
      refine each_all tpl ((joF L).mergeSort lle) (fun e => ∃ x7, e = [Sl.val (PyData.list (ns.map PyData.int)), Sl.val (PyData.int m), Sl.own false pen, Sl.val (PyData.int far), Sl.val (PyData.tuple (cks L)), x5, x6, x7]) ?_ ?_ _ ⟨_, rfl⟩
      · rintro e ⟨x7, rfl⟩
        exact ih9 _ ⟨_, _, _, _, _, rfl, hp⟩
      · rintro l hlm e R8 ⟨x7, rfl⟩ ih8
        dsimp? []
        unfold w_law_k37_B1
        dsimp? [sp_exact_good]
        have gL : GC L := GC.of (by decide) g2 (by omega)
        refine ⟨L, rfl, gL, ?_⟩
        by_cases hx : exB L = true
        · rw [if_pos hx]
          have jm := (List.mergeSort_perm _ lle).mem_iff.mp hlm
          obtain ⟨rise, okp⟩ := (jo_mem g3 g2 l).mp jm
          unfold okP at okp
          rw [Bool.and_eq_true, decide_eq_true_iff] at okp
          obtain ⟨l2, hs⟩ := okp
          obtain ⟨c, hw⟩ := Option.isSome_iff_exists.mp hs
          have ll := rg_len rise
          dsimp? [sp_join_at]
          refine ⟨L, rfl, by omega, g2, TL.tup (by rw [List.length_map]; omega), fun l1 c1 e e1 e2 => ?_, fun z => ?_⟩
          · have e := tpl_inj e
            subst e
            have j1 := jn_one g3 g2 ((exB_one gL).mp hx) (rgI_in rise) (by omega) e2
            have cok := woF_ok (sub_ok g2 (rgI_in rise)) e2
            have gj : GC (ordC (lfF L l ++ [c1])) := GC.of (m := 1000) (by decide) (fun d hd => by
              rcases List.mem_append.mp (mem_ordC.mp hd) with y | y
              · exact g2 d (lfF_mem y)
              · simp only [List.mem_singleton] at y
                subst y
                exact cok) (by
              have a := ordC_len (lfF L l ++ [c1])
              have b := lfF_len L l
              rw [List.length_append, List.length_singleton] at a
              omega)
            refine ⟨_, rfl, gj, ?_⟩
            rw [if_neg (by rw [(exB_one gj).mpr j1]; decide)]
            exact ih8 _ ⟨_, rfl⟩
          · refine (z l c rfl ?_ hw).elim
            have ai : (l.map PyData.int).all isI = true := List.all_eq_true.mpr fun d hd => by
              obtain ⟨i, _, rfl⟩ := List.mem_map.mp hd
              rfl
            unfold tpl
            rw [plB_at, unI_ints, List.length_map, decide_eq_true (by omega), ai, decide_eq_true (show l = (rgI (L.length : Int)).filter fun i => decide (i ∈ l) from rise)]
            rfl
        · rw [if_neg hx]
          exact ih8 _ ⟨_, rfl⟩
    dsimp? []
    rw [show PyData.eqv (.tuple (cks L)) (.tuple []) = decide (L = []) from eqv_tcks L []]
    refine ⟨by decide, sh_tck _, by decide, ?_⟩
    by_cases hn0 : L = []
    · rw [if_neg (by rw [decide_eq_true hn0]; decide)]
      exact fin _ _ _ hp
    rw [if_pos (by rw [decide_eq_false hn0]; rfl)]
    have L1 := List.length_pos_iff.mpr hn0
    dsimp? [sp__law_draw]
    rw [show (cks L).length = L.length from List.length_map _]
    refine ⟨hp, by omega, log_small (by omega) (by omega), fun p4 r hp4 r0 r1 => ?_⟩
    obtain ⟨i, rfl⟩ := Int.eq_ofNat_of_zero_le r0
    have hi : i < L.length := by omega
    have hat := atI_sub (cs := L) (i := (i : Int)) (by omega) (by omega)
    rw [Int.toNat_natCast] at hat
    dsimp? []
    refine ⟨hp4, by decide, by decide, fun p5 r hp5 s0 s1 => ⟨_, hat, ?_⟩⟩
    obtain ⟨k, hk⟩ := Int.eq_ofNat_of_zero_le (show 0 ≤ 2 + r by omega)
    rw [hk]
    have gx : CkOk 1000 (L.getD i (0, 0)) := by
      rw [List.getD_eq_getElem?_getD, List.getElem?_eq_getElem hi]
      exact g2 _ (List.getElem_mem hi)
    have x1 := gx.1
    have x2 := gx.2.1
    dsimp? [ck]
    refine ⟨mulx_ok (a := 60) (b := 60) (by omega) (by omega) (by decide), ?_⟩
    by_cases hs : (L.getD i (0, 0)).1 * (k : Int) ≤ 1000
    · rw [if_pos hs]
      dsimp? [sp__law_split_right]
      exact ⟨L, rfl, i, rfl, k, rfl, hi, by omega, by omega, g1, g2, g3, hs, by omega, fin _ _ _ hp5⟩
    · rw [if_neg hs]
      exact fin _ _ _ hp5
end Dl
end L2

namespace L2
namespace Dl
namespace K37
open PySem PySem.Spec PyProof.Rows L2H
def topS (i : Nat) : Stmt := PySem.Challenge.pw_coverclocks_k37_whole_splits_and_joins.main.body.getD i (.Pass ⟨0, 0, 0, 0⟩)
abbrev s_is_whole : Stmt := topS 7
abbrev N_is_whole : List Str := ["thing"]
theorem sc_is_whole : FnScope N_is_whole ["thing"] (defScope s_is_whole) := ⟨rfl, rfl, rfl, by decide +kernel, rfl, by decide +kernel, by decide +kernel⟩
abbrev s_rings : Stmt := topS 8
abbrev N_rings : List Str := ["clock", "number"]
theorem sc_rings : FnScope N_rings ["clock", "number"] (defScope s_rings) := ⟨rfl, rfl, rfl, by decide +kernel, rfl, by decide +kernel, by decide +kernel⟩
abbrev s_rings_at : Stmt := topS 9
abbrev N_rings_at : List Str := ["clocks", "number", "clock"]
theorem sc_rings_at : FnScope N_rings_at ["clocks", "number"] (defScope s_rings_at) := ⟨rfl, rfl, rfl, by decide +kernel, rfl, by decide +kernel, by decide +kernel⟩
abbrev s_divisor_of : Stmt := topS 10
abbrev N_divisor_of : List Str := ["one", "other"]
theorem sc_divisor_of : FnScope N_divisor_of ["one", "other"] (defScope s_divisor_of) := ⟨rfl, rfl, rfl, by decide +kernel, rfl, by decide +kernel, by decide +kernel⟩
abbrev s_round_of : Stmt := topS 11
abbrev N_round_of : List Str := ["clocks", "found", "step", "rest"]
theorem sc_round_of : FnScope N_round_of ["clocks"] (defScope s_round_of) := ⟨rfl, rfl, rfl, by decide +kernel, rfl, by decide +kernel, by decide +kernel⟩
abbrev s_back_of : Stmt := topS 12
abbrev N_back_of : List Str := ["one", "other", "before", "now", "left", "right", "often"]
theorem sc_back_of : FnScope N_back_of ["one", "other"] (defScope s_back_of) := ⟨rfl, rfl, rfl, by decide +kernel, rfl, by decide +kernel, by decide +kernel⟩
abbrev s_meet_of : Stmt := topS 13
abbrev N_meet_of : List Str := ["one", "other", "share", "step", "turns"]
theorem sc_meet_of : FnScope N_meet_of ["one", "other"] (defScope s_meet_of) := ⟨rfl, rfl, rfl, by decide +kernel, rfl, by decide +kernel, by decide +kernel⟩
abbrev s_inside_of : Stmt := topS 14
abbrev N_inside_of : List Str := ["one", "other"]
theorem sc_inside_of : FnScope N_inside_of ["one", "other"] (defScope s_inside_of) := ⟨rfl, rfl, rfl, by decide +kernel, rfl, by decide +kernel, by decide +kernel⟩
abbrev s_parts_of : Stmt := topS 16
abbrev N_parts_of : List Str := ["clock", "k", "part"]
theorem sc_parts_of : FnScope N_parts_of ["clock", "k"] (defScope s_parts_of) := ⟨rfl, rfl, rfl, by decide +kernel, rfl, by decide +kernel, by decide +kernel⟩
abbrev s_split_at : Stmt := topS 17
abbrev N_split_at : List Str := ["clocks", "place", "k", "found", "part"]
theorem sc_split_at : FnScope N_split_at ["clocks", "place", "k"] (defScope s_split_at) := ⟨rfl, rfl, rfl, by decide +kernel, rfl, by decide +kernel, by decide +kernel⟩
abbrev s_whole_of : Stmt := topS 18
abbrev N_whole_of : List Str := ["clocks", "places", "step", "rest", "clock", "place"]
theorem sc_whole_of : FnScope N_whole_of ["clocks", "places"] (defScope s_whole_of) := ⟨rfl, rfl, rfl, by decide +kernel, rfl, by decide +kernel, by decide +kernel⟩
abbrev s_joins_of : Stmt := topS 19
abbrev N_joins_of : List Str := ["clocks", "found", "step", "rest", "k", "parts", "part"]
theorem sc_joins_of : FnScope N_joins_of ["clocks"] (defScope s_joins_of) := ⟨rfl, rfl, rfl, by decide +kernel, rfl, by decide +kernel, by decide +kernel⟩
abbrev s_places_good : Stmt := topS 20
abbrev N_places_good : List Str := ["clocks", "thing", "place"]
theorem sc_places_good : FnScope N_places_good ["clocks", "thing"] (defScope s_places_good) := ⟨rfl, rfl, rfl, by decide +kernel, rfl, by decide +kernel, by decide +kernel⟩
abbrev s_join_at : Stmt := topS 21
abbrev N_join_at : List Str := ["clocks", "places", "left", "place", "clock"]
theorem sc_join_at : FnScope N_join_at ["clocks", "places"] (defScope s_join_at) := ⟨rfl, rfl, rfl, by decide +kernel, rfl, by decide +kernel, by decide +kernel⟩
abbrev s_paper_good : Stmt := topS 22
abbrev N_paper_good : List Str := ["thing", "paper"]
theorem sc_paper_good : FnScope N_paper_good ["thing"] (defScope s_paper_good) := ⟨rfl, rfl, rfl, by decide +kernel, rfl, by decide +kernel, by decide +kernel⟩
abbrev s_made_of : Stmt := topS 23
abbrev N_made_of : List Str := ["clock", "paper", "found", "part", "own"]
theorem sc_made_of : FnScope N_made_of ["clock", "paper"] (defScope s_made_of) := ⟨rfl, rfl, rfl, by decide +kernel, rfl, by decide +kernel, by decide +kernel⟩
abbrev s_split_good : Stmt := topS 24
abbrev N_split_good : List Str := ["clocks", "thing"]
theorem sc_split_good : FnScope N_split_good ["clocks", "thing"] (defScope s_split_good) := ⟨rfl, rfl, rfl, by decide +kernel, rfl, by decide +kernel, by decide +kernel⟩
abbrev s_least_prime : Stmt := topS 25
abbrev N_least_prime : List Str := ["clock", "clocks", "k", "step", "rest"]
theorem sc_least_prime : FnScope N_least_prime ["clock", "clocks"] (defScope s_least_prime) := ⟨rfl, rfl, rfl, by decide +kernel, rfl, by decide +kernel, by decide +kernel⟩
abbrev s_paper_for : Stmt := topS 26
abbrev N_paper_for : List Str := ["clock", "clocks", "k", "papers", "part", "one"]
theorem sc_paper_for : FnScope N_paper_for ["clock", "clocks"] (defScope s_paper_for) := ⟨rfl, rfl, rfl, by decide +kernel, rfl, by decide +kernel, by decide +kernel⟩
abbrev s_split_paper : Stmt := topS 27
abbrev N_split_paper : List Str := ["clocks", "found"]
theorem sc_split_paper : FnScope N_split_paper ["clocks"] (defScope s_split_paper) := ⟨rfl, rfl, rfl, by decide +kernel, rfl, by decide +kernel, by decide +kernel⟩
abbrev s_shares_of : Stmt := topS 29
abbrev N_shares_of : List Str := ["clocks", "bottom", "top", "share", "step", "rest"]
theorem sc_shares_of : FnScope N_shares_of ["clocks"] (defScope s_shares_of) := ⟨rfl, rfl, rfl, by decide +kernel, rfl, by decide +kernel, by decide +kernel⟩
abbrev s_clash_of : Stmt := topS 30
abbrev N_clash_of : List Str := ["clocks", "place", "other", "met"]
theorem sc_clash_of : FnScope N_clash_of ["clocks"] (defScope s_clash_of) := ⟨rfl, rfl, rfl, by decide +kernel, rfl, by decide +kernel, by decide +kernel⟩
abbrev s_exact_good : Stmt := topS 31
abbrev N_exact_good : List Str := ["clocks"]
theorem sc_exact_good : FnScope N_exact_good ["clocks"] (defScope s_exact_good) := ⟨rfl, rfl, rfl, by decide +kernel, rfl, by decide +kernel, by decide +kernel⟩
abbrev s__law_cell_at : Stmt := topS 33
abbrev N__law_cell_at : List Str := ["script", "k"]
theorem sc__law_cell_at : FnScope N__law_cell_at ["script", "k"] (defScope s__law_cell_at) := ⟨rfl, rfl, rfl, by decide +kernel, rfl, by decide +kernel, by decide +kernel⟩
abbrev s__law_next : Stmt := topS 34
abbrev N__law_next : List Str := ["seed"]
theorem sc__law_next : FnScope N__law_next ["seed"] (defScope s__law_next) := ⟨rfl, rfl, rfl, by decide +kernel, rfl, by decide +kernel, by decide +kernel⟩
abbrev s__law_pen_of : Stmt := topS 35
abbrev N__law_pen_of : List Str := ["cell", "left"]
theorem sc__law_pen_of : FnScope N__law_pen_of ["cell"] (defScope s__law_pen_of) := ⟨rfl, rfl, rfl, by decide +kernel, rfl, by decide +kernel, by decide +kernel⟩
abbrev s__law_draw : Stmt := topS 36
abbrev N__law_draw : List Str := ["pen", "many", "found"]
theorem sc__law_draw : FnScope N__law_draw ["pen", "many"] (defScope s__law_draw) := ⟨rfl, rfl, rfl, by decide +kernel, rfl, by decide +kernel, by decide +kernel⟩
abbrev s__law_clock_by : Stmt := topS 37
abbrev N__law_clock_by : List Str := ["pen", "most", "step"]
theorem sc__law_clock_by : FnScope N__law_clock_by ["pen", "most"] (defScope s__law_clock_by) := ⟨rfl, rfl, rfl, by decide +kernel, rfl, by decide +kernel, by decide +kernel⟩
abbrev s__law_parts_by : Stmt := topS 38
abbrev N__law_parts_by : List Str := ["pen", "least", "most", "clocks", "k", "step", "rest", "part"]
theorem sc__law_parts_by : FnScope N__law_parts_by ["pen", "least", "most"] (defScope s__law_parts_by) := ⟨rfl, rfl, rfl, by decide +kernel, rfl, by decide +kernel, by decide +kernel⟩
abbrev s__law_clocks_by : Stmt := topS 39
abbrev N__law_clocks_by : List Str := ["pen", "most", "way", "found", "steps", "turn", "step"]
theorem sc__law_clocks_by : FnScope N__law_clocks_by ["pen", "most"] (defScope s__law_clocks_by) := ⟨rfl, rfl, rfl, by decide +kernel, rfl, by decide +kernel, by decide +kernel⟩
abbrev s__law_parts : Stmt := topS 40
abbrev N__law_parts : List Str := ["clock", "k", "part"]
theorem sc__law_parts : FnScope N__law_parts ["clock", "k"] (defScope s__law_parts) := ⟨rfl, rfl, rfl, by decide +kernel, rfl, by decide +kernel, by decide +kernel⟩
abbrev s__law_split_right : Stmt := topS 41
abbrev N__law_split_right : List Str := ["clocks", "place", "k", "far", "split", "number", "parts", "places", "part"]
theorem sc__law_split_right : FnScope N__law_split_right ["clocks", "place", "k", "far"] (defScope s__law_split_right) := ⟨rfl, rfl, rfl, by decide +kernel, rfl, by decide +kernel, by decide +kernel⟩
abbrev s__law_paper_right : Stmt := topS 42
abbrev N__law_paper_right : List Str := ["clocks", "paper"]
theorem sc__law_paper_right : FnScope N__law_paper_right ["clocks"] (defScope s__law_paper_right) := ⟨rfl, rfl, rfl, by decide +kernel, rfl, by decide +kernel, by decide +kernel⟩
abbrev s_law : Stmt := topS 43
abbrev N_law : List Str := ["script", "cell", "pen", "far", "clocks", "place", "k", "places"]
theorem sc_law : FnScope N_law ["script"] (defScope s_law) := ⟨rfl, rfl, rfl, by decide +kernel, rfl, by decide +kernel, by decide +kernel⟩
structure Zs (mg : Str → Option Value) : Prop where
  all_ : mg "all" = none
  bool : mg "bool" = none
  enumerate : mg "enumerate" = none
  int_ : mg "int" = none
  isinstance : mg "isinstance" = none
  len : mg "len" = none
  list_ : mg "list" = none
  max_ : mg "max" = none
  min_ : mg "min" = none
  range_ : mg "range" = none
  set_ : mg "set" = none
  sorted : mg "sorted" = none
  sum_ : mg "sum" = none
  tuple : mg "tuple" = none
  zip : mg "zip" = none
section
variable {P : Program} {w : World} {K : PySem.W.Frag} {mg : Str → Option Value} {base : Heap}
theorem ok_is_whole {f : Addr} {fd : FuncData} (F : Fun K "is_whole" "is_whole" s_is_whole f fd) (Z : Zs mg)  : FnOk P w K mg base (L2N.CX P w) 1 f fd ["thing"] (low K mg 1 sp_is_whole) := by
  refine def_ok (N := N_is_whole) (ps := ["thing"]) F sc_is_whole (ls := []) (wb := w_is_whole) (fun cdv A outer s H E B hr hB hL tk hp => ?_) vc_is_whole
  have nd := sc_is_whole.nd
  have hu := hr.u65
  have hu7 := hr.u67
  exact (dss_one (ds_ret (de_and (de_isi (dv 0) (by rfl) Z.isinstance (by rfl) Z.int_ bt_int (by decide)) (de_one (de_not (de_isi (dv 0) (by rfl) Z.isinstance (by rfl) Z.bool bt_bool (by decide)))))))
theorem ok_rings {f : Addr} {fd : FuncData} (F : Fun K "rings" "rings" s_rings f fd) (Z : Zs mg)  : FnOk P w K mg base (L2N.CX P w) 1 f fd ["clock", "number"] (low K mg 2 sp_rings) := by
  refine def_ok (N := N_rings) (ps := ["clock", "number"]) F sc_rings (ls := []) (wb := w_rings) (fun cdv A outer s H E B hr hB hL tk hp => ?_) vc_rings
  have nd := sc_rings.nd
  have hu := hr.u65
  have hu7 := hr.u67
  exact (dss_one (ds_ret (de_cmp (dop_eq hu) (de_op dop_mod (dv 1) (de_ix (dv 0) de_int)) (de_ix (dv 0) de_int))))
theorem ok_rings_at {f : Addr} {fd : FuncData} (F : Fun K "rings_at" "rings_at" s_rings_at f fd) (Z : Zs mg) (c_rings : Cal P w K mg base 1 "rings" 2 sp_rings) : FnOk P w K mg base (L2N.CX P w) 2 f fd ["clocks", "number"] (low K mg 2 sp_rings_at) := by
  refine def_ok (N := N_rings_at) (ps := ["clocks", "number"]) F sc_rings_at (ls := []) (wb := w_rings_at) (fun cdv A outer s H E B hr hB hL tk hp => ?_) vc_rings_at
  have nd := sc_rings_at.nd
  have hu := hr.u65
  have hu7 := hr.u67
  exact (dss_one (ds_ret (de_lc (own := [("clock", 2)]) (di_seq (dv 0)) (blkOk_by (N := N_rings_at) (sc := defScope s_rings_at) (by decide +kernel)) (by decide) (nls hL (by decide)) nd (fun _ _ _ _ _ => (dg_name 2 (nl hL (by decide)) nd)) (fun _ _ _ _ _ => (dts_one (dt_val (de_call c_rings hr hB tk0 (dm_cons (dv 2) (dm_cons (dv 1) dm_nil)))))) (fun _ _ _ _ _ => (dv 2)))))
theorem ok_divisor_of {f : Addr} {fd : FuncData} (F : Fun K "divisor_of" "divisor_of" s_divisor_of f fd) (Z : Zs mg)  : FnOk P w K mg base (L2N.CX P w) 1 f fd ["one", "other"] (low K mg 2 sp_divisor_of) := by
  refine def_ok (N := N_divisor_of) (ps := ["one", "other"]) F sc_divisor_of (ls := []) (wb := w_divisor_of) (fun cdv A outer s H E B hr hB hL tk hp => ?_) vc_divisor_of
  have nd := sc_divisor_of.nd
  have hu := hr.u65
  have hu7 := hr.u67
  exact (dss_cons (ds_while hp (dt_cmp (dop_gt hu) (dv 1) de_int) (dss_one (ds_par 0 1 (df_cons (dv 1) (df_cons (de_op dop_mod (dv 0) (dv 1)) df_nil)) (nl hL (by decide)) (nl hL (by decide)) nd)))
      (dss_one (ds_ret (dv 0))))
theorem ok_round_of {f : Addr} {fd : FuncData} (F : Fun K "round_of" "round_of" s_round_of f fd) (Z : Zs mg) (c_divisor_of : Cal P w K mg base 1 "divisor_of" 2 sp_divisor_of) : FnOk P w K mg base (L2N.CX P w) 2 f fd ["clocks"] (low K mg 1 sp_round_of) := by
  refine def_ok (N := N_round_of) (ps := ["clocks"]) F sc_round_of (ls := []) (wb := w_round_of) (fun cdv A outer s H E B hr hB hL tk hp => ?_) vc_round_of
  have nd := sc_round_of.nd
  have hu := hr.u65
  have hu7 := hr.u67
  exact (dss_cons (ds_set 1 de_int (nl hL (by decide)) nd)
      (dss_cons (ds_for hp (di_seq (dv 0)) (dg_tup rfl (dgs_cons (dg_name 2 (nl hL (by decide)) nd) (dgs_cons (dg_name 3 (nl hL (by decide)) nd) dgs_nil))) (dss_one (ds_set 1 (de_op dop_fdiv (de_op dop_mul (dv 1) (dv 2)) (de_call c_divisor_of hr hB tk (dm_cons (dv 1) (dm_cons (dv 2) dm_nil)))) (nl hL (by decide)) nd)))
      (dss_one (ds_ret (dv 1)))))
theorem ok_back_of {f : Addr} {fd : FuncData} (F : Fun K "back_of" "back_of" s_back_of f fd) (Z : Zs mg)  : FnOk P w K mg base (L2N.CX P w) 1 f fd ["one", "other"] (low K mg 2 sp_back_of) := by
  refine def_ok (N := N_back_of) (ps := ["one", "other"]) F sc_back_of (ls := []) (wb := w_back_of) (fun cdv A outer s H E B hr hB hL tk hp => ?_) vc_back_of
  have nd := sc_back_of.nd
  have hu := hr.u65
  have hu7 := hr.u67
  exact (dss_cons (ds_asgT (de_tup (df_cons de_int (df_cons de_int df_nil))) (dg_tup rfl (dgs_cons (dg_name 2 (nl hL (by decide)) nd) (dgs_cons (dg_name 3 (nl hL (by decide)) nd) dgs_nil))))
      (dss_cons (ds_par 4 5 (df_cons (dv 1) (df_cons (de_op dop_mod (dv 0) (dv 1)) df_nil)) (nl hL (by decide)) (nl hL (by decide)) nd)
      (dss_cons (ds_while hp (dt_cmp (dop_gt hu) (dv 5) de_int) (dss_cons (ds_set 6 (de_op dop_fdiv (dv 4) (dv 5)) (nl hL (by decide)) nd)
      (dss_cons (ds_par 2 3 (df_cons (dv 3) (df_cons (de_op dop_sub (dv 2) (de_op dop_mul (dv 6) (dv 3))) df_nil)) (nl hL (by decide)) (nl hL (by decide)) nd)
      (dss_one (ds_par 4 5 (df_cons (dv 5) (df_cons (de_op dop_sub (dv 4) (de_op dop_mul (dv 6) (dv 5))) df_nil)) (nl hL (by decide)) (nl hL (by decide)) nd)))))
      (dss_one (ds_ret (de_op dop_mod (dv 2) (dv 1)))))))
theorem ok_meet_of {f : Addr} {fd : FuncData} (F : Fun K "meet_of" "meet_of" s_meet_of f fd) (Z : Zs mg) (c_divisor_of : Cal P w K mg base 1 "divisor_of" 2 sp_divisor_of) (c_back_of : Cal P w K mg base 1 "back_of" 2 sp_back_of) : FnOk P w K mg base (L2N.CX P w) 2 f fd ["one", "other"] (low K mg 2 sp_meet_of) := by
  refine def_ok (N := N_meet_of) (ps := ["one", "other"]) F sc_meet_of (ls := []) (wb := w_meet_of) (fun cdv A outer s H E B hr hB hL tk hp => ?_) vc_meet_of
  have nd := sc_meet_of.nd
  have hu := hr.u65
  have hu7 := hr.u67
  exact (dss_cons (ds_set 2 (de_call c_divisor_of hr hB tk (dm_cons (de_ix (dv 0) de_int) (dm_cons (de_ix (dv 1) de_int) dm_nil))) (nl hL (by decide)) nd)
      (dss_cons (ds_if (dt_cmp (dop_ne hu) (de_op dop_mod (de_op dop_sub (de_ix (dv 1) de_int) (de_ix (dv 0) de_int)) (dv 2)) de_int) (dss_one (ds_ret de_non)) dss_nil)
      (dss_cons (ds_set 3 (de_op dop_mul (de_op dop_fdiv (de_ix (dv 0) de_int) (dv 2)) (de_ix (dv 1) de_int)) (nl hL (by decide)) nd)
      (dss_cons (ds_set 4 (de_op dop_mul (de_op dop_fdiv (de_op dop_sub (de_ix (dv 1) de_int) (de_ix (dv 0) de_int)) (dv 2)) (de_call c_back_of hr hB tk (dm_cons (de_op dop_fdiv (de_ix (dv 0) de_int) (dv 2)) (dm_cons (de_op dop_fdiv (de_ix (dv 1) de_int) (dv 2)) dm_nil)))) (nl hL (by decide)) nd)
      (dss_one (ds_ret (de_tup (df_cons (dv 3) (df_cons (de_op dop_mod (de_op dop_add (de_ix (dv 0) de_int) (de_op dop_mul (de_ix (dv 0) de_int) (dv 4))) (dv 3)) df_nil)))))))))
theorem ok_inside_of {f : Addr} {fd : FuncData} (F : Fun K "inside_of" "inside_of" s_inside_of f fd) (Z : Zs mg)  : FnOk P w K mg base (L2N.CX P w) 1 f fd ["one", "other"] (low K mg 2 sp_inside_of) := by
  refine def_ok (N := N_inside_of) (ps := ["one", "other"]) F sc_inside_of (ls := []) (wb := w_inside_of) (fun cdv A outer s H E B hr hB hL tk hp => ?_) vc_inside_of
  have nd := sc_inside_of.nd
  have hu := hr.u65
  have hu7 := hr.u67
  exact (dss_one (ds_ret (de_and (de_cmp (dop_eq hu) (de_op dop_mod (de_ix (dv 0) de_int) (de_ix (dv 1) de_int)) de_int) (de_one (de_cmp (dop_eq hu) (de_op dop_mod (de_ix (dv 0) de_int) (de_ix (dv 1) de_int)) (de_ix (dv 1) de_int))))))
theorem ok_parts_of {f : Addr} {fd : FuncData} (F : Fun K "parts_of" "parts_of" s_parts_of f fd) (Z : Zs mg)  : FnOk P w K mg base (L2N.CX P w) 1 f fd ["clock", "k"] (low K mg 2 sp_parts_of) := by
  refine def_ok (N := N_parts_of) (ps := ["clock", "k"]) F sc_parts_of (ls := []) (wb := w_parts_of) (fun cdv A outer s H E B hr hB hL tk hp => ?_) vc_parts_of
  have nd := sc_parts_of.nd
  have hu := hr.u65
  have hu7 := hr.u67
  exact (dss_one (ds_ret (de_lc (own := [("part", 2)]) (di_rng1 (dv 1) (by rfl) Z.range_) (blkOk_by (N := N_parts_of) (sc := defScope s_parts_of) (by decide +kernel)) (by decide) (nls hL (by decide)) nd (fun _ _ _ _ _ => (dg_name 2 (nl hL (by decide)) nd)) (fun _ _ _ _ _ => dts_nil) (fun _ _ _ _ _ => (de_tup (df_cons (de_op dop_mul (de_ix (dv 0) de_int) (dv 1)) (df_cons (de_op dop_add (de_ix (dv 0) de_int) (de_op dop_mul (de_ix (dv 0) de_int) (dv 2))) df_nil)))))))
theorem ok_split_at {f : Addr} {fd : FuncData} (F : Fun K "split_at" "split_at" s_split_at f fd) (Z : Zs mg) (c_is_whole : Cal P w K mg base 1 "is_whole" 1 sp_is_whole) (c_parts_of : Cal P w K mg base 1 "parts_of" 2 sp_parts_of) (g_MOST_CLOCKS : ∃ t, mg "MOST_CLOCKS" = some (.int 12 t)) (g_MOST_STEP : ∃ t, mg "MOST_STEP" = some (.int 1000 t)) : FnOk P w K mg base (L2N.CX P w) 2 f fd ["clocks", "place", "k"] (low K mg 3 sp_split_at) := by
  refine def_ok (N := N_split_at) (ps := ["clocks", "place", "k"]) F sc_split_at (ls := []) (wb := w_split_at) (fun cdv A outer s H E B hr hB hL tk hp => ?_) vc_split_at
  have nd := sc_split_at.nd
  have hu := hr.u65
  have hu7 := hr.u67
  exact (dss_cons (ds_if ((dw_or (dt_not (dt_val (de_call c_is_whole hr hB tk (dm_cons (dv 1) dm_nil)))) (dw_or (dt_cmp (dop_lt hu) (dv 1) de_int) (dw_or1 (dt_cmp (dop_ge hu) (dv 1) (de_callB dcl_len (da_cons (dv 0) da_nil) (by rfl) Z.len bt_len)))))).dt (dss_one ds_never) dss_nil)
      (dss_cons (ds_set 3 (de_callTy dcl_list (da_cons (de_op dop_add (de_sl (dv 0) do_none (do_some (dv 1))) (de_sl (dv 0) (do_some (de_op dop_add (dv 1) de_int)) do_none)) da_nil) (by rfl) Z.list_ bt_list) (nl hL (by decide)) nd)
      (dss_cons (ds_for hp (di_seq (de_call c_parts_of hr hB tk (dm_cons (de_ix (dv 0) (dv 1)) (dm_cons (dv 2) dm_nil)))) (dg_name 4 (nl hL (by decide)) nd) (dss_one (ds_if (dt_cmp (dop_notIn hu) (dv 4) (dv 3)) (dss_one (ds_expr (de_append 3 (dv 4)))) dss_nil)))
      (dss_cons (ds_if (dt_cmp (dop_gt hu) (de_callB dcl_len (da_cons (dv 3) da_nil) (by rfl) Z.len bt_len) (de_gint g_MOST_CLOCKS)) (dss_one ds_never) dss_nil)
      (dss_cons (ds_if (dt_cmp (dop_gt hu) (de_op dop_mul (de_ix (de_ix (dv 0) (dv 1)) de_int) (dv 2)) (de_gint g_MOST_STEP)) (dss_one ds_never) dss_nil)
      (dss_one (ds_ret (de_callTy dcl_tuple (da_cons (de_callB (dcl_sorted hu7) (da_cons (dv 3) da_nil) (by rfl) Z.sorted bt_sorted) da_nil) (by rfl) Z.tuple bt_tuple))))))))
theorem ok_whole_of {f : Addr} {fd : FuncData} (F : Fun K "whole_of" "whole_of" s_whole_of f fd) (Z : Zs mg) (c_parts_of : Cal P w K mg base 1 "parts_of" 2 sp_parts_of) : FnOk P w K mg base (L2N.CX P w) 2 f fd ["clocks", "places"] (low K mg 2 sp_whole_of) := by
  refine def_ok (N := N_whole_of) (ps := ["clocks", "places"]) F sc_whole_of (ls := []) (wb := w_whole_of) (fun cdv A outer s H E B hr hB hL tk hp => ?_) vc_whole_of
  have nd := sc_whole_of.nd
  have hu := hr.u65
  have hu7 := hr.u67
  exact (dss_cons (ds_asgT (de_ix (dv 0) (de_ix (dv 1) de_int)) (dg_tup rfl (dgs_cons (dg_name 2 (nl hL (by decide)) nd) (dgs_cons (dg_name 3 (nl hL (by decide)) nd) dgs_nil))))
      (dss_cons (ds_if (dt_cmp (dop_ne hu) (de_op dop_mod (dv 2) (de_callB dcl_len (da_cons (dv 1) da_nil) (by rfl) Z.len bt_len)) de_int) (dss_one (ds_ret de_non)) dss_nil)
      (dss_cons (ds_set 4 (de_tup (df_cons (de_op dop_fdiv (dv 2) (de_callB dcl_len (da_cons (dv 1) da_nil) (by rfl) Z.len bt_len)) (df_cons (de_op dop_mod (dv 3) (de_op dop_fdiv (dv 2) (de_callB dcl_len (da_cons (dv 1) da_nil) (by rfl) Z.len bt_len))) df_nil))) (nl hL (by decide)) nd)
      (dss_cons (ds_if (dt_cmp (dop_ne hu) (de_call c_parts_of hr hB tk (dm_cons (dv 4) (dm_cons (de_callB dcl_len (da_cons (dv 1) da_nil) (by rfl) Z.len bt_len) dm_nil))) (de_lc (own := [("place", 5)]) (di_seq (dv 1)) (blkOk_by (N := N_whole_of) (sc := defScope s_whole_of) (by decide +kernel)) (by decide) (nls hL (by decide)) nd (fun _ _ _ _ _ => (dg_name 5 (nl hL (by decide)) nd)) (fun _ _ _ _ _ => dts_nil) (fun _ _ _ _ _ => (de_ix (dv 0) (dv 5))))) (dss_one (ds_ret de_non)) dss_nil)
      (dss_one (ds_ret (dv 4)))))))
theorem ok_joins_of {f : Addr} {fd : FuncData} (F : Fun K "joins_of" "joins_of" s_joins_of f fd) (Z : Zs mg) (c_parts_of : Cal P w K mg base 1 "parts_of" 2 sp_parts_of) : FnOk P w K mg base (L2N.CX P w) 2 f fd ["clocks"] (low K mg 1 sp_joins_of) := by
  refine def_ok (N := N_joins_of) (ps := ["clocks"]) F sc_joins_of (ls := []) (wb := w_joins_of) (fun cdv A outer s H E B hr hB hL tk hp => ?_) vc_joins_of
  have nd := sc_joins_of.nd
  have hu := hr.u65
  have hu7 := hr.u67
  exact (dss_cons (ds_set 1 (de_lst df_nil) (nl hL (by decide)) nd)
      (dss_cons (ds_for hp (di_seq (dv 0)) (dg_tup rfl (dgs_cons (dg_name 2 (nl hL (by decide)) nd) (dgs_cons (dg_name 3 (nl hL (by decide)) nd) dgs_nil))) (dss_one (ds_for hp (di_rng2 de_int (de_op dop_add (de_callB dcl_len (da_cons (dv 0) da_nil) (by rfl) Z.len bt_len) de_int) (by rfl) Z.range_) (dg_name 4 (nl hL (by decide)) nd) (dss_one (ds_if ((dw_and (dt_cmp (dop_eq hu) (de_op dop_mod (dv 2) (dv 4)) de_int) (dw_and1 (dt_cmp (dop_lt hu) (dv 3) (de_op dop_fdiv (dv 2) (dv 4)))))).dt (dss_cons (ds_set 5 (de_call c_parts_of hr hB tk (dm_cons (de_tup (df_cons (de_op dop_fdiv (dv 2) (dv 4)) (df_cons (dv 3) df_nil))) (dm_cons (dv 4) dm_nil))) (nl hL (by decide)) nd)
      (dss_one (ds_if (dt_val (de_callB (dcl_all rfl) (da_cons (de_lc (own := [("part", 6)]) (di_seq (dv 5)) (blkOk_by (N := N_joins_of) (sc := defScope s_joins_of) (by decide +kernel)) (by decide) (nls hL (by decide)) nd (fun _ _ _ _ _ => (dg_name 6 (nl hL (by decide)) nd)) (fun _ _ _ _ _ => dts_nil) (fun _ _ _ _ _ => (de_cmp (dop_in hu) (dv 6) (dv 0)))) da_nil) (by rfl) Z.all_ bt_all)) (dss_one (ds_expr (de_append 1 (de_callTy dcl_tuple (da_cons (de_lc (own := [("part", 6)]) (di_seq (dv 5)) (blkOk_by (N := N_joins_of) (sc := defScope s_joins_of) (by decide +kernel)) (by decide) (nls hL (by decide)) nd (fun _ _ _ _ _ => (dg_name 6 (nl hL (by decide)) nd)) (fun _ _ _ _ _ => dts_nil) (fun _ _ _ _ _ => (de_indexT hu (dv 0) (dv 6)))) da_nil) (by rfl) Z.tuple bt_tuple)))) dss_nil))) dss_nil)))))
      (dss_one (ds_ret (de_callB (dcl_sorted hu7) (da_cons (dv 1) da_nil) (by rfl) Z.sorted bt_sorted)))))
theorem ok_places_good {f : Addr} {fd : FuncData} (F : Fun K "places_good" "places_good" s_places_good f fd) (Z : Zs mg) (c_is_whole : Cal P w K mg base 1 "is_whole" 1 sp_is_whole) : FnOk P w K mg base (L2N.CX P w) 2 f fd ["clocks", "thing"] (low K mg 2 sp_places_good_k34) := by
  refine def_ok (N := N_places_good) (ps := ["clocks", "thing"]) F sc_places_good (ls := []) (wb := w_places_good_k34) (fun cdv A outer s H E B hr hB hL tk hp => ?_) vc_places_good_k34
  have nd := sc_places_good.nd
  have hu := hr.u65
  have hu7 := hr.u67
  exact (dss_cons (ds_if ((dw_or (dt_not (dt_val (de_isi (dv 1) (by rfl) Z.isinstance (by rfl) Z.tuple bt_tuple (by decide)))) (dw_or (dt_cmp (dop_lt hu) (de_callB dcl_len (da_cons (dv 1) da_nil) (by rfl) Z.len bt_len) de_int) (dw_or1 (dt_not (dt_val (de_callB (dcl_all rfl) (da_cons (de_lc (own := [("place", 2)]) (di_seq (dv 1)) (blkOk_by (N := N_places_good) (sc := defScope s_places_good) (by decide +kernel)) (by decide) (nls hL (by decide)) nd (fun _ _ _ _ _ => (dg_name 2 (nl hL (by decide)) nd)) (fun _ _ _ _ _ => dts_nil) (fun _ _ _ _ _ => (de_call c_is_whole hr hB tk0 (dm_cons (dv 2) dm_nil)))) da_nil) (by rfl) Z.all_ bt_all))))))).dt (dss_one (ds_ret de_bl)) dss_nil)
      (dss_one (ds_ret (de_cmp (dop_eq hu) (de_callTy dcl_list (da_cons (dv 1) da_nil) (by rfl) Z.list_ bt_list) (de_lc (own := [("place", 2)]) (di_rng1 (de_callB dcl_len (da_cons (dv 0) da_nil) (by rfl) Z.len bt_len) (by rfl) Z.range_) (blkOk_by (N := N_places_good) (sc := defScope s_places_good) (by decide +kernel)) (by decide) (nls hL (by decide)) nd (fun _ _ _ _ _ => (dg_name 2 (nl hL (by decide)) nd)) (fun _ _ _ _ _ => (dts_one (dt_cmp (dop_in hu) (dv 2) (dv 1)))) (fun _ _ _ _ _ => (dv 2)))))))
theorem ok_join_at {f : Addr} {fd : FuncData} (F : Fun K "join_at" "join_at" s_join_at f fd) (Z : Zs mg) (c_places_good : Cal P w K mg base 2 "places_good" 2 sp_places_good_k34) (c_whole_of : Cal P w K mg base 2 "whole_of" 2 sp_whole_of) : FnOk P w K mg base (L2N.CX P w) 3 f fd ["clocks", "places"] (low K mg 2 sp_join_at) := by
  refine def_ok (N := N_join_at) (ps := ["clocks", "places"]) F sc_join_at (ls := []) (wb := w_join_at) (fun cdv A outer s H E B hr hB hL tk hp => ?_) vc_join_at
  have nd := sc_join_at.nd
  have hu := hr.u65
  have hu7 := hr.u67
  exact (dss_cons (ds_if ((dw_or (dt_not (dt_val (de_call c_places_good hr hB tk (dm_cons (dv 0) (dm_cons (dv 1) dm_nil))))) (dw_or1 (dt_cmp dop_is (de_call c_whole_of hr hB tk (dm_cons (dv 0) (dm_cons (dv 1) dm_nil))) de_non)))).dt (dss_one ds_never) dss_nil)
      (dss_cons (ds_setLc 2 (own := [("place", 3), ("clock", 4)]) (di_enT (df_cons (dv 0) df_nil) (by rfl) Z.enumerate) (blkOk_by (N := N_join_at) (sc := defScope s_join_at) (by decide +kernel)) (by decide) (nls hL (by decide)) (nl hL (by decide)) nd (fun _ _ _ _ _ => (dg_tup rfl (dgs_cons (dg_name 3 (nl hL (by decide)) nd) (dgs_cons (dg_name 4 (nl hL (by decide)) nd) dgs_nil)))) (fun _ _ _ _ _ => (dts_one (dt_cmp (dop_notIn hu) (dv 3) (dv 1)))) (fun _ _ _ _ _ => (dv 4)))
      (dss_one (ds_ret (de_callTy dcl_tuple (da_cons (de_sortSet hu rfl (by rfl) Z.sorted (by rfl) Z.set_ (de_op dop_add (dv 2) (de_lst (df_cons (de_call c_whole_of hr hB tk (dm_cons (dv 0) (dm_cons (dv 1) dm_nil))) df_nil)))) da_nil) (by rfl) Z.tuple bt_tuple)))))
theorem ok_paper_good (n k : Nat) {f : Addr} {fd : FuncData} (F : Fun K "paper_good" "paper_good" s_paper_good f fd) (Z : Zs mg) (c_is_whole : Cal P w K mg base k "is_whole" 1 sp_is_whole) (c_paper_good : Cal P w K mg base k "paper_good" 1 (sp_paper_good n)) : FnOk P w K mg base (L2N.CX P w) (k + 1) f fd ["thing"] (low K mg 1 (sp_paper_good (n + 1))) := by
  refine def_ok (N := N_paper_good) (ps := ["thing"]) F sc_paper_good (ls := []) (wb := w_paper_good n) (fun cdv A outer s H E B hr hB hL tk hp => ?_) (vc_paper_good n)
  have nd := sc_paper_good.nd
  have hu := hr.u65
  have hu7 := hr.u67
  exact (dss_cons (ds_if (dt_cmp dop_is (dv 0) de_non) (dss_one (ds_ret de_bl)) dss_nil)
      (dss_cons (ds_if ((dw_or (dt_not (dt_val (de_isi (dv 0) (by rfl) Z.isinstance (by rfl) Z.tuple bt_tuple (by decide)))) (dw_or (dt_cmp (dop_ne hu) (de_callB dcl_len (da_cons (dv 0) da_nil) (by rfl) Z.len bt_len) de_int) (dw_or (dt_not (dt_val (de_call c_is_whole hr hB tk (dm_cons (de_ix (dv 0) de_int) dm_nil)))) (dw_or1 (dt_cmp (dop_lt hu) (de_ix (dv 0) de_int) de_int)))))).dt (dss_one (ds_ret de_bl)) dss_nil)
      (dss_cons (ds_if ((dw_or (dt_not (dt_val (de_isi (de_ix (dv 0) de_int) (by rfl) Z.isinstance (by rfl) Z.tuple bt_tuple (by decide)))) (dw_or1 (dt_cmp (dop_ne hu) (de_callB dcl_len (da_cons (de_ix (dv 0) de_int) da_nil) (by rfl) Z.len bt_len) (de_ix (dv 0) de_int))))).dt (dss_one (ds_ret de_bl)) dss_nil)
      (dss_one (ds_ret (de_callB (dcl_all rfl) (da_cons (de_lc (own := [("paper", 1)]) (di_seq (de_ix (dv 0) de_int)) (blkOk_by (N := N_paper_good) (sc := defScope s_paper_good) (by decide +kernel)) (by decide) (nls hL (by decide)) nd (fun _ _ _ _ _ => (dg_name 1 (nl hL (by decide)) nd)) (fun _ _ _ _ _ => dts_nil) (fun _ _ _ _ _ => (de_call c_paper_good hr hB tk0 (dm_cons (dv 1) dm_nil)))) da_nil) (by rfl) Z.all_ bt_all))))))
theorem ok_made_of (n k : Nat) {f : Addr} {fd : FuncData} (F : Fun K "made_of" "made_of" s_made_of f fd) (Z : Zs mg) (c_parts_of : Cal P w K mg base k "parts_of" 2 sp_parts_of) (c_made_of : Cal P w K mg base k "made_of" 2 (sp_made_of n)) : FnOk P w K mg base (L2N.CX P w) (k + 1) f fd ["clock", "paper"] (low K mg 2 (sp_made_of (n + 1))) := by
  refine def_ok (N := N_made_of) (ps := ["clock", "paper"]) F sc_made_of (ls := []) (wb := w_made_of n) (fun cdv A outer s H E B hr hB hL tk hp => ?_) (vc_made_of n)
  have nd := sc_made_of.nd
  have hu := hr.u65
  have hu7 := hr.u67
  exact (dss_cons (ds_if (dt_cmp dop_is (dv 1) de_non) (dss_one (ds_ret (de_lst (df_cons (dv 0) df_nil)))) dss_nil)
      (dss_cons (ds_set 2 (de_lst df_nil) (nl hL (by decide)) nd)
      (dss_cons (ds_for hp (di_zip (df_cons (de_call c_parts_of hr hB tk (dm_cons (dv 0) (dm_cons (de_ix (dv 1) de_int) dm_nil))) (df_cons (de_ix (dv 1) de_int) df_nil)) (by rfl) Z.zip) (dg_tup rfl (dgs_cons (dg_name 3 (nl hL (by decide)) nd) (dgs_cons (dg_name 4 (nl hL (by decide)) nd) dgs_nil))) (dss_one (ds_expr (de_extend 2 (de_call c_made_of hr hB tk (dm_cons (dv 3) (dm_cons (dv 4) dm_nil)))))))
      (dss_one (ds_ret (dv 2))))))
theorem ok_split_good {f : Addr} {fd : FuncData} (F : Fun K "split_good" "split_good" s_split_good f fd) (Z : Zs mg) (c_paper_good : Cal P w K mg base 10 "paper_good" 1 (sp_paper_good 9)) (c_made_of : Cal P w K mg base 10 "made_of" 2 (sp_made_of 9)) : FnOk P w K mg base (L2N.CX P w) 11 f fd ["clocks", "thing"] (low K mg 2 sp_split_good) := by
  refine def_ok (N := N_split_good) (ps := ["clocks", "thing"]) F sc_split_good (ls := []) (wb := w_split_good) (fun cdv A outer s H E B hr hB hL tk hp => ?_) vc_split_good
  have nd := sc_split_good.nd
  have hu := hr.u65
  have hu7 := hr.u67
  exact (dss_one (ds_ret (de_and (de_call c_paper_good hr hB tk (dm_cons (dv 1) dm_nil)) (de_one (de_cmp (dop_eq hu) (de_callTy dcl_tuple (da_cons (de_callB (dcl_sorted hu7) (da_cons (de_call c_made_of hr hB tk (dm_cons (de_tup (df_cons de_int (df_cons de_int df_nil))) (dm_cons (dv 1) dm_nil))) da_nil) (by rfl) Z.sorted bt_sorted) da_nil) (by rfl) Z.tuple bt_tuple) (dv 0))))))
theorem ok_least_prime {f : Addr} {fd : FuncData} (F : Fun K "least_prime" "least_prime" s_least_prime f fd) (Z : Zs mg)  : FnOk P w K mg base (L2N.CX P w) 1 f fd ["clock", "clocks"] (low K mg 2 sp_least_prime) := by
  refine def_ok (N := N_least_prime) (ps := ["clock", "clocks"]) F sc_least_prime (ls := []) (wb := w_least_prime) (fun cdv A outer s H E B hr hB hL tk hp => ?_) vc_least_prime
  have nd := sc_least_prime.nd
  have hu := hr.u65
  have hu7 := hr.u67
  exact (dss_cons (ds_for hp (di_rng2 de_int (de_op dop_add (de_op dop_fdiv (de_callB (dcl_max rfl) (da_cons (de_lc (own := [("step", 3), ("rest", 4)]) (di_seq (dv 1)) (blkOk_by (N := N_least_prime) (sc := defScope s_least_prime) (by decide +kernel)) (by decide) (nls hL (by decide)) nd (fun _ _ _ _ _ => (dg_tup rfl (dgs_cons (dg_name 3 (nl hL (by decide)) nd) (dgs_cons (dg_name 4 (nl hL (by decide)) nd) dgs_nil)))) (fun _ _ _ _ _ => dts_nil) (fun _ _ _ _ _ => (dv 3))) da_nil) (by rfl) Z.max_ bt_max) (de_ix (dv 0) de_int)) de_int) (by rfl) Z.range_) (dg_name 2 (nl hL (by decide)) nd) (dss_one (ds_if (dt_val (de_callB (dcl_all rfl) (da_cons (de_lc (own := [("step", 3), ("rest", 4)]) (di_seq (dv 1)) (blkOk_by (N := N_least_prime) (sc := defScope s_least_prime) (by decide +kernel)) (by decide) (nls hL (by decide)) nd (fun _ _ _ _ _ => (dg_tup rfl (dgs_cons (dg_name 3 (nl hL (by decide)) nd) (dgs_cons (dg_name 4 (nl hL (by decide)) nd) dgs_nil)))) (fun _ _ _ _ _ => dts_nil) (fun _ _ _ _ _ => (de_cmp (dop_eq hu) (de_op dop_mod (de_op dop_fdiv (dv 3) (de_ix (dv 0) de_int)) (dv 2)) de_int))) da_nil) (by rfl) Z.all_ bt_all)) (dss_one (ds_ret (dv 2))) dss_nil)))
      (dss_one (ds_ret de_non)))
theorem ok_paper_for (n k : Nat) {f : Addr} {fd : FuncData} (F : Fun K "paper_for" "paper_for" s_paper_for f fd) (Z : Zs mg) (c_least_prime : Cal P w K mg base k "least_prime" 2 sp_least_prime) (c_parts_of : Cal P w K mg base k "parts_of" 2 sp_parts_of) (c_inside_of : Cal P w K mg base k "inside_of" 2 sp_inside_of) (c_paper_for : Cal P w K mg base k "paper_for" 2 (sp_paper_for n)) : FnOk P w K mg base (L2N.CX P w) (k + 1) f fd ["clock", "clocks"] (low K mg 2 (sp_paper_for (n + 1))) := by
  refine def_ok (N := N_paper_for) (ps := ["clock", "clocks"]) F sc_paper_for (ls := []) (wb := w_paper_for n) (fun cdv A outer s H E B hr hB hL tk hp => ?_) (vc_paper_for n)
  have nd := sc_paper_for.nd
  have hu := hr.u65
  have hu7 := hr.u67
  exact (dss_cons (ds_if (dt_cmp (dop_eq hu) (de_callTy dcl_list (da_cons (dv 1) da_nil) (by rfl) Z.list_ bt_list) (de_lst (df_cons (dv 0) df_nil))) (dss_one (ds_ret (de_lst (df_cons de_non df_nil)))) dss_nil)
      (dss_cons (ds_if ((dw_or (dt_cmp (dop_eq hu) (de_callTy dcl_list (da_cons (dv 1) da_nil) (by rfl) Z.list_ bt_list) (de_lst df_nil)) (dw_or1 (dt_cmp (dop_in hu) (dv 0) (dv 1))))).dt (dss_one (ds_ret (de_lst df_nil))) dss_nil)
      (dss_cons (ds_set 2 (de_call c_least_prime hr hB tk (dm_cons (dv 0) (dm_cons (dv 1) dm_nil))) (nl hL (by decide)) nd)
      (dss_cons (ds_if (dt_cmp dop_is (dv 2) de_non) (dss_one (ds_ret (de_lst df_nil))) dss_nil)
      (dss_cons (ds_set 3 (de_lst df_nil) (nl hL (by decide)) nd)
      (dss_cons (ds_for hp (di_seq (de_call c_parts_of hr hB tk (dm_cons (dv 0) (dm_cons (dv 2) dm_nil)))) (dg_name 4 (nl hL (by decide)) nd) (dss_one (ds_expr (de_extend 3 (de_call c_paper_for hr hB tk (dm_cons (dv 4) (dm_cons (de_lc (own := [("one", 5)]) (di_seq (dv 1)) (blkOk_by (N := N_paper_for) (sc := defScope s_paper_for) (by decide +kernel)) (by decide) (nls hL (by decide)) nd (fun _ _ _ _ _ => (dg_name 5 (nl hL (by decide)) nd)) (fun _ _ _ _ _ => (dts_one (dt_val (de_call c_inside_of hr hB tk0 (dm_cons (dv 5) (dm_cons (dv 4) dm_nil)))))) (fun _ _ _ _ _ => (dv 5))) dm_nil)))))))
      (dss_cons (ds_if (dt_cmp (dop_lt hu) (de_callB dcl_len (da_cons (dv 3) da_nil) (by rfl) Z.len bt_len) (dv 2)) (dss_one (ds_ret (de_lst df_nil))) dss_nil)
      (dss_one (ds_ret (de_lst (df_cons (de_tup (df_cons (dv 2) (df_cons (de_callTy dcl_tuple (da_cons (dv 3) da_nil) (by rfl) Z.tuple bt_tuple) df_nil))) df_nil)))))))))))
theorem ok_split_paper {f : Addr} {fd : FuncData} (F : Fun K "split_paper" "split_paper" s_split_paper f fd) (Z : Zs mg) (c_paper_for : Cal P w K mg base 13 "paper_for" 2 (sp_paper_for 12)) : FnOk P w K mg base (L2N.CX P w) 14 f fd ["clocks"] (low K mg 1 sp_split_paper) := by
  refine def_ok (N := N_split_paper) (ps := ["clocks"]) F sc_split_paper (ls := []) (wb := w_split_paper) (fun cdv A outer s H E B hr hB hL tk hp => ?_) vc_split_paper
  have nd := sc_split_paper.nd
  have hu := hr.u65
  have hu7 := hr.u67
  exact (dss_cons (ds_set 1 (de_call c_paper_for hr hB tk (dm_cons (de_tup (df_cons de_int (df_cons de_int df_nil))) (dm_cons (dv 0) dm_nil))) (nl hL (by decide)) nd)
      (dss_cons (ds_if (dt_cmp (dop_eq hu) (dv 1) (de_lst df_nil)) (dss_one (ds_ret de_non)) dss_nil)
      (dss_one (ds_ret (de_ix (dv 1) de_int)))))
theorem ok_shares_of {f : Addr} {fd : FuncData} (F : Fun K "shares_of" "shares_of" s_shares_of f fd) (Z : Zs mg) (c_round_of : Cal P w K mg base 2 "round_of" 1 sp_round_of) (c_divisor_of : Cal P w K mg base 2 "divisor_of" 2 sp_divisor_of) : FnOk P w K mg base (L2N.CX P w) 3 f fd ["clocks"] (low K mg 1 sp_shares_of) := by
  refine def_ok (N := N_shares_of) (ps := ["clocks"]) F sc_shares_of (ls := []) (wb := w_shares_of) (fun cdv A outer s H E B hr hB hL tk hp => ?_) vc_shares_of
  have nd := sc_shares_of.nd
  have hu := hr.u65
  have hu7 := hr.u67
  exact (dss_cons (ds_set 1 (de_call c_round_of hr hB tk (dm_cons (dv 0) dm_nil)) (nl hL (by decide)) nd)
      (dss_cons (ds_set 2 (de_callB (dcl_sum rfl) (da_cons (de_lc (own := [("step", 4), ("rest", 5)]) (di_seq (dv 0)) (blkOk_by (N := N_shares_of) (sc := defScope s_shares_of) (by decide +kernel)) (by decide) (nls hL (by decide)) nd (fun _ _ _ _ _ => (dg_tup rfl (dgs_cons (dg_name 4 (nl hL (by decide)) nd) (dgs_cons (dg_name 5 (nl hL (by decide)) nd) dgs_nil)))) (fun _ _ _ _ _ => dts_nil) (fun _ _ _ _ _ => (de_op dop_fdiv (dv 1) (dv 4)))) da_nil) (by rfl) Z.sum_ bt_sum) (nl hL (by decide)) nd)
      (dss_cons (ds_set 3 (de_call c_divisor_of hr hB tk (dm_cons (dv 1) (dm_cons (dv 2) dm_nil))) (nl hL (by decide)) nd)
      (dss_one (ds_ret (de_tup (df_cons (de_op dop_fdiv (dv 2) (dv 3)) (df_cons (de_op dop_fdiv (dv 1) (dv 3)) df_nil))))))))
theorem ok_clash_of {f : Addr} {fd : FuncData} (F : Fun K "clash_of" "clash_of" s_clash_of f fd) (Z : Zs mg) (c_meet_of : Cal P w K mg base 2 "meet_of" 2 sp_meet_of) : FnOk P w K mg base (L2N.CX P w) 3 f fd ["clocks"] (low K mg 1 sp_clash_of) := by
  refine def_ok (N := N_clash_of) (ps := ["clocks"]) F sc_clash_of (ls := []) (wb := w_clash_of) (fun cdv A outer s H E B hr hB hL tk hp => ?_) vc_clash_of
  have nd := sc_clash_of.nd
  have hu := hr.u65
  have hu7 := hr.u67
  exact (dss_cons (ds_for hp (di_rng1 (de_callB dcl_len (da_cons (dv 0) da_nil) (by rfl) Z.len bt_len) (by rfl) Z.range_) (dg_name 1 (nl hL (by decide)) nd) (dss_one (ds_for hp (di_rng2 (de_op dop_add (dv 1) de_int) (de_callB dcl_len (da_cons (dv 0) da_nil) (by rfl) Z.len bt_len) (by rfl) Z.range_) (dg_name 2 (nl hL (by decide)) nd) (dss_cons (ds_set 3 (de_call c_meet_of hr hB tk (dm_cons (de_ix (dv 0) (dv 1)) (dm_cons (de_ix (dv 0) (dv 2)) dm_nil))) (nl hL (by decide)) nd)
      (dss_one (ds_if (dt_cmp dop_isNot (dv 3) de_non) (dss_one (ds_ret (de_tup (df_cons (dv 1) (df_cons (dv 2) (df_cons (de_ix (dv 3) de_int) df_nil)))))) dss_nil))))))
      (dss_one (ds_ret de_non)))
theorem ok_exact_good {f : Addr} {fd : FuncData} (F : Fun K "exact_good" "exact_good" s_exact_good f fd) (Z : Zs mg) (c_shares_of : Cal P w K mg base 3 "shares_of" 1 sp_shares_of) (c_clash_of : Cal P w K mg base 3 "clash_of" 1 sp_clash_of) : FnOk P w K mg base (L2N.CX P w) 4 f fd ["clocks"] (low K mg 1 sp_exact_good) := by
  refine def_ok (N := N_exact_good) (ps := ["clocks"]) F sc_exact_good (ls := []) (wb := w_exact_good) (fun cdv A outer s H E B hr hB hL tk hp => ?_) vc_exact_good
  have nd := sc_exact_good.nd
  have hu := hr.u65
  have hu7 := hr.u67
  exact (dss_one (ds_ret (de_and (de_cmp (dop_eq hu) (de_call c_shares_of hr hB tk (dm_cons (dv 0) dm_nil)) (de_tup (df_cons de_int (df_cons de_int df_nil)))) (de_one (de_cmp dop_is (de_call c_clash_of hr hB tk (dm_cons (dv 0) dm_nil)) de_non)))))
theorem ok__law_cell_at {f : Addr} {fd : FuncData} (F : Fun K "_law_cell_at" "_law_cell_at" s__law_cell_at f fd) (Z : Zs mg)  : FnOk P w K mg base (L2N.CX P w) 1 f fd ["script", "k"] (low K mg 2 sp__law_cell_at) := by
  refine def_ok (N := N__law_cell_at) (ps := ["script", "k"]) F sc__law_cell_at (ls := []) (wb := w__law_cell_at) (fun cdv A outer s H E B hr hB hL tk hp => ?_) vc__law_cell_at
  have nd := sc__law_cell_at.nd
  have hu := hr.u65
  have hu7 := hr.u67
  exact (dss_cons (ds_if (dt_cmp (dop_lt hu) (dv 1) (de_callB dcl_len (da_cons (dv 0) da_nil) (by rfl) Z.len bt_len)) (dss_one (ds_ret (de_ix (dv 0) (dv 1)))) dss_nil)
      (dss_one (ds_ret de_int)))
theorem ok__law_next {f : Addr} {fd : FuncData} (F : Fun K "_law_next" "_law_next" s__law_next f fd) (Z : Zs mg)  : FnOk P w K mg base (L2N.CX P w) 1 f fd ["seed"] (low K mg 1 sp__law_next) := by
  refine def_ok (N := N__law_next) (ps := ["seed"]) F sc__law_next (ls := []) (wb := w__law_next) (fun cdv A outer s H E B hr hB hL tk hp => ?_) vc__law_next
  have nd := sc__law_next.nd
  have hu := hr.u65
  have hu7 := hr.u67
  exact (dss_cons (ds_set 0 (de_op dop_mod (de_op dop_add (dv 0) de_int) de_int) (nl hL (by decide)) nd)
      (dss_one (ds_ret (de_op dop_mod (de_op dop_add (de_op dop_add (de_op dop_mul (dv 0) (dv 0)) (de_op dop_mul de_int (dv 0))) de_int) de_int))))
theorem ok__law_pen_of {f : Addr} {fd : FuncData} (F : Fun K "_law_pen_of" "_law_pen_of" s__law_pen_of f fd) (Z : Zs mg)  : FnOk P w K mg base (L2N.CX P w) 1 f fd ["cell"] (low K mg 1 sp__law_pen_of) := by
  refine def_ok (N := N__law_pen_of) (ps := ["cell"]) F sc__law_pen_of (ls := []) (wb := w__law_pen_of) (fun cdv A outer s H E B hr hB hL tk hp => ?_) vc__law_pen_of
  have nd := sc__law_pen_of.nd
  have hu := hr.u65
  have hu7 := hr.u67
  exact (dss_cons (ds_set 1 (de_callB (dcl_max rfl) (da_cons (dv 0) (da_cons (de_op dop_sub de_int (dv 0)) da_nil)) (by rfl) Z.max_ bt_max) (nl hL (by decide)) nd)
      (dss_one (ds_ret (de_lst (df_cons (dv 1) (df_cons (de_callTy dcl_int (da_cons (de_cmp (dop_ge hu) (dv 1) (de_op dop_pow de_int de_int)) da_nil) (by rfl) Z.int_ bt_int) (df_cons (de_op dop_mod (dv 1) de_int) df_nil)))))))
theorem ok__law_draw {f : Addr} {fd : FuncData} (F : Fun K "_law_draw" "_law_draw" s__law_draw f fd) (Z : Zs mg) (c__law_next : Cal P w K mg base 1 "_law_next" 1 sp__law_next) : FnOk P w K mg base (L2N.CX P w) 2 f fd ["pen", "many"] (low K mg 2 sp__law_draw) := by
  refine def_ok (N := N__law_draw) (ps := ["pen", "many"]) F sc__law_draw (ls := [0]) (wb := w__law_draw) (fun cdv A outer s H E B hr hB hL tk hp => ?_) vc__law_draw
  have nd := sc__law_draw.nd
  have hu := hr.u65
  have hu7 := hr.u67
  exact (dss_cons (ds_if (dt_cmp (dop_eq hu) (de_ix (dv 0) de_int) de_int) (dss_cons (ds_set 2 (de_op dop_mod (de_ix (dv 0) de_int) (dv 1)) (nl hL (by decide)) nd)
      (dss_cons (ds_setIx 0 (de_op dop_fdiv (de_ix (dv 0) de_int) (dv 1)) de_int)
      (dss_one (ds_ret (dv 2))))) dss_nil)
      (dss_cons (ds_setIx 0 (de_call c__law_next hr hB tk (dm_cons (de_op dop_add (de_call c__law_next hr hB tk (dm_cons (de_ix (dv 0) de_int) dm_nil)) de_int) dm_nil)) de_int)
      (dss_one (ds_ret (de_op dop_mod (de_op dop_fdiv (de_ix (dv 0) de_int) de_int) (dv 1))))))
theorem ok__law_clock_by {f : Addr} {fd : FuncData} (F : Fun K "_law_clock_by" "_law_clock_by" s__law_clock_by f fd) (Z : Zs mg) (c__law_draw : Cal P w K mg base 2 "_law_draw" 2 sp__law_draw) : FnOk P w K mg base (L2N.CX P w) 3 f fd ["pen", "most"] (low K mg 2 sp__law_clock_by) := by
  refine def_ok (N := N__law_clock_by) (ps := ["pen", "most"]) F sc__law_clock_by (ls := [0]) (wb := w__law_clock_by) (fun cdv A outer s H E B hr hB hL tk hp => ?_) vc__law_clock_by
  have nd := sc__law_clock_by.nd
  have hu := hr.u65
  have hu7 := hr.u67
  exact (dss_cons (ds_set 2 (de_op dop_add de_int (de_call c__law_draw hr hB tk (dm_lend 0 (dm_cons (dv 1) dm_nil)))) (nl hL (by decide)) nd)
      (dss_one (ds_ret (de_tup (df_cons (dv 2) (df_cons (de_call c__law_draw hr hB tk (dm_lend 0 (dm_cons (dv 2) dm_nil))) df_nil))))))
theorem ok__law_parts_by {f : Addr} {fd : FuncData} (F : Fun K "_law_parts_by" "_law_parts_by" s__law_parts_by f fd) (Z : Zs mg) (c__law_draw : Cal P w K mg base 2 "_law_draw" 2 sp__law_draw) : FnOk P w K mg base (L2N.CX P w) 3 f fd ["pen", "least", "most"] (low K mg 3 sp__law_parts_by) := by
  refine def_ok (N := N__law_parts_by) (ps := ["pen", "least", "most"]) F sc__law_parts_by (ls := [0]) (wb := w__law_parts_by) (fun cdv A outer s H E B hr hB hL tk hp => ?_) vc__law_parts_by
  have nd := sc__law_parts_by.nd
  have hu := hr.u65
  have hu7 := hr.u67
  exact (dss_cons (ds_set 3 (de_lst (df_cons (de_tup (df_cons de_int (df_cons de_int df_nil))) df_nil)) (nl hL (by decide)) nd)
      (dss_cons (ds_while hp ((dw_or (dt_cmp (dop_lt hu) (de_callB dcl_len (da_cons (dv 3) da_nil) (by rfl) Z.len bt_len) (dv 1)) (dw_or1 ((dw_and (dt_cmp (dop_gt hu) (de_call c__law_draw hr hB tk (dm_lend 0 (dm_cons de_int dm_nil))) de_int) (dw_and1 (dt_cmp (dop_lt hu) (de_callB dcl_len (da_cons (dv 3) da_nil) (by rfl) Z.len bt_len) (dv 2))))).dt))).dt (dss_cons (ds_set 4 (de_ix (de_lst (df_cons de_int (df_cons de_int (df_cons de_int (df_cons de_int (df_cons de_int (df_cons de_int df_nil))))))) (de_call c__law_draw hr hB tk (dm_lend 0 (dm_cons de_int dm_nil)))) (nl hL (by decide)) nd)
      (dss_cons (ds_set 4 (de_callB (dcl_min rfl) (da_cons (dv 4) (da_cons (de_callB (dcl_max rfl) (da_cons de_int (da_cons (de_op dop_add (de_op dop_sub (dv 2) (de_callB dcl_len (da_cons (dv 3) da_nil) (by rfl) Z.len bt_len)) de_int) da_nil)) (by rfl) Z.max_ bt_max) da_nil)) (by rfl) Z.min_ bt_min) (nl hL (by decide)) nd)
      (dss_cons (ds_asgT (de_popAt 3 (de_call c__law_draw hr hB tk (dm_lend 0 (dm_cons (de_callB dcl_len (da_cons (dv 3) da_nil) (by rfl) Z.len bt_len) dm_nil)))) (dg_tup rfl (dgs_cons (dg_name 5 (nl hL (by decide)) nd) (dgs_cons (dg_name 6 (nl hL (by decide)) nd) dgs_nil))))
      (dss_cons (ds_if (dt_cmp (dop_gt hu) (de_op dop_mul (dv 5) (dv 4)) de_int) (dss_one (ds_ret (de_callB (dcl_sorted hu7) (da_cons (de_op dop_add (dv 3) (de_lst (df_cons (de_tup (df_cons (dv 5) (df_cons (dv 6) df_nil))) df_nil))) da_nil) (by rfl) Z.sorted bt_sorted))) dss_nil)
      (dss_one (ds_set 3 (de_op dop_add (dv 3) (de_lc (own := [("part", 7)]) (di_rng1 (dv 4) (by rfl) Z.range_) (blkOk_by (N := N__law_parts_by) (sc := defScope s__law_parts_by) (by decide +kernel)) (by decide) (nls hL (by decide)) nd (fun _ _ _ _ _ => (dg_name 7 (nl hL (by decide)) nd)) (fun _ _ _ _ _ => dts_nil) (fun _ _ _ _ _ => (de_tup (df_cons (de_op dop_mul (dv 5) (dv 4)) (df_cons (de_op dop_add (dv 6) (de_op dop_mul (dv 5) (dv 7))) df_nil)))))) (nl hL (by decide)) nd)))))))
      (dss_one (ds_ret (de_callB (dcl_sorted hu7) (da_cons (dv 3) da_nil) (by rfl) Z.sorted bt_sorted)))))
theorem ok__law_clocks_by {f : Addr} {fd : FuncData} (F : Fun K "_law_clocks_by" "_law_clocks_by" s__law_clocks_by f fd) (Z : Zs mg) (c__law_draw : Cal P w K mg base 3 "_law_draw" 2 sp__law_draw) (c__law_clock_by : Cal P w K mg base 3 "_law_clock_by" 2 sp__law_clock_by) (c__law_parts_by : Cal P w K mg base 3 "_law_parts_by" 3 sp__law_parts_by) : FnOk P w K mg base (L2N.CX P w) 4 f fd ["pen", "most"] (low K mg 2 sp__law_clocks_by) := by
  refine def_ok (N := N__law_clocks_by) (ps := ["pen", "most"]) F sc__law_clocks_by (ls := [0]) (wb := w__law_clocks_by) (fun cdv A outer s H E B hr hB hL tk hp => ?_) vc__law_clocks_by
  have nd := sc__law_clocks_by.nd
  have hu := hr.u65
  have hu7 := hr.u67
  exact (dss_cons (ds_set 2 (de_call c__law_draw hr hB tk (dm_lend 0 (dm_cons de_int dm_nil))) (nl hL (by decide)) nd)
      (dss_cons (ds_if (dt_cmp (dop_eq hu) (dv 2) de_int) (dss_one (ds_setLc 3 (own := [("turn", 5)]) (di_rng1 (de_call c__law_draw hr hB tk (dm_lend 0 (dm_cons (de_op dop_add (dv 1) de_int) dm_nil))) (by rfl) Z.range_) (blkOk_by (N := N__law_clocks_by) (sc := defScope s__law_clocks_by) (by decide +kernel)) (by decide) (nls hL (by decide)) (nl hL (by decide)) nd (fun _ _ _ _ _ => (dg_name 5 (nl hL (by decide)) nd)) (fun _ _ _ _ _ => dts_nil) (fun _ _ _ _ _ => (de_call c__law_clock_by hr hB tk0 (dm_lend 0 (dm_cons de_int dm_nil)))))) (dss_one (ds_if (dt_cmp (dop_eq hu) (dv 2) de_int) (dss_cons (ds_set 4 (de_lst (df_cons de_int (df_cons de_int (df_cons de_int (df_cons de_int (df_cons de_int (df_cons de_int (df_cons de_int df_nil)))))))) (nl hL (by decide)) nd)
      (dss_cons (ds_set 3 (de_lst df_nil) (nl hL (by decide)) nd)
      (dss_one (ds_for hp (di_rng1 (de_call c__law_draw hr hB tk (dm_lend 0 (dm_cons (de_op dop_add (dv 1) de_int) dm_nil))) (by rfl) Z.range_) (dg_name 5 (nl hL (by decide)) nd) (dss_cons (ds_set 6 (de_ix (dv 4) (de_call c__law_draw hr hB tk (dm_lend 0 (dm_cons de_int dm_nil)))) (nl hL (by decide)) nd)
      (dss_one (ds_expr (de_append 3 (de_tup (df_cons (dv 6) (df_cons (de_call c__law_draw hr hB tk (dm_lend 0 (dm_cons (dv 6) dm_nil))) df_nil))))))))))) (dss_cons (ds_set 3 (de_call c__law_parts_by hr hB tk (dm_lend 0 (dm_cons de_int (dm_cons (de_callB (dcl_max rfl) (da_cons de_int (da_cons (de_op dop_sub (dv 1) de_int) da_nil)) (by rfl) Z.max_ bt_max) dm_nil)))) (nl hL (by decide)) nd)
      (dss_cons (ds_if (dt_cmp (dop_eq hu) (dv 2) de_int) (dss_one (ds_set 3 (de_op dop_add (dv 3) (de_lst (df_cons (de_call c__law_clock_by hr hB tk (dm_lend 0 (dm_cons de_int dm_nil))) df_nil))) (nl hL (by decide)) nd)) dss_nil)
      (dss_one (ds_if (dt_cmp (dop_eq hu) (dv 2) de_int) (dss_one (ds_expr (de_popAt 3 (de_call c__law_draw hr hB tk (dm_lend 0 (dm_cons (de_callB dcl_len (da_cons (dv 3) da_nil) (by rfl) Z.len bt_len) dm_nil)))))) dss_nil)))))))
      (dss_one (ds_ret (de_sl (de_callTy dcl_tuple (da_cons (de_sortSet hu rfl (by rfl) Z.sorted (by rfl) Z.set_ (dv 3)) da_nil) (by rfl) Z.tuple bt_tuple) do_none (do_some (dv 1)))))))
theorem ok__law_parts {f : Addr} {fd : FuncData} (F : Fun K "_law_parts" "_law_parts" s__law_parts f fd) (Z : Zs mg)  : FnOk P w K mg base (L2N.CX P w) 1 f fd ["clock", "k"] (low K mg 2 sp__law_parts) := by
  refine def_ok (N := N__law_parts) (ps := ["clock", "k"]) F sc__law_parts (ls := []) (wb := w__law_parts) (fun cdv A outer s H E B hr hB hL tk hp => ?_) vc__law_parts
  have nd := sc__law_parts.nd
  have hu := hr.u65
  have hu7 := hr.u67
  exact (dss_one (ds_ret (de_lc (own := [("part", 2)]) (di_rng1 (dv 1) (by rfl) Z.range_) (blkOk_by (N := N__law_parts) (sc := defScope s__law_parts) (by decide +kernel)) (by decide) (nls hL (by decide)) nd (fun _ _ _ _ _ => (dg_name 2 (nl hL (by decide)) nd)) (fun _ _ _ _ _ => dts_nil) (fun _ _ _ _ _ => (de_tup (df_cons (de_op dop_mul (de_ix (dv 0) de_int) (dv 1)) (df_cons (de_op dop_add (de_ix (dv 0) de_int) (de_op dop_mul (de_ix (dv 0) de_int) (dv 2))) df_nil)))))))
theorem ok__law_split_right {f : Addr} {fd : FuncData} (F : Fun K "_law_split_right" "_law_split_right" s__law_split_right f fd) (Z : Zs mg) (c_split_at : Cal P w K mg base 14 "split_at" 3 sp_split_at) (c_rings_at : Cal P w K mg base 14 "rings_at" 2 sp_rings_at) (c__law_parts : Cal P w K mg base 14 "_law_parts" 2 sp__law_parts) (c_joins_of : Cal P w K mg base 14 "joins_of" 1 sp_joins_of) (c_join_at : Cal P w K mg base 14 "join_at" 2 sp_join_at) (c_exact_good : Cal P w K mg base 14 "exact_good" 1 sp_exact_good) (c_split_paper : Cal P w K mg base 14 "split_paper" 1 sp_split_paper) : FnOk P w K mg base (L2N.CX P w) 15 f fd ["clocks", "place", "k", "far"] (low K mg 4 sp__law_split_right) := by
  refine def_ok (N := N__law_split_right) (ps := ["clocks", "place", "k", "far"]) F sc__law_split_right (ls := []) (wb := w__law_split_right) (fun cdv A outer s H E B hr hB hL tk hp => ?_) vc__law_split_right
  have nd := sc__law_split_right.nd
  have hu := hr.u65
  have hu7 := hr.u67
  exact (dss_cons (ds_set 4 (de_call c_split_at hr hB tk (dm_cons (dv 0) (dm_cons (dv 1) (dm_cons (dv 2) dm_nil)))) (nl hL (by decide)) nd)
      (dss_cons (ds_for hp (di_seq (de_op dop_add (de_lstR2 rfl (by rfl) Z.list_ (by rfl) Z.range_ (de_neg de_int) de_int) (de_lst (df_cons (dv 3) (df_cons (de_op dop_sub de_int (dv 3)) df_nil))))) (dg_name 5 (nl hL (by decide)) nd) (dss_one (ds_if (dt_cmp (dop_ne hu) (de_cmp (dop_eq hu) (de_call c_rings_at hr hB tk (dm_cons (dv 0) (dm_cons (dv 5) dm_nil))) (de_lst df_nil)) (de_cmp (dop_eq hu) (de_call c_rings_at hr hB tk (dm_cons (dv 4) (dm_cons (dv 5) dm_nil))) (de_lst df_nil))) (dss_one (ds_ret de_bl)) dss_nil)))
      (dss_cons (ds_set 6 (de_call c__law_parts hr hB tk (dm_cons (de_ix (dv 0) (dv 1)) (dm_cons (dv 2) dm_nil))) (nl hL (by decide)) nd)
      (dss_cons (ds_if (dt_cmp (dop_eq hu) (de_lc (own := [("part", 8)]) (di_seq (dv 6)) (blkOk_by (N := N__law_split_right) (sc := defScope s__law_split_right) (by decide +kernel)) (by decide) (nls hL (by decide)) nd (fun _ _ _ _ _ => (dg_name 8 (nl hL (by decide)) nd)) (fun _ _ _ _ _ => (dts_one (dt_cmp (dop_in hu) (dv 8) (dv 0)))) (fun _ _ _ _ _ => (dv 8))) (de_lst df_nil)) (dss_cons (ds_set 7 (de_callTy dcl_tuple (da_cons (de_lc (own := [("part", 8)]) (di_seq (dv 6)) (blkOk_by (N := N__law_split_right) (sc := defScope s__law_split_right) (by decide +kernel)) (by decide) (nls hL (by decide)) nd (fun _ _ _ _ _ => (dg_name 8 (nl hL (by decide)) nd)) (fun _ _ _ _ _ => dts_nil) (fun _ _ _ _ _ => (de_indexT hu (dv 4) (dv 8)))) da_nil) (by rfl) Z.tuple bt_tuple) (nl hL (by decide)) nd)
      (dss_cons (ds_if ((dw_or (dt_cmp (dop_notIn hu) (dv 7) (de_call c_joins_of hr hB tk (dm_cons (dv 4) dm_nil))) (dw_or1 (dt_cmp (dop_ne hu) (de_call c_join_at hr hB tk (dm_cons (dv 4) (dm_cons (dv 7) dm_nil))) (dv 0))))).dt (dss_one (ds_ret de_bl)) dss_nil)
      (dss_cons (ds_if (dt_cmp (dop_ne hu) (de_call c_exact_good hr hB tk (dm_cons (dv 4) dm_nil)) (de_call c_exact_good hr hB tk (dm_cons (dv 0) dm_nil))) (dss_one (ds_ret de_bl)) dss_nil)
      (dss_one (ds_if ((dw_and (dt_cmp dop_isNot (de_call c_split_paper hr hB tk (dm_cons (dv 0) dm_nil)) de_non) (dw_and1 (dt_cmp dop_is (de_call c_split_paper hr hB tk (dm_cons (dv 4) dm_nil)) de_non)))).dt (dss_one (ds_ret de_bl)) dss_nil))))) dss_nil)
      (dss_one (ds_ret de_bl))))))
theorem ok__law_paper_right {f : Addr} {fd : FuncData} (F : Fun K "_law_paper_right" "_law_paper_right" s__law_paper_right f fd) (Z : Zs mg) (c_split_paper : Cal P w K mg base 14 "split_paper" 1 sp_split_paper) (c_split_good : Cal P w K mg base 14 "split_good" 2 sp_split_good) (c_exact_good : Cal P w K mg base 14 "exact_good" 1 sp_exact_good) : FnOk P w K mg base (L2N.CX P w) 15 f fd ["clocks"] (low K mg 1 sp__law_paper_right) := by
  refine def_ok (N := N__law_paper_right) (ps := ["clocks"]) F sc__law_paper_right (ls := []) (wb := w__law_paper_right) (fun cdv A outer s H E B hr hB hL tk hp => ?_) vc__law_paper_right
  have nd := sc__law_paper_right.nd
  have hu := hr.u65
  have hu7 := hr.u67
  exact (dss_cons (ds_set 1 (de_call c_split_paper hr hB tk (dm_cons (dv 0) dm_nil)) (nl hL (by decide)) nd)
      (dss_cons (ds_if (dt_cmp dop_is (dv 1) de_non) (dss_one (ds_ret de_bl)) dss_nil)
      (dss_one (ds_ret (de_and (de_cmp dop_is (de_call c_split_good hr hB tk (dm_cons (dv 0) (dm_cons (dv 1) dm_nil))) de_bl) (de_one (de_cmp dop_is (de_call c_exact_good hr hB tk (dm_cons (dv 0) dm_nil)) de_bl)))))))
theorem ok_law {f : Addr} {fd : FuncData} (F : Fun K "law" "law" s_law f fd) (Z : Zs mg) (c__law_cell_at : Cal P w K mg base 15 "_law_cell_at" 2 sp__law_cell_at) (c__law_pen_of : Cal P w K mg base 15 "_law_pen_of" 1 sp__law_pen_of) (c__law_draw : Cal P w K mg base 15 "_law_draw" 2 sp__law_draw) (c__law_parts_by : Cal P w K mg base 15 "_law_parts_by" 3 sp__law_parts_by) (c__law_clocks_by : Cal P w K mg base 15 "_law_clocks_by" 2 sp__law_clocks_by) (c__law_split_right : Cal P w K mg base 15 "_law_split_right" 4 sp__law_split_right) (c__law_paper_right : Cal P w K mg base 15 "_law_paper_right" 1 sp__law_paper_right) (c_joins_of : Cal P w K mg base 15 "joins_of" 1 sp_joins_of) (c_exact_good : Cal P w K mg base 15 "exact_good" 1 sp_exact_good) (c_join_at : Cal P w K mg base 15 "join_at" 2 sp_join_at) : FnOk P w K mg base (L2N.CX P w) 16 f fd ["script"] (low K mg 1 sp_law_k37) := by
  refine def_ok (N := N_law) (ps := ["script"]) F sc_law (ls := []) (wb := w_law_k37) (fun cdv A outer s H E B hr hB hL tk hp => ?_) vc_law_k37
  have nd := sc_law.nd
  have hu := hr.u65
  have hu7 := hr.u67
  exact (dss_cons (ds_for hp (di_seq (de_op dop_add (de_lst (df_cons (de_call c__law_cell_at hr hB tk (dm_cons (dv 0) (dm_cons de_int dm_nil))) df_nil)) (de_sl (dv 0) (do_some de_int) (do_some de_int)))) (dg_name 1 (nl hL (by decide)) nd) (dss_cons (ds_set 2 (de_call c__law_pen_of hr hB tk (dm_cons (dv 1) dm_nil)) (nl hL (by decide)) nd)
      (dss_cons (ds_set 3 (de_call c__law_draw hr hB tk (dm_lend 2 (dm_cons (de_op dop_pow de_int de_int) dm_nil))) (nl hL (by decide)) nd)
      (dss_one (ds_for hp (di_seq (de_lst (df_cons (de_call c__law_clocks_by hr hB tk (dm_lend 2 (dm_cons de_int dm_nil))) (df_cons (de_callTy dcl_tuple (da_cons (de_call c__law_parts_by hr hB tk (dm_lend 2 (dm_cons de_int (dm_cons de_int dm_nil)))) da_nil) (by rfl) Z.tuple bt_tuple) df_nil)))) (dg_name 4 (nl hL (by decide)) nd) (dss_cons (ds_if (dt_cmp (dop_ne hu) (dv 4) (de_tup df_nil)) (dss_cons (ds_set 5 (de_call c__law_draw hr hB tk (dm_lend 2 (dm_cons (de_callB dcl_len (da_cons (dv 4) da_nil) (by rfl) Z.len bt_len) dm_nil))) (nl hL (by decide)) nd)
      (dss_cons (ds_set 6 (de_op dop_add de_int (de_call c__law_draw hr hB tk (dm_lend 2 (dm_cons de_int dm_nil)))) (nl hL (by decide)) nd)
      (dss_one (ds_if ((dw_and (dt_cmp (dop_le hu) (de_op dop_mul (de_ix (de_ix (dv 4) (dv 5)) de_int) (dv 6)) de_int) (dw_and1 (dt_not (dt_val (de_call c__law_split_right hr hB tk (dm_cons (dv 4) (dm_cons (dv 5) (dm_cons (dv 6) (dm_cons (dv 3) dm_nil)))))))))).dt (dss_one (ds_ret de_bl)) dss_nil)))) dss_nil)
      (dss_cons (ds_if (dt_not (dt_val (de_call c__law_paper_right hr hB tk (dm_cons (dv 4) dm_nil)))) (dss_one (ds_ret de_bl)) dss_nil)
      (dss_one (ds_for hp (di_seq (de_call c_joins_of hr hB tk (dm_cons (dv 4) dm_nil))) (dg_name 7 (nl hL (by decide)) nd) (dss_one (ds_if ((dw_and (dt_val (de_call c_exact_good hr hB tk (dm_cons (dv 4) dm_nil))) (dw_and1 (dt_not (dt_val (de_call c_exact_good hr hB tk (dm_cons (de_call c_join_at hr hB tk (dm_cons (dv 4) (dm_cons (dv 7) dm_nil))) dm_nil))))))).dt (dss_one (ds_ret de_bl)) dss_nil)))))))))))
      (dss_one (ds_ret de_bl)))
end
theorem all_mk {l : PySem.W.OpenLaw} {w : World} {K : PySem.W.Frag} {h : Heap} {mg : Str → Option Value} {fa f1 f2 f3 f4 f5 f6 f7 f8 f9 f10 f11 f12 f13 f14 f15 f16 f17 f18 f19 f20 f21 f22 f23 f24 f25 f26 f27 f28 f29 f30 f31 f32 f33 f34 : Addr} (X : K.In h) (G : h.Ns mainGlobals mg) (hfa : mg "law" = some (.ref fa))
    {od1 an1 od2 an2 od3 an3 od4 an4 od5 an5 od6 an6 od7 an7 od8 an8 od9 an9 od10 an10 od11 an11 od12 an12 od13 an13 od14 an14 od15 an15 od16 an16 od17 an17 od18 an18 od19 an19 od20 an20 od21 an21 od22 an22 od23 an23 od24 an24 od25 an25 od26 an26 od27 an27 od28 an28 od29 an29 od30 an30 od31 an31 od32 an32 od33 an33 od34 an34 : Option Addr} {sl1 sl2 sl3 sl4 sl5 sl6 sl7 sl8 sl9 sl10 sl11 sl12 sl13 sl14 sl15 sl16 sl17 sl18 sl19 sl20 sl21 sl22 sl23 sl24 sl25 sl26 sl27 sl28 sl29 sl30 sl31 sl32 sl33 sl34 : Array (Option Value)} {oc1 kV1 dc1 pm1 cd1 ct1 oc2 kV2 dc2 pm2 cd2 ct2 oc3 kV3 dc3 pm3 cd3 ct3 oc4 kV4 dc4 pm4 cd4 ct4 oc5 kV5 dc5 pm5 cd5 ct5 oc6 kV6 dc6 pm6 cd6 ct6 oc7 kV7 dc7 pm7 cd7 ct7 oc8 kV8 dc8 pm8 cd8 ct8 oc9 kV9 dc9 pm9 cd9 ct9 oc10 kV10 dc10 pm10 cd10 ct10 oc11 kV11 dc11 pm11 cd11 ct11 oc12 kV12 dc12 pm12 cd12 ct12 oc13 kV13 dc13 pm13 cd13 ct13 oc14 kV14 dc14 pm14 cd14 ct14 oc15 kV15 dc15 pm15 cd15 ct15 oc16 kV16 dc16 pm16 cd16 ct16 oc17 kV17 dc17 pm17 cd17 ct17 oc18 kV18 dc18 pm18 cd18 ct18 oc19 kV19 dc19 pm19 cd19 ct19 oc20 kV20 dc20 pm20 cd20 ct20 oc21 kV21 dc21 pm21 cd21 ct21 oc22 kV22 dc22 pm22 cd22 ct22 oc23 kV23 dc23 pm23 cd23 ct23 oc24 kV24 dc24 pm24 cd24 ct24 oc25 kV25 dc25 pm25 cd25 ct25 oc26 kV26 dc26 pm26 cd26 ct26 oc27 kV27 dc27 pm27 cd27 ct27 oc28 kV28 dc28 pm28 cd28 ct28 oc29 kV29 dc29 pm29 cd29 ct29 oc30 kV30 dc30 pm30 cd30 ct30 oc31 kV31 dc31 pm31 cd31 ct31 oc32 kV32 dc32 pm32 cd32 ct32 oc33 kV33 dc33 pm33 cd33 ct33 oc34 kV34 dc34 pm34 cd34 ct34 : Value}
    (a1 : PySem.W.nsIn K mainGlobals "is_whole" = some (some (.ref f1))) (l1 : K.lookup f1 = some ⟨oc1, od1, .func (PySem.W.fnOf "is_whole" "is_whole" (defArgs s_is_whole) (defBody s_is_whole) (defScope s_is_whole) .none kV1 dc1 pm1 an1 cd1 ct1), sl1⟩) (c1 : PySem.W.codeIn K cd1 "is_whole" = true) (k1 : PySem.W.keepIn K (.ref f1) = true)
    (a2 : PySem.W.nsIn K mainGlobals "rings" = some (some (.ref f2))) (l2 : K.lookup f2 = some ⟨oc2, od2, .func (PySem.W.fnOf "rings" "rings" (defArgs s_rings) (defBody s_rings) (defScope s_rings) .none kV2 dc2 pm2 an2 cd2 ct2), sl2⟩) (c2 : PySem.W.codeIn K cd2 "rings" = true) (k2 : PySem.W.keepIn K (.ref f2) = true)
    (a3 : PySem.W.nsIn K mainGlobals "rings_at" = some (some (.ref f3))) (l3 : K.lookup f3 = some ⟨oc3, od3, .func (PySem.W.fnOf "rings_at" "rings_at" (defArgs s_rings_at) (defBody s_rings_at) (defScope s_rings_at) .none kV3 dc3 pm3 an3 cd3 ct3), sl3⟩) (c3 : PySem.W.codeIn K cd3 "rings_at" = true) (k3 : PySem.W.keepIn K (.ref f3) = true)
    (a4 : PySem.W.nsIn K mainGlobals "divisor_of" = some (some (.ref f4))) (l4 : K.lookup f4 = some ⟨oc4, od4, .func (PySem.W.fnOf "divisor_of" "divisor_of" (defArgs s_divisor_of) (defBody s_divisor_of) (defScope s_divisor_of) .none kV4 dc4 pm4 an4 cd4 ct4), sl4⟩) (c4 : PySem.W.codeIn K cd4 "divisor_of" = true) (k4 : PySem.W.keepIn K (.ref f4) = true)
    (a5 : PySem.W.nsIn K mainGlobals "round_of" = some (some (.ref f5))) (l5 : K.lookup f5 = some ⟨oc5, od5, .func (PySem.W.fnOf "round_of" "round_of" (defArgs s_round_of) (defBody s_round_of) (defScope s_round_of) .none kV5 dc5 pm5 an5 cd5 ct5), sl5⟩) (c5 : PySem.W.codeIn K cd5 "round_of" = true) (k5 : PySem.W.keepIn K (.ref f5) = true)
    (a6 : PySem.W.nsIn K mainGlobals "back_of" = some (some (.ref f6))) (l6 : K.lookup f6 = some ⟨oc6, od6, .func (PySem.W.fnOf "back_of" "back_of" (defArgs s_back_of) (defBody s_back_of) (defScope s_back_of) .none kV6 dc6 pm6 an6 cd6 ct6), sl6⟩) (c6 : PySem.W.codeIn K cd6 "back_of" = true) (k6 : PySem.W.keepIn K (.ref f6) = true)
    (a7 : PySem.W.nsIn K mainGlobals "meet_of" = some (some (.ref f7))) (l7 : K.lookup f7 = some ⟨oc7, od7, .func (PySem.W.fnOf "meet_of" "meet_of" (defArgs s_meet_of) (defBody s_meet_of) (defScope s_meet_of) .none kV7 dc7 pm7 an7 cd7 ct7), sl7⟩) (c7 : PySem.W.codeIn K cd7 "meet_of" = true) (k7 : PySem.W.keepIn K (.ref f7) = true)
    (a8 : PySem.W.nsIn K mainGlobals "inside_of" = some (some (.ref f8))) (l8 : K.lookup f8 = some ⟨oc8, od8, .func (PySem.W.fnOf "inside_of" "inside_of" (defArgs s_inside_of) (defBody s_inside_of) (defScope s_inside_of) .none kV8 dc8 pm8 an8 cd8 ct8), sl8⟩) (c8 : PySem.W.codeIn K cd8 "inside_of" = true) (k8 : PySem.W.keepIn K (.ref f8) = true)
    (a9 : PySem.W.nsIn K mainGlobals "parts_of" = some (some (.ref f9))) (l9 : K.lookup f9 = some ⟨oc9, od9, .func (PySem.W.fnOf "parts_of" "parts_of" (defArgs s_parts_of) (defBody s_parts_of) (defScope s_parts_of) .none kV9 dc9 pm9 an9 cd9 ct9), sl9⟩) (c9 : PySem.W.codeIn K cd9 "parts_of" = true) (k9 : PySem.W.keepIn K (.ref f9) = true)
    (a10 : PySem.W.nsIn K mainGlobals "split_at" = some (some (.ref f10))) (l10 : K.lookup f10 = some ⟨oc10, od10, .func (PySem.W.fnOf "split_at" "split_at" (defArgs s_split_at) (defBody s_split_at) (defScope s_split_at) .none kV10 dc10 pm10 an10 cd10 ct10), sl10⟩) (c10 : PySem.W.codeIn K cd10 "split_at" = true) (k10 : PySem.W.keepIn K (.ref f10) = true)
    (a11 : PySem.W.nsIn K mainGlobals "whole_of" = some (some (.ref f11))) (l11 : K.lookup f11 = some ⟨oc11, od11, .func (PySem.W.fnOf "whole_of" "whole_of" (defArgs s_whole_of) (defBody s_whole_of) (defScope s_whole_of) .none kV11 dc11 pm11 an11 cd11 ct11), sl11⟩) (c11 : PySem.W.codeIn K cd11 "whole_of" = true) (k11 : PySem.W.keepIn K (.ref f11) = true)
    (a12 : PySem.W.nsIn K mainGlobals "joins_of" = some (some (.ref f12))) (l12 : K.lookup f12 = some ⟨oc12, od12, .func (PySem.W.fnOf "joins_of" "joins_of" (defArgs s_joins_of) (defBody s_joins_of) (defScope s_joins_of) .none kV12 dc12 pm12 an12 cd12 ct12), sl12⟩) (c12 : PySem.W.codeIn K cd12 "joins_of" = true) (k12 : PySem.W.keepIn K (.ref f12) = true)
    (a13 : PySem.W.nsIn K mainGlobals "places_good" = some (some (.ref f13))) (l13 : K.lookup f13 = some ⟨oc13, od13, .func (PySem.W.fnOf "places_good" "places_good" (defArgs s_places_good) (defBody s_places_good) (defScope s_places_good) .none kV13 dc13 pm13 an13 cd13 ct13), sl13⟩) (c13 : PySem.W.codeIn K cd13 "places_good" = true) (k13 : PySem.W.keepIn K (.ref f13) = true)
    (a14 : PySem.W.nsIn K mainGlobals "join_at" = some (some (.ref f14))) (l14 : K.lookup f14 = some ⟨oc14, od14, .func (PySem.W.fnOf "join_at" "join_at" (defArgs s_join_at) (defBody s_join_at) (defScope s_join_at) .none kV14 dc14 pm14 an14 cd14 ct14), sl14⟩) (c14 : PySem.W.codeIn K cd14 "join_at" = true) (k14 : PySem.W.keepIn K (.ref f14) = true)
    (a15 : PySem.W.nsIn K mainGlobals "paper_good" = some (some (.ref f15))) (l15 : K.lookup f15 = some ⟨oc15, od15, .func (PySem.W.fnOf "paper_good" "paper_good" (defArgs s_paper_good) (defBody s_paper_good) (defScope s_paper_good) .none kV15 dc15 pm15 an15 cd15 ct15), sl15⟩) (c15 : PySem.W.codeIn K cd15 "paper_good" = true) (k15 : PySem.W.keepIn K (.ref f15) = true)
    (a16 : PySem.W.nsIn K mainGlobals "made_of" = some (some (.ref f16))) (l16 : K.lookup f16 = some ⟨oc16, od16, .func (PySem.W.fnOf "made_of" "made_of" (defArgs s_made_of) (defBody s_made_of) (defScope s_made_of) .none kV16 dc16 pm16 an16 cd16 ct16), sl16⟩) (c16 : PySem.W.codeIn K cd16 "made_of" = true) (k16 : PySem.W.keepIn K (.ref f16) = true)
    (a17 : PySem.W.nsIn K mainGlobals "split_good" = some (some (.ref f17))) (l17 : K.lookup f17 = some ⟨oc17, od17, .func (PySem.W.fnOf "split_good" "split_good" (defArgs s_split_good) (defBody s_split_good) (defScope s_split_good) .none kV17 dc17 pm17 an17 cd17 ct17), sl17⟩) (c17 : PySem.W.codeIn K cd17 "split_good" = true) (k17 : PySem.W.keepIn K (.ref f17) = true)
    (a18 : PySem.W.nsIn K mainGlobals "least_prime" = some (some (.ref f18))) (l18 : K.lookup f18 = some ⟨oc18, od18, .func (PySem.W.fnOf "least_prime" "least_prime" (defArgs s_least_prime) (defBody s_least_prime) (defScope s_least_prime) .none kV18 dc18 pm18 an18 cd18 ct18), sl18⟩) (c18 : PySem.W.codeIn K cd18 "least_prime" = true) (k18 : PySem.W.keepIn K (.ref f18) = true)
    (a19 : PySem.W.nsIn K mainGlobals "paper_for" = some (some (.ref f19))) (l19 : K.lookup f19 = some ⟨oc19, od19, .func (PySem.W.fnOf "paper_for" "paper_for" (defArgs s_paper_for) (defBody s_paper_for) (defScope s_paper_for) .none kV19 dc19 pm19 an19 cd19 ct19), sl19⟩) (c19 : PySem.W.codeIn K cd19 "paper_for" = true) (k19 : PySem.W.keepIn K (.ref f19) = true)
    (a20 : PySem.W.nsIn K mainGlobals "split_paper" = some (some (.ref f20))) (l20 : K.lookup f20 = some ⟨oc20, od20, .func (PySem.W.fnOf "split_paper" "split_paper" (defArgs s_split_paper) (defBody s_split_paper) (defScope s_split_paper) .none kV20 dc20 pm20 an20 cd20 ct20), sl20⟩) (c20 : PySem.W.codeIn K cd20 "split_paper" = true) (k20 : PySem.W.keepIn K (.ref f20) = true)
    (a21 : PySem.W.nsIn K mainGlobals "shares_of" = some (some (.ref f21))) (l21 : K.lookup f21 = some ⟨oc21, od21, .func (PySem.W.fnOf "shares_of" "shares_of" (defArgs s_shares_of) (defBody s_shares_of) (defScope s_shares_of) .none kV21 dc21 pm21 an21 cd21 ct21), sl21⟩) (c21 : PySem.W.codeIn K cd21 "shares_of" = true) (k21 : PySem.W.keepIn K (.ref f21) = true)
    (a22 : PySem.W.nsIn K mainGlobals "clash_of" = some (some (.ref f22))) (l22 : K.lookup f22 = some ⟨oc22, od22, .func (PySem.W.fnOf "clash_of" "clash_of" (defArgs s_clash_of) (defBody s_clash_of) (defScope s_clash_of) .none kV22 dc22 pm22 an22 cd22 ct22), sl22⟩) (c22 : PySem.W.codeIn K cd22 "clash_of" = true) (k22 : PySem.W.keepIn K (.ref f22) = true)
    (a23 : PySem.W.nsIn K mainGlobals "exact_good" = some (some (.ref f23))) (l23 : K.lookup f23 = some ⟨oc23, od23, .func (PySem.W.fnOf "exact_good" "exact_good" (defArgs s_exact_good) (defBody s_exact_good) (defScope s_exact_good) .none kV23 dc23 pm23 an23 cd23 ct23), sl23⟩) (c23 : PySem.W.codeIn K cd23 "exact_good" = true) (k23 : PySem.W.keepIn K (.ref f23) = true)
    (a24 : PySem.W.nsIn K mainGlobals "_law_cell_at" = some (some (.ref f24))) (l24 : K.lookup f24 = some ⟨oc24, od24, .func (PySem.W.fnOf "_law_cell_at" "_law_cell_at" (defArgs s__law_cell_at) (defBody s__law_cell_at) (defScope s__law_cell_at) .none kV24 dc24 pm24 an24 cd24 ct24), sl24⟩) (c24 : PySem.W.codeIn K cd24 "_law_cell_at" = true) (k24 : PySem.W.keepIn K (.ref f24) = true)
    (a25 : PySem.W.nsIn K mainGlobals "_law_next" = some (some (.ref f25))) (l25 : K.lookup f25 = some ⟨oc25, od25, .func (PySem.W.fnOf "_law_next" "_law_next" (defArgs s__law_next) (defBody s__law_next) (defScope s__law_next) .none kV25 dc25 pm25 an25 cd25 ct25), sl25⟩) (c25 : PySem.W.codeIn K cd25 "_law_next" = true) (k25 : PySem.W.keepIn K (.ref f25) = true)
    (a26 : PySem.W.nsIn K mainGlobals "_law_pen_of" = some (some (.ref f26))) (l26 : K.lookup f26 = some ⟨oc26, od26, .func (PySem.W.fnOf "_law_pen_of" "_law_pen_of" (defArgs s__law_pen_of) (defBody s__law_pen_of) (defScope s__law_pen_of) .none kV26 dc26 pm26 an26 cd26 ct26), sl26⟩) (c26 : PySem.W.codeIn K cd26 "_law_pen_of" = true) (k26 : PySem.W.keepIn K (.ref f26) = true)
    (a27 : PySem.W.nsIn K mainGlobals "_law_draw" = some (some (.ref f27))) (l27 : K.lookup f27 = some ⟨oc27, od27, .func (PySem.W.fnOf "_law_draw" "_law_draw" (defArgs s__law_draw) (defBody s__law_draw) (defScope s__law_draw) .none kV27 dc27 pm27 an27 cd27 ct27), sl27⟩) (c27 : PySem.W.codeIn K cd27 "_law_draw" = true) (k27 : PySem.W.keepIn K (.ref f27) = true)
    (a28 : PySem.W.nsIn K mainGlobals "_law_clock_by" = some (some (.ref f28))) (l28 : K.lookup f28 = some ⟨oc28, od28, .func (PySem.W.fnOf "_law_clock_by" "_law_clock_by" (defArgs s__law_clock_by) (defBody s__law_clock_by) (defScope s__law_clock_by) .none kV28 dc28 pm28 an28 cd28 ct28), sl28⟩) (c28 : PySem.W.codeIn K cd28 "_law_clock_by" = true) (k28 : PySem.W.keepIn K (.ref f28) = true)
    (a29 : PySem.W.nsIn K mainGlobals "_law_parts_by" = some (some (.ref f29))) (l29 : K.lookup f29 = some ⟨oc29, od29, .func (PySem.W.fnOf "_law_parts_by" "_law_parts_by" (defArgs s__law_parts_by) (defBody s__law_parts_by) (defScope s__law_parts_by) .none kV29 dc29 pm29 an29 cd29 ct29), sl29⟩) (c29 : PySem.W.codeIn K cd29 "_law_parts_by" = true) (k29 : PySem.W.keepIn K (.ref f29) = true)
    (a30 : PySem.W.nsIn K mainGlobals "_law_clocks_by" = some (some (.ref f30))) (l30 : K.lookup f30 = some ⟨oc30, od30, .func (PySem.W.fnOf "_law_clocks_by" "_law_clocks_by" (defArgs s__law_clocks_by) (defBody s__law_clocks_by) (defScope s__law_clocks_by) .none kV30 dc30 pm30 an30 cd30 ct30), sl30⟩) (c30 : PySem.W.codeIn K cd30 "_law_clocks_by" = true) (k30 : PySem.W.keepIn K (.ref f30) = true)
    (a31 : PySem.W.nsIn K mainGlobals "_law_parts" = some (some (.ref f31))) (l31 : K.lookup f31 = some ⟨oc31, od31, .func (PySem.W.fnOf "_law_parts" "_law_parts" (defArgs s__law_parts) (defBody s__law_parts) (defScope s__law_parts) .none kV31 dc31 pm31 an31 cd31 ct31), sl31⟩) (c31 : PySem.W.codeIn K cd31 "_law_parts" = true) (k31 : PySem.W.keepIn K (.ref f31) = true)
    (a32 : PySem.W.nsIn K mainGlobals "_law_split_right" = some (some (.ref f32))) (l32 : K.lookup f32 = some ⟨oc32, od32, .func (PySem.W.fnOf "_law_split_right" "_law_split_right" (defArgs s__law_split_right) (defBody s__law_split_right) (defScope s__law_split_right) .none kV32 dc32 pm32 an32 cd32 ct32), sl32⟩) (c32 : PySem.W.codeIn K cd32 "_law_split_right" = true) (k32 : PySem.W.keepIn K (.ref f32) = true)
    (a33 : PySem.W.nsIn K mainGlobals "_law_paper_right" = some (some (.ref f33))) (l33 : K.lookup f33 = some ⟨oc33, od33, .func (PySem.W.fnOf "_law_paper_right" "_law_paper_right" (defArgs s__law_paper_right) (defBody s__law_paper_right) (defScope s__law_paper_right) .none kV33 dc33 pm33 an33 cd33 ct33), sl33⟩) (c33 : PySem.W.codeIn K cd33 "_law_paper_right" = true) (k33 : PySem.W.keepIn K (.ref f33) = true)
    (a34 : PySem.W.nsIn K mainGlobals "law" = some (some (.ref f34))) (l34 : K.lookup f34 = some ⟨oc34, od34, .func (PySem.W.fnOf "law" "law" (defArgs s_law) (defBody s_law) (defScope s_law) .none kV34 dc34 pm34 an34 cd34 ct34), sl34⟩) (c34 : PySem.W.codeIn K cd34 "law" = true) (k34 : PySem.W.keepIn K (.ref f34) = true)
    (z1 : PySem.W.nsIn K mainGlobals "all" = some none)
    (z2 : PySem.W.nsIn K mainGlobals "bool" = some none)
    (z3 : PySem.W.nsIn K mainGlobals "enumerate" = some none)
    (z4 : PySem.W.nsIn K mainGlobals "int" = some none)
    (z5 : PySem.W.nsIn K mainGlobals "isinstance" = some none)
    (z6 : PySem.W.nsIn K mainGlobals "len" = some none)
    (z7 : PySem.W.nsIn K mainGlobals "list" = some none)
    (z8 : PySem.W.nsIn K mainGlobals "max" = some none)
    (z9 : PySem.W.nsIn K mainGlobals "min" = some none)
    (z10 : PySem.W.nsIn K mainGlobals "range" = some none)
    (z11 : PySem.W.nsIn K mainGlobals "set" = some none)
    (z12 : PySem.W.nsIn K mainGlobals "sorted" = some none)
    (z13 : PySem.W.nsIn K mainGlobals "sum" = some none)
    (z14 : PySem.W.nsIn K mainGlobals "tuple" = some none)
    (z15 : PySem.W.nsIn K mainGlobals "zip" = some none)
    {tq1 : Tok} (q1 : PySem.W.nsIn K mainGlobals "MOST_CLOCKS" = some (some (.int 12 tq1)))
    {tq2 : Tok} (q2 : PySem.W.nsIn K mainGlobals "MOST_STEP" = some (some (.int 1000 tq2)))
    : ∃ fd : FuncData, (∀ (s : Shared) (v : Value), BindsTo s fd ⟨[v], []⟩ [("script", v)]) ∧ ∀ base : Heap, K.In base → base.Ns mainGlobals mg → FnOk l.prog w K mg base (L2N.CX l.prog w) 16 fa fd ["script"] (spTop K) := by
  have e := hfa.symm.trans (PySem.W.mg_of X G a34)
  cases e
  have Z : Zs mg := ⟨PySem.W.mg_none_of X G z1, PySem.W.mg_none_of X G z2, PySem.W.mg_none_of X G z3, PySem.W.mg_none_of X G z4, PySem.W.mg_none_of X G z5, PySem.W.mg_none_of X G z6, PySem.W.mg_none_of X G z7, PySem.W.mg_none_of X G z8, PySem.W.mg_none_of X G z9, PySem.W.mg_none_of X G z10, PySem.W.mg_none_of X G z11, PySem.W.mg_none_of X G z12, PySem.W.mg_none_of X G z13, PySem.W.mg_none_of X G z14, PySem.W.mg_none_of X G z15⟩
  have F1 := fun_mk (st := s_is_whole) l1 c1 k1
  have F2 := fun_mk (st := s_rings) l2 c2 k2
  have F3 := fun_mk (st := s_rings_at) l3 c3 k3
  have F4 := fun_mk (st := s_divisor_of) l4 c4 k4
  have F5 := fun_mk (st := s_round_of) l5 c5 k5
  have F6 := fun_mk (st := s_back_of) l6 c6 k6
  have F7 := fun_mk (st := s_meet_of) l7 c7 k7
  have F8 := fun_mk (st := s_inside_of) l8 c8 k8
  have F9 := fun_mk (st := s_parts_of) l9 c9 k9
  have F10 := fun_mk (st := s_split_at) l10 c10 k10
  have F11 := fun_mk (st := s_whole_of) l11 c11 k11
  have F12 := fun_mk (st := s_joins_of) l12 c12 k12
  have F13 := fun_mk (st := s_places_good) l13 c13 k13
  have F14 := fun_mk (st := s_join_at) l14 c14 k14
  have F15 := fun_mk (st := s_paper_good) l15 c15 k15
  have F16 := fun_mk (st := s_made_of) l16 c16 k16
  have F17 := fun_mk (st := s_split_good) l17 c17 k17
  have F18 := fun_mk (st := s_least_prime) l18 c18 k18
  have F19 := fun_mk (st := s_paper_for) l19 c19 k19
  have F20 := fun_mk (st := s_split_paper) l20 c20 k20
  have F21 := fun_mk (st := s_shares_of) l21 c21 k21
  have F22 := fun_mk (st := s_clash_of) l22 c22 k22
  have F23 := fun_mk (st := s_exact_good) l23 c23 k23
  have F24 := fun_mk (st := s__law_cell_at) l24 c24 k24
  have F25 := fun_mk (st := s__law_next) l25 c25 k25
  have F26 := fun_mk (st := s__law_pen_of) l26 c26 k26
  have F27 := fun_mk (st := s__law_draw) l27 c27 k27
  have F28 := fun_mk (st := s__law_clock_by) l28 c28 k28
  have F29 := fun_mk (st := s__law_parts_by) l29 c29 k29
  have F30 := fun_mk (st := s__law_clocks_by) l30 c30 k30
  have F31 := fun_mk (st := s__law_parts) l31 c31 k31
  have F32 := fun_mk (st := s__law_split_right) l32 c32 k32
  have F33 := fun_mk (st := s__law_paper_right) l33 c33 k33
  have F34 := fun_mk (st := s_law) l34 c34 k34
  refine ⟨PySem.W.fnOf "law" "law" (defArgs s_law) (defBody s_law) (defScope s_law) .none kV34 dc34 pm34 an34 cd34 ct34, fun s v => .of_eq rfl, fun base _ _ => ?_⟩
  have b1 := F1.binds (ps := ["thing"]) fun _ _ _ _ _ _ us hl => match us, hl with | [_], _ => rfl
  have x_is_whole : Cal l.prog w K mg base 1 "is_whole" 1 sp_is_whole := cal_of F1 (PySem.W.mg_of X G a1) b1 (ok_is_whole F1 Z )
  have b2 := F2.binds (ps := ["clock", "number"]) fun _ _ _ _ _ _ us hl => match us, hl with | [_, _], _ => rfl
  have x_rings : Cal l.prog w K mg base 1 "rings" 2 sp_rings := cal_of F2 (PySem.W.mg_of X G a2) b2 (ok_rings F2 Z )
  have b3 := F3.binds (ps := ["clocks", "number"]) fun _ _ _ _ _ _ us hl => match us, hl with | [_, _], _ => rfl
  have x_rings_at : Cal l.prog w K mg base 2 "rings_at" 2 sp_rings_at := cal_of F3 (PySem.W.mg_of X G a3) b3 (ok_rings_at F3 Z (x_rings.mono (by decide)))
  have b4 := F4.binds (ps := ["one", "other"]) fun _ _ _ _ _ _ us hl => match us, hl with | [_, _], _ => rfl
  have x_divisor_of : Cal l.prog w K mg base 1 "divisor_of" 2 sp_divisor_of := cal_of F4 (PySem.W.mg_of X G a4) b4 (ok_divisor_of F4 Z )
  have b5 := F5.binds (ps := ["clocks"]) fun _ _ _ _ _ _ us hl => match us, hl with | [_], _ => rfl
  have x_round_of : Cal l.prog w K mg base 2 "round_of" 1 sp_round_of := cal_of F5 (PySem.W.mg_of X G a5) b5 (ok_round_of F5 Z (x_divisor_of.mono (by decide)))
  have b6 := F6.binds (ps := ["one", "other"]) fun _ _ _ _ _ _ us hl => match us, hl with | [_, _], _ => rfl
  have x_back_of : Cal l.prog w K mg base 1 "back_of" 2 sp_back_of := cal_of F6 (PySem.W.mg_of X G a6) b6 (ok_back_of F6 Z )
  have b7 := F7.binds (ps := ["one", "other"]) fun _ _ _ _ _ _ us hl => match us, hl with | [_, _], _ => rfl
  have x_meet_of : Cal l.prog w K mg base 2 "meet_of" 2 sp_meet_of := cal_of F7 (PySem.W.mg_of X G a7) b7 (ok_meet_of F7 Z (x_divisor_of.mono (by decide)) (x_back_of.mono (by decide)))
  have b8 := F8.binds (ps := ["one", "other"]) fun _ _ _ _ _ _ us hl => match us, hl with | [_, _], _ => rfl
  have x_inside_of : Cal l.prog w K mg base 1 "inside_of" 2 sp_inside_of := cal_of F8 (PySem.W.mg_of X G a8) b8 (ok_inside_of F8 Z )
  have b9 := F9.binds (ps := ["clock", "k"]) fun _ _ _ _ _ _ us hl => match us, hl with | [_, _], _ => rfl
  have x_parts_of : Cal l.prog w K mg base 1 "parts_of" 2 sp_parts_of := cal_of F9 (PySem.W.mg_of X G a9) b9 (ok_parts_of F9 Z )
  have b10 := F10.binds (ps := ["clocks", "place", "k"]) fun _ _ _ _ _ _ us hl => match us, hl with | [_, _, _], _ => rfl
  have x_split_at : Cal l.prog w K mg base 2 "split_at" 3 sp_split_at := cal_of F10 (PySem.W.mg_of X G a10) b10 (ok_split_at F10 Z (x_is_whole.mono (by decide)) (x_parts_of.mono (by decide)) ⟨_, PySem.W.mg_of X G q1⟩ ⟨_, PySem.W.mg_of X G q2⟩)
  have b11 := F11.binds (ps := ["clocks", "places"]) fun _ _ _ _ _ _ us hl => match us, hl with | [_, _], _ => rfl
  have x_whole_of : Cal l.prog w K mg base 2 "whole_of" 2 sp_whole_of := cal_of F11 (PySem.W.mg_of X G a11) b11 (ok_whole_of F11 Z (x_parts_of.mono (by decide)))
  have b12 := F12.binds (ps := ["clocks"]) fun _ _ _ _ _ _ us hl => match us, hl with | [_], _ => rfl
  have x_joins_of : Cal l.prog w K mg base 2 "joins_of" 1 sp_joins_of := cal_of F12 (PySem.W.mg_of X G a12) b12 (ok_joins_of F12 Z (x_parts_of.mono (by decide)))
  have b13 := F13.binds (ps := ["clocks", "thing"]) fun _ _ _ _ _ _ us hl => match us, hl with | [_, _], _ => rfl
  have x_places_good : Cal l.prog w K mg base 2 "places_good" 2 sp_places_good_k34 := cal_of F13 (PySem.W.mg_of X G a13) b13 (ok_places_good F13 Z (x_is_whole.mono (by decide)))
  have b14 := F14.binds (ps := ["clocks", "places"]) fun _ _ _ _ _ _ us hl => match us, hl with | [_, _], _ => rfl
  have x_join_at : Cal l.prog w K mg base 3 "join_at" 2 sp_join_at := cal_of F14 (PySem.W.mg_of X G a14) b14 (ok_join_at F14 Z (x_places_good.mono (by decide)) (x_whole_of.mono (by decide)))
  have b15 := F15.binds (ps := ["thing"]) fun _ _ _ _ _ _ us hl => match us, hl with | [_], _ => rfl
  have x_paper_good_0 : Cal l.prog w K mg base 1 "paper_good" 1 (sp_paper_good 0) := cal_never F15 (PySem.W.mg_of X G a15) b15
  have x_paper_good_1 : Cal l.prog w K mg base 2 "paper_good" 1 (sp_paper_good 1) := cal_of F15 (PySem.W.mg_of X G a15) b15 (ok_paper_good 0 1 F15 Z (x_is_whole.mono (by decide)) x_paper_good_0)
  have x_paper_good_2 : Cal l.prog w K mg base 3 "paper_good" 1 (sp_paper_good 2) := cal_of F15 (PySem.W.mg_of X G a15) b15 (ok_paper_good 1 2 F15 Z (x_is_whole.mono (by decide)) x_paper_good_1)
  have x_paper_good_3 : Cal l.prog w K mg base 4 "paper_good" 1 (sp_paper_good 3) := cal_of F15 (PySem.W.mg_of X G a15) b15 (ok_paper_good 2 3 F15 Z (x_is_whole.mono (by decide)) x_paper_good_2)
  have x_paper_good_4 : Cal l.prog w K mg base 5 "paper_good" 1 (sp_paper_good 4) := cal_of F15 (PySem.W.mg_of X G a15) b15 (ok_paper_good 3 4 F15 Z (x_is_whole.mono (by decide)) x_paper_good_3)
  have x_paper_good_5 : Cal l.prog w K mg base 6 "paper_good" 1 (sp_paper_good 5) := cal_of F15 (PySem.W.mg_of X G a15) b15 (ok_paper_good 4 5 F15 Z (x_is_whole.mono (by decide)) x_paper_good_4)
  have x_paper_good_6 : Cal l.prog w K mg base 7 "paper_good" 1 (sp_paper_good 6) := cal_of F15 (PySem.W.mg_of X G a15) b15 (ok_paper_good 5 6 F15 Z (x_is_whole.mono (by decide)) x_paper_good_5)
  have x_paper_good_7 : Cal l.prog w K mg base 8 "paper_good" 1 (sp_paper_good 7) := cal_of F15 (PySem.W.mg_of X G a15) b15 (ok_paper_good 6 7 F15 Z (x_is_whole.mono (by decide)) x_paper_good_6)
  have x_paper_good_8 : Cal l.prog w K mg base 9 "paper_good" 1 (sp_paper_good 8) := cal_of F15 (PySem.W.mg_of X G a15) b15 (ok_paper_good 7 8 F15 Z (x_is_whole.mono (by decide)) x_paper_good_7)
  have x_paper_good_9 : Cal l.prog w K mg base 10 "paper_good" 1 (sp_paper_good 9) := cal_of F15 (PySem.W.mg_of X G a15) b15 (ok_paper_good 8 9 F15 Z (x_is_whole.mono (by decide)) x_paper_good_8)
  have x_paper_good := x_paper_good_9
  have b16 := F16.binds (ps := ["clock", "paper"]) fun _ _ _ _ _ _ us hl => match us, hl with | [_, _], _ => rfl
  have x_made_of_0 : Cal l.prog w K mg base 1 "made_of" 2 (sp_made_of 0) := cal_never F16 (PySem.W.mg_of X G a16) b16
  have x_made_of_1 : Cal l.prog w K mg base 2 "made_of" 2 (sp_made_of 1) := cal_of F16 (PySem.W.mg_of X G a16) b16 (ok_made_of 0 1 F16 Z (x_parts_of.mono (by decide)) x_made_of_0)
  have x_made_of_2 : Cal l.prog w K mg base 3 "made_of" 2 (sp_made_of 2) := cal_of F16 (PySem.W.mg_of X G a16) b16 (ok_made_of 1 2 F16 Z (x_parts_of.mono (by decide)) x_made_of_1)
  have x_made_of_3 : Cal l.prog w K mg base 4 "made_of" 2 (sp_made_of 3) := cal_of F16 (PySem.W.mg_of X G a16) b16 (ok_made_of 2 3 F16 Z (x_parts_of.mono (by decide)) x_made_of_2)
  have x_made_of_4 : Cal l.prog w K mg base 5 "made_of" 2 (sp_made_of 4) := cal_of F16 (PySem.W.mg_of X G a16) b16 (ok_made_of 3 4 F16 Z (x_parts_of.mono (by decide)) x_made_of_3)
  have x_made_of_5 : Cal l.prog w K mg base 6 "made_of" 2 (sp_made_of 5) := cal_of F16 (PySem.W.mg_of X G a16) b16 (ok_made_of 4 5 F16 Z (x_parts_of.mono (by decide)) x_made_of_4)
  have x_made_of_6 : Cal l.prog w K mg base 7 "made_of" 2 (sp_made_of 6) := cal_of F16 (PySem.W.mg_of X G a16) b16 (ok_made_of 5 6 F16 Z (x_parts_of.mono (by decide)) x_made_of_5)
  have x_made_of_7 : Cal l.prog w K mg base 8 "made_of" 2 (sp_made_of 7) := cal_of F16 (PySem.W.mg_of X G a16) b16 (ok_made_of 6 7 F16 Z (x_parts_of.mono (by decide)) x_made_of_6)
  have x_made_of_8 : Cal l.prog w K mg base 9 "made_of" 2 (sp_made_of 8) := cal_of F16 (PySem.W.mg_of X G a16) b16 (ok_made_of 7 8 F16 Z (x_parts_of.mono (by decide)) x_made_of_7)
  have x_made_of_9 : Cal l.prog w K mg base 10 "made_of" 2 (sp_made_of 9) := cal_of F16 (PySem.W.mg_of X G a16) b16 (ok_made_of 8 9 F16 Z (x_parts_of.mono (by decide)) x_made_of_8)
  have x_made_of := x_made_of_9
  have b17 := F17.binds (ps := ["clocks", "thing"]) fun _ _ _ _ _ _ us hl => match us, hl with | [_, _], _ => rfl
  have x_split_good : Cal l.prog w K mg base 11 "split_good" 2 sp_split_good := cal_of F17 (PySem.W.mg_of X G a17) b17 (ok_split_good F17 Z (x_paper_good.mono (by decide)) (x_made_of.mono (by decide)))
  have b18 := F18.binds (ps := ["clock", "clocks"]) fun _ _ _ _ _ _ us hl => match us, hl with | [_, _], _ => rfl
  have x_least_prime : Cal l.prog w K mg base 1 "least_prime" 2 sp_least_prime := cal_of F18 (PySem.W.mg_of X G a18) b18 (ok_least_prime F18 Z )
  have b19 := F19.binds (ps := ["clock", "clocks"]) fun _ _ _ _ _ _ us hl => match us, hl with | [_, _], _ => rfl
  have x_paper_for_0 : Cal l.prog w K mg base 1 "paper_for" 2 (sp_paper_for 0) := cal_never F19 (PySem.W.mg_of X G a19) b19
  have x_paper_for_1 : Cal l.prog w K mg base 2 "paper_for" 2 (sp_paper_for 1) := cal_of F19 (PySem.W.mg_of X G a19) b19 (ok_paper_for 0 1 F19 Z (x_least_prime.mono (by decide)) (x_parts_of.mono (by decide)) (x_inside_of.mono (by decide)) x_paper_for_0)
  have x_paper_for_2 : Cal l.prog w K mg base 3 "paper_for" 2 (sp_paper_for 2) := cal_of F19 (PySem.W.mg_of X G a19) b19 (ok_paper_for 1 2 F19 Z (x_least_prime.mono (by decide)) (x_parts_of.mono (by decide)) (x_inside_of.mono (by decide)) x_paper_for_1)
  have x_paper_for_3 : Cal l.prog w K mg base 4 "paper_for" 2 (sp_paper_for 3) := cal_of F19 (PySem.W.mg_of X G a19) b19 (ok_paper_for 2 3 F19 Z (x_least_prime.mono (by decide)) (x_parts_of.mono (by decide)) (x_inside_of.mono (by decide)) x_paper_for_2)
  have x_paper_for_4 : Cal l.prog w K mg base 5 "paper_for" 2 (sp_paper_for 4) := cal_of F19 (PySem.W.mg_of X G a19) b19 (ok_paper_for 3 4 F19 Z (x_least_prime.mono (by decide)) (x_parts_of.mono (by decide)) (x_inside_of.mono (by decide)) x_paper_for_3)
  have x_paper_for_5 : Cal l.prog w K mg base 6 "paper_for" 2 (sp_paper_for 5) := cal_of F19 (PySem.W.mg_of X G a19) b19 (ok_paper_for 4 5 F19 Z (x_least_prime.mono (by decide)) (x_parts_of.mono (by decide)) (x_inside_of.mono (by decide)) x_paper_for_4)
  have x_paper_for_6 : Cal l.prog w K mg base 7 "paper_for" 2 (sp_paper_for 6) := cal_of F19 (PySem.W.mg_of X G a19) b19 (ok_paper_for 5 6 F19 Z (x_least_prime.mono (by decide)) (x_parts_of.mono (by decide)) (x_inside_of.mono (by decide)) x_paper_for_5)
  have x_paper_for_7 : Cal l.prog w K mg base 8 "paper_for" 2 (sp_paper_for 7) := cal_of F19 (PySem.W.mg_of X G a19) b19 (ok_paper_for 6 7 F19 Z (x_least_prime.mono (by decide)) (x_parts_of.mono (by decide)) (x_inside_of.mono (by decide)) x_paper_for_6)
  have x_paper_for_8 : Cal l.prog w K mg base 9 "paper_for" 2 (sp_paper_for 8) := cal_of F19 (PySem.W.mg_of X G a19) b19 (ok_paper_for 7 8 F19 Z (x_least_prime.mono (by decide)) (x_parts_of.mono (by decide)) (x_inside_of.mono (by decide)) x_paper_for_7)
  have x_paper_for_9 : Cal l.prog w K mg base 10 "paper_for" 2 (sp_paper_for 9) := cal_of F19 (PySem.W.mg_of X G a19) b19 (ok_paper_for 8 9 F19 Z (x_least_prime.mono (by decide)) (x_parts_of.mono (by decide)) (x_inside_of.mono (by decide)) x_paper_for_8)
  have x_paper_for_10 : Cal l.prog w K mg base 11 "paper_for" 2 (sp_paper_for 10) := cal_of F19 (PySem.W.mg_of X G a19) b19 (ok_paper_for 9 10 F19 Z (x_least_prime.mono (by decide)) (x_parts_of.mono (by decide)) (x_inside_of.mono (by decide)) x_paper_for_9)
  have x_paper_for_11 : Cal l.prog w K mg base 12 "paper_for" 2 (sp_paper_for 11) := cal_of F19 (PySem.W.mg_of X G a19) b19 (ok_paper_for 10 11 F19 Z (x_least_prime.mono (by decide)) (x_parts_of.mono (by decide)) (x_inside_of.mono (by decide)) x_paper_for_10)
  have x_paper_for_12 : Cal l.prog w K mg base 13 "paper_for" 2 (sp_paper_for 12) := cal_of F19 (PySem.W.mg_of X G a19) b19 (ok_paper_for 11 12 F19 Z (x_least_prime.mono (by decide)) (x_parts_of.mono (by decide)) (x_inside_of.mono (by decide)) x_paper_for_11)
  have x_paper_for := x_paper_for_12
  have b20 := F20.binds (ps := ["clocks"]) fun _ _ _ _ _ _ us hl => match us, hl with | [_], _ => rfl
  have x_split_paper : Cal l.prog w K mg base 14 "split_paper" 1 sp_split_paper := cal_of F20 (PySem.W.mg_of X G a20) b20 (ok_split_paper F20 Z (x_paper_for.mono (by decide)))
  have b21 := F21.binds (ps := ["clocks"]) fun _ _ _ _ _ _ us hl => match us, hl with | [_], _ => rfl
  have x_shares_of : Cal l.prog w K mg base 3 "shares_of" 1 sp_shares_of := cal_of F21 (PySem.W.mg_of X G a21) b21 (ok_shares_of F21 Z (x_round_of.mono (by decide)) (x_divisor_of.mono (by decide)))
  have b22 := F22.binds (ps := ["clocks"]) fun _ _ _ _ _ _ us hl => match us, hl with | [_], _ => rfl
  have x_clash_of : Cal l.prog w K mg base 3 "clash_of" 1 sp_clash_of := cal_of F22 (PySem.W.mg_of X G a22) b22 (ok_clash_of F22 Z (x_meet_of.mono (by decide)))
  have b23 := F23.binds (ps := ["clocks"]) fun _ _ _ _ _ _ us hl => match us, hl with | [_], _ => rfl
  have x_exact_good : Cal l.prog w K mg base 4 "exact_good" 1 sp_exact_good := cal_of F23 (PySem.W.mg_of X G a23) b23 (ok_exact_good F23 Z (x_shares_of.mono (by decide)) (x_clash_of.mono (by decide)))
  have b24 := F24.binds (ps := ["script", "k"]) fun _ _ _ _ _ _ us hl => match us, hl with | [_, _], _ => rfl
  have x__law_cell_at : Cal l.prog w K mg base 1 "_law_cell_at" 2 sp__law_cell_at := cal_of F24 (PySem.W.mg_of X G a24) b24 (ok__law_cell_at F24 Z )
  have b25 := F25.binds (ps := ["seed"]) fun _ _ _ _ _ _ us hl => match us, hl with | [_], _ => rfl
  have x__law_next : Cal l.prog w K mg base 1 "_law_next" 1 sp__law_next := cal_of F25 (PySem.W.mg_of X G a25) b25 (ok__law_next F25 Z )
  have b26 := F26.binds (ps := ["cell"]) fun _ _ _ _ _ _ us hl => match us, hl with | [_], _ => rfl
  have x__law_pen_of : Cal l.prog w K mg base 1 "_law_pen_of" 1 sp__law_pen_of := cal_of F26 (PySem.W.mg_of X G a26) b26 (ok__law_pen_of F26 Z )
  have b27 := F27.binds (ps := ["pen", "many"]) fun _ _ _ _ _ _ us hl => match us, hl with | [_, _], _ => rfl
  have x__law_draw : Cal l.prog w K mg base 2 "_law_draw" 2 sp__law_draw := cal_of F27 (PySem.W.mg_of X G a27) b27 (ok__law_draw F27 Z (x__law_next.mono (by decide)))
  have b28 := F28.binds (ps := ["pen", "most"]) fun _ _ _ _ _ _ us hl => match us, hl with | [_, _], _ => rfl
  have x__law_clock_by : Cal l.prog w K mg base 3 "_law_clock_by" 2 sp__law_clock_by := cal_of F28 (PySem.W.mg_of X G a28) b28 (ok__law_clock_by F28 Z (x__law_draw.mono (by decide)))
  have b29 := F29.binds (ps := ["pen", "least", "most"]) fun _ _ _ _ _ _ us hl => match us, hl with | [_, _, _], _ => rfl
  have x__law_parts_by : Cal l.prog w K mg base 3 "_law_parts_by" 3 sp__law_parts_by := cal_of F29 (PySem.W.mg_of X G a29) b29 (ok__law_parts_by F29 Z (x__law_draw.mono (by decide)))
  have b30 := F30.binds (ps := ["pen", "most"]) fun _ _ _ _ _ _ us hl => match us, hl with | [_, _], _ => rfl
  have x__law_clocks_by : Cal l.prog w K mg base 4 "_law_clocks_by" 2 sp__law_clocks_by := cal_of F30 (PySem.W.mg_of X G a30) b30 (ok__law_clocks_by F30 Z (x__law_draw.mono (by decide)) (x__law_clock_by.mono (by decide)) (x__law_parts_by.mono (by decide)))
  have b31 := F31.binds (ps := ["clock", "k"]) fun _ _ _ _ _ _ us hl => match us, hl with | [_, _], _ => rfl
  have x__law_parts : Cal l.prog w K mg base 1 "_law_parts" 2 sp__law_parts := cal_of F31 (PySem.W.mg_of X G a31) b31 (ok__law_parts F31 Z )
  have b32 := F32.binds (ps := ["clocks", "place", "k", "far"]) fun _ _ _ _ _ _ us hl => match us, hl with | [_, _, _, _], _ => rfl
  have x__law_split_right : Cal l.prog w K mg base 15 "_law_split_right" 4 sp__law_split_right := cal_of F32 (PySem.W.mg_of X G a32) b32 (ok__law_split_right F32 Z (x_split_at.mono (by decide)) (x_rings_at.mono (by decide)) (x__law_parts.mono (by decide)) (x_joins_of.mono (by decide)) (x_join_at.mono (by decide)) (x_exact_good.mono (by decide)) (x_split_paper.mono (by decide)))
  have b33 := F33.binds (ps := ["clocks"]) fun _ _ _ _ _ _ us hl => match us, hl with | [_], _ => rfl
  have x__law_paper_right : Cal l.prog w K mg base 15 "_law_paper_right" 1 sp__law_paper_right := cal_of F33 (PySem.W.mg_of X G a33) b33 (ok__law_paper_right F33 Z (x_split_paper.mono (by decide)) (x_split_good.mono (by decide)) (x_exact_good.mono (by decide)))
  exact top_ok (ok_law F34 Z (x__law_cell_at.mono (by decide)) (x__law_pen_of.mono (by decide)) (x__law_draw.mono (by decide)) (x__law_parts_by.mono (by decide)) (x__law_clocks_by.mono (by decide)) (x__law_split_right.mono (by decide)) (x__law_paper_right.mono (by decide)) (x_joins_of.mono (by decide)) (x_exact_good.mono (by decide)) (x_join_at.mono (by decide)))
end K37
end Dl
end L2
open PySem PySem.W PyProof.Rows
set_option maxHeartbeats 0 in
theorem PySem.Challenge.cw_coverclocks_k37_whole_splits_and_joins_holds : PySem.Challenge.rw_coverclocks_k37_whole_splits_and_joins.Holds := by
  w_on; o_law; k_head; (case hw => w_witness2)
  k_fill
  refine L2.walk_of (l := PySem.Challenge.rw_coverclocks_k37_whole_splits_and_joins) (n := 63) (k := 16) (x := "script") (CX := fun w => L2N.CX PySem.Challenge.rw_coverclocks_k37_whole_splits_and_joins.prog w) (sp := fun w => L2.Dl.spTop _) rfl (by decide) rfl ⟨rfl, by decide, by decide⟩ (fun w h Y => PySem.W.kIn_of Y) ?F (fun _ _ a ns hl hO hS => ⟨a, ns, rfl, hl, hS, fun _ _ e => e⟩) (fun _ _ _ _ _ h => L2.Dl.noCX h)
  case F =>
    intro w mg fa h KX G hmg
    refine' L2.Dl.K37.all_mk KX G hmg ?a1 ?l1 ?c1 ?k1 ?a2 ?l2 ?c2 ?k2 ?a3 ?l3 ?c3 ?k3 ?a4 ?l4 ?c4 ?k4 ?a5 ?l5 ?c5 ?k5 ?a6 ?l6 ?c6 ?k6 ?a7 ?l7 ?c7 ?k7 ?a8 ?l8 ?c8 ?k8 ?a9 ?l9 ?c9 ?k9 ?a10 ?l10 ?c10 ?k10 ?a11 ?l11 ?c11 ?k11 ?a12 ?l12 ?c12 ?k12 ?a13 ?l13 ?c13 ?k13 ?a14 ?l14 ?c14 ?k14 ?a15 ?l15 ?c15 ?k15 ?a16 ?l16 ?c16 ?k16 ?a17 ?l17 ?c17 ?k17 ?a18 ?l18 ?c18 ?k18 ?a19 ?l19 ?c19 ?k19 ?a20 ?l20 ?c20 ?k20 ?a21 ?l21 ?c21 ?k21 ?a22 ?l22 ?c22 ?k22 ?a23 ?l23 ?c23 ?k23 ?a24 ?l24 ?c24 ?k24 ?a25 ?l25 ?c25 ?k25 ?a26 ?l26 ?c26 ?k26 ?a27 ?l27 ?c27 ?k27 ?a28 ?l28 ?c28 ?k28 ?a29 ?l29 ?c29 ?k29 ?a30 ?l30 ?c30 ?k30 ?a31 ?l31 ?c31 ?k31 ?a32 ?l32 ?c32 ?k32 ?a33 ?l33 ?c33 ?k33 ?a34 ?l34 ?c34 ?k34 ?z1 ?z2 ?z3 ?z4 ?z5 ?z6 ?z7 ?z8 ?z9 ?z10 ?z11 ?z12 ?z13 ?z14 ?z15 ?q1 ?q2
    (case a1 => k_is)
    (case l1 => k_is)
    (case c1 => k_is)
    (case k1 => k_is)
    (case a2 => k_is)
    (case l2 => k_is)
    (case c2 => k_is)
    (case k2 => k_is)
    (case a3 => k_is)
    (case l3 => k_is)
    (case c3 => k_is)
    (case k3 => k_is)
    (case a4 => k_is)
    (case l4 => k_is)
    (case c4 => k_is)
    (case k4 => k_is)
    (case a5 => k_is)
    (case l5 => k_is)
    (case c5 => k_is)
    (case k5 => k_is)
    (case a6 => k_is)
    (case l6 => k_is)
    (case c6 => k_is)
    (case k6 => k_is)
    (case a7 => k_is)
    (case l7 => k_is)
    (case c7 => k_is)
    (case k7 => k_is)
    (case a8 => k_is)
    (case l8 => k_is)
    (case c8 => k_is)
    (case k8 => k_is)
    (case a9 => k_is)
    (case l9 => k_is)
    (case c9 => k_is)
    (case k9 => k_is)
    (case a10 => k_is)
    (case l10 => k_is)
    (case c10 => k_is)
    (case k10 => k_is)
    (case a11 => k_is)
    (case l11 => k_is)
    (case c11 => k_is)
    (case k11 => k_is)
    (case a12 => k_is)
    (case l12 => k_is)
    (case c12 => k_is)
    (case k12 => k_is)
    (case a13 => k_is)
    (case l13 => k_is)
    (case c13 => k_is)
    (case k13 => k_is)
    (case a14 => k_is)
    (case l14 => k_is)
    (case c14 => k_is)
    (case k14 => k_is)
    (case a15 => k_is)
    (case l15 => k_is)
    (case c15 => k_is)
    (case k15 => k_is)
    (case a16 => k_is)
    (case l16 => k_is)
    (case c16 => k_is)
    (case k16 => k_is)
    (case a17 => k_is)
    (case l17 => k_is)
    (case c17 => k_is)
    (case k17 => k_is)
    (case a18 => k_is)
    (case l18 => k_is)
    (case c18 => k_is)
    (case k18 => k_is)
    (case a19 => k_is)
    (case l19 => k_is)
    (case c19 => k_is)
    (case k19 => k_is)
    (case a20 => k_is)
    (case l20 => k_is)
    (case c20 => k_is)
    (case k20 => k_is)
    (case a21 => k_is)
    (case l21 => k_is)
    (case c21 => k_is)
    (case k21 => k_is)
    (case a22 => k_is)
    (case l22 => k_is)
    (case c22 => k_is)
    (case k22 => k_is)
    (case a23 => k_is)
    (case l23 => k_is)
    (case c23 => k_is)
    (case k23 => k_is)
    (case a24 => k_is)
    (case l24 => k_is)
    (case c24 => k_is)
    (case k24 => k_is)
    (case a25 => k_is)
    (case l25 => k_is)
    (case c25 => k_is)
    (case k25 => k_is)
    (case a26 => k_is)
    (case l26 => k_is)
    (case c26 => k_is)
    (case k26 => k_is)
    (case a27 => k_is)
    (case l27 => k_is)
    (case c27 => k_is)
    (case k27 => k_is)
    (case a28 => k_is)
    (case l28 => k_is)
    (case c28 => k_is)
    (case k28 => k_is)
    (case a29 => k_is)
    (case l29 => k_is)
    (case c29 => k_is)
    (case k29 => k_is)
    (case a30 => k_is)
    (case l30 => k_is)
    (case c30 => k_is)
    (case k30 => k_is)
    (case a31 => k_is)
    (case l31 => k_is)
    (case c31 => k_is)
    (case k31 => k_is)
    (case a32 => k_is)
    (case l32 => k_is)
    (case c32 => k_is)
    (case k32 => k_is)
    (case a33 => k_is)
    (case l33 => k_is)
    (case c33 => k_is)
    (case k33 => k_is)
    (case a34 => k_is)
    (case l34 => k_is)
    (case c34 => k_is)
    (case k34 => k_is)
    (case z1 => k_is)
    (case z2 => k_is)
    (case z3 => k_is)
    (case z4 => k_is)
    (case z5 => k_is)
    (case z6 => k_is)
    (case z7 => k_is)
    (case z8 => k_is)
    (case z9 => k_is)
    (case z10 => k_is)
    (case z11 => k_is)
    (case z12 => k_is)
    (case z13 => k_is)
    (case z14 => k_is)
    (case z15 => k_is)
    (case q1 => k_is)
    (case q2 => k_is)

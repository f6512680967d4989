import PyProof.Rows.All
import HandS.ForMost
import HandS.ForExc
import HandS.CallSlots
import HandS.IsInst
import HandS.Flow
import HandS.ExcCtx
import HandS.HotCalls
import HandS.ExcInit
import HandS.ExcField
import HandS.ExcIs
import HandS.TupAny
import HandS.TupLe
import HandS.Deep
import HandS.WideBits
import HandS.Conv
import KE.DataCmp
import HandS.Text
import HandS.SetFor
import HandS.Walk
import HandS.SortInts
import HandS.TupSets
import KE.SortData
import HandS.Zip
import HandS.Steps
import KE.KRevSl
import KE.KExcIs
import KE.DataFind
import HandS.ExcInitHot
import HandS.Iter
import HandS.Hot
import HandS.Comp
import KE.GoesMore
import PyProof.EnumMake
import HandS.TupMul
import HandS.Dict
import HandS.TupLen
import HandS.Small
import HandS.Strs
import KE.DataMinMax
import PyProof.SetRoads
import KE.KDictZip
import KE.KItemsList
import HandS.DictTup
import HandS.More
import HandS.ListItems
import KE.KDictItemsList
import PyProof.LongRange
import KE.KDictKeyed
import PySem.Challenge.RW_coverclocks_k52_whole_far_counts
set_option Elab.async false
set_option linter.all false
set_option autoImplicit false
set_option maxRecDepth 100000
set_option maxHeartbeats 4000000
/-! The D layer, 1: data by value over the abstract heap; slots; what relates them; judgements. -/
namespace L2
namespace Dl
open PySem PySem.Spec PyProof.Rows

/-! ### data that stand still in F -/
mutual
inductive Rp (K : PySem.W.Frag) (F : Hp) : V → PyData → Prop
  | non : Rp K F .non .none
  | bl (b : Bool) : Rp K F (.bl b) (.bool b)
  | int (i : Int) : Rp K F (.int i) (.int i)
  | str (x : Str) : Rp K F (.str x) (.str x)
  | lst {a : Addr} {xs : List V} {ds : List PyData} : SqL K F a xs → RpAll K F xs ds → Rp K F (.ref a) (.list ds)
  | tup {a : Addr} {xs : List V} {ds : List PyData} : F a = some (.tup xs) → RpAll K F xs ds → Rp K F (.ref a) (.tuple ds)
  | dct {a : Addr} : F a = some (.dK []) → Rp K F (.ref a) (.dict [])
inductive RpAll (K : PySem.W.Frag) (F : Hp) : List V → List PyData → Prop
  | nil : RpAll K F [] []
  | cons {v : V} {vs : List V} {d : PyData} {ds : List PyData} : Rp K F v d → RpAll K F vs ds → RpAll K F (v :: vs) (d :: ds)
end
theorem sqT_same {K : PySem.W.Frag} {H H' : Hp} {a : Addr} {xs : List V} (e : Same H H') (h : SqT K H a xs) : SqT K H' a xs := by
  rcases h with (h | ⟨o, h⟩) | h
  · exact .inl (.inl (e _ _ h))
  · exact .inl (.inr ⟨o, e _ _ h⟩)
  · exact .inr h
theorem SqT.of {K : PySem.W.Frag} {F : Hp} {a : Addr} {xs : List V} (h : F a = some (.tup xs)) : SqT K F a xs := .inl (.inl h)
section
variable {K : PySem.W.Frag} {F F' H : Hp}
mutual
theorem Rp.mono (s : Same F F') : ∀ (d : PyData) (v : V), Rp K F v d → Rp K F' v d
  | .none, _, h => by cases h; exact .non
  | .bool b, _, h => by cases h; exact .bl b
  | .int b, _, h => by cases h; exact .int b
  | .str b, _, h => by cases h; exact .str b
  | .list ds, _, h => by
    cases h with
    | lst a b => exact .lst (s.seq a) (RpAll.mono s ds _ b)
  | .tuple ds, _, h => by
    cases h with
    | tup a b => exact .tup (s _ _ a) (RpAll.mono s ds _ b)
  | .dict _, _, h => by
    cases h with
    | dct a => exact .dct (s _ _ a)
theorem RpAll.mono (s : Same F F') : ∀ (ds : List PyData) (vs : List V), RpAll K F vs ds → RpAll K F' vs ds
  | [], _, h => by cases h; exact .nil
  | d :: ds, _, h => by
    cases h with
    | cons a b => exact .cons (Rp.mono s d _ a) (RpAll.mono s ds _ b)
end
theorem RpAll.length : ∀ {vs : List V} {ds : List PyData}, RpAll K F vs ds → vs.length = ds.length
  | _, [], h => by cases h; rfl
  | _, d :: ds, h => by
    cases h with
    | cons a b => rw [List.length_cons, List.length_cons, b.length]
theorem RpAll.append : ∀ {vs : List V} {ds : List PyData} {ws : List V} {es : List PyData}, RpAll K F vs ds → RpAll K F ws es → RpAll K F (vs ++ ws) (ds ++ es)
  | _, [], _, _, h, k => by cases h; exact k
  | _, d :: ds, _, _, h, k => by
    cases h with
    | cons a b => exact .cons a (RpAll.append b k)
theorem RpAll.get : ∀ {vs : List V} {ds : List PyData} {i : Nat} {d : PyData}, RpAll K F vs ds → ds[i]? = some d → ∃ v, vs[i]? = some v ∧ Rp K F v d
  | _, [], _, _, _, e => by simp at e
  | _, x :: ds, 0, d, h, e => by
    cases h with
    | cons a b =>
      have e' : x = d := by simpa using e
      subst e'
      exact ⟨_, rfl, a⟩
  | _, x :: ds, i + 1, d, h, e => by
    cases h with
    | cons a b =>
      obtain ⟨v, h1, h2⟩ := RpAll.get (i := i) b (by simpa using e)
      exact ⟨v, by simpa using h1, h2⟩
theorem RpAll.get2 : ∀ {vs : List V} {ds : List PyData} {i : Nat} {v : V}, RpAll K F vs ds → vs[i]? = some v → ∃ d, ds[i]? = some d ∧ Rp K F v d := fun {vs ds i v} h e => by
  have hl := h.length
  have hi : i < vs.length := (List.getElem?_eq_some_iff.mp e).1
  obtain ⟨w, e2, r⟩ := h.get (i := i) (d := ds[i]'(by omega)) (by simp [← hl, hi])
  rw [e] at e2
  cases e2
  exact ⟨_, by simp [← hl, hi], r⟩
theorem RpAll.take : ∀ {vs : List V} {ds : List PyData} (n : Nat), RpAll K F vs ds → RpAll K F (vs.take n) (ds.take n)
  | _, [], n, h => by cases h; cases n <;> exact .nil
  | _, d :: ds, 0, h => .nil
  | _, d :: ds, n + 1, h => by
    cases h with
    | cons a b => exact .cons a (b.take n)
theorem RpAll.drop : ∀ {vs : List V} {ds : List PyData} (n : Nat), RpAll K F vs ds → RpAll K F (vs.drop n) (ds.drop n)
  | _, [], n, h => by cases h; cases n <;> exact .nil
  | _, d :: ds, 0, h => h
  | _, d :: ds, n + 1, h => by
    cases h with
    | cons a b => exact b.drop n
theorem RpAll.set : ∀ {vs : List V} {ds : List PyData} (n : Nat) {v : V} {d : PyData}, RpAll K F vs ds → Rp K F v d → RpAll K F (vs.set n v) (ds.set n d)
  | _, [], n, _, _, h, r => by cases h; exact .nil
  | _, _ :: ds, 0, _, _, h, r => by
    cases h with
    | cons a b => exact .cons r b
  | _, _ :: ds, n + 1, _, _, h, r => by
    cases h with
    | cons a b => exact .cons a (b.set n r)
theorem RpAll.erase : ∀ {vs : List V} {ds : List PyData} (n : Nat), RpAll K F vs ds → RpAll K F (vs.eraseIdx n) (ds.eraseIdx n)
  | _, [], n, h => by cases h; exact .nil
  | _, d :: ds, 0, h => by
    cases h with
    | cons a b => exact b
  | _, d :: ds, n + 1, h => by
    cases h with
    | cons a b => exact .cons a (b.erase n)
theorem RpAll.reverse : ∀ {vs : List V} {ds : List PyData}, RpAll K F vs ds → RpAll K F vs.reverse ds.reverse
  | _, [], h => by cases h; exact .nil
  | _, d :: ds, h => by
    cases h with
    | cons a b =>
      rw [List.reverse_cons, List.reverse_cons]
      exact b.reverse.append (.cons a .nil)
theorem RpAll.rep : ∀ {vs : List V} {ds : List PyData}, RpAll K F vs ds → ∀ k : Nat, RpAll K F (List.replicate k vs).flatten (List.replicate k ds).flatten
  | _, _, _, 0 => .nil
  | _, _, h, k + 1 => by
    rw [List.replicate_succ, List.replicate_succ, List.flatten_cons, List.flatten_cons]
    exact h.append (h.rep k)
theorem RpAll.ints : ∀ {ns : List Int} {vs : List V}, RpAll K F vs (ns.map .int) → vs = ns.map .int
  | [], _, h => by cases h; rfl
  | n :: ns, _, h => by
    cases h with
    | cons a b =>
      cases a
      rw [b.ints]
      rfl
theorem RpAll.of_ints : ∀ (ns : List Int), RpAll K F (ns.map .int) (ns.map .int)
  | [] => .nil
  | n :: ns => .cons (.int n) (RpAll.of_ints ns)
theorem RpAll.bools : ∀ {bs : List Bool} {vs : List V}, RpAll K F vs (bs.map .bool) → vs = bs.map .bl
  | [], _, h => by cases h; rfl
  | n :: ns, _, h => by
    cases h with
    | cons a b =>
      cases a
      rw [b.bools]
      rfl
end

/-! ### slots -/
inductive Sl where
  | un
  | val (d : PyData)
  | own (l : Bool) (ds : List PyData)
  | dct (kvs : List (List Int × PyData))
abbrev Ev := List Sl
inductive Rs where
  | val (d : PyData)
  | slot (i : Nat)
  | tmp (ds : List PyData)
/-- an exception: its class's name, its fields -/
structure XD where
  name : Str
  fs : List (Str × PyData)
/-- the ground of a def's run: the heap and the frozen part at its entry, the lent slots with their addresses, the module's names -/
structure Bs where
  H0 : Hp
  F0 : Hp
  lent : List (Nat × Addr)
  mg : Str → Option Value
  fns : List (Nat × Addr) := []
/-- the places that hold what they held -/
abbrev Bs.all (B : Bs) : List (Nat × Addr) := B.lent ++ B.fns

/-- a value of a dict: no object -/
def vOf : PyData → V
  | .int i => .int i
  | .bool b => .bl b
  | .str x => .str x
  | _ => .non
def kvO (kvs : List (List Int × PyData)) : List (List Key × V) := kvs.map fun p => (p.1.map Sum.inl, vOf p.2)
/-- nothing stood there, or the thing is a tuple -/
def Nw0 (H : Hp) (b : Addr) (x : HO) : Prop := H b = none ∨ ∃ ys, x = .tup ys
/-- nothing stood there, or just this tuple -/
def Nw1 (H : Hp) (b : Addr) (x : HO) : Prop := H b = none ∨ (H b = some x ∧ ∃ ys, x = .tup ys)
theorem Nw1.lst {H : Hp} {b : Addr} {x : HO} {vs : List V} (h : Nw1 H b x) (e : H b = some (.lst vs)) : False := by
  rcases h with h | ⟨h, ys, rfl⟩
  · rw [e] at h; cases h
  · rw [e] at h; cases h
theorem Nw1.dT {H : Hp} {b : Addr} {x : HO} {ks : List (List Key × V)} (h : Nw1 H b x) (e : H b = some (.dT ks)) : False := by
  rcases h with h | ⟨h, ys, rfl⟩
  · rw [e] at h; cases h
  · rw [e] at h; cases h
def slR (K : PySem.W.Frag) (F H : Hp) : Option Sl → Option (Option V) → Prop
  | some (.val d), o => ∃ v, o = some (some v) ∧ Rp K F v d
  | some (.own _ ds), o => ∃ a vs, o = some (some (.ref a)) ∧ H a = some (.lst vs) ∧ F a = none ∧ RpAll K F vs ds
  | some (.dct kvs), o => ∃ a, o = some (some (.ref a)) ∧ H a = some (.dT (kvO kvs)) ∧ F a = none
  | _, _ => True
def ownL (env : Ev) (σ : St) (a : Addr) : Prop := ∃ (i : Nat) (l : Bool) (ds : List PyData), env[i]? = some (Sl.own l ds) ∧ σ[i]? = some (some (.ref a))
def ownAt (env : Ev) (σ : St) (a : Addr) : Prop := ownL env σ a ∨ ∃ (i : Nat) (kvs : List (List Int × PyData)), env[i]? = some (Sl.dct kvs) ∧ σ[i]? = some (some (.ref a))
structure Rl (K : PySem.W.Frag) (B : Bs) (F H : Hp) (env : Ev) (σ : St) : Prop where
  len : env.length = σ.length
  sub : Same F H
  sl : ∀ i : Nat, slR K F H env[i]? σ[i]?
  dist : ∀ (i j : Nat) (l m : Bool) (ds es : List PyData) (a : Addr), env[i]? = some (Sl.own l ds) → env[j]? = some (Sl.own m es) → σ[i]? = some (some (.ref a)) → σ[j]? = some (some (.ref a)) → i = j
  sub0 : Same B.F0 F
  new : ∀ b x, F b = some x → B.F0 b = some x ∨ Nw0 B.H0 b x
  frm : ∀ b x, B.H0 b = some x → (∀ p ∈ B.lent, p.2 ≠ b) → H b = some x
  dom : ∀ b, B.H0 b ≠ none → H b ≠ none
  own0 : ∀ (i : Nat) (ds : List PyData) (a : Addr), env[i]? = some (Sl.own false ds) → σ[i]? = some (some (.ref a)) → B.H0 a = none
  own1 : ∀ (i : Nat) (ds : List PyData) (a : Addr), env[i]? = some (Sl.own true ds) → σ[i]? = some (some (.ref a)) → ∃ p ∈ B.lent, p.2 = a
  lsl : ∀ p ∈ B.all, σ[p.1]? = some (some (.ref p.2))
  dd : ∀ (i j : Nat) (kv kw : List (List Int × PyData)) (a : Addr), env[i]? = some (Sl.dct kv) → env[j]? = some (Sl.dct kw) → σ[i]? = some (some (.ref a)) → σ[j]? = some (some (.ref a)) → i = j
  d0 : ∀ (i : Nat) (kv : List (List Int × PyData)) (a : Addr), env[i]? = some (Sl.dct kv) → σ[i]? = some (some (.ref a)) → B.H0 a = none
structure Fm (env : Ev) (σ : St) (F H : Hp) (env' : Ev) (F' H' : Hp) : Prop where
  keep : ∀ b x, H b = some x → ¬ ownAt env σ b → H' b = some x
  sub : Same F F'
  new : ∀ b x, F' b = some x → F b = some x ∨ Nw1 H b x ∨ ownAt env σ b
  own : ∀ (i : Nat) (l : Bool) (ds : List PyData), env'[i]? = some (Sl.own l ds) → ∃ ds0, env[i]? = some (Sl.own l ds0)
  dom : ∀ b, H b ≠ none → H' b ≠ none
  od : ∀ (i : Nat) (kv : List (List Int × PyData)), env'[i]? = some (Sl.dct kv) → ∃ kw, env[i]? = some (Sl.dct kw)
section
variable {env env1 env2 : Ev} {σ : St} {F F1 F2 H H1 H2 : Hp}
theorem Fm.refl : Fm env σ F H env F H := ⟨fun _ _ h _ => h, fun _ _ h => h, fun _ _ h => .inl h, fun _ _ _ h => ⟨_, h⟩, fun _ h => h, fun _ _ h => ⟨_, h⟩⟩
theorem Fm.ownAt (f : Fm env σ F H env1 F1 H1) {a : Addr} (h : L2.Dl.ownAt env1 σ a) : L2.Dl.ownAt env σ a := by
  rcases h with ⟨i, l, ds, h1, h2⟩ | ⟨i, kv, h1, h2⟩
  · obtain ⟨ds0, h3⟩ := f.own i l ds h1
    exact .inl ⟨i, l, ds0, h3, h2⟩
  · obtain ⟨kw, h3⟩ := f.od i kv h1
    exact .inr ⟨i, kw, h3, h2⟩
theorem Fm.trans (f : Fm env σ F H env1 F1 H1) (g : Fm env1 σ F1 H1 env2 F2 H2) : Fm env σ F H env2 F2 H2 where
  keep := fun b x h n => g.keep b x (f.keep b x h n) fun q => n (f.ownAt q)
  sub := f.sub.trans g.sub
  new := fun b x h => by
    rcases g.new b x h with h | h | h
    · exact f.new b x h
    · cases q : H b with
      | none => exact .inr (.inl (.inl q))
      | some y =>
        by_cases o : L2.Dl.ownAt env σ b
        · exact .inr (.inr o)
        · rcases h with h | ⟨h, z⟩
          · rw [f.keep b y q o] at h
            cases h
          · rw [f.keep b y q o] at h
            exact .inr (.inl (.inr ⟨q.trans h, z⟩))
    · exact .inr (.inr (f.ownAt h))
  own := fun i l ds h => by
    obtain ⟨ds0, h1⟩ := g.own i l ds h
    exact f.own i l ds0 h1
  dom := fun b h => g.dom b (f.dom b h)
  od := fun i kv h => by
    obtain ⟨kw, h1⟩ := g.od i kv h
    exact f.od i kw h1
end

def Res (K : PySem.W.Frag) (B : Bs) (F H : Hp) (env : Ev) (σ : St) (v : V) : Rs → Prop
  | .val d => Rp K F v d
  | .slot i => σ[i]? = some (some v)
  | .tmp ds => ∃ p vs, v = .ref p ∧ H p = some (.lst vs) ∧ F p = none ∧ B.H0 p = none ∧ ¬ ownAt env σ p ∧ RpAll K F vs ds
/-- what a result is worth now -/
def rd (env : Ev) : Rs → Option PyData
  | .val d => some d
  | .slot i => match env[i]? with
    | some (.val d) => some d
    | some (.own _ ds) => some (.list ds)
    | _ => none
  | .tmp ds => some (.list ds)
/-- data at v: in F, or a list in H of data in F -/
def Rt (K : PySem.W.Frag) (F H : Hp) (v : V) (d : PyData) : Prop := Rp K F v d ∨ ∃ a vs ds, v = .ref a ∧ d = .list ds ∧ H a = some (.lst vs) ∧ RpAll K F vs ds
section
variable {K : PySem.W.Frag} {B : Bs} {env env' : Ev} {σ : St} {F F' H H' : Hp} {v : V} {r : Rs} {d : PyData}
theorem Res.step (f : Fm env σ F H env' F' H') (h : Res K B F H env σ v r) : Res K B F' H' env' σ v r := by
  cases r with
  | val d => exact Rp.mono f.sub d v h
  | slot i => exact h
  | tmp ds =>
    obtain ⟨p, vs, h1, h2, h3, h4, h5, h6⟩ := h
    refine ⟨p, vs, h1, f.keep _ _ h2 h5, ?_, h4, fun q => h5 (f.ownAt q), RpAll.mono f.sub _ _ h6⟩
    cases q : F' p with
    | none => rfl
    | some x =>
      rcases f.new p x q with z | z | z
      · rw [h3] at z; cases z
      · exact (z.lst h2).elim
      · exact absurd z h5
theorem Res.rt (R : Rl K B F H env σ) (h : Res K B F H env σ v r) (e : rd env r = some d) : Rt K F H v d := by
  cases r with
  | val d' =>
    have e' : d' = d := by simpa [rd] using e
    subst e'
    exact .inl h
  | slot i =>
    have s := R.sl i
    have h' : σ[i]? = some (some v) := h
    simp only [rd] at e
    split at e
    · rename_i d' q
      cases e
      rw [q] at s
      obtain ⟨w, h1, h2⟩ := s
      rw [h'] at h1
      cases h1
      exact .inl h2
    · rename_i l ds q
      cases e
      rw [q] at s
      obtain ⟨a, vs, h1, h2, _, h4⟩ := s
      rw [h'] at h1
      cases h1
      exact .inr ⟨a, vs, ds, rfl, rfl, h2, h4⟩
    · cases e
  | tmp ds =>
    obtain ⟨p, vs, h1, h2, h3, h4, h5, h6⟩ := h
    have e' : PyData.list ds = d := by simpa [rd] using e
    subst e'
    exact .inr ⟨p, vs, ds, h1, rfl, h2, h6⟩
theorem Rt.h (s : Same F H) (h : Rt K F H v d) : Rp K H v d := by
  rcases h with h | ⟨a, vs, ds, rfl, rfl, h1, h2⟩
  · exact Rp.mono s d v h
  · exact .lst (SqL.of h1) (RpAll.mono s _ _ h2)
/-- a list, its items in F -/
theorem Rt.list {ds : List PyData} (s : Same F H) (h : Rt K F H v (.list ds)) : ∃ a vs, v = .ref a ∧ SqL K H a vs ∧ RpAll K F vs ds := by
  rcases h with h | ⟨a, vs, ds', rfl, e, h1, h2⟩
  · cases h with
    | lst h1 h2 => exact ⟨_, _, rfl, s.seq h1, h2⟩
  · cases e
    exact ⟨a, vs, rfl, SqL.of h1, h2⟩
theorem Rt.tuple {ds : List PyData} (s : Same F H) (h : Rt K F H v (.tuple ds)) : ∃ a vs, v = .ref a ∧ SqT K H a vs ∧ RpAll K F vs ds := by
  rcases h with h | ⟨a, vs, ds', rfl, e, h1, h2⟩
  · cases h with
    | tup h1 h2 => exact ⟨_, _, rfl, .inl (.inl (s _ _ h1)), h2⟩
  · cases e
theorem Rt.int {i : Int} (h : Rt K F H v (.int i)) : v = .int i := by
  rcases h with h | ⟨a, vs, ds', rfl, e, h1, h2⟩
  · cases h; rfl
  · cases e
theorem Rt.bool {i : Bool} (h : Rt K F H v (.bool i)) : v = .bl i := by
  rcases h with h | ⟨a, vs, ds', rfl, e, h1, h2⟩
  · cases h; rfl
  · cases e
theorem Rt.str {i : Str} (h : Rt K F H v (.str i)) : v = .str i := by
  rcases h with h | ⟨a, vs, ds', rfl, e, h1, h2⟩
  · cases h; rfl
  · cases e
theorem Rt.none (h : Rt K F H v .none) : v = .non := by
  rcases h with h | ⟨a, vs, ds', rfl, e, h1, h2⟩
  · cases h; rfl
  · cases e
theorem Rt.dict {kvs : List (PyData × PyData)} (s : Same F H) (h : Rt K F H v (.dict kvs)) : kvs = [] ∧ ∃ a, v = .ref a ∧ H a = some (.dK []) := by
  rcases h with h | ⟨a, vs, ds', rfl, e, h1, h2⟩
  · cases h with
    | dct h => exact ⟨rfl, _, rfl, s _ _ h⟩
  · cases e
/-- a new address is not of the entry -/
theorem Rl.free0 (R : Rl K B F H env σ) {p : Addr} (h : H p = none) : B.H0 p = none := by
  cases q : B.H0 p with
  | none => rfl
  | some x => exact absurd h (R.dom p (by rw [q]; simp))
theorem Rl.freeF (R : Rl K B F H env σ) {p : Addr} (h : H p = none) : F p = none := R.sub.free h
theorem Rl.ownH (R : Rl K B F H env σ) {p : Addr} (h : ownAt env σ p) : ∃ ob, H p = some ob ∧ F p = none ∧ ((∃ vs, ob = .lst vs) ∨ ∃ ks, ob = .dT ks) := by
  rcases h with ⟨i, l, ds, h1, h2⟩ | ⟨i, kv, h1, h2⟩
  · have s := R.sl i
    rw [h1] at s
    obtain ⟨a, vs, h3, h4, h5, _⟩ := s
    rw [h2] at h3
    cases h3
    exact ⟨_, h4, h5, .inl ⟨_, rfl⟩⟩
  · have s := R.sl i
    rw [h1] at s
    obtain ⟨a, h3, h4, h5⟩ := s
    rw [h2] at h3
    cases h3
    exact ⟨_, h4, h5, .inr ⟨_, rfl⟩⟩
theorem Rl.notOwn (R : Rl K B F H env σ) {p : Addr} (h : H p = none) : ¬ ownAt env σ p := fun q => by
  obtain ⟨vs, h1, _⟩ := R.ownH q
  rw [h] at h1
  cases h1
/-- F grows by an address that is not owned and not of the entry -/
theorem Rl.grow (R : Rl K B F H env σ) {p : Addr} {o : HO} (hF : F p = none) (h0 : B.H0 p = none) (ho : ¬ ownAt env σ p) (hH : H p = some o) : Rl K B (upd F p o) H env σ := by
  have s1 : Same F (upd F p o) := fun b x e => by rw [upd_ne (ne_of_none e hF)]; exact e
  refine ⟨R.len, fun b x e => ?_, fun i => ?_, R.dist, R.sub0.trans s1, fun b x e => ?_, R.frm, R.dom, R.own0, R.own1, R.lsl, R.dd, R.d0⟩
  · by_cases hb : b = p
    · subst hb
      rw [upd_same] at e
      cases e
      exact hH
    · rw [upd_ne hb] at e
      exact R.sub b x e
  · have s := R.sl i
    cases q : env[i]? with
    | none => trivial
    | some z =>
      rw [q] at s
      cases z with
      | un => trivial
      | val d =>
        obtain ⟨v, h1, h2⟩ := s
        exact ⟨v, h1, Rp.mono s1 _ _ h2⟩
      | own l ds =>
        obtain ⟨a, vs, h1, h2, h3, h4⟩ := s
        refine ⟨a, vs, h1, h2, ?_, RpAll.mono s1 _ _ h4⟩
        rw [upd_ne (fun z => ho (.inl ⟨i, l, ds, q, by rw [← z]; exact h1⟩))]
        exact h3
      | dct kv =>
        obtain ⟨a, h1, h2, h3⟩ := s
        refine ⟨a, h1, h2, ?_⟩
        rw [upd_ne (fun z => ho (.inr ⟨i, kv, q, by rw [← z]; exact h1⟩))]
        exact h3
  · by_cases hb : b = p
    · subst hb
      exact .inr (.inl h0)
    · rw [upd_ne hb] at e
      exact R.new b x e
/-- a new object is laid, not frozen -/
theorem Rl.lay (R : Rl K B F H env σ) {p : Addr} {o : HO} (hp : H p = none) : Rl K B F (upd H p o) env σ := by
  have s1 : Same H (upd H p o) := fun b x e => by rw [upd_ne (ne_of_none e hp)]; exact e
  refine ⟨R.len, R.sub.trans s1, fun i => ?_, R.dist, R.sub0, R.new, fun b x e n => s1 b x (R.frm b x e n), fun b e => ?_, R.own0, R.own1, R.lsl, R.dd, R.d0⟩
  · have s := R.sl i
    cases q : env[i]? with
    | none => trivial
    | some z =>
      rw [q] at s
      cases z with
      | un => trivial
      | val d => exact s
      | own l ds =>
        obtain ⟨a, vs, h1, h2, h3, h4⟩ := s
        exact ⟨a, vs, h1, s1 _ _ h2, h3, h4⟩
      | dct kv =>
        obtain ⟨a, h1, h2, h3⟩ := s
        exact ⟨a, h1, s1 _ _ h2, h3⟩
  · cases q : H b with
    | none => exact absurd q (R.dom b e)
    | some x => rw [s1 b x q]; simp
theorem fm_lay {p : Addr} {o : HO} (hp : H p = none) : Fm env σ F H env F (upd H p o) :=
  ⟨fun b x e _ => by rw [upd_ne (ne_of_none e hp)]; exact e, fun _ _ h => h, fun _ _ h => .inl h, fun _ _ _ h => ⟨_, h⟩, fun b e => by
    cases q : H b with
    | none => exact absurd q e
    | some x => rw [upd_ne (ne_of_none q hp), q]; simp, fun _ _ h => ⟨_, h⟩⟩
/-- a new object is laid and frozen -/
theorem Rl.layF (R : Rl K B F H env σ) {p : Addr} {o : HO} (hp : H p = none) : Rl K B (upd F p o) (upd H p o) env σ :=
  (R.lay (o := o) hp).grow (R.freeF hp) (R.free0 hp) (fun q => (R.notOwn hp) q) upd_same
theorem Rl.fmLayF (R : Rl K B F H env σ) {p : Addr} {o : HO} (hp : H p = none) : Fm env σ F H env (upd F p o) (upd H p o) := by
  have hF := R.freeF hp
  refine ⟨fun b x e _ => by rw [upd_ne (ne_of_none e hp)]; exact e, fun b x e => by rw [upd_ne (ne_of_none e hF)]; exact e, fun b x e => ?_, fun _ _ _ h => ⟨_, h⟩, fun b e => ?_, fun _ _ h => ⟨_, h⟩⟩
  · by_cases hb : b = p
    · subst hb; exact .inr (.inl (.inl hp))
    · rw [upd_ne hb] at e; exact .inl e
  · cases q : H b with
    | none => exact absurd q e
    | some x => rw [upd_ne (ne_of_none q hp), q]; simp
end
end Dl
end L2

/-! The D layer, 2: judgements, names, constants, operators, comparisons, tests. -/
namespace L2
namespace Dl
open PySem PySem.Spec PyProof.Rows

abbrev KE := Ev → Rs → Prop
abbrev KT := Ev → Bool → Prop
abbrev KXc := Ev → XD → Prop
abbrev WE := Ev → KE → KXc → Prop
abbrev WT := Ev → KT → KXc → Prop

def fsR (K : PySem.W.Frag) (F : Hp) (fs : List (Str × V)) (gs : List (Str × PyData)) : Prop := Paired (fun p q => p.1 = q.1 ∧ Rp K F p.2 q.2) fs gs
/-- an exception as it lies: its class, its dict -/
def XR (K : PySem.W.Frag) (B : Bs) (F H : Hp) (x : XD) (cls : Value) (d : Option Addr) : Prop :=
  B.mg x.name = some cls ∧ match d with
    | none => x.fs = []
    | some dx => ∃ fs, F dx = some (.xd fs) ∧ fsR K F fs x.fs
/-- what is wished of exceptions is so wherever Kx is -/
def XC (K : PySem.W.Frag) (B : Bs) (W : WX) (Kx : KXc) : Prop :=
  ∀ (σ : St) (env : Ev) (x : XD) (cls : Value) (d : Option Addr) (F H : Hp), Kx env x → Rl K B F H env σ → XR K B F H x cls d → W cls d σ H
/-- a temporary list is new -/
def Nw (H : Hp) (v : V) : Rs → Prop
  | .tmp _ => ∀ p, v = .ref p → H p = none
  | _ => True
theorem Nw.up {H H1 : Hp} {v : V} {r : Rs} (dom : ∀ b, H b ≠ none → H1 b ≠ none) (h : Nw H1 v r) : Nw H v r := by
  cases r with
  | val d => trivial
  | slot i => trivial
  | tmp ds =>
    intro p e
    cases q : H p with
    | none => rfl
    | some x => exact absurd (h p e) (dom p (by rw [q]; simp))
def DP (X : Cx) (B : Bs) (pins : List (Addr × Obj)) (σ : St) (F H : Hp) (env : Ev) (Ke : KE) (u : Value) (s' : Shared) : Prop :=
  ∃ v env' r F' H', Inv X pins σ H' s' ∧ RelV v u ∧ Rl X.K B F' H' env' σ ∧ Fm env σ F H env' F' H' ∧ Res X.K B F' H' env' σ v r ∧ Nw H v r ∧ Ke env' r
def DPT (X : Cx) (B : Bs) (pins : List (Addr × Obj)) (σ : St) (F H : Hp) (env : Ev) (Kt : KT) (b : Bool) (s' : Shared) : Prop :=
  ∃ env' F' H', Inv X pins σ H' s' ∧ Rl X.K B F' H' env' σ ∧ Fm env σ F H env' F' H' ∧ Kt env' b
structure DE (B : Bs) (W : WX) (X : Cx) (e : Expr) (w : WE) : Prop where
  run : ∀ (pins : List (Addr × Obj)) (s : Shared) (σ : St) (F H : Hp) (env : Ev) (Ke : KE) (Kx : KXc), Inv X pins σ H s → Rl X.K B F H env σ → w env Ke Kx → XC X.K B W Kx →
    wpAny (model X.prog X.w) X.A (eval e X.env) (DP X B pins σ F H env Ke) X.xe s
structure DT (B : Bs) (W : WX) (X : Cx) (e : Expr) (w : WT) : Prop where
  run : ∀ (pins : List (Addr × Obj)) (s : Shared) (σ : St) (F H : Hp) (env : Ev) (Kt : KT) (Kx : KXc), Inv X pins σ H s → Rl X.K B F H env σ → w env Kt Kx → XC X.K B W Kx →
    wpAny (model X.prog X.w) X.A (isTrue e X.env (eval e X.env)) (DPT X B pins σ F H env Kt) X.xe s
structure DW (B : Bs) (W : WX) (X : Cx) (e : Expr) (w : WT) : Prop where
  run : ∀ (whole : Sem Value) (pins : List (Addr × Obj)) (s : Shared) (σ : St) (F H : Hp) (env : Ev) (Kt : KT) (Kx : KXc), Inv X pins σ H s → Rl X.K B F H env σ → w env Kt Kx → XC X.K B W Kx →
    wpAny (model X.prog X.w) X.A (isTrue e X.env whole) (DPT X B pins σ F H env Kt) X.xe s
theorem DW.dt {B : Bs} {W : WX} {X : Cx} {e : Expr} {w : WT} (h : DW B W X e w) : DT B W X e w := ⟨h.run _⟩

section
variable {B : Bs} {W : WX} {X : Cx} {pins : List (Addr × Obj)} {σ : St} {F H F1 H1 : Hp} {env env1 : Ev} {Ke : KE} {Kt : KT} {u : Value} {s s' : Shared}
theorem DP.up (f : Fm env σ F H env1 F1 H1) (h : DP X B pins σ F1 H1 env1 Ke u s') : DP X B pins σ F H env Ke u s' := by
  obtain ⟨v, e', r, F', H', h1, h2, h3, h4, h5, h6, h7⟩ := h
  exact ⟨v, e', r, F', H', h1, h2, h3, f.trans h4, h5, h6.up f.dom, h7⟩
theorem DPT.up {b : Bool} (f : Fm env σ F H env1 F1 H1) (h : DPT X B pins σ F1 H1 env1 Kt b s') : DPT X B pins σ F H env Kt b s' := by
  obtain ⟨e', F', H', h1, h3, h4, h6⟩ := h
  exact ⟨e', F', H', h1, h3, f.trans h4, h6⟩
end

/-! ### names, constants -/
def wVar (i : Nat) : WE := fun env Ke _ => match env[i]? with
  | some (.val d) => Ke env (.val d)
  | some (.own _ _) => Ke env (.slot i)
  | _ => False
def wC (d : PyData) : WE := fun env Ke _ => Ke env (.val d)
section
variable {B : Bs} {W : WX} {X : Cx} {pos : Pos}
theorem de_var (i : Nat) {x : Str} (hN : X.N[i]? = some x) (hv : Vis X.env.scope x) (hd : (x == ("__debug__" : Str)) = false) (hcd : (x == ("__classdict__" : Str)) = false) : DE B W X (.Name x pos) (wVar i) := by
  refine ⟨fun pins s σ F H env Ke Kx I R h hx => ?_⟩
  have sl := R.sl i
  cases q : env[i]? with
  | none => simp only [wVar, q] at h
  | some z =>
    cases z with
    | un => simp only [wVar, q] at h
    | val d =>
      simp only [wVar, q] at h
      rw [q] at sl
      obtain ⟨v, e1, rp⟩ := sl
      exact (pe_var hN hv hd hcd).run pins s σ H (fun v H' => H' = H ∧ Rp X.K F v d) I ⟨v, e1, rfl, rp⟩ |> fun z => thn z fun u s1 ⟨v, H', I', r, e, rp⟩ => by
        subst e
        exact ⟨v, env, .val d, F, _, I', r, R, Fm.refl, rp, trivial, h⟩
    | own l ds =>
      simp only [wVar, q] at h
      rw [q] at sl
      obtain ⟨a, vs, e1, _⟩ := sl
      exact (pe_var hN hv hd hcd).run pins s σ H (fun v H' => H' = H ∧ v = .ref a) I ⟨_, e1, rfl, rfl⟩ |> fun z => thn z fun u s1 ⟨v, H', I', r, e, rp⟩ => by
        subst e rp
        exact ⟨_, env, .slot i, F, _, I', r, R, Fm.refl, e1, trivial, h⟩
    | dct kv => simp only [wVar, q] at h
theorem dv (i : Nat) {x : Str} (hN : X.N[i]? = some x := by rfl) (hv : Vis X.env.scope x := by first | exact Or.inl rfl | exact Or.inr (Or.inl rfl) | exact Or.inr (Or.inr rfl)) (hd : (x == ("__debug__" : Str)) = false := by decide)
    (hcd : (x == ("__classdict__" : Str)) = false := by decide) : DE B W X (.Name x pos) (wVar i) := de_var i hN hv hd hcd
/-- a constant, by HandS's rule -/
theorem de_const {e : Expr} {v : V} {d : PyData} (h : PE X e (tC v)) (r : ∀ F, Rp X.K F v d) : DE B W X e (wC d) := by
  refine ⟨fun pins s σ F H env Ke Kx I R hw hx => ?_⟩
  exact thn (h.run pins s σ H (fun w H' => H' = H ∧ w = v) I ⟨rfl, rfl⟩) fun u s1 ⟨w, H', I', rv, e, ev⟩ => by
    subst e ev
    exact ⟨_, env, .val d, F, _, I', rv, R, Fm.refl, r F, trivial, hw⟩
theorem de_int {i : Int} {j : Nat} : DE B W X (.Constant (.int i) j pos) (wC (.int i)) := de_const pe_int fun _ => .int i
theorem de_bl {b : Bool} {j : Nat} : DE B W X (.Constant (.bool b) j pos) (wC (.bool b)) := de_const pe_bl fun _ => .bl b
theorem de_non {j : Nat} : DE B W X (.Constant .none j pos) (wC .none) := de_const pe_non fun _ => .non
/-- a module's constant -/
theorem de_glob {x : Str} {v : V} {d : PyData} {u : Value} (hg : Gl X x) (hm : X.mg x = some u) (rv : RelV v u) (r : ∀ F, Rp X.K F v d) (hd : (x == ("__debug__" : Str)) = false := by decide) : DE B W X (.Name x pos) (wC d) := de_const (pe_glob hg hm rv hd) r
end

/-! ### operators -/
def RP (X : Cx) (B : Bs) (pins : List (Addr × Obj)) (σ : St) (F H : Hp) (env : Ev) (Kr : Rs → Prop) (u : Value) (s' : Shared) : Prop :=
  ∃ v r F' H', Inv X pins σ H' s' ∧ RelV v u ∧ Rl X.K B F' H' env σ ∧ Fm env σ F H env F' H' ∧ Res X.K B F' H' env σ v r ∧ Nw H v r ∧ Kr r
theorem RP.dp {X : Cx} {B : Bs} {pins : List (Addr × Obj)} {σ : St} {F H : Hp} {env : Ev} {Ke : KE} {u : Value} {s' : Shared} (h : RP X B pins σ F H env (Ke env) u s') : DP X B pins σ F H env Ke u s' := by
  obtain ⟨v, r, F', H', h1, h2, h3, h4, h5, h6, h7⟩ := h
  exact ⟨v, env, r, F', H', h1, h2, h3, h4, h5, h6, h7⟩
abbrev Op2 := PyData → PyData → (Rs → Prop) → Prop
structure DOp (X : Cx) (f : Value → Value → Sem Value) (o : Op2) : Prop where
  run : ∀ (B : Bs) (F : Hp) (env : Ev) (pins : List (Addr × Obj)) (s : Shared) (σ : St) (H : Hp) (x y : V) (v u : Value) (d e : PyData) (Kr : Rs → Prop), Inv X pins σ H s → RelV x v → RelV y u → Rl X.K B F H env σ → Rt X.K F H x d → Rt X.K F H y e → o d e Kr →
    wpAny (model X.prog X.w) X.A (f v u) (RP X B pins σ F H env Kr) X.xe s
def rdK (env : Ev) (r : Rs) (k : PyData → Prop) : Prop := ∃ d, rd env r = some d ∧ k d
def wBin (o : Op2) (wa wb : WE) : WE := fun env Ke Kx => wa env (fun env1 r1 => wb env1 (fun env2 r2 => rdK env2 r1 fun d1 => rdK env2 r2 fun d2 => o d1 d2 (Ke env2)) Kx) Kx
section
variable {B : Bs} {W : WX} {X : Cx} {pos : Pos} {a b c : Expr} {wa wb wc : WE}
theorem dbin {f : Value → Value → Sem Value} {o : Op2} (ho : DOp X f o) (ha : DE B W X a wa) (hb : DE B W X b wb) {pins : List (Addr × Obj)} {s : Shared} {σ : St} {F H : Hp} {env : Ev} {Ke : KE} {Kx : KXc} (I : Inv X pins σ H s) (R : Rl X.K B F H env σ) (h : wBin o wa wb env Ke Kx) (hx : XC X.K B W Kx) :
    wpAny (model X.prog X.w) X.A (eval a X.env) (fun v s₁ => wpAny (model X.prog X.w) X.A (eval b X.env) (fun u s₂ => wpAny (model X.prog X.w) X.A (f v u) (DP X B pins σ F H env Ke) X.xe s₂) X.xe s₁) X.xe s := by
  refine thn (ha.run pins s σ F H env _ Kx I R h hx) fun v s1 ⟨x, env1, r1, F1, H1, I1, rx, R1, f1, q1, n1, h1⟩ => ?_
  refine thn (hb.run pins s1 σ F1 H1 env1 _ Kx I1 R1 h1 hx) fun u s2 ⟨y, env2, r2, F2, H2, I2, ry, R2, f2, q2, n2, h2⟩ => ?_
  obtain ⟨d1, e1, d2, e2, h2⟩ := h2
  exact thn (ho.run B F2 env2 pins s2 σ H2 x y v u d1 d2 _ I2 rx ry R2 ((q1.step f2).rt R2 e1) (q2.rt R2 e2) h2) fun w s3 h3 => (h3.dp.up f2).up f1
theorem de_op {op : Operator} {o : Op2} (ho : DOp X (binaryOp op) o) (ha : DE B W X a wa) (hb : DE B W X b wb) : DE B W X (.BinOp a op b pos) (wBin o wa wb) :=
  ⟨fun pins s σ F H env Ke Kx I R h hx => wpAny_BinOp (dbin ho ha hb I R h hx)⟩
theorem de_cmp {op : CmpOp} {o : Op2} (ho : DOp X (compareOp op) o) (ha : DE B W X a wa) (hb : DE B W X b wb) (hm : behindInMarks op b = false := by first | exact nomark _ | rfl) : DE B W X (.Compare a [op] [b] pos) (wBin o wa wb) :=
  ⟨fun pins s σ F H env Ke Kx I R h hx => wpAny_Compare1 (dbin ho ha hb I R h hx) hm⟩
/-- a value as a test: a bool -/
def wTB (w : WE) : WT := fun env Kt Kx => w env (fun env' r => ∃ b, r = .val (.bool b) ∧ Kt env' b) Kx
theorem tb_end {pins : List (Addr × Obj)} {σ : St} {F H : Hp} {env : Ev} {Kt : KT} {u : Value} {s' : Shared} (h : DP X B pins σ F H env (fun env' r => ∃ b, r = .val (.bool b) ∧ Kt env' b) u s') :
    wpAny (model X.prog X.w) X.A (truthy u) (DPT X B pins σ F H env Kt) X.xe s' := by
  obtain ⟨v, env', r, F', H', I', rv, R', f', q', _, b, e, k⟩ := h
  subst e
  cases (show Rp X.K F' v (.bool b) from q')
  cases rv
  exact wpAny_truthy_bool ⟨env', F', H', I', R', f', k⟩
theorem dt_cmp {op : CmpOp} {o : Op2} (ho : DOp X (compareOp op) o) (ha : DE B W X a wa) (hb : DE B W X b wb) (hm : behindInMarks op b = false := by first | exact nomark _ | rfl) : DT B W X (.Compare a [op] [b] pos) (wTB (wBin o wa wb)) :=
  ⟨fun pins s σ F H env Kt Kx I R h hx => wpAny_isTrue_Compare1 (thn (dbin ho ha hb I R h hx) fun v s1 h1 => thn h1 fun u s2 h2 => thn h2 fun w s3 h3 => tb_end h3) hm⟩
/-- an expression whose value is a bool, as a test -/
theorem dt_val {e : Expr} {w : WE} (h : DE B W X e w) (he : ∀ whole, isTrue e X.env whole = (do let v ← whole; standAt e.pos; holding [v] (truthy v)) := by intro _; rfl) : DT B W X e (wTB w) :=
  ⟨fun pins s σ F H env Kt Kx I R hw hx => isTrue_plain (thn (h.run pins s σ F H env _ Kx I R hw hx) fun v s1 h1 => tb_end h1) (he _)⟩
/-! and, or, not as tests -/
variable {rest : List Expr} {ta tb : WT}
def wAnd (t u : WT) : WT := fun env Kt Kx => t env (fun env1 c => if c = true then u env1 Kt Kx else Kt env1 false) Kx
def wOr (t u : WT) : WT := fun env Kt Kx => t env (fun env1 c => if c = true then Kt env1 true else u env1 Kt Kx) Kx
def wNot (t : WT) : WT := fun env Kt Kx => t env (fun env1 c => Kt env1 (!c)) Kx
theorem dw_and1 (ha : DT B W X a ta) : DW B W X (.BoolOp .And [a] pos) ta := by
  refine ⟨fun wh pins s σ F H env Kt Kx I R h hx => ?_⟩
  refine isTrue_and (thn (ha.run pins s σ F H env Kt Kx I R h hx) fun c s1 e => ?_)
  cases c with
  | true => exact isTrue_and_nil e
  | false => exact e
theorem dw_or1 (ha : DT B W X a ta) : DW B W X (.BoolOp .Or [a] pos) ta := by
  refine ⟨fun wh pins s σ F H env Kt Kx I R h hx => ?_⟩
  refine isTrue_or (thn (ha.run pins s σ F H env Kt Kx I R h hx) fun c s1 e => ?_)
  cases c with
  | false => exact isTrue_or_nil e
  | true => exact e
theorem dw_and (ha : DT B W X a ta) (hb : DW B W X (.BoolOp .And (b :: rest) pos) tb) : DW B W X (.BoolOp .And (a :: b :: rest) pos) (wAnd ta tb) := by
  refine ⟨fun wh pins s σ F H env Kt Kx I R h hx => ?_⟩
  refine isTrue_and (thn (ha.run pins s σ F H env _ Kx I R h hx) fun c s1 ⟨env1, F1, H1, I1, R1, f1, q1⟩ => ?_)
  cases c with
  | true =>
    rw [if_pos rfl] at q1
    exact thn (hb.run _ pins s1 σ F1 H1 env1 Kt Kx I1 R1 q1 hx) fun b s2 h2 => h2.up f1
  | false =>
    rw [if_neg Bool.false_ne_true] at q1
    exact ⟨env1, F1, H1, I1, R1, f1, q1⟩
theorem dw_or (ha : DT B W X a ta) (hb : DW B W X (.BoolOp .Or (b :: rest) pos) tb) : DW B W X (.BoolOp .Or (a :: b :: rest) pos) (wOr ta tb) := by
  refine ⟨fun wh pins s σ F H env Kt Kx I R h hx => ?_⟩
  refine isTrue_or (thn (ha.run pins s σ F H env _ Kx I R h hx) fun c s1 ⟨env1, F1, H1, I1, R1, f1, q1⟩ => ?_)
  cases c with
  | false =>
    rw [if_neg Bool.false_ne_true] at q1
    exact thn (hb.run _ pins s1 σ F1 H1 env1 Kt Kx I1 R1 q1 hx) fun b s2 h2 => h2.up f1
  | true =>
    rw [if_pos rfl] at q1
    exact ⟨env1, F1, H1, I1, R1, f1, q1⟩
end
end Dl
end L2

/-! The D layer, 3: operators, comparisons, not/and/or as values, displays, subscripts. -/
namespace L2
namespace Dl
open PySem PySem.Spec PyProof.Rows

section
variable {B : Bs} {W : WX} {X : Cx} {pos : Pos} {a b c : Expr} {wa wb wc : WE} {ta tb : WT} {rest : List Expr}
theorem dt_not (ha : DT B W X a ta) : DT B W X (.UnaryOp .Not a pos) (wNot ta) := by
  refine ⟨fun pins s σ F H env Kt Kx I R h hx => ?_⟩
  exact isTrue_not (thn (ha.run pins s σ F H env _ Kx I R h hx) fun c s1 h1 => h1)
def wNotV (w : WE) : WE := fun env Ke Kx => w env (fun env1 r => ∃ c, r = .val (.bool c) ∧ Ke env1 (.val (.bool (!c)))) Kx
theorem de_not (ha : DE B W X a wa) : DE B W X (.UnaryOp .Not a pos) (wNotV wa) := by
  refine ⟨fun pins s σ F H env Ke Kx I R h hx => ?_⟩
  refine UnaryOp_ (thn (ha.run pins s σ F H env _ Kx I R h hx) fun v s1 ⟨x, env1, r1, F1, H1, I1, rx, R1, f1, q1, _, c, e, h1⟩ => ?_)
  subst e
  cases (show Rp X.K F1 x (.bool c) from q1)
  cases rx
  exact not_of (wpAny_truthy_bool ⟨.bl (!c), env1, .val (.bool (!c)), F1, H1, I1, rfl, R1, f1, Rp.bl _, trivial, h1⟩)
/-- a test's answer as a value: and, or of bools -/
def wBV (t : WT) : WE := fun env Ke Kx => t env (fun env1 b => Ke env1 (.val (.bool b))) Kx
def wAndV (wa wb : WE) : WE := fun env Ke Kx => wa env (fun env1 r => ∃ c, r = .val (.bool c) ∧ if c = true then wb env1 Ke Kx else Ke env1 (.val (.bool false))) Kx
def wOrV (wa wb : WE) : WE := fun env Ke Kx => wa env (fun env1 r => ∃ c, r = .val (.bool c) ∧ if c = true then Ke env1 (.val (.bool true)) else wb env1 Ke Kx) Kx
theorem de_one {op : BoolOp} (h : DE B W X a wa) : DE B W X (.BoolOp op [a] pos) wa := ⟨fun pins s σ F H env Ke Kx I R hw hx => BoolOp_one (h.run pins s σ F H env Ke Kx I R hw hx)⟩
theorem de_and (ha : DE B W X a wa) (hb : DE B W X (.BoolOp .And (b :: rest) pos) wb) : DE B W X (.BoolOp .And (a :: b :: rest) pos) (wAndV wa wb) := by
  refine ⟨fun pins s σ F H env Ke Kx I R h hx => ?_⟩
  refine BoolOp_and (thn (ha.run pins s σ F H env _ Kx I R h hx) fun v s1 ⟨x, env1, r1, F1, H1, I1, rx, R1, f1, q1, _, c, e, h1⟩ => ?_)
  subst e
  cases (show Rp X.K F1 x (.bool c) from q1)
  cases rx
  refine wpAny_truthy_bool ?_
  cases c with
  | true =>
    rw [if_pos rfl] at h1
    exact thn (hb.run pins s1 σ F1 H1 env1 Ke Kx I1 R1 h1 hx) fun u s2 h2 => h2.up f1
  | false =>
    rw [if_neg Bool.false_ne_true] at h1
    exact ⟨.bl false, env1, .val (.bool false), F1, H1, I1, rfl, R1, f1, Rp.bl _, trivial, h1⟩
def wIf (t : WT) (wa wb : WE) : WE := fun env Ke Kx => t env (fun env1 c => if c = true then wa env1 Ke Kx else wb env1 Ke Kx) Kx
def wNeg (w : WE) : WE := fun env Ke Kx => w env (fun env1 r => ∃ i, r = .val (.int i) ∧ Ke env1 (.val (.int (-i)))) Kx
theorem de_neg (ha : DE B W X a wa) : DE B W X (.UnaryOp .USub a pos) (wNeg wa) := by
  refine ⟨fun pins s σ F H env Ke Kx I R h hx => ?_⟩
  refine UnaryOp_ (thn (ha.run pins s σ F H env _ Kx I R h hx) fun v s1 ⟨x, env1, r1, F1, H1, I1, rx, R1, f1, q1, _, c, e, h1⟩ => ?_)
  subst e
  cases (show Rp X.K F1 x (.int c) from q1)
  exact thn (un_neg pins s1 σ H1 (.int c) v (fun w H' => H' = H1 ∧ w = .int (-c)) I1 rx ⟨c, rfl, rfl, rfl⟩) fun u s2 ⟨w, H', I', rv, e1, e2⟩ => by
    subst e1 e2
    exact ⟨_, env1, .val (.int (-c)), F1, _, I', rv, R1, f1, Rp.int _, trivial, h1⟩
end

/-! ### operators on data -/
def oAdd : Op2 := fun d e K => match d, e with
  | .int i, .int j => K (.val (.int (i + j)))
  | .str x, .str y => x.length + y.length ≤ sizeLine ∧ K (.val (.str (x ++ y)))
  | .list x, .list y => x.length + y.length ≤ sizeLine ∧ K (.tmp (x ++ y))
  | .tuple x, .tuple y => x.length + y.length ≤ sizeLine ∧ K (.val (.tuple (x ++ y)))
  | _, _ => False
def oI (C : Int → Int → Prop) (f : Int → Int → Int) : Op2 := fun d e K => match d, e with
  | .int i, .int j => C i j ∧ K (.val (.int (f i j)))
  | _, _ => False
abbrev CT : Int → Int → Prop := fun _ _ => True
def oSub : Op2 := fun d e K => match d, e with
  | .int i, .int j => K (.val (.int (i - j)))
  | _, _ => False
def oMul : Op2 := oI CMulX fun i j => i * j
def CFd (_ j : Int) : Prop := 0 < j ∧ j.natAbs.log2 < 9000
def oFdiv : Op2 := oI CFd fun i j => i / j
def oMod : Op2 := oI (fun _ j => 0 < j) fun i j => i % j
def oPow : Op2 := oI CPow fun i j => i ^ j.toNat
def oShl : Op2 := oI CShl fun i j => i * 2 ^ j.toNat
def oShr : Op2 := oI (fun _ j => 0 ≤ j) fun i j => i / 2 ^ j.toNat
def oOr : Op2 := oI CT fun i j => Builtin.bitOr i j
def oAndB : Op2 := oI CT fun i j => Builtin.bitAnd i j
/-- an order: of ints by f, of alike tuples by g -/
def oOrd (f : Int → Int → Bool) (g : PyData → PyData → Bool) : Op2 := fun d e K => match d, e with
  | .int i, .int j => K (.val (.bool (f i j)))
  | .tuple x, .tuple y => PySem.W.alike (.tuple x) (.tuple y) = true ∧ SeqAt.shaped (.tuple x) = true ∧ SeqAt.shaped (.tuple y) = true ∧ K (.val (.bool (g (.tuple x) (.tuple y))))
  | _, _ => False
def oLt : Op2 := oOrd (fun i j => decide (i < j)) (fun d e => PySem.W.dataLt d e)
def oLe : Op2 := oOrd (fun i j => decide (i ≤ j)) (fun d e => !PySem.W.dataLt e d)
def oGt : Op2 := oOrd (fun i j => decide (j < i)) (fun d e => PySem.W.dataLt e d)
def oGe : Op2 := oOrd (fun i j => decide (j ≤ i)) (fun d e => !PySem.W.dataLt d e)
def oEq : Op2 := fun d e K => SeqAt.shaped d = true ∧ SeqAt.shaped e = true ∧ K (.val (.bool (PyData.eqv d e)))
def oNe : Op2 := fun d e K => SeqAt.shaped d = true ∧ SeqAt.shaped e = true ∧ K (.val (.bool (!PyData.eqv d e)))
def isNone : PyData → Bool
  | .none => true
  | _ => false
def oIs : Op2 := fun d e K => match e with
  | .none => K (.val (.bool (isNone d)))
  | .bool b => match d with
    | .bool a => K (.val (.bool (decide (a = b))))
    | _ => False
  | _ => False
def oIsNot : Op2 := fun d e K => match e with
  | .none => K (.val (.bool (!isNone d)))
  | .bool b => match d with
    | .bool a => K (.val (.bool (!decide (a = b))))
    | _ => False
  | _ => False
def oIn (neg : Bool) : Op2 := fun d e K => match e with
  | .list ds => SeqAt.shaped d = true ∧ SeqAt.shaped (.list ds) = true ∧ K (.val (.bool (if neg then !ds.any fun z => PyData.eqv z d else ds.any fun z => PyData.eqv z d)))
  | .tuple ds => SeqAt.shaped d = true ∧ SeqAt.shaped (.tuple ds) = true ∧ K (.val (.bool (if neg then !ds.any fun z => PyData.eqv z d else ds.any fun z => PyData.eqv z d)))
  | _ => False

mutual
theorem dp_of {K : PySem.W.Frag} {H : Hp} : ∀ (d : PyData) (v : V), Rp K H v d → d.canLay0 = true → Dp K H v d
  | .none, _, h, _ => by cases h; exact .non
  | .bool b, _, h, _ => by cases h; exact .bl b
  | .int b, _, h, _ => by cases h; exact .int b
  | .str b, _, h, _ => by cases h; exact .str b
  | .list ds, _, h, c => by
    cases h with
    | lst a b => exact .lst a (dpAll_of ds _ b (by simpa [PyData.canLay0] using c))
  | .tuple ds, _, h, c => by
    cases h with
    | tup a b => exact .tup (SqT.of a) (dpAll_of ds _ b (by simpa [PyData.canLay0] using c))
  | .dict _, _, h, c => by simp [PyData.canLay0] at c
theorem dpAll_of {K : PySem.W.Frag} {H : Hp} : ∀ (ds : List PyData) (vs : List V), RpAll K H vs ds → PyData.canLayAll0 ds = true → DpAll K H vs ds
  | [], _, h, _ => by cases h; exact .nil
  | d :: ds, _, h, c => by
    have c' : d.canLay0 = true ∧ PyData.canLayAll0 ds = true := by simpa [PyData.canLayAll0] using c
    cases h with
    | cons a b => exact .cons (dp_of d _ a c'.1) (dpAll_of ds _ b c'.2)
end
section
variable {K : PySem.W.Frag} {F H : Hp} {v : V} {d : PyData}
theorem Rt.dp (s : Same F H) (h : Rt K F H v d) (c : SeqAt.shaped d = true) : Dp K H v d := dp_of d v (h.h s) (SeqAt.canLay_of_shaped c)
end

section
variable {X : Cx}
/-- a result that changes nothing -/
theorem same_res {B : Bs} {F H : Hp} {env : Ev} {σ : St} {K : PySem.W.Frag} {v : V} {d : PyData} {Kr : Rs → Prop} (R : Rl K B F H env σ) (r : Rp K F v d) (q : Kr (.val d)) : ∃ r F', Rl K B F' H env σ ∧ Fm env σ F H env F' H ∧ Res K B F' H env σ v r ∧ Nw H v r ∧ Kr r :=
  ⟨.val d, F, R, Fm.refl, r, trivial, q⟩
/-- a new list -/
theorem new_lst {B : Bs} {F H : Hp} {env : Ev} {σ : St} {K : PySem.W.Frag} {p : Addr} {vs : List V} {ds : List PyData} {Kr : Rs → Prop} (R : Rl K B F H env σ) (hp : H p = none) (r : RpAll K F vs ds) (q : Kr (.tmp ds)) :
    ∃ r F', Rl K B F' (upd H p (.lst vs)) env σ ∧ Fm env σ F H env F' (upd H p (.lst vs)) ∧ Res K B F' (upd H p (.lst vs)) env σ (.ref p) r ∧ Nw H (.ref p) r ∧ Kr r :=
  ⟨.tmp ds, F, R.lay hp, fm_lay hp, ⟨p, vs, rfl, upd_same, R.freeF hp, R.free0 hp, R.notOwn hp, r⟩, fun q e => by cases e; exact hp, q⟩
/-- a new tuple -/
theorem new_tup {B : Bs} {F H : Hp} {env : Ev} {σ : St} {K : PySem.W.Frag} {p : Addr} {vs : List V} {ds : List PyData} {Kr : Rs → Prop} (R : Rl K B F H env σ) (hp : H p = none) (r : RpAll K F vs ds) (q : Kr (.val (.tuple ds))) :
    ∃ r F', Rl K B F' (upd H p (.tup vs)) env σ ∧ Fm env σ F H env F' (upd H p (.tup vs)) ∧ Res K B F' (upd H p (.tup vs)) env σ (.ref p) r ∧ Nw H (.ref p) r ∧ Kr r :=
  ⟨.val (.tuple ds), upd F p (.tup vs), R.layF hp, R.fmLayF hp, .tup upd_same (RpAll.mono (fun b x e => by rw [upd_ne (ne_of_none e (R.freeF hp))]; exact e) _ _ r), trivial, q⟩

def rCatL (K : PySem.W.Frag) : R2 := fun x y H Q => ∃ l b xs zs, x = .ref l ∧ y = .ref b ∧ SqL K H l xs ∧ SqL K H b zs ∧ xs.length + zs.length ≤ sizeLine ∧ ∀ p, H p = none → Q (.ref p) (upd H p (.lst (xs ++ zs)))
theorem op_catL : OpR X (binaryOp .Add) (rCatL X.K) := by
  intro pins s σ H x y v u Q I rx ry h
  obtain ⟨l, b, xs, zs, rfl, rfl, hH, hB, hz, q⟩ := h
  cases rx
  cases ry
  obtain ⟨its, r, ⟨⟨cls, dd, data, sl⟩, n, ho, hc, hdn, hd⟩, hl⟩ := I.list hH
  obtain ⟨its2, r2, ⟨⟨cls2, dd2, data2, sl2⟩, n2, ho2, hc2, hdn2, hd2⟩, hl2⟩ := I.list hB
  simp only at hc hd hc2 hd2
  subst hc hd hc2 hd2
  have e1 := r.length
  have e2 := r2.length
  refine concat_meets ⟨_, ho, rfl⟩ ⟨_, ho2, rfl⟩ noFill_list_add seq_list_add PySem.F.slot_list_add PySem.F.entry_list_add (PySem.F.args_list_add_2 _ _) (list_addW l b its.toArray its2.toArray n n2 dd dd2 sl sl2 (by rw [List.size_toArray, List.size_toArray]; omega)) ⟨ho, ho2, ?_⟩
  have ea : its.toArray ++ its2.toArray = (its ++ its2).toArray := by simp
  rw [ea]
  exact ⟨.ref _, _, I.lnew (t' := s.toks) (r.append r2) (by rw [List.length_append]; omega), rfl, q _ I.fresh⟩
theorem opr_run {f : Value → Value → Sem Value} {r : R2} (ho : OpR X f r) {B : Bs} {F : Hp} {env : Ev} {pins : List (Addr × Obj)} {s : Shared} {σ : St} {H : Hp} {x y : V} {v u : Value} {Kr : Rs → Prop} (I : Inv X pins σ H s) (rx : RelV x v) (ry : RelV y u)
    (h : r x y H (fun v H' => ∃ r F', Rl X.K B F' H' env σ ∧ Fm env σ F H env F' H' ∧ Res X.K B F' H' env σ v r ∧ Nw H v r ∧ Kr r)) : wpAny (model X.prog X.w) X.A (f v u) (RP X B pins σ F H env Kr) X.xe s :=
  thn (ho pins s σ H x y v u _ I rx ry h) fun w s1 ⟨v', H', I', rv, r, F', h1, h2, h3, h4, h5⟩ => ⟨v', r, F', H', I', rv, h1, h2, h3, h4, h5⟩
theorem dop_add : DOp X (binaryOp .Add) oAdd := by
  refine ⟨fun B F env pins s σ H x y v u d e Kr I rx ry R hx hy q => ?_⟩
  unfold oAdd at q
  split at q
  · rename_i i j
    obtain rfl := hx.int
    obtain rfl := hy.int
    exact opr_run op_add I rx ry ⟨_, _, rfl, rfl, same_res R (.int _) q⟩
  · rename_i i j
    obtain rfl := hx.str
    obtain rfl := hy.str
    exact opr_run op_add_str I rx ry ⟨_, _, rfl, rfl, q.1, same_res R (.str _) q.2⟩
  · rename_i i j
    obtain ⟨a, xs, rfl, h1, h2⟩ := hx.list R.sub
    obtain ⟨b, ys, rfl, h3, h4⟩ := hy.list R.sub
    have e1 := h2.length
    have e2 := h4.length
    exact opr_run op_catL I rx ry ⟨_, _, _, _, rfl, rfl, h1, h3, by omega, fun p hp => new_lst R hp (h2.append h4) q.2⟩
  · rename_i i j
    obtain ⟨a, xs, rfl, h1, h2⟩ := hx.tuple R.sub
    obtain ⟨b, ys, rfl, h3, h4⟩ := hy.tuple R.sub
    have e1 := h2.length
    have e2 := h4.length
    refine opr_run op_catA I rx ry ⟨_, _, _, _, rfl, rfl, h1, h3, by omega, fun ex => ?_, fun nx ey => ?_, fun nx ny p hp => new_tup R hp (h2.append h4) q.2⟩
    · subst ex
      cases h2
      rcases hy with hy | ⟨_, _, _, _, z, _⟩
      · exact same_res R hy (by simpa using q.2)
      · cases z
    · subst ey
      cases h4
      rcases hx with hx | ⟨_, _, _, _, z, _⟩
      · exact same_res R hx (by simpa using q.2)
      · cases z
  · exact q.elim
theorem dop_I {f : Value → Value → Sem Value} {C : Int → Int → Prop} {g : Int → Int → Int} (h : OpR X f (rI C fun i j => .int (g i j))) : DOp X f (oI C g) := by
  refine ⟨fun B F env pins s σ H x y v u d e Kr I rx ry R hx hy q => ?_⟩
  unfold oI at q
  split at q
  · obtain rfl := hx.int
    obtain rfl := hy.int
    exact opr_run h I rx ry ⟨_, _, rfl, rfl, q.1, same_res R (.int _) q.2⟩
  · exact q.elim
theorem dop_sub : DOp X (binaryOp .Sub) oSub := by
  refine ⟨fun B F env pins s σ H x y v u d e Kr I rx ry R hx hy q => ?_⟩
  unfold oSub at q
  split at q
  · obtain rfl := hx.int
    obtain rfl := hy.int
    exact opr_run op_sub I rx ry ⟨_, _, rfl, rfl, same_res R (.int _) q⟩
  · exact q.elim
theorem dop_mul : DOp X (binaryOp .Mult) oMul := dop_I op_mulX
theorem dop_fdiv : DOp X (binaryOp .FloorDiv) oFdiv := dop_I op_fdivW
theorem dop_mod : DOp X (binaryOp .Mod) oMod := dop_I op_mod
theorem dop_pow : DOp X (binaryOp .Pow) oPow := dop_I op_pow
theorem dop_shl : DOp X (binaryOp .LShift) oShl := dop_I op_shlW
theorem room_sh {A : Around} {d e : PyData} (hu : A.units + 65 < cLine) (h : SeqAt.shaped d = true) : A.units + min d.depth e.depth < cLine := by
  have h1 := SeqAt.depth_of_shaped h
  have h2 : min d.depth e.depth ≤ d.depth := Nat.min_le_left _ _
  omega
theorem dop_ord {op : CmpOp} {f : Int → Int → Bool} {g : PyData → PyData → Bool} (h1 : OpR X (compareOp op) (rI0 fun i j => .bl (f i j)))
    (h2 : ∀ (s : Shared) (a b : Value) (da db : PyData) (as bs : List Addr) (Q : Value → Shared → Prop), Reads s.heap a da as → Reads s.heap b db bs → PySem.W.alike da db = true → da ≠ .none → SeqAt.shaped da = true → Q (.bool (g da db)) s → wpAny (model X.prog X.w) X.A (compareOp op a b) Q X.xe s) :
    DOp X (compareOp op) (oOrd f g) := by
  refine ⟨fun B F env pins s σ H x y v u d e Kr I rx ry R hx hy q => ?_⟩
  unfold oOrd at q
  split at q
  · obtain rfl := hx.int
    obtain rfl := hy.int
    exact opr_run h1 I rx ry ⟨_, _, rfl, rfl, same_res R (.bl _) q⟩
  · obtain ⟨q1, q2, q3, q4⟩ := q
    obtain ⟨as, r1⟩ := Dp.reads I _ x v (hx.dp R.sub q2) rx
    obtain ⟨bs, r2⟩ := Dp.reads I _ y u (hy.dp R.sub q3) ry
    exact h2 s v u _ _ as bs _ r1 r2 q1 (fun z => by cases z) q2 ⟨.bl _, .val (.bool _), F, H, I, rfl, R, Fm.refl, .bl _, trivial, q4⟩
  · exact q.elim
theorem dop_lt (hu : X.A.units + 65 < cLine) : DOp X (compareOp .Lt) oLt := dop_ord op_lt fun s a b da db as bs Q r1 r2 h n sh q => PySem.W.lt_data r1 r2 h n (room_sh hu sh) q
theorem dop_le (hu : X.A.units + 65 < cLine) : DOp X (compareOp .LtE) oLe := dop_ord op_le fun s a b da db as bs Q r1 r2 h n sh q => PySem.W.le_data r1 r2 h n (room_sh hu sh) q
theorem dop_gt (hu : X.A.units + 65 < cLine) : DOp X (compareOp .Gt) oGt := dop_ord op_gt fun s a b da db as bs Q r1 r2 h n sh q => PySem.W.gt_data r1 r2 h n (room_sh hu sh) q
theorem dop_ge (hu : X.A.units + 65 < cLine) : DOp X (compareOp .GtE) oGe := dop_ord op_ge fun s a b da db as bs Q r1 r2 h n sh q => PySem.W.ge_data r1 r2 h n (room_sh hu sh) q
theorem dop_eq (hu : X.A.units + 65 < cLine) : DOp X (compareOp .Eq) oEq := by
  refine ⟨fun B F env pins s σ H x y v u d e Kr I rx ry R hx hy q => ?_⟩
  obtain ⟨q1, q2, q3⟩ := q
  exact opr_run (op_eqD (by omega)) I rx ry ⟨_, _, hx.dp R.sub q1, hy.dp R.sub q2, q1, q2, same_res R (.bl _) q3⟩
theorem dop_ne (hu : X.A.units + 65 < cLine) : DOp X (compareOp .NotEq) oNe := by
  refine ⟨fun B F env pins s σ H x y v u d e Kr I rx ry R hx hy q => ?_⟩
  obtain ⟨q1, q2, q3⟩ := q
  exact opr_run (op_neD (by omega)) I rx ry ⟨_, _, hx.dp R.sub q1, hy.dp R.sub q2, q1, q2, same_res R (.bl _) q3⟩
theorem Rt.isNone {K : PySem.W.Frag} {F H : Hp} {v : V} {d : PyData} (h : Rt K F H v d) : decide (v = .non) = Dl.isNone d := by
  rcases h with h | ⟨a, vs, ds, rfl, rfl, _⟩
  · cases h <;> rfl
  · rfl
theorem dop_is : DOp X (compareOp .Is) oIs := by
  refine ⟨fun B F env pins s σ H x y v u d e Kr I rx ry R hx hy q => ?_⟩
  unfold oIs at q
  split at q
  · exact opr_run op_isN I rx ry ⟨hy.none, by rw [hx.isNone]; exact same_res R (.bl _) q⟩
  · split at q
    · obtain rfl := hx.bool
      obtain rfl := hy.bool
      exact opr_run op_is_bl I rx ry ⟨_, _, rfl, rfl, same_res R (.bl _) q⟩
    · exact q.elim
  · exact q.elim
theorem dop_isNot : DOp X (compareOp .IsNot) oIsNot := by
  refine ⟨fun B F env pins s σ H x y v u d e Kr I rx ry R hx hy q => ?_⟩
  unfold oIsNot at q
  split at q
  · exact opr_run op_notN I rx ry ⟨hy.none, by rw [hx.isNone]; exact same_res R (.bl _) q⟩
  · split at q
    · obtain rfl := hx.bool
      obtain rfl := hy.bool
      exact opr_run op_isnot_bl I rx ry ⟨_, _, rfl, rfl, same_res R (.bl _) q⟩
    · exact q.elim
  · exact q.elim
end
end Dl
end L2

/-! The D layer, 4: freezing, argument lists, displays, subscripts, slices, calls of built-ins. -/
namespace L2
namespace Dl
open PySem PySem.Spec PyProof.Rows

/-! ### what is frozen -/
def fz (env : Ev) : Rs → Option (Ev × PyData)
  | .val d => some (env, d)
  | .tmp ds => some (env, .list ds)
  | .slot i => match env[i]? with
    | some (.val d) => some (env, d)
    | some (.own false ds) => some (env.set i (.val (.list ds)), .list ds)
    | _ => none
theorem own_set_val {env : Ev} {i j : Nat} {d : PyData} {l : Bool} {ds : List PyData} (h : (env.set i (.val d))[j]? = some (Sl.own l ds)) : env[j]? = some (Sl.own l ds) := by
  by_cases hj : i = j
  · subst hj
    by_cases hl : i < env.length
    · rw [List.getElem?_set_self hl] at h; cases h
    · rw [List.getElem?_eq_none (by simpa using hl)] at h; cases h
  · rw [List.getElem?_set_ne hj] at h; exact h
theorem dct_set_val {env : Ev} {i j : Nat} {d : PyData} {kv : List (List Int × PyData)} (h : (env.set i (.val d))[j]? = some (Sl.dct kv)) : env[j]? = some (Sl.dct kv) := by
  by_cases hj : i = j
  · subst hj
    by_cases hl : i < env.length
    · rw [List.getElem?_set_self hl] at h; cases h
    · rw [List.getElem?_eq_none (by simpa using hl)] at h; cases h
  · rw [List.getElem?_set_ne hj] at h; exact h
/-- an owned slot is frozen -/
theorem Rl.freezeSlot {K : PySem.W.Frag} {B : Bs} {F H : Hp} {env : Ev} {σ : St} (R : Rl K B F H env σ) {i : Nat} {ds : List PyData} (e : env[i]? = some (Sl.own false ds)) :
    ∃ F' v, σ[i]? = some (some v) ∧ Rl K B F' H (env.set i (.val (.list ds))) σ ∧ Fm env σ F H (env.set i (.val (.list ds))) F' H ∧ Rp K F' v (.list ds) := by
  have s := R.sl i
  rw [e] at s
  obtain ⟨a, vs, h1, h2, h3, h4⟩ := s
  have h0 := R.own0 i ds a e h1
  have s1 : Same F (upd F a (.lst vs)) := fun b x q => by rw [upd_ne (ne_of_none q h3)]; exact q
  have rp : Rp K (upd F a (.lst vs)) (.ref a) (.list ds) := .lst (SqL.of upd_same) (RpAll.mono s1 _ _ h4)
  have il : i < env.length := (List.getElem?_eq_some_iff.mp e).1
  -- the relation
  refine ⟨upd F a (.lst vs), .ref a, h1, ⟨by rw [List.length_set]; exact R.len, fun b x q => ?_, fun j => ?_, fun j k l m ds es a h1 h2 h3 h4 => R.dist j k l m ds es a (own_set_val h1) (own_set_val h2) h3 h4, R.sub0.trans s1, fun b x q => ?_, R.frm, R.dom,
    fun j ds a h1 h2 => R.own0 j ds a (own_set_val h1) h2, fun j ds a h1 h2 => R.own1 j ds a (own_set_val h1) h2, R.lsl, fun j k kv kw a h1 h2 h3 h4 => R.dd j k kv kw a (dct_set_val h1) (dct_set_val h2) h3 h4, fun j kv a h1 h2 => R.d0 j kv a (dct_set_val h1) h2⟩, ⟨fun _ _ h _ => h, s1, fun b x q => ?_, fun j l es h => ⟨es, own_set_val h⟩, fun _ h => h, fun j kv h => ⟨kv, dct_set_val h⟩⟩, rp⟩
  · by_cases hb : b = a
    · subst hb
      rw [upd_same] at q
      cases q
      exact h2
    · rw [upd_ne hb] at q
      exact R.sub b x q
  · by_cases hj : i = j
    · subst hj
      rw [List.getElem?_set_self il]
      exact ⟨.ref a, h1, rp⟩
    · rw [List.getElem?_set_ne hj]
      have sj := R.sl j
      cases q : env[j]? with
      | none => trivial
      | some z =>
        rw [q] at sj
        cases z with
        | un => trivial
        | val d =>
          obtain ⟨v, g1, g2⟩ := sj
          exact ⟨v, g1, Rp.mono s1 _ _ g2⟩
        | own l es =>
          obtain ⟨b, ws, g1, g2, g3, g4⟩ := sj
          refine ⟨b, ws, g1, g2, ?_, RpAll.mono s1 _ _ g4⟩
          rw [upd_ne]
          · exact g3
          · intro z
            subst z
            exact hj (R.dist i j false l ds es b e q h1 g1)
        | dct kv =>
          obtain ⟨b, g1, g2, g3⟩ := sj
          refine ⟨b, g1, g2, ?_⟩
          rw [upd_ne]
          · exact g3
          · intro z
            subst z
            rw [h2] at g2
            cases g2
  · by_cases hb : b = a
    · subst hb
      exact .inr (.inl h0)
    · rw [upd_ne hb] at q
      exact R.new b x q
  · by_cases hb : b = a
    · subst hb
      exact .inr (.inr (.inl ⟨i, false, ds, e, h1⟩))
    · rw [upd_ne hb] at q
      exact .inl q
/-- a result is frozen; the frame from where the result's expression began -/
theorem freeze {K : PySem.W.Frag} {B : Bs} {F F1 H H1 : Hp} {env env1 env2 : Ev} {σ : St} {v : V} {r : Rs} {d : PyData} (R : Rl K B F1 H1 env1 σ) (f : Fm env σ F H env1 F1 H1) (q : Res K B F1 H1 env1 σ v r) (n : Nw H v r) (e : fz env1 r = some (env2, d)) :
    ∃ F2, Rl K B F2 H1 env2 σ ∧ Fm env σ F H env2 F2 H1 ∧ Rp K F2 v d := by
  cases r with
  | val d' =>
    have e' : (env1, d') = (env2, d) := by simpa [fz] using e
    cases e'
    exact ⟨F1, R, f, q⟩
  | slot i =>
    have q' : σ[i]? = some (some v) := q
    simp only [fz] at e
    split at e
    · rename_i d' g
      cases e
      have s := R.sl i
      rw [g] at s
      obtain ⟨w, h1, h2⟩ := s
      rw [q'] at h1
      cases h1
      exact ⟨F1, R, f, h2⟩
    · rename_i ds g
      cases e
      obtain ⟨F2, w, h1, h2, h3, h4⟩ := R.freezeSlot g
      rw [q'] at h1
      cases h1
      exact ⟨F2, h2, f.trans h3, h4⟩
    · cases e
  | tmp ds =>
    have e' : (env1, PyData.list ds) = (env2, d) := by simpa [fz] using e
    cases e'
    obtain ⟨p, vs, rfl, h2, h3, h4, h5, h6⟩ := q
    have s1 : Same F1 (upd F1 p (.lst vs)) := fun b x q => by rw [upd_ne (ne_of_none q h3)]; exact q
    refine ⟨upd F1 p (.lst vs), R.grow h3 h4 h5 h2, ⟨f.keep, f.sub.trans s1, fun b x q => ?_, f.own, f.dom, f.od⟩, .lst (SqL.of upd_same) (RpAll.mono s1 _ _ h6)⟩
    by_cases hb : b = p
    · subst hb
      exact .inr (.inl (.inl (n b rfl)))
    · rw [upd_ne hb] at q
      exact f.new b x q
def wFz (w : WE) (env : Ev) (Kd : Ev → PyData → Prop) (Kx : KXc) : Prop := w env (fun env' r => ∃ p, fz env' r = some p ∧ Kd p.1 p.2) Kx

/-! ### argument lists, held: read at the call -/
abbrev WA := Ev → (Ev → List Rs → Prop) → KXc → Prop
abbrev WF := Ev → (Ev → List PyData → Prop) → KXc → Prop
structure DA (B : Bs) (W : WX) (X : Cx) (es : List Expr) (w : WA) : Prop where
  run : ∀ (pos : Pos) (pins : List (Addr × Obj)) (s : Shared) (σ : St) (F H : Hp) (env : Ev) (Ka : Ev → List Rs → Prop) (Kx : KXc), Inv X pins σ H s → Rl X.K B F H env σ → w env Ka Kx → XC X.K B W Kx →
    wpAny (model X.prog X.w) X.A (spliced (backTo pos (starEach es X.env))) (fun us s' => ∃ vs env' rs F' H', Inv X pins σ H' s' ∧ Vals vs us ∧ Rl X.K B F' H' env' σ ∧ Fm env σ F H env' F' H' ∧ Paired (fun v r => Res X.K B F' H' env' σ v r) vs rs ∧ Ka env' rs) X.xe s
/-- frozen one by one -/
structure DF (B : Bs) (W : WX) (X : Cx) (es : List Expr) (w : WF) : Prop where
  run : ∀ (pos : Pos) (pins : List (Addr × Obj)) (s : Shared) (σ : St) (F H : Hp) (env : Ev) (Ka : Ev → List PyData → Prop) (Kx : KXc), Inv X pins σ H s → Rl X.K B F H env σ → w env Ka Kx → XC X.K B W Kx →
    wpAny (model X.prog X.w) X.A (spliced (backTo pos (starEach es X.env))) (fun us s' => ∃ vs env' ds F' H', Inv X pins σ H' s' ∧ Vals vs us ∧ Rl X.K B F' H' env' σ ∧ Fm env σ F H env' F' H' ∧ RpAll X.K F' vs ds ∧ Ka env' ds) X.xe s
def wANil : WA := fun env Ka _ => Ka env []
def wACons (w : WE) (wr : WA) : WA := fun env Ka Kx => w env (fun env1 r => wr env1 (fun env2 rs => Ka env2 (r :: rs)) Kx) Kx
def wFNil : WF := fun env Ka _ => Ka env []
def wFCons (w : WE) (wr : WF) : WF := fun env Ka Kx => wFz w env (fun env1 d => wr env1 (fun env2 ds => Ka env2 (d :: ds)) Kx) Kx
section
variable {B : Bs} {W : WX} {X : Cx} {e : Expr} {es : List Expr} {w : WE} {wr : WA} {wf : WF} {pos : Pos}
theorem da_nil : DA B W X [] wANil := ⟨fun _ _ _ _ F H env Ka _ I R h _ => Calls.spliced_nil ⟨[], env, [], F, H, I, .nil, R, Fm.refl, .nil, h⟩⟩
theorem da_cons (ha : DE B W X e w) (hr : DA B W X es wr) (hs : starEach (e :: es) X.env = (false, eval e X.env) :: starEach es X.env := by rfl) : DA B W X (e :: es) (wACons w wr) := by
  refine ⟨fun pos pins s σ F H env Ka Kx I R h hx => ?_⟩
  rw [hs]
  show wpAny _ _ (spliced ((false, eval e X.env) :: backTo pos (starEach es X.env))) _ _ s
  refine Calls.spliced_cons (thn (ha.run pins s σ F H env _ Kx I R h hx) fun u s1 ⟨x, env1, r1, F1, H1, I1, rx, R1, f1, q1, n1, h1⟩ => ?_)
  exact thn (hr.run pos pins s1 σ F1 H1 env1 _ Kx I1 R1 h1 hx) fun us s2 ⟨vs, env2, rs, F2, H2, I2, rv, R2, f2, q2, h2⟩ => ⟨x :: vs, env2, r1 :: rs, F2, H2, I2, .cons rx rv, R2, f1.trans f2, .cons (q1.step f2) q2, h2⟩
theorem df_nil : DF B W X [] wFNil := ⟨fun _ _ _ _ F H env Ka _ I R h _ => Calls.spliced_nil ⟨[], env, [], F, H, I, .nil, R, Fm.refl, .nil, h⟩⟩
theorem df_cons (ha : DE B W X e w) (hr : DF B W X es wf) (hs : starEach (e :: es) X.env = (false, eval e X.env) :: starEach es X.env := by rfl) : DF B W X (e :: es) (wFCons w wf) := by
  refine ⟨fun pos pins s σ F H env Ka Kx I R h hx => ?_⟩
  rw [hs]
  show wpAny _ _ (spliced ((false, eval e X.env) :: backTo pos (starEach es X.env))) _ _ s
  refine Calls.spliced_cons (thn (ha.run pins s σ F H env _ Kx I R h hx) fun u s1 ⟨x, env1, r1, F1, H1, I1, rx, R1, f1, q1, n1, p, e1, h1⟩ => ?_)
  obtain ⟨F2, R2, f2, rp⟩ := freeze (env2 := p.1) (d := p.2) R1 f1 q1 n1 e1
  exact thn (hr.run pos pins s1 σ F2 H1 p.1 _ Kx I1 R2 h1 hx) fun us s2 ⟨vs, env2, ds, F3, H3, I3, rv, R3, f3, q3, h3⟩ => ⟨x :: vs, env2, p.2 :: ds, F3, H3, I3, .cons rx rv, R3, f2.trans f3, .cons (Rp.mono f3.sub _ _ rp) q3, h3⟩

/-! ### displays -/
def wTup (wf : WF) : WE := fun env Ke Kx => wf env (fun env' ds => ds.length ≤ sizeLine ∧ Ke env' (.val (.tuple ds))) Kx
def wLst (wf : WF) : WE := fun env Ke Kx => wf env (fun env' ds => ds.length ≤ sizeLine ∧ Ke env' (.tmp ds)) Kx
theorem de_tup {k : Nat} (h : DF B W X es wf) : DE B W X (.Tuple es k pos) (wTup wf) := by
  refine ⟨fun pins s σ F H env Ke Kx I R hq hx => ?_⟩
  refine wpAny_Tuple_spliced (thn (h.run pos pins s σ F H env _ Kx I R hq hx) fun us s1 ⟨vs, env1, ds, F1, H1, I1, rv, R1, f1, q1, z, k1⟩ => ⟨by rw [← rv.length, q1.length]; exact z, ?_⟩)
  have hf : H1 s1.heap.objs.size = none := I1.hok.fresh (Nat.le_refl _)
  obtain ⟨r, F', g1, g2, g3, g4, g5⟩ := new_tup (Kr := Ke env1) R1 hf q1 k1
  exact ⟨.ref s1.heap.objs.size, env1, r, F', upd H1 s1.heap.objs.size (.tup vs), I1.laid (t' := s1.toks) (fun b u e => Heap.get?_push_of_some _ e) (Nat.le_refl _) ⟨by rw [q1.length]; exact z, us, rv, ⟨_, Heap.get?_push_size _ rfl, rfl, _, rfl⟩⟩, rfl, g1, f1.trans g2, g3, g4.up f1.dom, g5⟩
theorem de_lst (h : DF B W X es wf) : DE B W X (.List es pos) (wLst wf) := by
  refine ⟨fun pins s σ F H env Ke Kx I R hq hx => ?_⟩
  refine wpAny_List_spliced (thn (h.run pos pins s σ F H env _ Kx I R hq hx) fun us s1 ⟨vs, env1, ds, F1, H1, I1, rv, R1, f1, q1, z, k1⟩ => ⟨by rw [← rv.length, q1.length]; exact z, ?_⟩)
  have hf : H1 s1.heap.objs.size = none := I1.hok.fresh (Nat.le_refl _)
  obtain ⟨r, F', g1, g2, g3, g4, g5⟩ := new_lst (Kr := Ke env1) R1 hf q1 k1
  exact ⟨.ref s1.heap.objs.size, env1, r, F', upd H1 s1.heap.objs.size (.lst vs), I1.laid (t' := s1.toks) (fun b u e => Heap.get?_push_of_some _ e) (Nat.le_refl _) ⟨by rw [q1.length]; exact z, us, 0, rv, Heap.get?_push_size _ rfl⟩, rfl, g1, f1.trans g2, g3, g4.up f1.dom, g5⟩

/-! ### subscripts -/
def oIx : Op2 := fun d e K => match d, e with
  | .list ds, .int i => ∃ x, atI ds i = some x ∧ K (.val x)
  | .tuple ds, .int i => ∃ x, atI ds i = some x ∧ K (.val x)
  | .str z, .int i => z.length ≤ sizeLine ∧ ∃ c, atI z.cps.toList i = some c ∧ K (.val (.str ⟨#[c]⟩))
  | _, _ => False
theorem RpAll.at {K : PySem.W.Frag} {F : Hp} {vs : List V} {ds : List PyData} {i : Int} {x : PyData} (h : RpAll K F vs ds) (e : atI ds i = some x) : ∃ v, atI vs i = some v ∧ Rp K F v x := by
  unfold atI at e ⊢
  rw [h.length]
  cases q : ixN ds.length i with
  | none => rw [q] at e; cases e
  | some j =>
    rw [q] at e
    exact h.get (i := j) e
theorem de_ix {a b : Expr} {wa wb : WE} (ha : DE B W X a wa) (hb : DE B W X b wb) (hs : PlainIx b := by exact fun _ _ => rfl) : DE B W X (.Subscript a b pos) (wBin oIx wa wb) := by
  refine ⟨fun pins s σ F H env Ke Kx I R h hx => ?_⟩
  refine Subscript_ (thn (ha.run pins s σ F H env _ Kx I R h hx) fun v s1 ⟨x, env1, r1, F1, H1, I1, rx, R1, f1, q1, n1, h1⟩ => ?_)
  refine thn (hb.run pins s1 σ F1 H1 env1 _ Kx I1 R1 h1 hx) fun u s2 ⟨y, env2, r2, F2, H2, I2, ry, R2, f2, q2, n2, h2⟩ => ?_
  obtain ⟨d1, e1, d2, e2, h2⟩ := h2
  have g1 := (q1.step f2).rt R2 e1
  have g2 := q2.rt R2 e2
  have go : ∀ (r : L2.R2), IxR X r → r x y H2 (fun v' H' => ∃ r F', Rl X.K B F' H' env2 σ ∧ Fm env2 σ F2 H2 env2 F' H' ∧ Res X.K B F' H' env2 σ v' r ∧ Nw H2 v' r ∧ Ke env2 r) → wpAny (model X.prog X.w) X.A (subscriptTail a b v u) (DP X B pins σ F H env Ke) X.xe s2 := fun r hr q =>
    thn (hr a b pins s2 σ H2 x y v u _ I2 rx ry q (hs _ _)) fun w s3 ⟨v', H', I', rv, r, F', k1, k2, k3, k4, k5⟩ => (DP.up f2 ⟨v', env2, r, F', H', I', rv, k1, k2, k3, k4, k5⟩).up f1
  unfold oIx at h2
  split at h2
  · obtain ⟨z, e3, k⟩ := h2
    obtain ⟨p, vs, rfl, g3, g4⟩ := g1.list R2.sub
    obtain rfl := g2.int
    obtain ⟨w, e4, rp⟩ := g4.at e3
    exact go _ ix_list ⟨p, vs, _, w, rfl, rfl, g3, e4, same_res R2 rp k⟩
  · obtain ⟨z, e3, k⟩ := h2
    obtain ⟨p, vs, rfl, g3, g4⟩ := g1.tuple R2.sub
    obtain rfl := g2.int
    obtain ⟨w, e4, rp⟩ := g4.at e3
    exact go _ ix_tup ⟨p, vs, _, w, rfl, rfl, g3, e4, same_res R2 rp k⟩
  · obtain ⟨z0, z, e3, k⟩ := h2
    obtain rfl := g1.str
    obtain rfl := g2.int
    exact go _ ix_str ⟨_, _, z, rfl, rfl, z0, e3, same_res R2 (.str _) k⟩
  · exact h2.elim
end
end Dl
end L2

/-! The D layer, 5: slices, calls of built-ins by values. -/
namespace L2
namespace Dl
open PySem PySem.Spec PyProof.Rows

/-! ### slices -/
abbrev WO := Ev → (Ev → Option Int → Prop) → KXc → Prop
structure DO (B : Bs) (W : WX) (X : Cx) (e : Option Expr) (w : WO) : Prop where
  run : ∀ (pins : List (Addr × Obj)) (s : Shared) (σ : St) (F H : Hp) (env : Ev) (Ko : Ev → Option Int → Prop) (Kx : KXc), Inv X pins σ H s → Rl X.K B F H env σ → w env Ko Kx → XC X.K B W Kx →
    wpAny (model X.prog X.w) X.A (evalPart e X.env) (fun u s' => ∃ o env' F' H', Inv X pins σ H' s' ∧ IsPart u o ∧ Rl X.K B F' H' env' σ ∧ Fm env σ F H env' F' H' ∧ Ko env' o) X.xe s
def wONo : WO := fun env Ko _ => Ko env none
def wOSo (w : WE) : WO := fun env Ko Kx => w env (fun env' r => ∃ i, r = .val (.int i) ∧ Ko env' (some i)) Kx
def cutD {α : Type} (ds : List α) (lo hi : Option Int) : List α := (ds.drop (HT.sIx ds.length 0 lo)).take (HT.sIx ds.length ds.length hi - HT.sIx ds.length 0 lo)
def oSl (d : PyData) (lo hi : Option Int) (K : Rs → Prop) : Prop := match d with
  | .list ds => K (.tmp (cutD ds lo hi))
  | .tuple ds => K (.val (.tuple (cutD ds lo hi)))
  | .str z => z.length ≤ sizeLine ∧ K (.val (.str (cutS z lo hi)))
  | _ => False
def wSl (wa : WE) (wl wh : WO) : WE := fun env Ke Kx => wa env (fun env1 r1 => wl env1 (fun env2 lo => wh env2 (fun env3 hi => rdK env3 r1 fun d => oSl d lo hi (Ke env3)) Kx) Kx) Kx
section
variable {B : Bs} {W : WX} {X : Cx} {e : Expr} {w : WE} {lo hi : Option Expr} {wl wh : WO} {pos p2 : Pos}
theorem do_none : DO B W X none wONo := by
  refine ⟨fun pins s σ F H env Ko Kx I R h hx => ?_⟩
  exact thn (po_none.run pins s σ H (fun o H' => H' = H ∧ o = none) I ⟨rfl, rfl⟩) fun u s1 ⟨o, H', I', ip, e1, e2⟩ => by
    subst e1 e2
    exact ⟨none, env, F, _, I', ip, R, Fm.refl, h⟩
/-- from a DE to HandS's PE, for one run -/
theorem DE.pe {a : Expr} {wa : WE} (h : DE B W X a wa) : PE X a (fun σ H Q => ∃ F env Ke Kx, Rl X.K B F H env σ ∧ wa env Ke Kx ∧ XC X.K B W Kx ∧
    ∀ v env' r F' H', Rl X.K B F' H' env' σ → Fm env σ F H env' F' H' → Res X.K B F' H' env' σ v r → Nw H v r → Ke env' r → Q v H') := by
  refine ⟨fun pins s σ H Q I ⟨F, env, Ke, Kx, R, hw, hx, q⟩ => ?_⟩
  exact thn (h.run pins s σ F H env Ke Kx I R hw hx) fun u s1 ⟨v, env', r, F', H', I', rv, h1, h2, h3, h4, h5⟩ => ⟨v, H', I', rv, q v env' r F' H' h1 h2 h3 h4 h5⟩
theorem do_some (h : DE B W X e w) : DO B W X (some e) (wOSo w) := by
  refine ⟨fun pins s σ F H env Ko Kx I R hw hx => ?_⟩
  refine thn ((po_some h.pe).run pins s σ H (fun o H' => ∃ env' F', Rl X.K B F' H' env' σ ∧ Fm env σ F H env' F' H' ∧ Ko env' o) I ⟨F, env, _, Kx, R, hw, hx, fun v env' r F' H' h1 h2 h3 h4 ⟨i, e1, k⟩ => ?_⟩) fun u s1 ⟨o, H', I', ip, env', F', h1, h2, h3⟩ => ⟨o, env', F', H', I', ip, h1, h2, h3⟩
  subst e1
  cases (show Rp X.K F' v (.int i) from h3)
  exact ⟨i, rfl, env', F', h1, h2, k⟩
theorem RpAll.cut {K : PySem.W.Frag} {F : Hp} {vs : List V} {ds : List PyData} (h : RpAll K F vs ds) (lo hi : Option Int) : RpAll K F (cutV vs lo hi) (cutD ds lo hi) := by
  unfold cutV cutD
  rw [h.length]
  exact (h.drop _).take _
theorem cutD_whole {α : Type} {ds : List α} {lo hi : Option Int} (h : HT.sIx ds.length 0 lo = 0 ∧ HT.sIx ds.length ds.length hi = ds.length) : cutD ds lo hi = ds := by
  unfold cutD
  rw [h.1, h.2]
  simp
theorem de_sl (ha : DE B W X e w) (hl : DO B W X lo wl) (hu : DO B W X hi wh) : DE B W X (.Subscript e (.Slice lo hi none p2) pos) (wSl w wl wh) := by
  refine ⟨fun pins s σ F H env Ke Kx I R h hx => ?_⟩
  refine Subscript_ (thn (ha.run pins s σ F H env _ Kx I R h hx) fun v s1 ⟨x, env1, r1, F1, H1, I1, rx, R1, f1, q1, n1, h1⟩ => ?_)
  refine wpAny_Slice (thn (hl.run pins s1 σ F1 H1 env1 _ Kx I1 R1 h1 hx) fun vl s2 ⟨l, env2, F2, H2, I2, pl, R2, f2, h2⟩ => thn (hu.run pins s2 σ F2 H2 env2 _ Kx I2 R2 h2 hx) fun vu s3 ⟨u, env3, F3, H3, I3, pu, R3, f3, d, e3, h3⟩ => ?_)
  rw [evalPart_none]
  refine wpAny_pure ?_
  have g := ((q1.step f2).step f3).rt R3 e3
  have ff := (f1.trans f2).trans f3
  have I4 : Inv X pins σ H3 { s3 with heap := s3.heap.push { cls := .type "slice", data := .fields #[vl, vu, .none] } } := I3.kept (t' := s3.toks) fun b ob q => Heap.get?_push_of_some _ q
  have go : ∀ (r : V → Option Int → Option Int → Hp → VK → Prop), SlR X r → r x l u H3 (fun v' H' => ∃ r F', Rl X.K B F' H' env3 σ ∧ Fm env3 σ F3 H3 env3 F' H' ∧ Res X.K B F' H' env3 σ v' r ∧ Nw H3 v' r ∧ Ke env3 r) →
      wpAny (model X.prog X.w) X.A (subscriptTail e (.Slice lo hi none p2) v (.ref s3.heap.objs.size)) (DP X B pins σ F H env Ke) X.xe { s3 with heap := s3.heap.push { cls := .type "slice", data := .fields #[vl, vu, .none] } } := fun r hr q => by
    obtain ⟨T, id, hT, ht, hg⟩ := hr pins { s3 with heap := s3.heap.push { cls := .type "slice", data := .fields #[vl, vu, .none] } } σ H3 x v vl vu l u s3.heap.objs.size _ I4 rx (Heap.IsSliceOf.new ..) pl pu q
    exact thn (tail_any (ops := [.ref s3.heap.objs.size, v]) ht hT hg (by with_unfolding_all rfl)) fun w s4 ⟨v', H', I', rv, r, F', k1, k2, k3, k4, k5⟩ => DP.up ff ⟨v', env3, r, F', H', I', rv, k1, k2, k3, k4, k5⟩
  show wpAny (model X.prog X.w) X.A (subscriptTail e (.Slice lo hi none p2) v (.ref s3.heap.objs.size)) (DP X B pins σ F H env Ke) X.xe { s3 with heap := s3.heap.push { cls := .type "slice", data := .fields #[vl, vu, .none] } }
  have h3 : oSl d l u (Ke env3) := h3
  unfold oSl at h3
  split at h3
  · obtain ⟨p, vs, rfl, g3, g4⟩ := g.list R3.sub
    exact go _ sl_list ⟨p, vs, rfl, g3, fun p hp => new_lst R3 hp (g4.cut l u) h3⟩
  · obtain ⟨p, vs, rfl, g3, g4⟩ := g.tuple R3.sub
    refine go _ sl_tupA ⟨p, vs, rfl, g3, fun hw => ?_, fun _ p hp => new_tup R3 hp (g4.cut l u) h3⟩
    rcases g with g | ⟨_, _, _, _, z, _⟩
    · rename_i ds _
      rw [g4.length] at hw
      rw [cutD_whole hw] at h3
      exact same_res R3 g h3
    · cases z
  · obtain rfl := g.str
    exact go _ sl_str ⟨_, rfl, h3.1, same_res R3 (.str _) h3.2⟩
  · exact h3.elim
end

/-! ### calls of built-ins -/
abbrev OpN := List PyData → (Rs → Prop) → Prop
inductive RtAll (K : PySem.W.Frag) (F H : Hp) : List V → List PyData → Prop
  | nil : RtAll K F H [] []
  | cons {v : V} {vs : List V} {d : PyData} {ds : List PyData} : Rt K F H v d → RtAll K F H vs ds → RtAll K F H (v :: vs) (d :: ds)
structure DCl (X : Cx) (f : Value) (o : OpN) : Prop where
  run : ∀ (B : Bs) (F : Hp) (env : Ev) (pins : List (Addr × Obj)) (s : Shared) (σ : St) (H : Hp) (xs : List V) (us : List Value) (ds : List PyData) (Kr : Rs → Prop), Inv X pins σ H s → Vals xs us → Rl X.K B F H env σ → RtAll X.K F H xs ds → o ds Kr →
    wpAny (model X.prog X.w) X.A (call f us) (RP X B pins σ F H env Kr) X.xe s
def rdAll (env : Ev) : List Rs → Option (List PyData)
  | [] => some []
  | r :: rs => match rd env r, rdAll env rs with
    | some d, some ds => some (d :: ds)
    | _, _ => none
def wCallB (o : OpN) (wa : WA) : WE := fun env Ke Kx => wa env (fun env' rs => ∃ ds, rdAll env' rs = some ds ∧ o ds (Ke env')) Kx
theorem rts_of {K : PySem.W.Frag} {B : Bs} {F H : Hp} {env : Ev} {σ : St} (R : Rl K B F H env σ) : ∀ {vs : List V} {rs : List Rs} {ds : List PyData}, Paired (fun v r => Res K B F H env σ v r) vs rs → rdAll env rs = some ds → RtAll K F H vs ds
  | _, _, ds, .nil, e => by
    have e' : [] = ds := by simpa [rdAll] using e
    subst e'
    exact .nil
  | _, _, ds, .cons (b := r) (l₂ := rs) h t, e => by
    unfold rdAll at e
    split at e
    · rename_i d es e1 e2
      cases e
      exact .cons (h.rt R e1) (rts_of R t e2)
    · cases e
section
variable {B : Bs} {W : WX} {X : Cx} {x : Str} {p pos : Pos} {e : Expr} {es : List Expr} {wa : WA} {id T : String} {o : OpN}
theorem de_callB (hc : DCl X (.builtin id) o) (ha : DA B W X (e :: es) wa) (hg : Gl X x) (hm : X.mg x = none) (hv : bootBuiltins x = some (.builtin id)) (hn : x ≠ "__name__" := by decide) (hdb : (x == ("__debug__" : Str)) = false := by decide)
    (he : starEach (e :: es) X.env = (false, eval e X.env) :: starEach es X.env := by rfl) (hpl : (backTo pos (starEach es X.env)).any (·.1) = false := by rfl) : DE B W X (.Call (.Name x p) (e :: es) [] pos) (wCallB o wa) := by
  refine ⟨fun pins s σ F H env Ke Kx I R h hx => ?_⟩
  refine wpAny_Call_Name_kw (ld_blt I hg hm hv ?_ hn hdb)
  exact PyProof.Rows.callWith_builtin1 (thn (ha.run pos pins s σ F H env _ Kx I R h hx) fun us s1 ⟨vs, env1, rs, F1, H1, I1, rv, R1, f1, q1, ds, e1, k⟩ => thn (hc.run B F1 env1 pins s1 σ H1 vs us ds _ I1 rv R1 (rts_of R1 q1 e1) k) fun w s2 h2 => h2.dp.up f1) he hpl
theorem de_callTy (hc : DCl X (.type T) o) (ha : DA B W X (e :: es) wa) (hg : Gl X x) (hm : X.mg x = none) (hv : bootBuiltins x = some (.type T)) (hn : x ≠ "__name__" := by decide) (hdb : (x == ("__debug__" : Str)) = false := by decide)
    (he : starEach (e :: es) X.env = (false, eval e X.env) :: starEach es X.env := by rfl) (hpl : (backTo pos (starEach es X.env)).any (·.1) = false := by rfl) : DE B W X (.Call (.Name x p) (e :: es) [] pos) (wCallB o wa) := by
  refine ⟨fun pins s σ F H env Ke Kx I R h hx => ?_⟩
  refine wpAny_Call_Name_kw (ld_blt I hg hm hv ?_ hn hdb)
  exact PyProof.Rows.callWith_type1 (thn (ha.run pos pins s σ F H env _ Kx I R h hx) fun us s1 ⟨vs, env1, rs, F1, H1, I1, rv, R1, f1, q1, ds, e1, k⟩ => thn (hc.run B F1 env1 pins s1 σ H1 vs us ds _ I1 rv R1 (rts_of R1 q1 e1) k) fun w s2 h2 => h2.dp.up f1) he hpl
end
section
variable {X : Cx}
theorem clr_run {f : Value} {r : List V → Hp → VK → Prop} (ho : CallR X f r) {B : Bs} {F : Hp} {env : Ev} {pins : List (Addr × Obj)} {s : Shared} {σ : St} {H : Hp} {xs : List V} {us : List Value} {Kr : Rs → Prop} (I : Inv X pins σ H s) (rx : Vals xs us)
    (h : r xs H (fun v H' => ∃ r F', Rl X.K B F' H' env σ ∧ Fm env σ F H env F' H' ∧ Res X.K B F' H' env σ v r ∧ Nw H v r ∧ Kr r)) : wpAny (model X.prog X.w) X.A (call f us) (RP X B pins σ F H env Kr) X.xe s :=
  thn (ho pins s σ H xs us _ I rx h) fun w s1 ⟨v', H', I', rv, r, F', h1, h2, h3, h4, h5⟩ => ⟨v', r, F', H', I', rv, h1, h2, h3, h4, h5⟩
theorem RtAll.one {K : PySem.W.Frag} {F H : Hp} {vs : List V} {d : PyData} (h : RtAll K F H vs [d]) : ∃ v, vs = [v] ∧ Rt K F H v d := by
  cases h with
  | cons a b => cases b; exact ⟨_, rfl, a⟩
theorem RtAll.two {K : PySem.W.Frag} {F H : Hp} {vs : List V} {d e : PyData} (h : RtAll K F H vs [d, e]) : ∃ v w, vs = [v, w] ∧ Rt K F H v d ∧ Rt K F H w e := by
  cases h with
  | cons a b =>
    obtain ⟨w, rfl, h2⟩ := b.one
    exact ⟨_, w, rfl, a, h2⟩
def oLen : OpN := fun ds K => match ds with
  | [.list xs] => K (.val (.int xs.length))
  | [.tuple xs] => K (.val (.int xs.length))
  | [.str z] => z.length ≤ sizeLine ∧ K (.val (.int z.length))
  | _ => False
theorem dcl_len : DCl X (.builtin "len") oLen := by
  refine ⟨fun B F env pins s σ H xs us ds Kr I rx R hx q => ?_⟩
  unfold oLen at q
  split at q
  · obtain ⟨v, rfl, h⟩ := hx.one
    obtain ⟨a, vs, rfl, h1, h2⟩ := h.list R.sub
    exact clr_run call_len_seq I rx ⟨a, vs, rfl, .inl h1, by rw [h2.length]; exact same_res R (.int _) q⟩
  · obtain ⟨v, rfl, h⟩ := hx.one
    obtain ⟨a, vs, rfl, h1, h2⟩ := h.tuple R.sub
    exact clr_run call_len_seq I rx ⟨a, vs, rfl, .inr h1, by rw [h2.length]; exact same_res R (.int _) q⟩
  · obtain ⟨v, rfl, h⟩ := hx.one
    obtain rfl := h.str
    exact clr_run call_len_str I rx ⟨_, rfl, q.1, same_res R (.int _) q.2⟩
  · exact q.elim
def oInt : OpN := fun ds K => match ds with
  | [.int i] => K (.val (.int i))
  | [.bool b] => K (.val (.int (if b then 1 else 0)))
  | _ => False
theorem dcl_int : DCl X (.type "int") oInt := by
  refine ⟨fun B F env pins s σ H xs us ds Kr I rx R hx q => ?_⟩
  unfold oInt at q
  split at q
  · obtain ⟨v, rfl, h⟩ := hx.one
    obtain rfl := h.int
    exact clr_run call_int1 I rx (.inl ⟨_, rfl, same_res R (.int _) q⟩)
  · obtain ⟨v, rfl, h⟩ := hx.one
    obtain rfl := h.bool
    exact clr_run call_int1 I rx (.inr ⟨_, rfl, same_res R (.int _) q⟩)
  · exact q.elim
def oMax : OpN := fun ds K => match ds with
  | [.int i, .int j] => K (.val (.int (if j > i then j else i)))
  | [.list xs] => ∃ ns : List Int, xs = ns.map .int ∧ 0 < ns.length ∧ ∀ m, m ∈ ns → (∀ n ∈ ns, n ≤ m) → K (.val (.int m))
  | _ => False
def oMin : OpN := fun ds K => match ds with
  | [.int i, .int j] => K (.val (.int (if j < i then j else i)))
  | [.list xs] => ∃ ns : List Int, xs = ns.map .int ∧ 0 < ns.length ∧ ∀ m, m ∈ ns → (∀ n ∈ ns, m ≤ n) → K (.val (.int m))
  | _ => False
theorem dcl_max (hc : X.calm = true) : DCl X (.builtin "max") oMax := by
  refine ⟨fun B F env pins s σ H xs us ds Kr I rx R hx q => ?_⟩
  unfold oMax at q
  split at q
  · obtain ⟨v, w, rfl, h1, h2⟩ := hx.two
    obtain rfl := h1.int
    obtain rfl := h2.int
    exact clr_run (call_max2 hc) I rx ⟨_, _, rfl, same_res R (.int _) q⟩
  · obtain ⟨v, rfl, h⟩ := hx.one
    obtain ⟨ns, rfl, hl, q⟩ := q
    obtain ⟨a, vs, rfl, h1, h2⟩ := h.list R.sub
    have e := h2.ints
    subst e
    exact clr_run (cr_max hc) I rx ⟨a, ns, rfl, h1, hl, fun m hm hle => same_res R (.int _) (q m hm hle)⟩
  · exact q.elim
theorem dcl_min (hc : X.calm = true) : DCl X (.builtin "min") oMin := by
  refine ⟨fun B F env pins s σ H xs us ds Kr I rx R hx q => ?_⟩
  unfold oMin at q
  split at q
  · obtain ⟨v, w, rfl, h1, h2⟩ := hx.two
    obtain rfl := h1.int
    obtain rfl := h2.int
    exact clr_run (call_min2 hc) I rx ⟨_, _, rfl, same_res R (.int _) q⟩
  · obtain ⟨v, rfl, h⟩ := hx.one
    obtain ⟨ns, rfl, hl, q⟩ := q
    obtain ⟨a, vs, rfl, h1, h2⟩ := h.list R.sub
    have e := h2.ints
    subst e
    exact clr_run (cr_min hc) I rx ⟨a, ns, rfl, h1, hl, fun m hm hle => same_res R (.int _) (q m hm hle)⟩
  · exact q.elim
def oSum : OpN := fun ds K => match ds with
  | [.list xs] => ∃ ns : List Int, xs = ns.map .int ∧ K (.val (.int ns.sum))
  | _ => False
theorem dcl_sum (hc : X.calm = true) : DCl X (.builtin "sum") oSum := by
  refine ⟨fun B F env pins s σ H xs us ds Kr I rx R hx q => ?_⟩
  unfold oSum at q
  split at q
  · obtain ⟨v, rfl, h⟩ := hx.one
    obtain ⟨ns, rfl, q⟩ := q
    obtain ⟨a, vs, rfl, h1, h2⟩ := h.list R.sub
    have e := h2.ints
    subst e
    exact clr_run (cr_sum hc) I rx ⟨a, ns, rfl, h1, same_res R (.int _) q⟩
  · exact q.elim
def oAll : OpN := fun ds K => match ds with
  | [.list xs] => ∃ bs : List Bool, xs = bs.map .bool ∧ K (.val (.bool (bs.all id)))
  | _ => False
theorem dcl_all (hc : X.calm = true) : DCl X (.builtin "all") oAll := by
  refine ⟨fun B F env pins s σ H xs us ds Kr I rx R hx q => ?_⟩
  unfold oAll at q
  split at q
  · obtain ⟨v, rfl, h⟩ := hx.one
    obtain ⟨bs, rfl, q⟩ := q
    obtain ⟨a, vs, rfl, h1, h2⟩ := h.list R.sub
    have e := h2.bools
    subst e
    exact clr_run (cr_all hc) I rx ⟨a, bs, rfl, h1, same_res R (.bl _) q⟩
  · exact q.elim
def oList : OpN := fun ds K => match ds with
  | [.list xs] => K (.tmp xs)
  | [.tuple xs] => K (.tmp xs)
  | _ => False
def oTuple : OpN := fun ds K => match ds with
  | [.list xs] => K (.val (.tuple xs))
  | [.tuple xs] => K (.val (.tuple xs))
  | _ => False
theorem dcl_tuple : DCl X (.type "tuple") oTuple := by
  refine ⟨fun B F env pins s σ H xs us ds Kr I rx R hx q => ?_⟩
  unfold oTuple at q
  split at q
  · obtain ⟨v, rfl, h⟩ := hx.one
    obtain ⟨a, vs, rfl, h1, h2⟩ := h.list R.sub
    exact clr_run call_tuple_of I rx ⟨a, vs, rfl, .inl ⟨h1, fun p hp => new_tup R hp h2 q⟩⟩
  · obtain ⟨v, rfl, h⟩ := hx.one
    obtain ⟨a, vs, rfl, h1, h2⟩ := id (h.tuple R.sub)
    rcases h with h | ⟨_, _, _, _, z, _⟩
    · exact clr_run call_tuple_of I rx ⟨a, vs, rfl, .inr ⟨h1, same_res R h q⟩⟩
    · cases z
  · exact q.elim
end

/-! ### isinstance with a built-in class -/
def tyN : PyData → String
  | .none => "NoneType"
  | .bool _ => "bool"
  | .int _ => "int"
  | .str _ => "str"
  | .list _ => "list"
  | .tuple _ => "tuple"
  | .dict _ => "dict"
/-- isinstance(d, T) of the built-in classes asked here -/
def isTy (T : String) (d : PyData) : Bool := tyN d == T || (T == "int" && tyN d == "bool")
def wIsi (T : String) (wa : WE) : WE := fun env Ke Kx => wa env (fun env' r => rdK env' r fun d => Ke env' (.val (.bool (isTy T d)))) Kx
theorem Rt.tyX {K : PySem.W.Frag} {F H : Hp} {v : V} {d : PyData} (s : Same F H) (h : Rt K F H v d) : TyX K H v (.type (tyN d)) := by
  cases d with
  | none => obtain rfl := h.none; exact .base .non
  | bool b => obtain rfl := h.bool; exact .base (.bl b)
  | int b => obtain rfl := h.int; exact .base (.int b)
  | str b => obtain rfl := h.str; exact .base (.str b)
  | list ds =>
    obtain ⟨a, vs, rfl, h1, _⟩ := h.list s
    rcases h1 with (h1 | ⟨o, h1⟩) | ⟨o, its, n, h1, h2, _⟩
    · exact .base (.lst h1)
    · exact .base (.frz h1)
    · exact .kList h1 h2
  | tuple ds =>
    obtain ⟨a, vs, rfl, h1, _⟩ := h.tuple s
    rcases h1 with (h1 | ⟨o, h1⟩) | ⟨o, its, n, h1, h2, _⟩
    · exact .base (.tup h1)
    · exact .fTuple h1
    · exact .kTuple h1 h2
  | dict kvs =>
    obtain ⟨_, a, rfl, h1⟩ := h.dict s
    exact .base (.dK h1)
theorem kit_isTy {T : String} (hT : T = "int" ∨ T = "bool" ∨ T = "tuple" ∨ T = "list" ∨ T = "str") (d : PyData) : kitB (tyN d) T = some (isTy T d) := by
  rcases hT with rfl | rfl | rfl | rfl | rfl <;> cases d <;> simp only [tyN, isTy] <;> decide +kernel
theorem de_isi {B : Bs} {W : WX} {X : Cx} {e : Expr} {w : WE} {T : String} {x : Str} {p p2 pos : Pos} (ha : DE B W X e w) (hg : Gl X "isinstance") (hm : X.mg "isinstance" = none) (hg2 : Gl X x) (hm2 : X.mg x = none) (hv : bootBuiltins x = some (.type T)) (hT : T = "int" ∨ T = "bool" ∨ T = "tuple" ∨ T = "list" ∨ T = "str")
    (hn : x ≠ "__name__" := by decide) (hdb : (x == ("__debug__" : Str)) = false := by decide) (hs : starEach [e, .Name x p2] X.env = (false, eval e X.env) :: starEach [.Name x p2] X.env := by rfl) (hs2 : starEach [.Name x p2] X.env = (false, eval (.Name x p2) X.env) :: starEach [] X.env := by rfl)
    (hpl : (backTo pos (starEach [.Name x p2] X.env)).any (·.1) = false := by rfl) : DE B W X (.Call (.Name "isinstance" p) [e, .Name x p2] [] pos) (wIsi T w) := by
  refine ⟨fun pins s σ F H env Ke Kx I R h hx => ?_⟩
  have hb : PE X (.Name x p2) (tC (.ty T)) := pe_bltn hg2 hm2 hv rfl hn hdb
  have pe := pe_callB (pos := pos) (p := p) (call_isi (X := X)) hg hm (by decide +kernel) (pa_cons ha.pe (pa_cons hb pa_nil hs2) hs) (by decide) (by decide) hs hpl
  refine thn (pe.run pins s σ H (fun v H' => ∃ env' F', Rl X.K B F' H' env' σ ∧ Fm env σ F H env' F' H' ∧ ∃ b, v = .bl b ∧ Ke env' (.val (.bool b))) I ?_) fun u s1 ⟨v, H', I', rv, env', F', h1, h2, b, h3, h4⟩ => by
    subst h3
    exact ⟨_, env', .val (.bool b), F', H', I', rv, h1, h2, .bl b, trivial, h4⟩
  refine ⟨F, env, _, Kx, R, h, hx, fun v env' r F' H' k1 k2 k3 _ ⟨d, e1, k4⟩ => ?_⟩
  exact ⟨v, .ty T, .type (tyN d), .type T, isTy T d, rfl, .ty T, (k3.rt k1 e1).tyX k1.sub, kit_ty (kit_isTy hT d), env', F', k1, k2, isTy T d, rfl, k4⟩
end Dl
end L2

/-! The D layer, 6: what a def promises over data; its call. -/
namespace L2
namespace Dl
open PySem PySem.Spec PyProof.Rows

inductive AV where
  | val (d : PyData)
  | own (ds : List PyData)
inductive Rv where
  | val (d : PyData)
  | own (ds : List PyData)
/-- a promise over data: the arguments; what is wanted of the lent lists' ends and the answer; of them and an exception -/
abbrev Spc := List AV → (List (List PyData) → Rv → Prop) → (List (List PyData) → XD → Prop) → Prop
def lentAs : List V → List AV → List Addr
  | .ref a :: vs, .own _ :: avs => a :: lentAs vs avs
  | _ :: vs, _ :: avs => lentAs vs avs
  | _, _ => []
inductive ArgsR (K : PySem.W.Frag) (F H : Hp) : List V → List AV → Prop
  | nil : ArgsR K F H [] []
  | val {v : V} {vs : List V} {d : PyData} {as : List AV} : Rp K F v d → ArgsR K F H vs as → ArgsR K F H (v :: vs) (.val d :: as)
  | own {a : Addr} {ws vs : List V} {ds : List PyData} {as : List AV} : H a = some (.lst ws) → F a = none → RpAll K F ws ds → ArgsR K F H vs as → ArgsR K F H (.ref a :: vs) (.own ds :: as)
/-- the lent lists at the end -/
def OutsR (K : PySem.W.Frag) (F H : Hp) (as : List Addr) (outs : List (List PyData)) : Prop := Paired (fun a ds => ∃ ws, H a = some (.lst ws) ∧ F a = none ∧ RpAll K F ws ds) as outs
def RvR (K : PySem.W.Frag) (H0 F H : Hp) (v : V) : Rv → Prop
  | .val d => Rp K F v d
  | .own ds => ∃ p ws, v = .ref p ∧ H p = some (.lst ws) ∧ F p = none ∧ H0 p = none ∧ RpAll K F ws ds
structure Aft (K : PySem.W.Frag) (F H : Hp) (ls : List Addr) (F' H' : Hp) (outs : List (List PyData)) : Prop where
  subF : Same F F'
  sub : Same F' H'
  keep : ∀ b x, H b = some x → b ∉ ls → H' b = some x
  dom : ∀ b, H b ≠ none → H' b ≠ none
  new : ∀ b x, F' b = some x → F b = some x ∨ Nw0 H b x
  outs : OutsR K F' H' ls outs
/-- what an exception is, by its class's name -/
def XRm (K : PySem.W.Frag) (mg : Str → Option Value) (F H : Hp) (x : XD) (cls : Value) (d : Option Addr) : Prop :=
  mg x.name = some cls ∧ match d with
    | none => x.fs = []
    | some dx => ∃ fs, F dx = some (.xd fs) ∧ fsR K F fs x.fs
def low (K : PySem.W.Frag) (mg : Str → Option Value) (n : Nat) (S : Spc) : Sp := fun vs H Q E => ∃ F avs Kr Kx, Same F H ∧ ArgsR K F H vs avs ∧ (lentAs vs avs).Nodup ∧ avs.length = n ∧ S avs Kr Kx ∧
  (∀ outs r F' H' v, Aft K F H (lentAs vs avs) F' H' outs → RvR K H F' H' v r → Kr outs r → Q v H') ∧
  (∀ outs x cls d F' H', Aft K F H (lentAs vs avs) F' H' outs → XRm K mg F' H' x cls d → Kx outs x → E cls d H')
theorem ArgsR.length {K : PySem.W.Frag} {F H : Hp} : ∀ {vs : List V} {as : List AV}, ArgsR K F H vs as → vs.length = as.length
  | _, _, .nil => rfl
  | _, _, .val _ t => by rw [List.length_cons, List.length_cons, t.length]
  | _, _, .own _ _ _ t => by rw [List.length_cons, List.length_cons, t.length]

/-! ### argument lists of own defs: frozen ones and lent names -/
inductive Ar where
  | fz (d : PyData)
  | ln (i : Nat)
abbrev WM := Ev → (Ev → List Ar → Prop) → KXc → Prop
def ArR (K : PySem.W.Frag) (F : Hp) (σ : St) (v : V) : Ar → Prop
  | .fz d => Rp K F v d
  | .ln i => σ[i]? = some (some v)
structure DM (B : Bs) (W : WX) (X : Cx) (es : List Expr) (w : WM) : Prop where
  run : ∀ (pos : Pos) (pins : List (Addr × Obj)) (s : Shared) (σ : St) (F H : Hp) (env : Ev) (Ka : Ev → List Ar → Prop) (Kx : KXc), Inv X pins σ H s → Rl X.K B F H env σ → w env Ka Kx → XC X.K B W Kx →
    wpAny (model X.prog X.w) X.A (spliced (backTo pos (starEach es X.env))) (fun us s' => ∃ vs env' as F' H', Inv X pins σ H' s' ∧ Vals vs us ∧ Rl X.K B F' H' env' σ ∧ Fm env σ F H env' F' H' ∧ Paired (fun v a => ArR X.K F' σ v a) vs as ∧ Ka env' as) X.xe s
def wMNil : WM := fun env Ka _ => Ka env []
def wMCons (w : WE) (wr : WM) : WM := fun env Ka Kx => wFz w env (fun env1 d => wr env1 (fun env2 as => Ka env2 (.fz d :: as)) Kx) Kx
def wMLend (i : Nat) (wr : WM) : WM := fun env Ka Kx => wr env (fun env2 as => Ka env2 (.ln i :: as)) Kx
theorem ArR.mono {K : PySem.W.Frag} {F F' : Hp} {σ : St} {v : V} {a : Ar} (s : Same F F') (h : ArR K F σ v a) : ArR K F' σ v a := by
  cases a with
  | fz d => exact Rp.mono s d v h
  | ln i => exact h
section
variable {B : Bs} {W : WX} {X : Cx} {e : Expr} {es : List Expr} {w : WE} {wm : WM} {pos : Pos}
theorem dm_nil : DM B W X [] wMNil := ⟨fun _ _ _ _ F H env Ka _ I R h _ => Calls.spliced_nil ⟨[], env, [], F, H, I, .nil, R, Fm.refl, .nil, h⟩⟩
theorem dm_cons (ha : DE B W X e w) (hr : DM B W X es wm) (hs : starEach (e :: es) X.env = (false, eval e X.env) :: starEach es X.env := by rfl) : DM B W X (e :: es) (wMCons w wm) := by
  refine ⟨fun pos pins s σ F H env Ka Kx I R h hx => ?_⟩
  rw [hs]
  show wpAny _ _ (spliced ((false, eval e X.env) :: backTo pos (starEach es X.env))) _ _ s
  refine Calls.spliced_cons (thn (ha.run pins s σ F H env _ Kx I R h hx) fun u s1 ⟨x, env1, r1, F1, H1, I1, rx, R1, f1, q1, n1, p, e1, h1⟩ => ?_)
  obtain ⟨F2, R2, f2, rp⟩ := freeze (env2 := p.1) (d := p.2) R1 f1 q1 n1 e1
  exact thn (hr.run pos pins s1 σ F2 H1 p.1 _ Kx I1 R2 h1 hx) fun us s2 ⟨vs, env2, as, F3, H3, I3, rv, R3, f3, q3, h3⟩ => ⟨x :: vs, env2, .fz p.2 :: as, F3, H3, I3, .cons rx rv, R3, f2.trans f3, .cons (Rp.mono f3.sub _ _ rp) q3, h3⟩
/-- the slot i holds a list of its own, lent -/
def wLd (i : Nat) (wm : WM) : WM := fun env Ka Kx => (∃ ds l, env[i]? = some (Sl.own l ds)) ∧ wMLend i wm env Ka Kx
/-- a name that holds a list of its own is lent -/
theorem dm_lend (i : Nat) {x : Str} {p : Pos} (hr : DM B W X es wm) (hN : X.N[i]? = some x := by rfl) (hv : Vis X.env.scope x := by first | exact Or.inl rfl | exact Or.inr (Or.inl rfl) | exact Or.inr (Or.inr rfl)) (hd : (x == ("__debug__" : Str)) = false := by decide)
    (hcd : (x == ("__classdict__" : Str)) = false := by decide) (hs : starEach (.Name x p :: es) X.env = (false, eval (.Name x p) X.env) :: starEach es X.env := by rfl) : DM B W X (.Name x p :: es) (wLd i wm) := by
  refine ⟨fun pos pins s σ F H env Ka Kx I R h hx => ?_⟩
  obtain ⟨⟨ds, l, e0⟩, h⟩ := h
  rw [hs]
  show wpAny _ _ (spliced ((false, eval (.Name x p) X.env) :: backTo pos (starEach es X.env))) _ _ s
  have sl := R.sl i
  rw [e0] at sl
  obtain ⟨a, ws, g1, g2, g3, g4⟩ := sl
  refine Calls.spliced_cons (thn ((pe_var hN hv hd hcd).run pins s σ H (fun v H' => H' = H ∧ v = .ref a) I ⟨_, g1, rfl, rfl⟩) fun u s1 ⟨v, H', I', rv, e1, e2⟩ => ?_)
  subst e1 e2
  exact thn (hr.run pos pins s1 σ F _ env _ Kx I' R h hx) fun us s2 ⟨vs, env2, as, F3, H3, I3, rv', R3, f3, q3, h3⟩ => ⟨.ref a :: vs, env2, .ln i :: as, F3, H3, I3, .cons rv rv', R3, f3, .cons g1 q3, h3⟩
end

/-! ### the call -/
/-- the arguments' data now; lent slots -/
def avsOf (env : Ev) : List Ar → Option (List AV)
  | [] => some []
  | .fz d :: as => (avsOf env as).map (.val d :: ·)
  | .ln i :: as => match env[i]? with
    | some (.own _ ds) => (avsOf env as).map (.own ds :: ·)
    | _ => none
def lnsOf : List Ar → List Nat
  | [] => []
  | .fz _ :: as => lnsOf as
  | .ln i :: as => i :: lnsOf as
/-- the lent slots hold their new lists -/
def putOuts (env : Ev) : List Nat → List (List PyData) → Ev
  | i :: is, ds :: outs => putOuts (match env[i]? with
    | some (.own l _) => env.set i (.own l ds)
    | _ => env) is outs
  | _, _ => env
def rsOf : Rv → Rs
  | .val d => .val d
  | .own ds => .tmp ds
def wCall (n : Nat) (S : Spc) (wm : WM) : WE := fun env Ke Kx => wm env (fun env' as => (lnsOf as).Nodup ∧ ∃ avs, avsOf env' as = some avs ∧ avs.length = n ∧ S avs (fun outs r => Ke (putOuts env' (lnsOf as) outs) (rsOf r)) (fun outs x => Kx (putOuts env' (lnsOf as) outs) x)) Kx
/-- a def by its name in the module -/
def Cal (P : Program) (w : World) (K : PySem.W.Frag) (mg : Str → Option Value) (base : Heap) (k : Nat) (x : Str) (n : Nat) (S : Spc) : Prop :=
  ∃ f fd ps, ps.length = n ∧ mg x = some (.ref f) ∧ PySem.W.keepIn K (.ref f) = true ∧ Binds K fd ps [] ∧ FnOk P w K mg base (L2N.CX P w) k f fd ps (low K mg n S)

section
variable {K : PySem.W.Frag} {B : Bs} {F H F' H' : Hp} {env : Ev} {σ : St}
/-- one own slot's list is another -/
theorem putOuts_len (env : Ev) : ∀ (is : List Nat) (outs : List (List PyData)), (putOuts env is outs).length = env.length := by
  intro is
  induction is generalizing env with
  | nil => intro outs; cases outs <;> rfl
  | cons i is ih =>
    intro outs
    cases outs with
    | nil => rfl
    | cons ds outs =>
      show (putOuts _ is outs).length = _
      rw [ih]
      split <;> simp
/-- which lists stand where behind the call -/
theorem putOuts_own : ∀ (is : List Nat) (outs : List (List PyData)) (env : Ev) (j : Nat) (l : Bool) (ds : List PyData), (putOuts env is outs)[j]? = some (Sl.own l ds) →
    ∃ ds0, env[j]? = some (Sl.own l ds0) := by
  intro is
  induction is with
  | nil => intro outs env j l ds h; cases outs <;> exact ⟨ds, h⟩
  | cons i is ih =>
    intro outs env j l ds h
    cases outs with
    | nil => exact ⟨ds, h⟩
    | cons d outs =>
      have h' : (putOuts (match env[i]? with
        | some (.own l _) => env.set i (.own l d)
        | _ => env) is outs)[j]? = some (Sl.own l ds) := h
      obtain ⟨ds0, h1⟩ := ih outs _ j l ds h'
      split at h1
      · rename_i l' ds' e
        by_cases hj : i = j
        · subst hj
          rw [List.getElem?_set_self (List.getElem?_eq_some_iff.mp e).1] at h1
          cases h1
          exact ⟨ds', e⟩
        · rw [List.getElem?_set_ne hj] at h1
          exact ⟨ds0, h1⟩
      · exact ⟨ds0, h1⟩
theorem putOuts_dct : ∀ (is : List Nat) (outs : List (List PyData)) (env : Ev) (j : Nat) (kv : List (List Int × PyData)), (putOuts env is outs)[j]? = some (Sl.dct kv) → env[j]? = some (Sl.dct kv) := by
  intro is
  induction is with
  | nil => intro outs env j kv h; cases outs <;> exact h
  | cons i is ih =>
    intro outs env j kv h
    cases outs with
    | nil => exact h
    | cons d outs =>
      have h' : (putOuts (match env[i]? with
        | some (.own l _) => env.set i (.own l d)
        | _ => env) is outs)[j]? = some (Sl.dct kv) := h
      have h1 := ih outs _ j kv h'
      split at h1
      · rename_i l' ds' e
        by_cases hj : i = j
        · subst hj
          rw [List.getElem?_set_self (List.getElem?_eq_some_iff.mp e).1] at h1
          cases h1
        · rw [List.getElem?_set_ne hj] at h1
          exact h1
      · exact h1
theorem putOuts_val : ∀ (is : List Nat) (outs : List (List PyData)) (env : Ev) (j : Nat) (d : PyData), (putOuts env is outs)[j]? = some (Sl.val d) → env[j]? = some (Sl.val d) := by
  intro is
  induction is with
  | nil => intro outs env j d h; cases outs <;> exact h
  | cons i is ih =>
    intro outs env j d h
    cases outs with
    | nil => exact h
    | cons e outs =>
      have h' : (putOuts (match env[i]? with
        | some (.own l _) => env.set i (.own l e)
        | _ => env) is outs)[j]? = some (Sl.val d) := h
      have h1 := ih outs _ j d h'
      split at h1
      · by_cases hj : i = j
        · subst hj
          rename_i e0
          rw [List.getElem?_set_self (List.getElem?_eq_some_iff.mp e0).1] at h1
          cases h1
        · rw [List.getElem?_set_ne hj] at h1
          exact h1
      · exact h1
theorem putOuts_out : ∀ (is : List Nat) (outs : List (List PyData)) (env : Ev) (j : Nat), j ∉ is → (putOuts env is outs)[j]? = env[j]? := by
  intro is
  induction is with
  | nil => intro outs env j h; cases outs <;> rfl
  | cons i is ih =>
    intro outs env j h
    cases outs with
    | nil => rfl
    | cons e outs =>
      show (putOuts _ is outs)[j]? = _
      rw [ih outs _ j fun z => h (List.mem_cons_of_mem _ z)]
      have hj : i ≠ j := fun z => h (by rw [z]; exact List.mem_cons_self)
      split
      · rw [List.getElem?_set_ne hj]
      · rfl
/-- the lent ones: place, address, list -/
theorem putOuts_at : ∀ (as : List Ar) (vs : List V) (avs : List AV) (outs : List (List PyData)) (env : Ev), Paired (fun v a => ArR K F σ v a) vs as → avsOf env as = some avs → (lnsOf as).Nodup →
    OutsR K F' H' (lentAs vs avs) outs → (∀ (i : Nat) (l : Bool) (ds : List PyData), env[i]? = some (Sl.own l ds) → ∃ a : Addr, σ[i]? = some (some (V.ref a))) → ∀ (j : Nat) (l : Bool) (ds : List PyData), j ∈ lnsOf as → (putOuts env (lnsOf as) outs)[j]? = some (Sl.own l ds) →
      ∃ a ws, σ[j]? = some (some (.ref a)) ∧ a ∈ lentAs vs avs ∧ H' a = some (.lst ws) ∧ F' a = none ∧ RpAll K F' ws ds
  | [], _, _, _, _, _, _, _, _, _, _, _, _, hj, _ => by cases hj
  | .fz d :: as, _, avs, outs, env, .cons (a := v) (l₁ := vs) hp tp, e, nd, ho, hs, j, l, ds, hj, h => by
    simp only [avsOf, Option.map_eq_some_iff] at e
    obtain ⟨avs', e1, rfl⟩ := e
    have hl : lentAs (v :: vs) (.val d :: avs') = lentAs vs avs' := by cases v <;> rfl
    rw [hl] at ho ⊢
    exact putOuts_at as vs avs' outs env tp e1 nd ho hs j l ds hj h
  | .ln i :: as, _, avs, outs, env, .cons (a := v) (l₁ := vs) hp tp, e, nd, ho, hs, j, l, ds, hj, h => by
    simp only [avsOf] at e
    split at e
    · rename_i l0 ds0 e0
      simp only [Option.map_eq_some_iff] at e
      obtain ⟨avs', e1, rfl⟩ := e
      obtain ⟨a, ha⟩ := hs i l0 ds0 e0
      have hv : σ[i]? = some (some v) := hp
      rw [ha] at hv
      cases hv
      have ho' : OutsR K F' H' (a :: lentAs vs avs') outs := ho
      have nd' : i ∉ lnsOf as ∧ (lnsOf as).Nodup := List.nodup_cons.mp nd
      cases ho' with
      | cons ho1 ho2 =>
        rename_i o1 outs'
        have h' : (putOuts (match env[i]? with
          | some (.own l _) => env.set i (.own l o1)
          | _ => env) (lnsOf as) outs')[j]? = some (Sl.own l ds) := h
        rw [e0] at h'
        by_cases hji : j = i
        · subst hji
          rw [putOuts_out _ _ _ _ nd'.1, List.getElem?_set_self (List.getElem?_eq_some_iff.mp e0).1] at h'
          cases h'
          obtain ⟨ws, g1, g2, g3⟩ := ho1
          exact ⟨a, ws, ha, List.mem_cons_self, g1, g2, g3⟩
        · have hj' : j ∈ lnsOf as := by
            rcases List.mem_cons.mp hj with z | z
            · exact absurd z hji
            · exact z
          have ea : avsOf (env.set i (.own l0 o1)) as = some avs' := by
            have gen : ∀ (as : List Ar), i ∉ lnsOf as → avsOf (env.set i (.own l0 o1)) as = avsOf env as := by
              intro as
              induction as with
              | nil => intro _; rfl
              | cons b as ih =>
                intro hn
                cases b with
                | fz d => simp only [avsOf]; rw [ih hn]
                | ln k =>
                  have hk : i ≠ k := fun z => hn (by rw [z]; exact List.mem_cons_self)
                  simp only [avsOf]
                  rw [List.getElem?_set_ne hk, ih fun z => hn (List.mem_cons_of_mem _ z)]
            rw [gen as nd'.1]
            exact e1
          have hs' : ∀ (k : Nat) (l : Bool) (ds : List PyData), (env.set i (.own l0 o1))[k]? = some (Sl.own l ds) → ∃ a : Addr, σ[k]? = some (some (V.ref a)) := by
            intro k l1 ds1 hk
            by_cases hik : i = k
            · subst hik
              exact ⟨a, ha⟩
            · rw [List.getElem?_set_ne hik] at hk
              exact hs k l1 ds1 hk
          obtain ⟨a', ws, g1, g2, g3⟩ := putOuts_at as vs avs' outs' _ tp ea nd'.2 ho2 hs' j l ds hj' h'
          exact ⟨a', ws, g1, List.mem_cons_of_mem _ g2, g3⟩
    · cases e
/-- the arguments as the callee takes them -/
theorem argsR_of (R : Rl K B F H env σ) : ∀ (as : List Ar) (vs : List V) (avs : List AV), Paired (fun v a => ArR K F σ v a) vs as → avsOf env as = some avs → ArgsR K F H vs avs ∧ (∀ a ∈ lentAs vs avs, ∃ i ∈ lnsOf as, σ[i]? = some (some (.ref a)) ∧ ownL env σ a)
  | [], _, avs, .nil, e => by
    simp only [avsOf] at e
    cases e
    exact ⟨.nil, fun a h => by cases h⟩
  | .fz d :: as, _, avs, .cons (a := v) (l₁ := vs) hp tp, e => by
    simp only [avsOf, Option.map_eq_some_iff] at e
    obtain ⟨avs', e1, rfl⟩ := e
    obtain ⟨h1, h2⟩ := argsR_of R as vs avs' tp e1
    have hl : lentAs (v :: vs) (.val d :: avs') = lentAs vs avs' := by cases v <;> rfl
    rw [hl]
    exact ⟨.val hp h1, h2⟩
  | .ln i :: as, _, avs, .cons (a := v) (l₁ := vs) hp tp, e => by
    simp only [avsOf] at e
    split at e
    · rename_i l0 ds0 e0
      simp only [Option.map_eq_some_iff] at e
      obtain ⟨avs', e1, rfl⟩ := e
      obtain ⟨h1, h2⟩ := argsR_of R as vs avs' tp e1
      have s := R.sl i
      rw [e0] at s
      obtain ⟨a, ws, g1, g2, g3, g4⟩ := s
      have hv : σ[i]? = some (some v) := hp
      rw [g1] at hv
      cases hv
      refine ⟨.own g2 g3 g4 h1, fun b hb => ?_⟩
      rcases List.mem_cons.mp hb with z | z
      · subst z
        exact ⟨i, List.mem_cons_self, g1, i, l0, ds0, e0, g1⟩
      · obtain ⟨k, h3, h4⟩ := h2 b z
        exact ⟨k, List.mem_cons_of_mem _ h3, h4⟩
    · cases e
theorem lent_nodup (R : Rl K B F H env σ) : ∀ (as : List Ar) (vs : List V) (avs : List AV), Paired (fun v a => ArR K F σ v a) vs as → avsOf env as = some avs → (lnsOf as).Nodup → (lentAs vs avs).Nodup
  | [], _, avs, .nil, e, _ => by
    simp only [avsOf] at e
    cases e
    exact List.Pairwise.nil
  | .fz d :: as, _, avs, .cons (a := v) (l₁ := vs) hp tp, e, nd => by
    simp only [avsOf, Option.map_eq_some_iff] at e
    obtain ⟨avs', e1, rfl⟩ := e
    have hl : lentAs (v :: vs) (.val d :: avs') = lentAs vs avs' := by cases v <;> rfl
    rw [hl]
    exact lent_nodup R as vs avs' tp e1 nd
  | .ln i :: as, _, avs, .cons (a := v) (l₁ := vs) hp tp, e, nd => by
    simp only [avsOf] at e
    split at e
    · rename_i l0 ds0 e0
      simp only [Option.map_eq_some_iff] at e
      obtain ⟨avs', e1, rfl⟩ := e
      have s := R.sl i
      rw [e0] at s
      obtain ⟨a, ws, g1, g2, g3, g4⟩ := s
      have hv : σ[i]? = some (some v) := hp
      rw [g1] at hv
      cases hv
      have nd' : i ∉ lnsOf as ∧ (lnsOf as).Nodup := List.nodup_cons.mp nd
      refine List.nodup_cons.mpr ⟨fun hm => ?_, lent_nodup R as vs avs' tp e1 nd'.2⟩
      obtain ⟨k, h1, h2, k', l', ds', h3, h4⟩ := (argsR_of R as vs avs' tp e1).2 a hm
      -- k is a lent slot of the rest with the same address
      have own_k : ∃ l ds, env[k]? = some (Sl.own l ds) := by
        clear nd nd' h2
        have gen : ∀ (as : List Ar) (avs : List AV), avsOf env as = some avs → k ∈ lnsOf as → ∃ l ds, env[k]? = some (Sl.own l ds) := by
          intro as
          induction as with
          | nil => intro _ _ h; cases h
          | cons b as ih =>
            intro avs e h
            cases b with
            | fz d =>
              simp only [avsOf, Option.map_eq_some_iff] at e
              obtain ⟨avs', e1, _⟩ := e
              exact ih avs' e1 h
            | ln m =>
              simp only [avsOf] at e
              split at e
              · rename_i l1 d1 e5
                simp only [Option.map_eq_some_iff] at e
                obtain ⟨avs', e1, _⟩ := e
                rcases List.mem_cons.mp h with z | z
                · subst z
                  exact ⟨l1, d1, e5⟩
                · exact ih avs' e1 z
              · cases e
        exact gen as avs' e1 h1
      obtain ⟨l2, ds2, e2⟩ := own_k
      have hik := R.dist i k l0 l2 ds0 ds2 a e0 e2 g1 h2
      subst hik
      exact nd'.1 h1
    · cases e
/-- behind the call -/
theorem rl_after (R : Rl K B F H env σ) {as : List Ar} {vs : List V} {avs : List AV} {outs : List (List PyData)} (hp : Paired (fun v a => ArR K F σ v a) vs as) (e : avsOf env as = some avs) (nd : (lnsOf as).Nodup) (a : Aft K F H (lentAs vs avs) F' H' outs) :
    Rl K B F' H' (putOuts env (lnsOf as) outs) σ ∧ Fm env σ F H (putOuts env (lnsOf as) outs) F' H' := by
  obtain ⟨h1, h2⟩ := argsR_of R as vs avs hp e
  have hs : ∀ (i : Nat) (l : Bool) (ds : List PyData), env[i]? = some (Sl.own l ds) → ∃ a : Addr, σ[i]? = some (some (V.ref a)) := fun i l ds h => by
    have s := R.sl i
    rw [h] at s
    obtain ⟨a, ws, g1, _⟩ := s
    exact ⟨a, g1⟩
  have lentOwn : ∀ b, b ∈ lentAs vs avs → ownL env σ b := fun b hb => by
    obtain ⟨i, _, _, h⟩ := h2 b hb
    exact h
  have lentH0 : ∀ b, b ∈ lentAs vs avs → B.H0 b = none ∨ ∃ p ∈ B.lent, p.2 = b := fun b hb => by
    obtain ⟨i, l, ds, g1, g2⟩ := lentOwn b hb
    cases l with
    | false => exact .inl (R.own0 i ds b g1 g2)
    | true => exact .inr (R.own1 i ds b g1 g2)
  -- an own slot that is not lent keeps its list
  refine ⟨⟨by rw [putOuts_len]; exact R.len, a.sub, fun j => ?_, fun i j l m ds es b h3 h4 h5 h6 => ?_, R.sub0.trans a.subF, fun b x h => ?_, fun b x h n => ?_, fun b h => a.dom b (R.dom b h), fun i ds b h3 h4 => ?_, fun i ds b h3 h4 => ?_, R.lsl, fun i j kv kw b h3 h4 h5 h6 => R.dd i j kv kw b (putOuts_dct _ _ _ _ _ h3) (putOuts_dct _ _ _ _ _ h4) h5 h6, fun i kv b h3 h4 => R.d0 i kv b (putOuts_dct _ _ _ _ _ h3) h4⟩,
    ⟨fun b x h n => a.keep b x h fun z => n (.inl (lentOwn b z)), a.subF, fun b x h => ?_, fun i l ds h => putOuts_own _ _ _ i l ds h, a.dom, fun i kv h => ⟨kv, putOuts_dct _ _ _ _ _ h⟩⟩⟩
  · cases q : (putOuts env (lnsOf as) outs)[j]? with
    | none => trivial
    | some z =>
      cases z with
      | un => trivial
      | val d =>
        have q' := putOuts_val _ _ _ j d q
        have s := R.sl j
        rw [q'] at s
        obtain ⟨v, g1, g2⟩ := s
        exact ⟨v, g1, Rp.mono a.subF _ _ g2⟩
      | own l ds =>
        by_cases hj : j ∈ lnsOf as
        · obtain ⟨b, ws, g1, _, g3, g4, g5⟩ := putOuts_at as vs avs outs env hp e nd a.outs hs j l ds hj q
          exact ⟨b, ws, g1, g3, g4, g5⟩
        · rw [putOuts_out _ _ _ _ hj] at q
          have s := R.sl j
          rw [q] at s
          obtain ⟨b, ws, g1, g2, g3, g4⟩ := s
          have nb : b ∉ lentAs vs avs := fun z => by
            obtain ⟨k, hk, gk, k', l', ds', ek, gk'⟩ := h2 b z
            have e1 := R.dist j k' l l' ds ds' b q ek g1 gk'
            -- k itself is own
            have ok : ∃ l ds, env[k]? = some (Sl.own l ds) := by
              have gen : ∀ (as : List Ar) (avs : List AV), avsOf env as = some avs → k ∈ lnsOf as → ∃ l ds, env[k]? = some (Sl.own l ds) := by
                intro as
                induction as with
                | nil => intro _ _ h; cases h
                | cons b as ih =>
                  intro avs e h
                  cases b with
                  | fz d =>
                    simp only [avsOf, Option.map_eq_some_iff] at e
                    obtain ⟨avs', e1, _⟩ := e
                    exact ih avs' e1 h
                  | ln m =>
                    simp only [avsOf] at e
                    split at e
                    · rename_i l1 d1 e5
                      simp only [Option.map_eq_some_iff] at e
                      obtain ⟨avs', e1, _⟩ := e
                      rcases List.mem_cons.mp h with z | z
                      · subst z
                        exact ⟨l1, d1, e5⟩
                      · exact ih avs' e1 z
                    · cases e
              exact gen as avs e hk
            obtain ⟨l2, ds2, e2⟩ := ok
            have e3 := R.dist j k l l2 ds ds2 b q e2 g1 gk
            exact hj (e3 ▸ hk)
          refine ⟨b, ws, g1, a.keep b _ g2 nb, ?_, RpAll.mono a.subF _ _ g4⟩
          cases z : F' b with
          | none => rfl
          | some x =>
            rcases a.new b x z with y | y | ⟨ys, rfl⟩
            · rw [g3] at y; cases y
            · rw [g2] at y; cases y
            · have y := a.sub b _ z
              rw [a.keep b _ g2 nb] at y; cases y
      | dct kv =>
        have q' := putOuts_dct _ _ _ j kv q
        have s := R.sl j
        rw [q'] at s
        obtain ⟨b, g1, g2, g3⟩ := s
        have nb : b ∉ lentAs vs avs := fun z => by
          obtain ⟨k', l', ds', ek, gk'⟩ := lentOwn b z
          have s2 := R.sl k'
          rw [ek] at s2
          obtain ⟨c, ws, w1, w2, _⟩ := s2
          rw [gk'] at w1
          cases w1
          rw [g2] at w2
          cases w2
        refine ⟨b, g1, a.keep b _ g2 nb, ?_⟩
        cases z : F' b with
        | none => rfl
        | some x =>
          rcases a.new b x z with y | y | ⟨ys, rfl⟩
          · rw [g3] at y; cases y
          · rw [g2] at y; cases y
          · have y := a.sub b _ z
            rw [a.keep b _ g2 nb] at y; cases y
  · obtain ⟨d1, h7⟩ := putOuts_own _ _ _ i l ds h3
    obtain ⟨d2, h8⟩ := putOuts_own _ _ _ j m es h4
    exact R.dist i j l m d1 d2 b h7 h8 h5 h6
  · rcases a.new b x h with z | z
    · exact R.new b x z
    · exact .inr (z.elim (fun z => .inl (R.free0 z)) .inr)
  · refine a.keep b x (R.frm b x h n) fun z => ?_
    rcases lentH0 b z with g | ⟨p, g1, g2⟩
    · rw [h] at g; cases g
    · exact n p g1 g2
  · obtain ⟨d1, h7⟩ := putOuts_own _ _ _ i false ds h3
    exact R.own0 i d1 b h7 h4
  · obtain ⟨d1, h7⟩ := putOuts_own _ _ _ i true ds h3
    exact R.own1 i d1 b h7 h4
  · rcases a.new b x h with z | z
    · exact .inl z
    · cases q : H b with
      | none => exact .inr (.inl (.inl q))
      | some y =>
        by_cases hb : b ∈ lentAs vs avs
        · obtain ⟨k', l', ds', ek, gk'⟩ := lentOwn b hb
          exact .inr (.inr (.inl ⟨k', l', ds', ek, gk'⟩))
        · rcases z with z | z
          · rw [q] at z; cases z
          · have y1 := a.sub b _ h
            rw [a.keep b _ q hb] at y1
            exact .inr (.inl (.inr ⟨q.trans y1, z⟩))
end

section
variable {B : Bs} {W : WX} {X : Cx} {k n : Nat} {x : Str} {S : Spc} {e : Expr} {es : List Expr} {wm : WM} {p pos : Pos}
/-- f(e, ..) -/
theorem de_call (C : Cal X.prog X.w X.K X.mg X.base k x n S) (hr : Room k X.A) (hB : B.mg = X.mg) (tk : L2N.Takes X W) (ha : DM B W X (e :: es) wm) (hg : Gl X x := by rfl) (hdb : (x == ("__debug__" : Str)) = false := by decide)
    (he : starEach (e :: es) X.env = (false, eval e X.env) :: starEach es X.env := by rfl) (hpl : (backTo pos (starEach es X.env)).any (·.1) = false := by rfl) : DE B W X (.Call (.Name x p) (e :: es) [] pos) (wCall n S wm) := by
  obtain ⟨f, fd, ps, hpn, hm, hk, hb, Fk⟩ := C
  refine ⟨fun pins s σ F H env Ke Kx I R h hx => ?_⟩
  refine wpAny_Call_Name_kw (ld_glob I hg hm ?_ hdb)
  refine PySem.W.callWith_K (h₀ := X.base) I.ok.mod.kin hk (thn (ha.run pos pins s σ F H env _ Kx I R h hx) fun us s1 ⟨vs, env1, as, F1, H1, I1, rv, R1, f1, q1, nd, avs, e1, hlen, hS⟩ => ⟨I1.kIn, ?_⟩) he hpl
  obtain ⟨g1, g2⟩ := argsR_of R1 as vs avs q1 e1
  refine thn (run_fnSD (E := fun σ cls d H' => W cls d σ H') (dvs := []) Fk hr hb .nil (fun pins H s e s' I hc => tk e s' (L2N.XE.of_call (W := W) I (fun cls d H' q => q) hc)) I1 rv (Q := fun v H' => ∃ outs r F', Rl X.K B F' H' (putOuts env1 (lnsOf as) outs) σ ∧ Fm env1 σ F1 H1 (putOuts env1 (lnsOf as) outs) F' H' ∧ RvR X.K H1 F' H' v r ∧ Ke (putOuts env1 (lnsOf as) outs) (rsOf r)) ?_) fun u s2 ⟨v, H', I', rv', outs, r, F', k1, k2, k3, k4⟩ => ?_
  · rw [List.append_nil]
    refine ⟨F1, avs, _, _, R1.sub, g1, lent_nodup R1 as vs avs q1 e1 nd, hlen, hS, fun outs r F' H' v a hv hk => ?_, fun outs y cls d F' H' a hy hk => ?_⟩
    · obtain ⟨r1, r2⟩ := rl_after R1 q1 e1 nd a
      exact ⟨outs, r, F', r1, r2, hv, hk⟩
    · obtain ⟨r1, r2⟩ := rl_after R1 q1 e1 nd a
      refine hx σ _ y cls d F' H' hk r1 ?_
      obtain ⟨z1, z2⟩ := hy
      refine ⟨by rw [hB]; exact z1, z2⟩
  · refine DP.up f1 ⟨v, _, rsOf r, F', H', I', rv', k1, k2, ?_, ?_, k4⟩
    · cases r with
      | val d => exact k3
      | own ds =>
        obtain ⟨p, ws, e3, e4, e5, e6, e7⟩ := k3
        refine ⟨p, ws, e3, e4, e5, R1.free0 e6, fun z => ?_, e7⟩
        have z : ownAt env1 σ p := by
          rcases z with ⟨i, l, ds', z1, z2⟩ | ⟨i, kv, z1, z2⟩
          · obtain ⟨d1, z3⟩ := putOuts_own _ _ _ i l ds' z1
            exact .inl ⟨i, l, d1, z3, z2⟩
          · exact .inr ⟨i, kv, putOuts_dct _ _ _ _ _ z1, z2⟩
        obtain ⟨ws', z4, _⟩ := R1.ownH z
        rw [e6] at z4
        cases z4
    · cases r with
      | val d => trivial
      | own ds =>
        obtain ⟨p, ws, e3, e4, e5, e6, e7⟩ := k3
        intro q hq
        rw [e3] at hq
        cases hq
        exact e6
end
end Dl
end L2

/-! The D layer, 7: statements. -/
namespace L2
namespace Dl
open PySem PySem.Spec PyProof.Rows

structure Ken where
  nx : Ev → Prop
  rt : Ev → Rs → Prop
  bk : Ev → Prop
  ct : Ev → Prop
  ex : KXc
abbrev WS := Ev → Ken → Prop
def SPD (X : Cx) (B : Bs) (pins : List (Addr × Obj)) (F0 : Hp) (k : Ken) (f : Flow) (s' : Shared) : Prop :=
  match f with
  | .next => ∃ σ env F H, Inv X pins σ H s' ∧ Rl X.K B F H env σ ∧ Same F0 F ∧ k.nx env
  | .brk => ∃ σ env F H, Inv X pins σ H s' ∧ Rl X.K B F H env σ ∧ Same F0 F ∧ k.bk env
  | .cont => ∃ σ env F H, Inv X pins σ H s' ∧ Rl X.K B F H env σ ∧ Same F0 F ∧ k.ct env
  | .ret u => ∃ v σ H, Inv X pins σ H s' ∧ RelV v u ∧ ∃ σ2 env r F, Rl X.K B F H env σ2 ∧ Res X.K B F H env σ2 v r ∧ k.rt env r
structure DS (B : Bs) (W : WX) (X : Cx) (st : Stmt) (w : WS) : Prop where
  run : ∀ (pins : List (Addr × Obj)) (s : Shared) (σ : St) (F H : Hp) (env : Ev) (k : Ken), Inv X pins σ H s → Rl X.K B F H env σ → w env k → XC X.K B W k.ex → wpAny (model X.prog X.w) X.A (exec st X.env) (SPD X B pins F k) X.xe s
structure DSs (B : Bs) (W : WX) (X : Cx) (st : List Stmt) (w : WS) : Prop where
  run : ∀ (pins : List (Addr × Obj)) (s : Shared) (σ : St) (F H : Hp) (env : Ev) (k : Ken), Inv X pins σ H s → Rl X.K B F H env σ → w env k → XC X.K B W k.ex → wpAny (model X.prog X.w) X.A (execs st X.env) (SPD X B pins F k) X.xe s

theorem SPD.up {X : Cx} {B : Bs} {pins : List (Addr × Obj)} {F0 F1 : Hp} {k : Ken} {f : Flow} {s' : Shared} (s : Same F0 F1) (h : SPD X B pins F1 k f s') : SPD X B pins F0 k f s' := by
  cases f with
  | next => obtain ⟨σ, env, F, H, h1, h2, h3, h4⟩ := h; exact ⟨σ, env, F, H, h1, h2, s.trans h3, h4⟩
  | brk => obtain ⟨σ, env, F, H, h1, h2, h3, h4⟩ := h; exact ⟨σ, env, F, H, h1, h2, s.trans h3, h4⟩
  | cont => obtain ⟨σ, env, F, H, h1, h2, h3, h4⟩ := h; exact ⟨σ, env, F, H, h1, h2, s.trans h3, h4⟩
  | ret u => exact h
def wNext : WS := fun env k => k.nx env
def wSeq (t u : WS) : WS := fun env k => t env { k with nx := fun e => u e k }
def wBreak : WS := fun env k => k.bk env
def wCont : WS := fun env k => k.ct env
def wDrop (w : WE) : WS := fun env k => w env (fun e _ => k.nx e) k.ex
def wRet (w : WE) : WS := fun env k => w env k.rt k.ex
def wRetN : WS := fun env k => k.rt env (.val .none)
def wIfS (c : WT) (t u : WS) : WS := fun env k => c env (fun e b => if b = true then t e k else u e k) k.ex
/-- a result comes to a name -/
def asg (i : Nat) (env : Ev) (r : Rs) (K : Ev → Prop) : Prop := match r with
  | .val d => K (env.set i (.val d))
  | .tmp ds => K (env.set i (.own false ds))
  | .slot j => ∃ p, fz env (.slot j) = some p ∧ K (p.1.set i (.val p.2))
def wSet (i : Nat) (w : WE) : WS := fun env k => w env (fun e r => asg i e r k.nx) k.ex

section
variable {K : PySem.W.Frag} {B : Bs} {F H : Hp} {env : Ev} {σ : St}
/-- a slot takes another value -/
theorem Rl.put (R : Rl K B F H env σ) {i : Nat} {v : V} {s : Sl} (hi : i < σ.length) (nl : ∀ p ∈ B.all, p.1 ≠ i) (hs : slR K F H (some s) (some (some v)))
    (ho : ∀ l ds, s = .own l ds → l = false ∧ ∀ a, v = .ref a → ¬ ownAt env σ a ∧ B.H0 a = none) (hd : ∀ kv, s = .dct kv → ∀ a, v = .ref a → ¬ ownAt env σ a ∧ B.H0 a = none := by intro kv e; cases e) : Rl K B F H (env.set i s) (σ.set i (some v)) := by
  have ie : i < env.length := by rw [R.len]; exact hi
  have old : ∀ {j : Nat} {l : Bool} {ds : List PyData} {a : Addr}, i ≠ j → (env.set i s)[j]? = some (Sl.own l ds) → (σ.set i (some v))[j]? = some (some (V.ref a)) → env[j]? = some (Sl.own l ds) ∧ σ[j]? = some (some (V.ref a)) := fun hj h1 h2 => by
    rw [List.getElem?_set_ne hj] at h1 h2
    exact ⟨h1, h2⟩
  have new : ∀ {l : Bool} {ds : List PyData} {a : Addr}, (env.set i s)[i]? = some (Sl.own l ds) → (σ.set i (some v))[i]? = some (some (V.ref a)) → l = false ∧ ¬ ownAt env σ a ∧ B.H0 a = none := fun {l ds a} h1 h2 => by
    rw [List.getElem?_set_self ie] at h1
    rw [List.getElem?_set_self hi] at h2
    cases h1
    cases h2
    obtain ⟨g1, g2⟩ := ho _ _ rfl
    exact ⟨g1, g2 _ rfl⟩
  have oldd : ∀ {j : Nat} {kv : List (List Int × PyData)} {a : Addr}, i ≠ j → (env.set i s)[j]? = some (Sl.dct kv) → (σ.set i (some v))[j]? = some (some (V.ref a)) → env[j]? = some (Sl.dct kv) ∧ σ[j]? = some (some (V.ref a)) := fun hj h1 h2 => by
    rw [List.getElem?_set_ne hj] at h1 h2
    exact ⟨h1, h2⟩
  have newd : ∀ {kv : List (List Int × PyData)} {a : Addr}, (env.set i s)[i]? = some (Sl.dct kv) → (σ.set i (some v))[i]? = some (some (V.ref a)) → ¬ ownAt env σ a ∧ B.H0 a = none := fun {kv a} h1 h2 => by
    rw [List.getElem?_set_self ie] at h1
    rw [List.getElem?_set_self hi] at h2
    cases h1
    cases h2
    exact hd _ rfl _ rfl
  refine ⟨by rw [List.length_set, List.length_set]; exact R.len, R.sub, fun j => ?_, fun j k l m ds es a h1 h2 h3 h4 => ?_, R.sub0, R.new, R.frm, R.dom, fun j ds a h1 h2 => ?_, fun j ds a h1 h2 => ?_, fun p hp => ?_, fun j k kv kw a h1 h2 h3 h4 => ?_, fun j kv a h1 h2 => ?_⟩
  · by_cases hj : i = j
    · subst hj
      rw [List.getElem?_set_self ie, List.getElem?_set_self hi]
      exact hs
    · rw [List.getElem?_set_ne hj, List.getElem?_set_ne hj]
      exact R.sl j
  · by_cases hj : i = j
    · by_cases hk : i = k
      · exact hj.symm.trans hk
      · subst hj
        obtain ⟨_, n, _⟩ := new h1 h3
        obtain ⟨g1, g2⟩ := old hk h2 h4
        exact absurd (.inl ⟨k, m, es, g1, g2⟩) n
    · by_cases hk : i = k
      · subst hk
        obtain ⟨_, n, _⟩ := new h2 h4
        obtain ⟨g1, g2⟩ := old hj h1 h3
        exact absurd (.inl ⟨j, l, ds, g1, g2⟩) n
      · obtain ⟨g1, g2⟩ := old hj h1 h3
        obtain ⟨g3, g4⟩ := old hk h2 h4
        exact R.dist j k l m ds es a g1 g3 g2 g4
  · by_cases hj : i = j
    · subst hj
      exact (new h1 h2).2.2
    · obtain ⟨g1, g2⟩ := old hj h1 h2
      exact R.own0 j ds a g1 g2
  · by_cases hj : i = j
    · subst hj
      cases (new h1 h2).1
    · obtain ⟨g1, g2⟩ := old hj h1 h2
      exact R.own1 j ds a g1 g2
  · rw [List.getElem?_set_ne (Ne.symm (nl p hp))]
    exact R.lsl p hp
  · by_cases hj : i = j
    · by_cases hk : i = k
      · exact hj.symm.trans hk
      · subst hj
        obtain ⟨n, _⟩ := newd h1 h3
        obtain ⟨g1, g2⟩ := oldd hk h2 h4
        exact absurd (.inr ⟨k, kw, g1, g2⟩) n
    · by_cases hk : i = k
      · subst hk
        obtain ⟨n, _⟩ := newd h2 h4
        obtain ⟨g1, g2⟩ := oldd hj h1 h3
        exact absurd (.inr ⟨j, kv, g1, g2⟩) n
      · obtain ⟨g1, g2⟩ := oldd hj h1 h3
        obtain ⟨g3, g4⟩ := oldd hk h2 h4
        exact R.dd j k kv kw a g1 g3 g2 g4
  · by_cases hj : i = j
    · subst hj
      exact (newd h1 h2).2
    · obtain ⟨g1, g2⟩ := oldd hj h1 h2
      exact R.d0 j kv a g1 g2
theorem Rl.putVal (R : Rl K B F H env σ) {i : Nat} {v : V} {d : PyData} (hi : i < σ.length) (nl : ∀ p ∈ B.all, p.1 ≠ i) (r : Rp K F v d) : Rl K B F H (env.set i (.val d)) (σ.set i (some v)) :=
  R.put hi nl ⟨v, rfl, r⟩ fun l ds e => by cases e
theorem asg_ok {i : Nat} {v : V} {r : Rs} {Kn : Ev → Prop} (R : Rl K B F H env σ) (hi : i < σ.length) (nl : ∀ p ∈ B.all, p.1 ≠ i) (q : Res K B F H env σ v r) (h : asg i env r Kn) : ∃ env' F', Rl K B F' H env' (σ.set i (some v)) ∧ Same F F' ∧ Kn env' := by
  cases r with
  | val d => exact ⟨_, F, R.putVal hi nl q, Same.refl _, h⟩
  | tmp ds =>
    obtain ⟨p, vs, rfl, h2, h3, h4, h5, h6⟩ := q
    refine ⟨env.set i (.own false ds), F, R.put hi nl ⟨p, vs, rfl, h2, h3, h6⟩ fun l es e => ?_, Same.refl _, h⟩
    cases e
    exact ⟨rfl, fun a e => by cases e; exact ⟨h5, h4⟩⟩
  | slot j =>
    obtain ⟨p, e, h⟩ := h
    obtain ⟨F2, R2, f2, rp⟩ := freeze (env2 := p.1) (d := p.2) (H := H) R Fm.refl q trivial e
    exact ⟨_, F2, R2.putVal hi nl rp, f2.sub, h⟩
end

section
variable {B : Bs} {W : WX} {X : Cx} {st : Stmt} {rest : List Stmt} {t u : WS} {e : Expr} {w : WE} {pos : Pos}
theorem dss_nil : DSs B W X [] wNext := ⟨fun _ _ σ F H env _ I R h _ => wpAny_execs_nil ⟨σ, env, F, H, I, R, Same.refl _, h⟩⟩
theorem dss_cons (h1 : DS B W X st t) (h2 : DSs B W X rest u) : DSs B W X (st :: rest) (wSeq t u) := by
  refine ⟨fun pins s σ F H env k I R h hx => ?_⟩
  refine wpAny_execs_cons (thn (h1.run pins s σ F H env { k with nx := fun e => u e k } I R h hx) fun f s1 q => ?_)
  cases f with
  | next =>
    obtain ⟨σ', env', F', H', I', R', sm, q⟩ := q
    exact thn (h2.run pins s1 σ' F' H' env' k I' R' q hx) fun f s2 h => h.up sm
  | ret v => exact q
  | brk => exact q
  | cont => exact q
theorem dss_one (h1 : DS B W X st t) : DSs B W X [st] t := by
  refine ⟨fun pins s σ F H env k I R h hx => ?_⟩
  refine wpAny_execs_cons (thn (h1.run pins s σ F H env k I R h hx) fun f s1 q => ?_)
  cases f with
  | next => exact wpAny_execs_nil q
  | ret v => exact q
  | brk => exact q
  | cont => exact q
theorem ds_expr (he : DE B W X e w) (hs : swapsWith e none pos.line X.env = pure false := by rfl) : DS B W X (.Expr e pos) (wDrop w) := by
  refine ⟨fun pins s σ F H env k I R h hx => ?_⟩
  exact wpAny_Expr_any (thn (he.run pins s σ F H env _ k.ex I R h hx) fun v s1 ⟨x, env1, r, F1, H1, I1, r1, R1, f1, q1, n1, k1⟩ => ⟨σ, env1, F1, H1, I1, R1, f1.sub, k1⟩) I.quiet hs
theorem ds_ret (he : DE B W X e w) : DS B W X (.Return (some e) pos) (wRet w) := by
  refine ⟨fun pins s σ F H env k I R h hx => ?_⟩
  exact wpAny_Return_some (thn (he.run pins s σ F H env _ k.ex I R h hx) fun v s1 ⟨x, env1, r, F1, H1, I1, r1, R1, f1, q1, n1, k1⟩ => ⟨x, σ, H1, I1, r1, σ, env1, r, F1, R1, q1, k1⟩)
theorem ds_if {c : Expr} {a b : List Stmt} {tc : WT} (hc : DT B W X c tc) (ha : DSs B W X a t) (hb : DSs B W X b u) : DS B W X (.If c a b pos) (wIfS tc t u) := by
  refine ⟨fun pins s σ F H env k I R h hx => ?_⟩
  refine wpAny_If (thn (hc.run pins s σ F H env _ k.ex I R h hx) fun d s1 ⟨env1, F1, H1, I1, R1, f1, q1⟩ => ?_)
  cases d with
  | true => exact thn (ha.run pins s1 σ F1 H1 env1 k I1 R1 (by simpa using q1) hx) fun f s2 h => h.up f1.sub
  | false => exact thn (hb.run pins s1 σ F1 H1 env1 k I1 R1 (by simpa using q1) hx) fun f s2 h => h.up f1.sub
theorem ds_set (i : Nat) {x : Str} {pos' : Pos} (he : DE B W X e w) (nl : ∀ p ∈ B.all, p.1 ≠ i) (hN : X.N.Nodup) (hi : X.N[i]? = some x := by rfl) (hx : Loc X.env.scope x := by first | exact Or.inl rfl | exact Or.inr rfl) (hs : swapsWith e (some (.Name x pos')) pos.line X.env = pure false := by rfl)
    (hf : X.fn x = true ∨ X.env.scope.names.lookup x = some .local := by first | exact .inl rfl | exact .inr rfl) : DS B W X (.Assign [.Name x pos'] e pos) (wSet i w) := by
  refine ⟨fun pins s σ F H env k I R h hxx => ?_⟩
  refine wpAny_Assign_Name (thn (he.run pins s σ F H env _ k.ex I R h hxx) fun v s1 ⟨y, env1, r, F1, H1, I1, r1, R1, f1, q1, n1, k1⟩ => ?_) hs
  have il : i < σ.length := by rw [I.len]; exact (List.getElem?_eq_some_iff.mp hi).1
  obtain ⟨env2, F2, R2, sm, k2⟩ := asg_ok R1 il nl q1 k1
  exact store_ok I1 hN hi hx r1 (fun s2 I2 => ⟨_, env2, F2, H1, I2, R2, f1.sub.trans sm, k2⟩) hf

/-! ### targets -/
abbrev WG := PyData → Ev → (Ev → Prop) → Prop
abbrev WGs := List PyData → Ev → (Ev → Prop) → Prop
/-- only the slots at is differ -/
def Agree (is : List Nat) (σ σ' : St) : Prop := σ'.length = σ.length ∧ ∀ j, j ∉ is → σ'[j]? = σ[j]?
def OwnSub (env env' : Ev) : Prop := (∀ (i : Nat) (l : Bool) (ds : List PyData), env'[i]? = some (Sl.own l ds) → env[i]? = some (Sl.own l ds)) ∧ ∀ (i : Nat) (kv : List (List Int × PyData)), env'[i]? = some (Sl.dct kv) → env[i]? = some (Sl.dct kv)
structure DG (B : Bs) (X : Cx) (tg : Expr) (is : List Nat) (g : WG) : Prop where
  run : ∀ (pins : List (Addr × Obj)) (s : Shared) (σ : St) (F H : Hp) (env : Ev) (v : V) (u : Value) (d : PyData) (Kn : Ev → Prop), Inv X pins σ H s → RelV v u → Rl X.K B F H env σ → Rp X.K F v d → g d env Kn →
    wpAny (model X.prog X.w) X.A (assign tg X.env u) (fun _ s' => ∃ σ' env', Inv X pins σ' H s' ∧ Rl X.K B F H env' σ' ∧ Agree is σ σ' ∧ OwnSub env env' ∧ Kn env') X.xe s
structure DGs (B : Bs) (X : Cx) (ts : List Expr) (is : List Nat) (g : WGs) : Prop where
  run : ∀ (pins : List (Addr × Obj)) (s : Shared) (σ : St) (F H : Hp) (env : Ev) (vs : List V) (us : List Value) (ds : List PyData) (Kn : Ev → Prop), Inv X pins σ H s → Vals vs us → Rl X.K B F H env σ → RpAll X.K F vs ds → g ds env Kn →
    wpAny (model X.prog X.w) X.A (assignInOrder ((assignEach ts X.env).map (·.2)) us) (fun _ s' => ∃ σ' env', Inv X pins σ' H s' ∧ Rl X.K B F H env' σ' ∧ Agree is σ σ' ∧ OwnSub env env' ∧ Kn env') X.xe s
def gN (i : Nat) : WG := fun d env Kn => Kn (env.set i (.val d))
def gNil' : WGs := fun ds env Kn => ds = [] ∧ Kn env
def gCons' (g : WG) (gs : WGs) : WGs := fun ds env Kn => match ds with
  | d :: r => g d env fun env' => gs r env' Kn
  | [] => False
def gT (n : Nat) (gs : WGs) : WG := fun d env Kn => match d with
  | .tuple ds => ds.length = n ∧ gs ds env Kn
  | _ => False
theorem dg_name (i : Nat) {x : Str} (nl : ∀ p ∈ B.all, p.1 ≠ i) (hN : X.N.Nodup) (hi : X.N[i]? = some x := by rfl) (hx : Loc X.env.scope x := by first | exact Or.inl rfl | exact Or.inr rfl)
    (hf : X.fn x = true ∨ X.env.scope.names.lookup x = some .local := by first | exact .inl rfl | exact .inr rfl) : DG B X (.Name x pos) [i] (gN i) := by
  refine ⟨fun pins s σ F H env v u d Kn I r R rp h => ?_⟩
  have il : i < σ.length := by rw [I.len]; exact (List.getElem?_eq_some_iff.mp hi).1
  exact wpAny_assign_Name (store_ok I hN hi hx r (fun s' I' => ⟨_, _, I', R.putVal il nl rp, ⟨by rw [List.length_set], fun j hj => by rw [List.getElem?_set_ne (fun z => hj (by rw [z]; exact List.mem_cons_self))]⟩, ⟨fun j l es hq => own_set_val hq, fun j kv hq => dct_set_val hq⟩, h⟩) hf)
theorem dgs_nil : DGs B X [] [] gNil' := by
  refine ⟨fun pins s σ F H env vs us ds Kn I r R rp h => ?_⟩
  obtain ⟨e, h⟩ := h
  subst e
  cases rp
  cases r
  exact assignInOrder_nil ⟨σ, env, I, R, ⟨rfl, fun _ _ => rfl⟩, ⟨fun _ _ _ hq => hq, fun _ _ hq => hq⟩, h⟩
theorem dgs_cons {es : List Expr} {is is' : List Nat} {g : WG} {gs : WGs} (h1 : DG B X e is g) (h2 : DGs B X es is' gs) (hs : (assignEach (e :: es) X.env).map (·.2) = assign e X.env :: (assignEach es X.env).map (·.2) := by rfl) : DGs B X (e :: es) (is ++ is') (gCons' g gs) := by
  refine ⟨fun pins s σ F H env vs us ds Kn I r R rp h => ?_⟩
  cases ds with
  | nil => exact h.elim
  | cons d ds =>
    cases rp with
    | cons rp1 rp2 =>
      cases r with
      | cons r rr =>
        rw [hs]
        refine assignInOrder_cons (thn (h1.run pins s σ F H env _ _ d _ I r R rp1 h) fun _ s1 ⟨σ1, env1, I1, R1, a1, o1, q1⟩ => ?_)
        exact thn (h2.run pins s1 σ1 F H env1 _ _ ds Kn I1 rr R1 rp2 q1) fun _ s2 ⟨σ2, env2, I2, R2, a2, o2, q2⟩ => ⟨σ2, env2, I2, R2, ⟨a2.1.trans a1.1, fun j hj => (a2.2 j fun z => hj (List.mem_append_right _ z)).trans (a1.2 j fun z => hj (List.mem_append_left _ z))⟩, ⟨fun i l es hq => o1.1 i l es (o2.1 i l es hq), fun i kv hq => o1.2 i kv (o2.2 i kv hq)⟩, q2⟩
theorem dg_tup {es : List Expr} {is : List Nat} {k : Nat} {gs : WGs} {n : Nat} (hc : X.calm = true) (h : DGs B X es is gs) (hn : (assignEach es X.env).length = n := by rfl) (hst : (assignEach es X.env).findIdx? (·.1) = none := by rfl) : DG B X (.Tuple es k pos) is (gT n gs) := by
  refine ⟨fun pins s σ F H env v u d Kn I r R rp hw => ?_⟩
  unfold gT at hw
  split at hw
  · rename_i ds
    cases rp with
    | tup h1 h2 =>
      replace h1 := SqT.of (K := X.K) h1
      cases r
      have h1' := sqT_same R.sub h1
      obtain ⟨its, rv, ht, hz⟩ := I.tuple h1'
      have e1 := h2.length
      have e2 := rv.length
      refine assign_Tuple_tuple (I.ok.hd hc) ht (by rw [hn, List.size_toArray]; omega) hst fun h' hx => ?_
      have I1 : Inv X pins σ H { s with heap := h' } := I.kept (t' := s.toks) fun b o e => hx b o (Nat.ne_of_lt (Heap.lt_size e)) e
      exact h.run pins _ σ F H env _ _ ds Kn I1 (by simpa using rv) R h2 hw.2
  · exact hw.elim
/-- target = value, the value frozen -/
def wAsgT (w : WE) (g : WG) : WS := fun env k => wFz w env (fun e d => g d e k.nx) k.ex
theorem ds_asgT {tg : Expr} {is : List Nat} {g : WG} (he : DE B W X e w) (hg : DG B X tg is g) (hs : swapsWithSole [tg] e pos.line X.env = pure false := by rfl) (hw : swappedStores [tg] e X.env = pure none := by rfl)
    (h1 : (assignEach [tg] X.env).map (·.2) = [assign tg X.env] := by rfl) : DS B W X (.Assign [tg] e pos) (wAsgT w g) := by
  refine ⟨fun pins s σ F H env k I R h hx => ?_⟩
  refine wpAny_Assign_stores (thn (he.run pins s σ F H env _ k.ex I R h hx) fun v s1 ⟨x, env1, r, F1, H1, I1, r1, R1, f1, q1, n1, p, e1, k1⟩ => ?_) hs hw
  obtain ⟨F2, R2, f2, rp⟩ := freeze (env2 := p.1) (d := p.2) R1 f1 q1 n1 e1
  rw [h1]
  exact thn (hg.run pins s1 σ F2 H1 p.1 x v p.2 _ I1 r1 R2 rp k1) fun _ s2 ⟨σ', env', I', R', _, _, q'⟩ => ⟨σ', env', F2, H1, I', R', f2.sub, q'⟩
/-- a, b = x, y with local names -/
def wPar (i j : Nat) (wf : WF) : WS := fun env k => wf env (fun e ds => match ds with
  | [d1, d2] => k.nx ((e.set i (.val d1)).set j (.val d2))
  | _ => False) k.ex
theorem ds_par (i j : Nat) {x y : Str} {a b : Expr} {wf : WF} {px py pt : Pos} {kt k2 : Nat} {pt2 : Pos} (ha : DF B W X [a, b] wf) (nli : ∀ p ∈ B.all, p.1 ≠ i) (nlj : ∀ p ∈ B.all, p.1 ≠ j) (hN : X.N.Nodup) (hc : X.calm = true := by rfl) (hi : X.N[i]? = some x := by rfl) (hj : X.N[j]? = some y := by rfl) (hij : i ≠ j := by decide)
    (hx : X.env.scope.names.lookup x = some .local := by rfl) (hy : X.env.scope.names.lookup y = some .local := by rfl)
    (hw : swappedStores [.Tuple [.Name x px, .Name y py] kt pt] (.Tuple [a, b] k2 pt2) X.env = pure (some [x, y]) := by rfl)
    (hs : swapsWithSole [.Tuple [.Name x px, .Name y py] kt pt] (.Tuple [a, b] k2 pt2) pos.line X.env = pure false := by rfl) :
    DS B W X (.Assign [.Tuple [.Name x px, .Name y py] kt pt] (.Tuple [a, b] k2 pt2) pos) (wPar i j wf) := by
  refine ⟨fun pins s σ F H env k I R h hxx => ?_⟩
  have pa : PA X [a, b] (fun σ' H' Q => σ' = σ ∧ H' = H ∧ ∀ vs env' ds F' H', Rl X.K B F' H' env' σ → Same F F' → RpAll X.K F' vs ds → (match ds with
    | [d1, d2] => k.nx ((env'.set i (.val d1)).set j (.val d2))
    | _ => False) → Q vs H') := by
    refine ⟨fun pos pins s σ' H' Q I' ⟨e1, e2, q⟩ => ?_⟩
    subst e1 e2
    exact thn (ha.run pos pins s _ F _ env _ k.ex I' R h hxx) fun us s1 ⟨vs, env', ds, F', H', I1, rv, R1, f1, q1, k1⟩ => ⟨vs, H', I1, rv, q vs env' ds F' H' R1 f1.sub q1 k1⟩
  refine thn ((ps_par hc hN hi hj hij hx hy pa hw hs).run pins s σ H { nx := fun σ' H' => ∃ env' F', Rl X.K B F' H' env' σ' ∧ Same F F' ∧ k.nx env', rt := fun _ _ => False } I ⟨rfl, rfl, fun vs env' ds F' H' R' sm rp hk => ?_⟩) fun f s1 q => ?_
  · match ds, rp, hk with
    | [d1, d2], .cons (v := v1) r1 (.cons (v := v2) r2 .nil), hk =>
      have il : i < σ.length := by rw [I.len]; exact (List.getElem?_eq_some_iff.mp hi).1
      have jl : j < σ.length := by rw [I.len]; exact (List.getElem?_eq_some_iff.mp hj).1
      exact ⟨v1, v2, rfl, _, F', (R'.putVal il nli r1).putVal (by simpa using jl) nlj r2, sm, hk⟩
  · cases f with
    | next =>
      obtain ⟨σ', H', I', env', F', R', sm, q'⟩ := q
      exact ⟨σ', env', F', H', I', R', sm, q'⟩
    | brk => obtain ⟨_, _, _, q⟩ := q; exact q.elim
    | cont => obtain ⟨_, _, _, q⟩ := q; exact q.elim
    | ret u => obtain ⟨_, _, _, _, _, q⟩ := q; exact q.elim
end

/-! ### while -/
section
variable {B : Bs} {W : WX} {X : Cx} {pos : Pos}
def wWhile (c : WT) (t : WS) : WS := fun env k => ∃ Wi : Nat → Ev → Prop, (∃ m, Wi m env) ∧ ∀ m e, Wi m e → c e (fun e1 b => if b = true then t e1 { k with nx := fun e2 => ∃ m', m' < m ∧ Wi m' e2, ct := fun e2 => ∃ m', m' < m ∧ Wi m' e2, bk := k.nx } else k.nx e1) k.ex
theorem ds_while {c : Expr} {body : List Stmt} {tc : WT} {tb : WS} (hp : PassesOwn (model X.prog X.w) X.A X.env X.xe) (hc : DT B W X c tc) (hb : DSs B W X body tb) : DS B W X (.While c body [] pos) (wWhile tc tb) := by
  refine ⟨fun pins s σ F H env k I R h hx => ?_⟩
  obtain ⟨Wi, ⟨m0, w0⟩, turn⟩ := h
  refine wpAny_While (codeAny_whileLoop (fun n s' => ∃ σ' env' F' H', Inv X pins σ' H' s' ∧ Rl X.K B F' H' env' σ' ∧ Same F F' ∧ Wi n env') ?_ m0 ⟨σ, env, F, H, I, R, Same.refl _, w0⟩)
  rintro n s1 ⟨σ1, env1, F1, H1, I1, R1, sm1, w1⟩
  refine wpAny_passesOwn hp (thn (hc.run pins s1 σ1 F1 H1 env1 _ k.ex I1 R1 (turn n env1 w1) hx) fun b s2 ⟨env2, F2, H2, I2, R2, f2, q2⟩ => ?_)
  cases b with
  | true =>
    rw [if_pos rfl] at q2 ⊢
    refine wpAny_passesOwn hp (thn (hb.run pins s2 σ1 F2 H2 env2 _ I2 R2 q2 hx) fun f s3 q3 => ?_)
    cases f with
    | next =>
      obtain ⟨σ3, env3, F3, H3, I3, R3, sm3, m', hm, w3⟩ := q3
      exact ⟨m', hm, σ3, env3, F3, H3, I3, R3, (sm1.trans f2.sub).trans sm3, w3⟩
    | cont =>
      obtain ⟨σ3, env3, F3, H3, I3, R3, sm3, m', hm, w3⟩ := q3
      exact ⟨m', hm, σ3, env3, F3, H3, I3, R3, (sm1.trans f2.sub).trans sm3, w3⟩
    | brk => exact SPD.up (f := .next) (sm1.trans f2.sub) q3
    | ret v => exact q3
  | false =>
    rw [if_neg Bool.false_ne_true] at q2 ⊢
    exact wpAny_execs_nil ⟨σ1, env2, F2, H2, I2, R2, sm1.trans f2.sub, q2⟩
end
end Dl
end L2

/-! The D layer, 8: lists that are changed. -/
namespace L2
namespace Dl
open PySem PySem.Spec PyProof.Rows

section
variable {K : PySem.W.Frag} {B : Bs} {F H : Hp} {env : Ev} {σ : St}
/-- an own list is written -/
theorem Rl.mut (R : Rl K B F H env σ) {i : Nat} {l : Bool} {ds ds' : List PyData} {a : Addr} {vs' : List V} (e : env[i]? = some (Sl.own l ds)) (ha : σ[i]? = some (some (V.ref a))) (r : RpAll K F vs' ds') :
    Rl K B F (upd H a (.lst vs')) (env.set i (.own l ds')) σ ∧ Fm env σ F H (env.set i (.own l ds')) F (upd H a (.lst vs')) := by
  have s := R.sl i
  rw [e] at s
  obtain ⟨b, vs, h1, h2, h3, h4⟩ := s
  rw [ha] at h1
  cases h1
  have il : i < env.length := (List.getElem?_eq_some_iff.mp e).1
  have ow : ∀ {j : Nat} {m : Bool} {es : List PyData}, (env.set i (.own l ds'))[j]? = some (Sl.own m es) → ∃ es', env[j]? = some (Sl.own m es') := fun {j m es} h => by
    by_cases hj : i = j
    · subst hj
      rw [List.getElem?_set_self il] at h
      cases h
      exact ⟨ds, e⟩
    · rw [List.getElem?_set_ne hj] at h
      exact ⟨es, h⟩
  have od : ∀ {j : Nat} {kv : List (List Int × PyData)}, (env.set i (.own l ds'))[j]? = some (Sl.dct kv) → env[j]? = some (Sl.dct kv) := fun {j kv} h => by
    by_cases hj : i = j
    · subst hj
      rw [List.getElem?_set_self il] at h
      cases h
    · rw [List.getElem?_set_ne hj] at h
      exact h
  have own_a : ownAt env σ a := .inl ⟨i, l, ds, e, ha⟩
  refine ⟨⟨by rw [List.length_set]; exact R.len, fun b x q => ?_, fun j => ?_, fun j k m n es fs b h5 h6 h7 h8 => ?_, R.sub0, R.new, fun b x q n => ?_, fun b q => ?_, fun j es b h5 h6 => ?_, fun j es b h5 h6 => ?_, R.lsl, fun j k kv kw b h5 h6 h7 h8 => R.dd j k kv kw b (od h5) (od h6) h7 h8, fun j kv b h5 h6 => R.d0 j kv b (od h5) h6⟩, ⟨fun b x q n => ?_, fun _ _ q => q, fun _ _ q => .inl q, fun j m es h => ow h, fun b q => ?_, fun j kv h => ⟨kv, od h⟩⟩⟩
  · rw [upd_ne]
    · exact R.sub b x q
    · rintro rfl
      rw [h3] at q
      cases q
  · by_cases hj : i = j
    · subst hj
      rw [List.getElem?_set_self il]
      exact ⟨a, vs', ha, upd_same, h3, r⟩
    · rw [List.getElem?_set_ne hj]
      have s := R.sl j
      cases q : env[j]? with
      | none => trivial
      | some z =>
        rw [q] at s
        cases z with
        | un => trivial
        | val d => exact s
        | own m es =>
          obtain ⟨c, ws, g1, g2, g3, g4⟩ := s
          refine ⟨c, ws, g1, ?_, g3, g4⟩
          rw [upd_ne]
          · exact g2
          · rintro rfl
            exact hj (R.dist i j l m ds es c e q ha g1)
        | dct kv =>
          obtain ⟨c, g1, g2, g3⟩ := s
          refine ⟨c, g1, ?_, g3⟩
          rw [upd_ne]
          · exact g2
          · rintro rfl
            rw [h2] at g2
            cases g2
  · obtain ⟨es', h9⟩ := ow h5
    obtain ⟨fs', h10⟩ := ow h6
    exact R.dist j k m n es' fs' b h9 h10 h7 h8
  · rw [upd_ne]
    · exact R.frm b x q n
    · rintro rfl
      cases l with
      | false => rw [R.own0 i ds b e ha] at q; cases q
      | true =>
        obtain ⟨p, g1, g2⟩ := R.own1 i ds b e ha
        exact n p g1 g2
  · by_cases hb : b = a
    · subst hb
      rw [upd_same]
      simp
    · rw [upd_ne hb]
      exact R.dom b q
  · obtain ⟨es', h9⟩ := ow h5
    exact R.own0 j es' b h9 h6
  · obtain ⟨es', h9⟩ := ow h5
    exact R.own1 j es' b h9 h6
  · rw [upd_ne]
    · exact q
    · rintro rfl
      exact n own_a
  · by_cases hb : b = a
    · subst hb
      rw [upd_same]
      simp
    · rw [upd_ne hb]
      exact q
theorem Rl.ownSl (R : Rl K B F H env σ) {i : Nat} {l : Bool} {ds : List PyData} (e : env[i]? = some (Sl.own l ds)) : ∃ a vs, σ[i]? = some (some (V.ref a)) ∧ H a = some (.lst vs) ∧ F a = none ∧ RpAll K F vs ds := by
  have s := R.sl i
  rw [e] at s
  exact s
end

/-- a method of an own list with one argument, frozen -/
abbrev Mu := List PyData → PyData → (List PyData → PyData → Prop) → Prop
def isOwn (env : Ev) (i : Nat) : Prop := ∃ l ds, env[i]? = some (Sl.own l ds)
def wOwnF (i : Nat) (w : WE) (μ : Mu) : WE := fun env Ke Kx => isOwn env i ∧ wFz w env (fun env1 d => ∃ l ds, env1[i]? = some (Sl.own l ds) ∧ μ ds d (fun ds' d' => Ke (env1.set i (.own l ds')) (.val d'))) Kx
def wOwn0 (i : Nat) (μ : List PyData → (List PyData → PyData → Prop) → Prop) : WE := fun env Ke Kx => ∃ l ds, env[i]? = some (Sl.own l ds) ∧ μ ds (fun ds' d' => Ke (env.set i (.own l ds')) (.val d'))
section
variable {B : Bs} {W : WX} {X : Cx} {x name : Str} {e : Expr} {w : WE} {p apos cpos : Pos} {id : String} {r : V → List V → Hp → VK → Prop} {μ : Mu} {μ0 : List PyData → (List PyData → PyData → Prop) → Prop}
theorem de_ownF (i : Nat) (slot : Slot "list" name id) (hty : typeOf (.builtin id) = pure (.type "method_descriptor")) (hm : MtR X id r) (ha : DE B W X e w) (hmono : ∀ (x : V) (xs : List V) (H : Hp) (Q Q' : VK), (∀ y H', Q y H' → Q' y H') → r x xs H Q → r x xs H Q')
    (hr : ∀ (F H : Hp) (a : Addr) (vs : List V) (ds : List PyData) (v : V) (d : PyData) (Kn : List PyData → PyData → Prop), H a = some (.lst vs) → RpAll X.K F vs ds → Rp X.K F v d → μ ds d Kn → r (.ref a) [v] H (fun y H' => ∃ vs' ds' d', H' = upd H a (.lst vs') ∧ RpAll X.K F vs' ds' ∧ Rp X.K F y d' ∧ Kn ds' d'))
    (hN : X.N[i]? = some x := by rfl) (hv : Vis X.env.scope x := by first | exact Or.inl rfl | exact Or.inr (Or.inl rfl) | exact Or.inr (Or.inr rfl)) (hd : (x == ("__debug__" : Str)) = false := by decide) (hcd : (x == ("__classdict__" : Str)) = false := by decide)
    (hbase : attributeBase (.Name x p) name X.env (eval (.Name x p) X.env) = eval (.Name x p) X.env := by rfl)
    (hfew : ((backTo cpos (starEach [e] X.env)).all (fun x => !x.1) && (backToKw cpos (keywordEach [] X.env)).all (fun x => x.1.isSome)
      && decide ([e].length + ([] : List Keyword).length + (if ([] : List Keyword).isEmpty then 0 else 1) < 30)) = true := by rfl)
    (hline : (apos.endLine == cpos.line) = true := by rfl) (hs : starEach [e] X.env = (false, eval e X.env) :: starEach [] X.env := by rfl) (hplain : (backTo cpos (starEach [] X.env)).any (·.1) = false := by rfl) :
    DE B W X (.Call (.Attribute (.Name x p) name apos) [e] [] cpos) (wOwnF i w μ) := by
  refine ⟨fun pins s σ F H env Ke Kx I R h hx => ?_⟩
  obtain ⟨⟨l, ds, e0⟩, h⟩ := h
  obtain ⟨a, vs, g1, g2, g3, g4⟩ := R.ownSl e0
  have pe := pe_bm (cpos := cpos) (apos := apos) PySem.F.plainAttrs_list slot hty hm (pe_var (pos := p) hN hv hd hcd) (pa_cons ha.pe pa_nil hs) hbase hfew hline hs hplain
  refine thn (pe.run pins s σ H (fun v H' => ∃ env' d F', Rl X.K B F' H' env' σ ∧ Fm env σ F H env' F' H' ∧ Rp X.K F' v d ∧ Ke env' (.val d)) I ?_) fun u s1 ⟨v, H', I', rv, env', d, F', h1, h2, h3, h4⟩ => ⟨v, env', .val d, F', H', I', rv, h1, h2, h3, trivial, h4⟩
  refine ⟨.ref a, g1, Or.inl ⟨rfl, vs, SqL.of g2⟩, F, env, _, Kx, R, h, hx, fun v env' r1 F' H' R1 f1 q1 n1 ⟨q, e1, l1, ds1, e2, k⟩ => ?_⟩
  obtain ⟨F2, R2, f2, rp⟩ := freeze (env2 := q.1) (d := q.2) R1 f1 q1 n1 e1
  obtain ⟨a', vs1, k1, k2, k3, k4⟩ := R2.ownSl e2
  rw [g1] at k1
  cases k1
  have hQ := hr F2 H' a vs1 ds1 v q.2 _ k2 k4 rp k
  exact hmono _ _ _ _ _ (fun y H'' ⟨vs', ds', d', z1, z2, z3, z4⟩ => by
    subst z1
    obtain ⟨R3, f3⟩ := R2.mut e2 g1 z2
    exact ⟨_, d', F2, R3, f2.trans f3, z3, z4⟩) hQ
end

def muApp : Mu := fun ds d K => ds.length < sizeLine ∧ K (ds ++ [d]) .none
def muPopAt : Mu := fun ds d K => ∃ i x, d = .int i ∧ 0 ≤ i ∧ i < 2 ^ 63 ∧ ds[i.toNat]? = some x ∧ K (ds.eraseIdx i.toNat) x
section
variable {X : Cx}
theorem rAppend_mono (x : V) (xs : List V) (H : Hp) (Q Q' : VK) (h : ∀ y H', Q y H' → Q' y H') : rAppend x xs H Q → rAppend x xs H Q' := fun ⟨l, vs, y, h1, h2, h3, h4, q⟩ => ⟨l, vs, y, h1, h2, h3, h4, h _ _ q⟩
theorem rPopAt_mono (x : V) (xs : List V) (H : Hp) (Q Q' : VK) (h : ∀ y H', Q y H' → Q' y H') : rPopAt x xs H Q → rPopAt x xs H Q' := fun ⟨l, vs, i, k, y, h1, h2, h3, h4, h5, h6, h7, q⟩ => ⟨l, vs, i, k, y, h1, h2, h3, h4, h5, h6, h7, h _ _ q⟩
theorem hr_app (F H : Hp) (a : Addr) (vs : List V) (ds : List PyData) (v : V) (d : PyData) (Kn : List PyData → PyData → Prop) (h1 : H a = some (.lst vs)) (h2 : RpAll X.K F vs ds) (h3 : Rp X.K F v d) (h : muApp ds d Kn) :
    rAppend (.ref a) [v] H (fun y H' => ∃ vs' ds' d', H' = upd H a (.lst vs') ∧ RpAll X.K F vs' ds' ∧ Rp X.K F y d' ∧ Kn ds' d') :=
  ⟨a, vs, v, rfl, rfl, h1, by rw [h2.length]; exact h.1, _, _, _, rfl, h2.append (.cons h3 .nil), .non, h.2⟩
theorem hr_popAt (F H : Hp) (a : Addr) (vs : List V) (ds : List PyData) (v : V) (d : PyData) (Kn : List PyData → PyData → Prop) (h1 : H a = some (.lst vs)) (h2 : RpAll X.K F vs ds) (h3 : Rp X.K F v d) (h : muPopAt ds d Kn) :
    rPopAt (.ref a) [v] H (fun y H' => ∃ vs' ds' d', H' = upd H a (.lst vs') ∧ RpAll X.K F vs' ds' ∧ Rp X.K F y d' ∧ Kn ds' d') := by
  obtain ⟨i, x, rfl, i0, i1, hx, k⟩ := h
  cases h3
  obtain ⟨y, hy, ry⟩ := h2.get hx
  have hl : i.toNat < vs.length := (List.getElem?_eq_some_iff.mp hy).1
  exact ⟨a, vs, i, i.toNat, y, rfl, rfl, h1, by omega, i1, seqIndex_of i0 (by omega), hy, _, _, x, rfl, h2.erase _, ry, k⟩
variable {B : Bs} {W : WX} {x : Str} {e : Expr} {w : WE} {p apos cpos : Pos}
theorem de_append (i : Nat) (ha : DE B W X e w) (hN : X.N[i]? = some x := by rfl) (hv : Vis X.env.scope x := by first | exact Or.inl rfl | exact Or.inr (Or.inl rfl) | exact Or.inr (Or.inr rfl)) (hd : (x == ("__debug__" : Str)) = false := by decide) (hcd : (x == ("__classdict__" : Str)) = false := by decide)
    (hbase : attributeBase (.Name x p) "append" X.env (eval (.Name x p) X.env) = eval (.Name x p) X.env := by rfl)
    (hfew : ((backTo cpos (starEach [e] X.env)).all (fun x => !x.1) && (backToKw cpos (keywordEach [] X.env)).all (fun x => x.1.isSome)
      && decide ([e].length + ([] : List Keyword).length + (if ([] : List Keyword).isEmpty then 0 else 1) < 30)) = true := by rfl)
    (hline : (apos.endLine == cpos.line) = true := by rfl) (hs : starEach [e] X.env = (false, eval e X.env) :: starEach [] X.env := by rfl) (hplain : (backTo cpos (starEach [] X.env)).any (·.1) = false := by rfl) :
    DE B W X (.Call (.Attribute (.Name x p) "append" apos) [e] [] cpos) (wOwnF i w muApp) :=
  de_ownF i PySem.F.slot_list_append PySem.F.type_list_append mt_append ha rAppend_mono hr_app hN hv hd hcd hbase hfew hline hs hplain
theorem de_popAt (i : Nat) (ha : DE B W X e w) (hN : X.N[i]? = some x := by rfl) (hv : Vis X.env.scope x := by first | exact Or.inl rfl | exact Or.inr (Or.inl rfl) | exact Or.inr (Or.inr rfl)) (hd : (x == ("__debug__" : Str)) = false := by decide) (hcd : (x == ("__classdict__" : Str)) = false := by decide)
    (hbase : attributeBase (.Name x p) "pop" X.env (eval (.Name x p) X.env) = eval (.Name x p) X.env := by rfl)
    (hfew : ((backTo cpos (starEach [e] X.env)).all (fun x => !x.1) && (backToKw cpos (keywordEach [] X.env)).all (fun x => x.1.isSome)
      && decide ([e].length + ([] : List Keyword).length + (if ([] : List Keyword).isEmpty then 0 else 1) < 30)) = true := by rfl)
    (hline : (apos.endLine == cpos.line) = true := by rfl) (hs : starEach [e] X.env = (false, eval e X.env) :: starEach [] X.env := by rfl) (hplain : (backTo cpos (starEach [] X.env)).any (·.1) = false := by rfl) :
    DE B W X (.Call (.Attribute (.Name x p) "pop" apos) [e] [] cpos) (wOwnF i w muPopAt) :=
  de_ownF i PySem.F.slot_list_pop PySem.F.type_list_pop mt_popAt ha rPopAt_mono hr_popAt hN hv hd hcd hbase hfew hline hs hplain
/-! extend: by a new list, or by another own one -/
def wExtend (i : Nat) (w : WE) : WE := fun env Ke Kx => isOwn env i ∧ w env (fun env1 r => ∃ l ds es, env1[i]? = some (Sl.own l ds) ∧ (r = .tmp es ∨ ∃ j, j ≠ i ∧ r = .slot j ∧ ∃ m, env1[j]? = some (Sl.own m es)) ∧ ds.length + es.length ≤ sizeLine ∧ Ke (env1.set i (.own l (ds ++ es))) (.val .none)) Kx
end

/-! ### x[i] = e, x op= e -/
section
variable {B : Bs} {W : WX} {X : Cx} {x : Str} {a e : Expr} {wi w : WE} {p pos spos : Pos}
def wSetIx (i : Nat) (wi w : WE) : WS := fun env k => wFz w env (fun env1 d => isOwn env1 i ∧ wi env1 (fun env2 r => ∃ j l ds n, r = .val (.int j) ∧ env2[i]? = some (Sl.own l ds) ∧ ixN ds.length j = some n ∧ k.nx (env2.set i (.own l (ds.set n d)))) k.ex) k.ex
theorem ds_setIx (i : Nat) (he : DE B W X e w) (hi : DE B W X a wi) (hN : X.N[i]? = some x := by rfl) (hv : Vis X.env.scope x := by first | exact Or.inl rfl | exact Or.inr (Or.inl rfl) | exact Or.inr (Or.inr rfl)) (hd : (x == ("__debug__" : Str)) = false := by decide) (hcd : (x == ("__classdict__" : Str)) = false := by decide)
    (ha : ∀ v, assign (.Subscript (.Name x p) a spos) X.env v = (do
      let ov ← holding [v] (eval (.Name x p) X.env)
      let iv ← holding [v, ov] (eval a X.env)
      standAt spos
      holding [v, ov, iv] (setItem ov iv v)
      release [v, ov, iv] []) := by intro _; rfl)
    (hs : swapsWithSole [.Subscript (.Name x p) a spos] e pos.line X.env = pure false := by rfl) (hw : swappedStores [.Subscript (.Name x p) a spos] e X.env = pure none := by rfl)
    (h1 : (assignEach [.Subscript (.Name x p) a spos] X.env).map (·.2) = [assign (.Subscript (.Name x p) a spos) X.env] := by rfl) : DS B W X (.Assign [.Subscript (.Name x p) a spos] e pos) (wSetIx i wi w) := by
  refine ⟨fun pins s σ F H env k I R h hx => ?_⟩
  refine wpAny_Assign_stores (thn (he.run pins s σ F H env _ k.ex I R h hx) fun v s1 ⟨y, env1, r, F1, H1, I1, r1, R1, f1, q1, n1, pr, e1, ⟨l0, ds0, e0⟩, k1⟩ => ?_) hs hw
  obtain ⟨F2, R2, f2, rp⟩ := freeze (env2 := pr.1) (d := pr.2) R1 f1 q1 n1 e1
  obtain ⟨ad, vs, g1, g2, g3, g4⟩ := R2.ownSl e0
  rw [h1]
  have pg := pg_sub (pe_var (pos := p) hN hv hd hcd) hi.pe (set_list (X := X)) ha
  refine thn (pg.run pins s1 σ H1 y v (fun σ' H' => σ' = σ ∧ ∃ env' F', Rl X.K B F' H' env' σ ∧ Same F F' ∧ k.nx env') I1 r1 ?_) fun _ s2 ⟨σ', H', I', e2, env', F', h2, sm, h3⟩ => by
    subst e2
    exact ⟨σ', env', F', H', I', h2, sm, h3⟩
  refine ⟨.ref ad, g1, F2, pr.1, _, k.ex, R2, k1, hx, fun v' env2 r2 F3 H3 R3 f3 q3 n3 ⟨j, l, ds, n, e3, e4, e5, k2⟩ => ?_⟩
  subst e3
  cases (show Rp X.K F3 v' (.int j) from q3)
  obtain ⟨ad', vs3, m1, m2, m3, m4⟩ := R3.ownSl e4
  rw [g1] at m1
  cases m1
  obtain ⟨R4, f4⟩ := R3.mut e4 g1 (m4.set n (Rp.mono f3.sub _ _ rp))
  exact ⟨ad, vs3, j, n, rfl, rfl, m2, by rw [m4.length]; exact e5, rfl, _, F3, R4, f2.sub.trans f3.sub, k2⟩
/-- x += e, x -= e of ints -/
def wAug (i : Nat) (f : Int → Int → Int) (w : WE) : WS := fun env k => ∃ n, env[i]? = some (Sl.val (.int n)) ∧ w env (fun env1 r => ∃ m, r = .val (.int m) ∧ k.nx (env1.set i (.val (.int (f n m))))) k.ex
theorem ds_aug (i : Nat) {op : Operator} {f : Int → Int → Int} {pos' : Pos} (ho : PIp X op (ipI f)) (he : DE B W X e w) (nl : ∀ p ∈ B.all, p.1 ≠ i) (hN : X.N.Nodup) (hi : X.N[i]? = some x := by rfl) (hx : Loc X.env.scope x := by first | exact Or.inl rfl | exact Or.inr rfl)
    (hf : X.fn x = true ∨ X.env.scope.names.lookup x = some .local := by first | exact .inl rfl | exact .inr rfl) : DS B W X (.AugAssign (.Name x pos') op e pos) (wAug i f w) := by
  refine ⟨fun pins s σ F H env k I R ⟨n, e0, h⟩ hxx => ?_⟩
  have sl := R.sl i
  rw [e0] at sl
  obtain ⟨v0, g1, g2⟩ := sl
  cases g2
  refine thn ((ps_aug hN hi hx he.pe ho hf).run pins s σ H { nx := fun σ' H' => ∃ env' F', Rl X.K B F' H' env' σ' ∧ Same F F' ∧ k.nx env', rt := fun _ _ => False } I ⟨.int n, g1, F, env, _, k.ex, R, h, hxx, fun v env1 r F1 H1 R1 f1 q1 n1 ⟨m, e1, k1⟩ => ?_⟩) fun fl s1 q => ?_
  · subst e1
    cases (show Rp X.K F1 v (.int m) from q1)
    have il : i < σ.length := by rw [I.len]; exact (List.getElem?_eq_some_iff.mp hi).1
    exact ⟨n, m, rfl, rfl, _, F1, R1.putVal il nl (.int _), f1.sub, k1⟩
  · cases fl with
    | next =>
      obtain ⟨σ', H', I', env', F', R', sm, q'⟩ := q
      exact ⟨σ', env', F', H', I', R', sm, q'⟩
    | brk => obtain ⟨_, _, _, q⟩ := q; exact q.elim
    | cont => obtain ⟨_, _, _, q⟩ := q; exact q.elim
    | ret u => obtain ⟨_, _, _, _, _, q⟩ := q; exact q.elim
end
end Dl
end L2

/-! The D layer, 9: what is walked; for; list comprehensions. -/
namespace L2
namespace Dl
open PySem PySem.Spec PyProof.Rows

/-- while F0 stands, it gives the items ds -/
def GoodIt (K : PySem.W.Frag) (B : Bs) (J : It) (F0 : Hp) (ds : List PyData) : Prop :=
  ∀ (F H : Hp) (env : Ev) (σ : St) (i : Nat), Rl K B F H env σ → Same F0 F →
    (i < ds.length → J.go i H ∧ ∀ x H', J.yld i H x H' → ∃ F' d, Rl K B F' H' env σ ∧ Fm env σ F H env F' H' ∧ ds[i]? = some d ∧ Rp K F' x d) ∧ (ds.length ≤ i → J.stop i H)
abbrev WI := Ev → (Ev → List PyData → Prop) → KXc → Prop
structure DI (B : Bs) (W : WX) (X : Cx) (tg iter : Expr) (w : WI) : Prop where
  pi : PI X tg iter (fun σ H R => ∃ F env Ki Kx, Rl X.K B F H env σ ∧ w env Ki Kx ∧ XC X.K B W Kx ∧ ∀ J env' F' H' ds, Rl X.K B F' H' env' σ → Fm env σ F H env' F' H' → GoodIt X.K B J F' ds → Ki env' ds → R J H')
/-- a list, a tuple or a text, frozen, walked -/
def itemsOf : PyData → Option (List PyData)
  | .list ds => some ds
  | .tuple ds => some ds
  | .str z => some (z.cps.toList.map fun c => .str ⟨#[c]⟩)
  | _ => none
def wISeq (w : WE) : WI := fun env Ki Kx => wFz w env (fun e d => ∃ ds, itemsOf d = some ds ∧ Ki e ds) Kx
def wIRng1 (w : WE) : WI := fun env Ki Kx => w env (fun e r => ∃ j, r = .val (.int j) ∧ -(2 ^ 62) ≤ j ∧ j < 2 ^ 62 ∧ Ki e ((List.range j.toNat).map fun (i : Nat) => PyData.int (i : Int))) Kx
def wIRng2 (wa wb : WE) : WI := fun env Ki Kx => wa env (fun e1 r1 => wb e1 (fun e2 r2 => ∃ i j, r1 = .val (.int i) ∧ r2 = .val (.int j) ∧ (-(2 ^ 62) ≤ i ∧ i < 2 ^ 62 ∧ -(2 ^ 62) ≤ j ∧ j < 2 ^ 62) ∧ Ki e2 ((List.range (j - i).toNat).map fun (m : Nat) => PyData.int (i + m))) Kx) Kx
section
variable {B : Bs} {W : WX} {X : Cx} {tg e a b : Expr} {w wa wb : WE} {pos p : Pos}
theorem good_list {K : PySem.W.Frag} {F0 : Hp} {ad : Addr} {xs : List V} {ds : List PyData} (h1 : SqL K F0 ad xs) (h2 : RpAll K F0 xs ds) : GoodIt K B (Itl K ad) F0 ds := by
  intro F H env σ i R s
  have q : SqL K H ad xs := (s.trans R.sub).seq h1
  have hl := h2.length
  refine ⟨fun hi => ⟨⟨xs, xs[i]'(by omega), q, by simp [show i < xs.length by omega]⟩, fun x H' ⟨e, y⟩ => ?_⟩, fun hi => ⟨xs, q, by omega⟩⟩
  subst e
  obtain ⟨d, e1, rp⟩ := h2.get2 (y xs q)
  exact ⟨F, d, R, Fm.refl, e1, Rp.mono s _ _ rp⟩
theorem good_tup {K : PySem.W.Frag} {F0 : Hp} {ad : Addr} {xs : List V} {ds : List PyData} (h1 : SqT K F0 ad xs) (h2 : RpAll K F0 xs ds) : GoodIt K B (Itt K ad) F0 ds := by
  intro F H env σ i R s
  have q : SqT K H ad xs := sqT_same (s.trans R.sub) h1
  have hl := h2.length
  refine ⟨fun hi => ⟨⟨xs, xs[i]'(by omega), q, by simp [show i < xs.length by omega]⟩, fun x H' ⟨e, y⟩ => ?_⟩, fun hi => ⟨xs, q, by omega⟩⟩
  subst e
  obtain ⟨d, e1, rp⟩ := h2.get2 (y xs q)
  exact ⟨F, d, R, Fm.refl, e1, Rp.mono s _ _ rp⟩
theorem good_rng {K : PySem.W.Frag} {F0 : Hp} {lo : Int} {n : Nat} : GoodIt K B (Itr lo n) F0 ((List.range n).map fun (m : Nat) => PyData.int (lo + m)) := by
  intro F H env σ i R s
  refine ⟨fun hi => ?_, fun hi => ?_⟩
  · rw [List.length_map, List.length_range] at hi
    refine ⟨hi, fun x H' ⟨e, y⟩ => ?_⟩
    subst e y
    exact ⟨F, _, R, Fm.refl, by rw [List.getElem?_map, List.getElem?_range hi]; rfl, .int _⟩
  · rw [List.length_map, List.length_range] at hi
    exact hi
theorem good_str {K : PySem.W.Frag} {F0 : Hp} {z : Str} : GoodIt K B (Its z) F0 (z.cps.toList.map fun c => PyData.str ⟨#[c]⟩) := by
  intro F H env σ i R s
  have wk := walk_str (z := z)
  refine ⟨fun hi => ?_, fun hi => ?_⟩
  · have hi' : i < z.cps.size := by simpa using hi
    refine ⟨wk.goes i H hi' trivial, fun x H' y => ?_⟩
    obtain ⟨e, c, e1, e2⟩ := wk.yields i H x H' hi' trivial y
    subst e e2
    exact ⟨F, _, R, Fm.refl, by rw [List.getElem?_map, Array.getElem?_toList, e1]; rfl, .str _⟩
  · have hi' : z.cps.size ≤ i := by simpa using hi
    have st : ∀ j, z.cps.size ≤ j → (Its z).stop j H := fun j hj => hj
    exact st i hi'
/-- a sequence -/
theorem di_seq (he : DE B W X e w) : DI B W X tg e (wISeq w) := by
  refine ⟨⟨fun pins s σ H R I ⟨F, env, Ki, Kx, R0, hw, hx, q⟩ => ?_⟩⟩
  refine thn (he.run pins s σ F H env _ Kx I R0 hw hx) fun v s1 ⟨x, env1, r1, F1, H1, I1, rx, R1, f1, q1, n1, pr, e1, ds, e2, k⟩ => ?_
  obtain ⟨F2, R2, f2, rp⟩ := freeze (env2 := pr.1) (d := pr.2) R1 f1 q1 n1 e1
  generalize hd : pr.2 = d at rp e2
  cases rp with
  | non => cases e2
  | bl b => cases e2
  | int i => cases e2
  | dct h => cases e2
  | str z =>
    cases e2
    obtain ⟨t, rfl⟩ := rx
    cases ha : z.cps.all (· < 128)
    · exact wpAny_pyIter_wide ha (pi_one (tk := s1.toks) I1 _ (turn_str _ z t "str_iterator" (.inr rfl)) ⟨_, Heap.get?_push_size _ rfl, rfl, rfl⟩ (q _ pr.1 F2 H1 _ R2 f2 good_str k))
    · exact wpAny_pyIter_ascii ha (pi_one (tk := s1.toks) I1 _ (turn_str _ z t "str_ascii_iterator" (.inl rfl)) ⟨_, Heap.get?_push_size _ rfl, rfl, rfl⟩ (q _ pr.1 F2 H1 _ R2 f2 good_str k))
  | lst h1 h2 =>
    cases e2
    cases rx
    obtain ⟨its, rv, pl, hz⟩ := I1.list (R2.sub.seq h1)
    refine wpAny_pyIter_list pl.isList ?_
    refine ⟨s1.heap.objs.size, [s1.heap.objs.size], _, _, H1, rfl, I1.kept (t' := s1.toks) fun b o e => Heap.get?_push_of_some _ e, turn_list _ _, ⟨_, Heap.get?_push_size _ rfl, rfl, rfl⟩, fun b hb => ?_, q _ pr.1 F2 H1 _ R2 f2 (good_list h1 h2) k⟩
    have e : b = s1.heap.objs.size := by simpa using hb
    subst e
    exact I1.fpOk (Nat.le_refl _) (I1.hok.fresh (Nat.le_refl _))
  | tup h1 h2 =>
    replace h1 := SqT.of (K := X.K) h1
    cases e2
    cases rx
    obtain ⟨its, rv, pl, hz⟩ := I1.tuple (sqT_same R2.sub h1)
    refine wpAny_pyIter_tuple (show s1.heap.IsTuple _ its.toArray from pl) ?_
    refine ⟨s1.heap.objs.size, [s1.heap.objs.size], _, _, H1, rfl, I1.kept (t' := s1.toks) fun b o e => Heap.get?_push_of_some _ e, turn_tuple _ _, ⟨_, Heap.get?_push_size _ rfl, rfl, rfl⟩, fun b hb => ?_, q _ pr.1 F2 H1 _ R2 f2 (good_tup h1 h2) k⟩
    have e : b = s1.heap.objs.size := by simpa using hb
    subst e
    exact I1.fpOk (Nat.le_refl _) (I1.hok.fresh (Nat.le_refl _))
theorem di_rng1 (he : DE B W X e w) (hg : Gl X "range") (hm : X.mg "range" = none) (hs : starEach [e] X.env = [(false, eval e X.env)] := by rfl) : DI B W X tg (.Call (.Name "range" p) [e] [] pos) (wIRng1 w) := by
  refine ⟨⟨fun pins s σ H R I ⟨F, env, Ki, Kx, R0, hw, hx, q⟩ => ?_⟩⟩
  refine (pi_range1 (p := p) (pos := pos) hg hm (pa_cons he.pe pa_nil hs) hs).run pins s σ H R I ⟨F, env, _, Kx, R0, hw, hx, fun v env1 r F1 H1 R1 f1 q1 n1 ⟨j, e1, h1, h2, k⟩ => ?_⟩
  subst e1
  cases (show Rp X.K F1 v (.int j) from q1)
  have g := good_rng (B := B) (K := X.K) (F0 := F1) (lo := 0) (n := j.toNat)
  simp only [Int.zero_add] at g
  exact ⟨j, rfl, h1, h2, q _ env1 F1 H1 _ R1 f1 g k⟩
theorem di_rng2 (ha : DE B W X a wa) (hb : DE B W X b wb) (hg : Gl X "range") (hm : X.mg "range" = none) (hs : starEach [a, b] X.env = [(false, eval a X.env), (false, eval b X.env)] := by rfl) (hs2 : starEach [b] X.env = [(false, eval b X.env)] := by rfl) (hs1 : starEach [a, b] X.env = (false, eval a X.env) :: starEach [b] X.env := by rfl) (hs3 : starEach [b] X.env = (false, eval b X.env) :: starEach [] X.env := by rfl) :
    DI B W X tg (.Call (.Name "range" p) [a, b] [] pos) (wIRng2 wa wb) := by
  refine ⟨⟨fun pins s σ H R I ⟨F, env, Ki, Kx, R0, hw, hx, q⟩ => ?_⟩⟩
  refine (pi_range2 (p := p) (pos := pos) hg hm (pa_cons ha.pe (pa_cons hb.pe pa_nil hs3) hs1) hs hs2).run pins s σ H R I ⟨F, env, _, Kx, R0, hw, hx, fun v env1 r F1 H1 R1 f1 q1 n1 k1 => ⟨F1, env1, _, Kx, R1, k1, hx, fun v2 env2 r2 F2 H2 R2 f2 q2 n2 ⟨i, j, e1, e2, hb, k⟩ => ?_⟩⟩
  subst e1 e2
  cases (show Rp X.K F1 v (.int i) from q1)
  cases (show Rp X.K F2 v2 (.int j) from q2)
  exact ⟨i, j, rfl, hb, q _ env2 F2 H2 _ R2 (f1.trans f2) good_rng k⟩
end

/-! ### for -/
def wEach (g : WG) (t : WS) : List PyData → Ev → Ken → Prop
  | [], env, k => k.nx env
  | d :: r, env, k => g d env (fun e1 => t e1 { k with nx := fun e2 => wEach g t r e2 k, ct := fun e2 => wEach g t r e2 k, bk := k.nx })
def wFor (wi : WI) (g : WG) (t : WS) : WS := fun env k => wi env (fun e1 ds => wEach g t ds e1 k) k.ex
section
variable {B : Bs} {W : WX} {X : Cx} {pos : Pos}
theorem DG.pg {tg : Expr} {is : List Nat} {g : WG} (h : DG B X tg is g) : PG X tg (fun v σ H Q => ∃ F env d Kn, Rl X.K B F H env σ ∧ Rp X.K F v d ∧ g d env Kn ∧ ∀ σ' env', Rl X.K B F H env' σ' → Agree is σ σ' → OwnSub env env' → Kn env' → Q σ' H) := by
  refine ⟨fun pins s σ H v u Q I r ⟨F, env, d, Kn, R, rp, hg, q⟩ => ?_⟩
  exact thn (h.run pins s σ F H env v u d Kn I r R rp hg) fun _ s1 ⟨σ', env', I', R', a', o', k'⟩ => ⟨σ', H, I', q σ' env' R' a' o' k'⟩
theorem DSs.pss {sts : List Stmt} {w : WS} (h : DSs B W X sts w) : PSs X sts (fun D σ H => ∃ F env k, Rl X.K B F H env σ ∧ w env k ∧ XC X.K B W k.ex ∧ (∀ σ' env' F' H', Rl X.K B F' H' env' σ' → Same F F' → k.nx env' → D.nx σ' H') ∧
    (∀ v σ' env' r F' H', Rl X.K B F' H' env' σ' → Res X.K B F' H' env' σ' v r → k.rt env' r → D.rt v H') ∧ (∀ σ' env' F' H', Rl X.K B F' H' env' σ' → Same F F' → k.bk env' → D.bk σ' H') ∧ ∀ σ' env' F' H', Rl X.K B F' H' env' σ' → Same F F' → k.ct env' → D.ct σ' H') := by
  refine ⟨fun pins s σ H D I ⟨F, env, k, R, hw, hx, q1, q2, q3, q4⟩ => ?_⟩
  refine thn (h.run pins s σ F H env k I R hw hx) fun f s1 q => ?_
  cases f with
  | next => obtain ⟨σ', env', F', H', I', R', sm, k'⟩ := q; exact ⟨σ', H', I', q1 _ _ _ _ R' sm k'⟩
  | brk => obtain ⟨σ', env', F', H', I', R', sm, k'⟩ := q; exact ⟨σ', H', I', q3 _ _ _ _ R' sm k'⟩
  | cont => obtain ⟨σ', env', F', H', I', R', sm, k'⟩ := q; exact ⟨σ', H', I', q4 _ _ _ _ R' sm k'⟩
  | ret u => obtain ⟨v, σ', H', I', rv, σ2, env', r, F', R', res, k'⟩ := q; exact ⟨v, σ', H', I', rv, q2 _ _ _ _ _ _ R' res k'⟩
abbrev endsD (K : PySem.W.Frag) (B : Bs) (F0 : Hp) (k : Ken) : Ends := { nx := fun σ H => ∃ env F, Rl K B F H env σ ∧ Same F0 F ∧ k.nx env, rt := fun v H => ∃ σ env r F, Rl K B F H env σ ∧ Res K B F H env σ v r ∧ k.rt env r, bk := fun σ H => ∃ env F, Rl K B F H env σ ∧ Same F0 F ∧ k.bk env, ct := fun σ H => ∃ env F, Rl K B F H env σ ∧ Same F0 F ∧ k.ct env }
theorem SP.spd {pins : List (Addr × Obj)} {k : Ken} {f : Flow} {s' : Shared} {F0 : Hp} (h : SP X pins (endsD X.K B F0 k) f s') : SPD X B pins F0 k f s' := by
  cases f with
  | next => obtain ⟨σ', H', I', env', F', R', sm, k'⟩ := h; exact ⟨σ', env', F', H', I', R', sm, k'⟩
  | brk => obtain ⟨σ', H', I', env', F', R', sm, k'⟩ := h; exact ⟨σ', env', F', H', I', R', sm, k'⟩
  | cont => obtain ⟨σ', H', I', env', F', R', sm, k'⟩ := h; exact ⟨σ', env', F', H', I', R', sm, k'⟩
  | ret u => obtain ⟨v, σ', H', I', rv, σ2, env', r, F', R', res, k'⟩ := h; exact ⟨v, σ', H', I', rv, σ2, env', r, F', R', res, k'⟩
theorem ds_for {tg iter : Expr} {is : List Nat} {body : List Stmt} {wi : WI} {g : WG} {t : WS} (hp : PassesOwn (model X.prog X.w) X.A X.env X.xe) (hi : DI B W X tg iter wi) (hg : DG B X tg is g) (hb : DSs B W X body t) (hc : X.calm = true := by rfl)
    (hs : ∀ x, foldedSetIterable iter X.env x = pure x := by intro _; rfl) : DS B W X (.For tg iter body [] pos) (wFor wi g t) := by
  refine ⟨fun pins s σ F H env k I R h hx => ?_⟩
  refine thn ((ps_for hp hc hi.pi hg.pg hb.pss hs).run pins s σ H (endsD X.K B F k) I ⟨F, env, _, k.ex, R, h, hx, fun J env1 F1 H1 ds R1 f1 good k1 => ?_⟩) fun f s1 q => SP.spd q
  refine ⟨fun i m σ' H' => m = ds.length - i ∧ i ≤ ds.length ∧ ∃ F' env', Rl X.K B F' H' env' σ' ∧ Same F1 F' ∧ wEach g t (ds.drop i) env' k, ⟨ds.length, by simp, Nat.zero_le _, F1, env1, R1, fun _ _ h => h, k1⟩, ?_⟩
  rintro i m σ' H' ⟨rfl, hi', F', env', R', s', w'⟩
  obtain ⟨g1, g2⟩ := good F' H' env' σ' i R' s'
  by_cases hlt : i < ds.length
  · obtain ⟨h1, h2⟩ := g1 hlt
    refine .inr ⟨h1, fun σ2 H2 => ∃ F2 env2, Rl X.K B F2 H2 env2 σ2 ∧ Same F1 F2 ∧ wEach g t (ds.drop (i + 1)) env2 k, fun σ2 H2 ⟨F2, env2, R2, s2, w2⟩ => ⟨ds.length - (i + 1), by omega, rfl, hlt, F2, env2, R2, s2, w2⟩, fun x H2 y => ?_⟩
    obtain ⟨F2, d, R2, f2, e2, rp⟩ := h2 x H2 y
    have hd : ds.drop i = d :: ds.drop (i + 1) := by
      rw [List.drop_eq_getElem_cons hlt]
      rw [List.getElem?_eq_getElem hlt] at e2
      cases e2
      rfl
    rw [hd] at w'
    have sm2 := s'.trans f2.sub
    exact ⟨F2, env', d, _, R2, rp, w', fun σ3 env3 R3 _ _ w3 => ⟨F2, env3, _, R3, w3, hx, fun σ4 env4 F4 H4 R4 s4 k4 => ⟨F4, env4, R4, sm2.trans s4, k4⟩, fun v σ4 env4 r F4 H4 R4 res k4 => ⟨σ4, env4, r, F4, R4, res, k4⟩,
      fun σ4 env4 F4 H4 R4 s4 k4 => ⟨env4, F4, R4, (f1.sub.trans sm2).trans s4, k4⟩, fun σ4 env4 F4 H4 R4 s4 k4 => ⟨F4, env4, R4, sm2.trans s4, k4⟩⟩⟩
  · rw [List.drop_eq_nil_of_le (by omega)] at w'
    exact .inl ⟨g2 (by omega), env', F', R', f1.sub.trans s', w'⟩
end
end Dl
end L2

/-! The D layer, 10: list comprehensions. -/
namespace L2
namespace Dl
open PySem PySem.Spec PyProof.Rows

def wipeE (env : Ev) : List Nat → Ev
  | [] => env
  | v :: vs => (wipeE env vs).set v .un
/-- the slots at vs as they were in e1 -/
def restE (e1 : Ev) (e : Ev) : List Nat → Ev
  | [] => e
  | v :: vs => (restE e1 e vs).set v (e1[v]?.getD .un)
abbrev NoX : KXc := fun _ _ => False
abbrev W0 : WX := fun _ _ _ _ => False
def wLcE (vs : List Nat) (g : WG) (ct : WT) (we : WE) : List PyData → List PyData → Ev → (Ev → List PyData → Prop) → Prop
  | [], acc, env, K => K env acc
  | d :: r, acc, env, K => g d env (fun e1 => ct e1 (fun e2 b => if b = true then wFz we e2 (fun e3 y => acc.length < sizeLine ∧ wLcE vs g ct we r (acc ++ [y]) (wipeE e3 vs) K) NoX else wLcE vs g ct we r acc (wipeE e2 vs) K) NoX)
def wLc (vs : List Nat) (wi : WI) (g : WG) (ct : WT) (we : WE) : WE := fun env Ke Kx => wi env (fun e1 ds => wLcE vs g ct we ds [] (wipeE e1 vs) (fun e2 acc => Ke (restE e1 e2 vs) (.tmp acc))) Kx
def wYes : WT := fun env Kt _ => Kt env true

theorem wipeE_len (env : Ev) : ∀ vs : List Nat, (wipeE env vs).length = env.length
  | [] => rfl
  | v :: vs => by unfold wipeE; rw [List.length_set, wipeE_len env vs]
theorem wipeE_in {env : Ev} : ∀ {vs : List Nat} {j : Nat}, j ∈ vs → ∀ s, (wipeE env vs)[j]? = some s → s = Sl.un
  | [], _, h, _, _ => by cases h
  | v :: vs, j, h, s, e => by
    unfold wipeE at e
    by_cases hv : v = j
    · subst hv
      by_cases hl : v < (wipeE env vs).length
      · rw [List.getElem?_set_self hl] at e
        cases e
        rfl
      · rw [List.getElem?_eq_none (by simpa using hl)] at e
        cases e
    · rw [List.getElem?_set_ne hv] at e
      exact wipeE_in ((List.mem_cons.mp h).resolve_left (fun z => hv z.symm)) s e
theorem wipeE_out {env : Ev} : ∀ {vs : List Nat} {j : Nat}, j ∉ vs → (wipeE env vs)[j]? = env[j]?
  | [], _, _ => rfl
  | v :: vs, j, h => by
    unfold wipeE
    rw [List.getElem?_set_ne (fun z => h (by rw [z]; exact List.mem_cons_self))]
    exact wipeE_out fun z => h (List.mem_cons_of_mem _ z)
theorem restE_len (e1 e : Ev) : ∀ vs : List Nat, (restE e1 e vs).length = e.length
  | [] => rfl
  | v :: vs => by unfold restE; rw [List.length_set, restE_len e1 e vs]
theorem restE_out {e1 e : Ev} : ∀ {vs : List Nat} {j : Nat}, j ∉ vs → (restE e1 e vs)[j]? = e[j]?
  | [], _, _ => rfl
  | v :: vs, j, h => by
    unfold restE
    rw [List.getElem?_set_ne (fun z => h (by rw [z]; exact List.mem_cons_self))]
    exact restE_out fun z => h (List.mem_cons_of_mem _ z)
theorem restE_in {e1 e : Ev} (hl : e.length = e1.length) : ∀ {vs : List Nat} {j : Nat}, j ∈ vs → (restE e1 e vs)[j]? = e1[j]?
  | [], _, h => by cases h
  | v :: vs, j, h => by
    unfold restE
    by_cases hv : v = j
    · subst hv
      by_cases hlt : v < e1.length
      · rw [List.getElem?_set_self (by rw [restE_len, hl]; exact hlt)]
        rw [List.getElem?_eq_getElem hlt]
        rfl
      · rw [List.getElem?_eq_none (by rw [List.length_set, restE_len, hl]; omega), List.getElem?_eq_none (by omega)]
    · rw [List.getElem?_set_ne hv]
      exact restE_in hl ((List.mem_cons.mp h).resolve_left (fun z => hv z.symm))
section
variable {K : PySem.W.Frag} {B : Bs} {F H F1 H1 : Hp} {env e1 : Ev} {σ σ' : St} {vs : List Nat}
theorem wipe_in {σ : St} : ∀ {vs : List Nat} {j : Nat}, j ∈ vs → ∀ x, (wipe σ vs)[j]? = some x → x = none
  | [], _, h, _, _ => by cases h
  | v :: vs, j, h, x, e => by
    unfold wipe at e
    by_cases hv : v = j
    · subst hv
      by_cases hl : v < (wipe σ vs).length
      · rw [List.getElem?_set_self hl] at e
        cases e
        rfl
      · rw [List.getElem?_eq_none (by simpa using hl)] at e
        cases e
    · rw [List.getElem?_set_ne hv] at e
      exact wipe_in ((List.mem_cons.mp h).resolve_left (fun z => hv z.symm)) x e
theorem wipe_agree (h : ∀ j, j ∉ vs → σ'[j]? = σ[j]?) (hl : σ'.length = σ.length) : wipe σ' vs = wipe σ vs := by
  apply List.ext_getElem?
  intro j
  by_cases hj : j ∈ vs
  · by_cases hlt : j < σ.length
    · have h1l : j < (wipe σ' vs).length := by rw [wipe_length, hl]; exact hlt
      have h2l : j < (wipe σ vs).length := by rw [wipe_length]; exact hlt
      have h1 : (wipe σ' vs)[j]? = some (wipe σ' vs)[j] := List.getElem?_eq_getElem h1l
      have h2 : (wipe σ vs)[j]? = some (wipe σ vs)[j] := List.getElem?_eq_getElem h2l
      have g1 := wipe_in hj _ h1
      have g2 := wipe_in hj _ h2
      rw [h1, h2, g1, g2]
    · rw [List.getElem?_eq_none (by rw [wipe_length, hl]; omega), List.getElem?_eq_none (by rw [wipe_length]; omega)]
  · rw [wipe_out hj, wipe_out hj]
    exact h j hj
/-- within the block: the block's own names are unset -/
theorem Rl.wiped (R : Rl K B F H env σ) (nl : ∀ p ∈ B.all, p.1 ∉ vs) : Rl K B F H (wipeE env vs) (wipe σ vs) := by
  have ow : ∀ {j : Nat} {l : Bool} {ds : List PyData}, (wipeE env vs)[j]? = some (Sl.own l ds) → j ∉ vs ∧ env[j]? = some (Sl.own l ds) := fun {j l ds} h => by
    by_cases hj : j ∈ vs
    · cases wipeE_in hj _ h
    · rw [wipeE_out hj] at h
      exact ⟨hj, h⟩
  have od : ∀ {j : Nat} {kv : List (List Int × PyData)}, (wipeE env vs)[j]? = some (Sl.dct kv) → j ∉ vs ∧ env[j]? = some (Sl.dct kv) := fun {j kv} h => by
    by_cases hj : j ∈ vs
    · cases wipeE_in hj _ h
    · rw [wipeE_out hj] at h
      exact ⟨hj, h⟩
  refine ⟨by rw [wipeE_len, wipe_length]; exact R.len, R.sub, fun j => ?_, fun i j l m ds es a h1 h2 h3 h4 => ?_, R.sub0, R.new, R.frm, R.dom, fun i ds a h1 h2 => ?_, fun i ds a h1 h2 => ?_, fun p hp => ?_, fun i j kv kw a h1 h2 h3 h4 => ?_, fun i kv a h1 h2 => ?_⟩
  · by_cases hj : j ∈ vs
    · cases q : (wipeE env vs)[j]? with
      | none => trivial
      | some s =>
        cases wipeE_in hj s q
        trivial
    · rw [wipeE_out hj, wipe_out hj]
      exact R.sl j
  · obtain ⟨n1, g1⟩ := ow h1
    obtain ⟨n2, g2⟩ := ow h2
    rw [wipe_out n1] at h3
    rw [wipe_out n2] at h4
    exact R.dist i j l m ds es a g1 g2 h3 h4
  · obtain ⟨n1, g1⟩ := ow h1
    rw [wipe_out n1] at h2
    exact R.own0 i ds a g1 h2
  · obtain ⟨n1, g1⟩ := ow h1
    rw [wipe_out n1] at h2
    exact R.own1 i ds a g1 h2
  · rw [wipe_out (nl p hp)]
    exact R.lsl p hp
  · obtain ⟨n1, g1⟩ := od h1
    obtain ⟨n2, g2⟩ := od h2
    rw [wipe_out n1] at h3
    rw [wipe_out n2] at h4
    exact R.dd i j kv kw a g1 g2 h3 h4
  · obtain ⟨n1, g1⟩ := od h1
    rw [wipe_out n1] at h2
    exact R.d0 i kv a g1 h2
/-- ownership in the wiped state is ownership ahead of it -/
theorem own_wiped {a : Addr} (h : ownAt (wipeE env vs) (wipe σ vs) a) : ownAt env σ a := by
  rcases h with ⟨j, l, ds, h1, h2⟩ | ⟨j, kv, h1, h2⟩
  · by_cases hj : j ∈ vs
    · cases wipeE_in hj _ h1
    · rw [wipeE_out hj] at h1
      rw [wipe_out hj] at h2
      exact .inl ⟨j, l, ds, h1, h2⟩
  · by_cases hj : j ∈ vs
    · cases wipeE_in hj _ h1
    · rw [wipeE_out hj] at h1
      rw [wipe_out hj] at h2
      exact .inr ⟨j, kv, h1, h2⟩
/-- behind the block -/
theorem Rl.restored (R1 : Rl K B F1 H1 e1 σ) (R : Rl K B F H env (wipe σ vs)) (f : Fm (wipeE e1 vs) (wipe σ vs) F1 H1 env F H) (nl : ∀ p ∈ B.all, p.1 ∉ vs) : Rl K B F H (restE e1 env vs) σ ∧ Fm e1 σ F1 H1 (restE e1 env vs) F H := by
  have hl : env.length = e1.length := by
    have h1 := R.len
    have h2 := R1.len
    rw [wipe_length] at h1
    omega
  -- an own slot of the restored state
  have ow : ∀ {j : Nat} {l : Bool} {ds : List PyData}, (restE e1 env vs)[j]? = some (Sl.own l ds) → (j ∈ vs ∧ e1[j]? = some (Sl.own l ds)) ∨ (j ∉ vs ∧ env[j]? = some (Sl.own l ds)) := fun {j l ds} h => by
    by_cases hj : j ∈ vs
    · rw [restE_in hl hj] at h
      exact .inl ⟨hj, h⟩
    · rw [restE_out hj] at h
      exact .inr ⟨hj, h⟩
  have owE : ∀ {j : Nat} {l : Bool} {ds : List PyData}, (restE e1 env vs)[j]? = some (Sl.own l ds) → ∃ ds0, e1[j]? = some (Sl.own l ds0) := fun {j l ds} h => by
    rcases ow h with ⟨_, g⟩ | ⟨n, g⟩
    · exact ⟨ds, g⟩
    · obtain ⟨ds0, g1⟩ := f.own j l ds g
      rw [wipeE_out n] at g1
      exact ⟨ds0, g1⟩
  -- an address owned by a hidden slot is not owned in the block
  have hid : ∀ {j : Nat} {l : Bool} {ds : List PyData} {a : Addr}, j ∈ vs → e1[j]? = some (Sl.own l ds) → σ[j]? = some (some (V.ref a)) → ¬ ownAt (wipeE e1 vs) (wipe σ vs) a := fun {j l ds a} hj h1 h2 ow => by
    rcases ow with ⟨k, m, es, g1, g2⟩ | ⟨k, kv, g1, g2⟩
    · by_cases hk : k ∈ vs
      · cases wipeE_in hk _ g1
      · rw [wipeE_out hk] at g1
        rw [wipe_out hk] at g2
        have e := R1.dist j k l m ds es a h1 g1 h2 g2
        exact hk (e ▸ hj)
    · by_cases hk : k ∈ vs
      · cases wipeE_in hk _ g1
      · rw [wipeE_out hk] at g1
        rw [wipe_out hk] at g2
        have s1 := R1.sl j
        have s2 := R1.sl k
        rw [h1] at s1
        rw [g1] at s2
        obtain ⟨b, ws, y1, y2, _⟩ := s1
        obtain ⟨c, z1, z2, _⟩ := s2
        rw [h2] at y1
        cases y1
        rw [g2] at z1
        cases z1
        rw [y2] at z2
        cases z2
  have odE : ∀ {j : Nat} {kv : List (List Int × PyData)}, (restE e1 env vs)[j]? = some (Sl.dct kv) → ∃ kw, e1[j]? = some (Sl.dct kw) := fun {j kv} h => by
    by_cases hj : j ∈ vs
    · rw [restE_in hl hj] at h
      exact ⟨kv, h⟩
    · rw [restE_out hj] at h
      obtain ⟨kw, g1⟩ := f.od j kv h
      rw [wipeE_out hj] at g1
      exact ⟨kw, g1⟩
  have hidd : ∀ {j : Nat} {kv : List (List Int × PyData)} {a : Addr}, j ∈ vs → e1[j]? = some (Sl.dct kv) → σ[j]? = some (some (V.ref a)) → ¬ ownAt (wipeE e1 vs) (wipe σ vs) a := fun {j kv a} hj h1 h2 ow => by
    rcases ow with ⟨k, m, es, g1, g2⟩ | ⟨k, kw, g1, g2⟩
    · by_cases hk : k ∈ vs
      · cases wipeE_in hk _ g1
      · rw [wipeE_out hk] at g1
        rw [wipe_out hk] at g2
        have s1 := R1.sl j
        have s2 := R1.sl k
        rw [h1] at s1
        rw [g1] at s2
        obtain ⟨b, y1, y2, _⟩ := s1
        obtain ⟨c, ws, z1, z2, _⟩ := s2
        rw [h2] at y1
        cases y1
        rw [g2] at z1
        cases z1
        rw [y2] at z2
        cases z2
    · by_cases hk : k ∈ vs
      · cases wipeE_in hk _ g1
      · rw [wipeE_out hk] at g1
        rw [wipe_out hk] at g2
        have e := R1.dd j k kv kw a h1 g1 h2 g2
        exact hk (e ▸ hj)
  refine ⟨⟨by rw [restE_len, hl]; exact R1.len, R.sub, fun j => ?_, fun i j l m ds es a h1 h2 h3 h4 => ?_, R.sub0, R.new, R.frm, R.dom, fun i ds a h1 h2 => ?_, fun i ds a h1 h2 => ?_, R1.lsl, fun i j kv kw a h1 h2 h3 h4 => ?_, fun i kv a h1 h2 => ?_⟩, ⟨fun b x h n => f.keep b x h fun q => n (own_wiped q), f.sub, fun b x h => ?_, fun i l ds h => owE h, f.dom, fun i kv h => odE h⟩⟩
  · by_cases hj : j ∈ vs
    · rw [restE_in hl hj]
      have s := R1.sl j
      cases q : e1[j]? with
      | none => trivial
      | some z =>
        rw [q] at s
        cases z with
        | un => trivial
        | val d =>
          obtain ⟨v, g1, g2⟩ := s
          exact ⟨v, g1, Rp.mono f.sub _ _ g2⟩
        | own l ds =>
          obtain ⟨a, ws, g1, g2, g3, g4⟩ := s
          have na := hid hj q g1
          refine ⟨a, ws, g1, f.keep a _ g2 na, ?_, RpAll.mono f.sub _ _ g4⟩
          cases z : F a with
          | none => rfl
          | some x =>
            rcases f.new a x z with y | y | y
            · rw [g3] at y; cases y
            · exact (y.lst g2).elim
            · exact absurd y na
        | dct kv =>
          obtain ⟨a, g1, g2, g3⟩ := s
          have na := hidd hj q g1
          refine ⟨a, g1, f.keep a _ g2 na, ?_⟩
          cases z : F a with
          | none => rfl
          | some x =>
            rcases f.new a x z with y | y | y
            · rw [g3] at y; cases y
            · exact (y.dT g2).elim
            · exact absurd y na
    · rw [restE_out hj]
      have s := R.sl j
      rw [wipe_out hj] at s
      exact s
  · obtain ⟨d1, g1⟩ := owE h1
    obtain ⟨d2, g2⟩ := owE h2
    exact R1.dist i j l m d1 d2 a g1 g2 h3 h4
  · obtain ⟨d1, g1⟩ := owE h1
    exact R1.own0 i d1 a g1 h2
  · obtain ⟨d1, g1⟩ := owE h1
    exact R1.own1 i d1 a g1 h2
  · obtain ⟨d1, g1⟩ := odE h1
    obtain ⟨d2, g2⟩ := odE h2
    exact R1.dd i j d1 d2 a g1 g2 h3 h4
  · obtain ⟨d1, g1⟩ := odE h1
    exact R1.d0 i d1 a g1 h2
  · rcases f.new b x h with z | z | z
    · exact .inl z
    · exact .inr (.inl z)
    · exact .inr (.inr (own_wiped z))
/-- a tracked object that is nobody's is written -/
theorem Rl.other (R : Rl K B F H env σ) {D : Addr} {o : HO} (hF : F D = none) (h0 : B.H0 D = none) (no : ¬ ownAt env σ D) : Rl K B F (upd H D o) env σ := by
  refine ⟨R.len, fun b x e => ?_, fun j => ?_, R.dist, R.sub0, R.new, fun b x e n => ?_, fun b e => ?_, R.own0, R.own1, R.lsl, R.dd, R.d0⟩
  · rw [upd_ne]
    · exact R.sub b x e
    · rintro rfl
      rw [hF] at e
      cases e
  · have s := R.sl j
    cases q : env[j]? with
    | none => trivial
    | some z =>
      rw [q] at s
      cases z with
      | un => trivial
      | val d => exact s
      | own l ds =>
        obtain ⟨a, ws, g1, g2, g3, g4⟩ := s
        refine ⟨a, ws, g1, ?_, g3, g4⟩
        rw [upd_ne]
        · exact g2
        · rintro rfl
          exact no (.inl ⟨j, l, ds, q, g1⟩)
      | dct kv =>
        obtain ⟨a, g1, g2, g3⟩ := s
        refine ⟨a, g1, ?_, g3⟩
        rw [upd_ne]
        · exact g2
        · rintro rfl
          exact no (.inr ⟨j, kv, q, g1⟩)
  · rw [upd_ne]
    · exact R.frm b x e n
    · rintro rfl
      rw [h0] at e
      cases e
  · by_cases hb : b = D
    · subst hb
      rw [upd_same]
      simp
    · rw [upd_ne hb]
      exact R.dom b e
/-- .. in a frame that begins ahead of it -/
theorem Fm.other {env0 : Ev} {F0 H0 : Hp} {D : Addr} {o : HO} (f : Fm env0 σ F0 H0 env F H) (h : H0 D = none) : Fm env0 σ F0 H0 env F (upd H D o) :=
  ⟨fun b x e n => by rw [upd_ne (ne_of_none e h)]; exact f.keep b x e n, f.sub, f.new, f.own, fun b e => by
    by_cases hb : b = D
    · subst hb
      rw [upd_same]
      simp
    · rw [upd_ne hb]
      exact f.dom b e, f.od⟩
end

section
variable {B : Bs} {W : WX} {X : Cx} {tg iter elt c : Expr} {is : List Nat} {wi : WI} {g : WG} {ct : WT} {we : WE} {pos : Pos}
/-- a comprehension's tests -/
structure DTs (B : Bs) (X : Cx) (ifs : List Expr) (w : WT) : Prop where
  pts : PTs X ifs (fun σ H Q => ∃ F env Kt, Rl X.K B F H env σ ∧ w env Kt NoX ∧ ∀ env' F' H' b, Rl X.K B F' H' env' σ → Fm env σ F H env' F' H' → Kt env' b → Q b H')
theorem dts_nil : DTs B X [] wYes := by
  refine ⟨⟨fun pins s σ H Q I ⟨F, env, Kt, R, hw, q⟩ => ?_⟩⟩
  exact pts_nil.run pins s σ H Q I (q env F H true R Fm.refl hw)
theorem DT.pt {w : WT} (h : DT B W0 X c w) : PT X c (fun σ H Q => ∃ F env Kt, Rl X.K B F H env σ ∧ w env Kt NoX ∧ ∀ env' F' H' b, Rl X.K B F' H' env' σ → Fm env σ F H env' F' H' → Kt env' b → Q b H') := by
  refine ⟨fun pins s σ H Q I ⟨F, env, Kt, R, hw, q⟩ => ?_⟩
  exact thn (h.run pins s σ F H env Kt NoX I R hw (fun _ _ _ _ _ _ _ z => z.elim)) fun b s1 ⟨env', F', H', I', R', f', k'⟩ => ⟨H', I', q env' F' H' b R' f' k'⟩
theorem dts_one {w : WT} (h : DT B W0 X c w) : DTs B X [c] w := ⟨pts_one h.pt⟩

abbrev tiW (K : PySem.W.Frag) (B : Bs) (W : WX) (wi : WI) : TI := fun σ H R => ∃ F env Ki Kx, Rl K B F H env σ ∧ wi env Ki Kx ∧ XC K B W Kx ∧ ∀ J env' F' H' ds, Rl K B F' H' env' σ → Fm env σ F H env' F' H' → GoodIt K B J F' ds → Ki env' ds → R J H'
abbrev teW (K : PySem.W.Frag) (B : Bs) (W : WX) (we : WE) : TE := fun σ H Q => ∃ F env Ke Kx, Rl K B F H env σ ∧ we env Ke Kx ∧ XC K B W Kx ∧
    ∀ v env' r F' H', Rl K B F' H' env' σ → Fm env σ F H env' F' H' → Res K B F' H' env' σ v r → Nw H v r → Ke env' r → Q v H'
abbrev ttW (K : PySem.W.Frag) (B : Bs) (ct : WT) : TT := fun σ H Q => ∃ F env Kt, Rl K B F H env σ ∧ ct env Kt NoX ∧ ∀ env' F' H' b, Rl K B F' H' env' σ → Fm env σ F H env' F' H' → Kt env' b → Q b H'
abbrev tgW (K : PySem.W.Frag) (B : Bs) (is : List Nat) (g : WG) : TG := fun v σ H Q => ∃ F env d Kn, Rl K B F H env σ ∧ Rp K F v d ∧ g d env Kn ∧ ∀ σ' env', Rl K B F H env' σ' → Agree is σ σ' → OwnSub env env' → Kn env' → Q σ' H
theorem lc_t {K : PySem.W.Frag} {is vs : List Nat} {σ : St} {F H : Hp} {env : Ev} {Ke : KE} {Kx : KXc} (his : ∀ i ∈ is, i ∈ vs) (nl : ∀ p ∈ B.all, p.1 ∉ vs) (R : Rl K B F H env σ) (h : wLc vs wi g ct we env Ke Kx) (hx : XC K B W Kx) :
    tLc (tiW K B W wi) (tgW K B is g) (ttW K B ct) (teW K B W0 we) vs σ H (fun v H' => ∃ env' r F', Rl K B F' H' env' σ ∧ Fm env σ F H env' F' H' ∧ Res K B F' H' env' σ v r ∧ Nw H v r ∧ Ke env' r) := by
  refine ⟨F, env, _, Kx, R, h, hx, fun J e1 F1 H1 ds R1 f1 good k1 => ?_⟩
  intro D hD
  have RW := R1.wiped (vs := vs) nl
  have fD := R1.freeF hD
  have D0 := R1.free0 hD
  have nD := R1.notOwn hD
  refine ⟨fun i m H2 => m = ds.length - i ∧ i ≤ ds.length ∧ ∃ F2 env2 acc ws, Rl K B F2 H2 env2 (wipe σ vs) ∧ Fm (wipeE e1 vs) (wipe σ vs) F1 H1 env2 F2 H2 ∧ H2 D = some (.lst ws) ∧ F2 D = none ∧ RpAll K F2 ws acc ∧
    wLcE vs g ct we (ds.drop i) acc env2 (fun e2 acc => Ke (restE e1 e2 vs) (.tmp acc)), ⟨ds.length, by simp, Nat.zero_le _, F1, wipeE e1 vs, [], [], RW.other fD D0 fun q => nD (own_wiped q), Fm.refl.other hD, upd_same, fD, .nil, k1⟩, ?_⟩
  rintro i m H2 ⟨rfl, hi', F2, env2, acc, ws, R2, f2, eD, fD2, ra, w2⟩
  have nD2 : ¬ ownAt env2 (wipe σ vs) D := fun q => nD (own_wiped (f2.ownAt q))
  obtain ⟨g1, g2⟩ := good F2 H2 env2 (wipe σ vs) i R2 f2.sub
  by_cases hlt : i < ds.length
  · obtain ⟨h1, h2⟩ := g1 hlt
    refine .inr ⟨h1, fun H3 => ∃ F3 env3 acc3 ws3, Rl K B F3 H3 env3 (wipe σ vs) ∧ Fm (wipeE e1 vs) (wipe σ vs) F1 H1 env3 F3 H3 ∧ H3 D = some (.lst ws3) ∧ F3 D = none ∧ RpAll K F3 ws3 acc3 ∧
      wLcE vs g ct we (ds.drop (i + 1)) acc3 env3 (fun e2 acc => Ke (restE e1 e2 vs) (.tmp acc)), fun H3 ⟨F3, env3, acc3, ws3, z⟩ => ⟨ds.length - (i + 1), by omega, rfl, hlt, F3, env3, acc3, ws3, z⟩, fun x H3 y => ?_⟩
    obtain ⟨F3, d, R3, f3, e3, rp⟩ := h2 x H3 y
    have hd : ds.drop i = d :: ds.drop (i + 1) := by
      rw [List.drop_eq_getElem_cons hlt]
      rw [List.getElem?_eq_getElem hlt] at e3
      cases e3
      rfl
    rw [hd] at w2
    have ff3 := f2.trans f3
    have eD3 : H3 D = some (.lst ws) := f3.keep D _ eD nD2
    have fD3 : F3 D = none := by
      cases z : F3 D with
      | none => rfl
      | some x =>
        rcases f3.new D x z with y | y | y
        · rw [fD2] at y; cases y
        · exact (y.lst eD).elim
        · exact absurd y nD2
    refine ⟨F3, env2, d, _, R3, rp, w2, fun σ4 env4 R4 ag os4 w4 => ?_⟩
    have ew : wipe σ4 vs = wipe σ vs := by
      have e := wipe_agree (vs := vs) (σ := wipe σ vs) (σ' := σ4) (fun j hj => ag.2 j fun z => hj (his j z)) ag.1
      rw [e]
      exact wipe_agree (fun j hj => wipe_out hj) (wipe_length _ _)
    -- ownership in the turn is ownership ahead of it
    have back : ∀ {a : Addr}, ownAt env4 σ4 a → ownAt env2 (wipe σ vs) a := fun {a} ow => by
      rcases ow with ⟨j, l, es, g1, g2⟩ | ⟨j, kv, g1, g2⟩
      · have g3 := os4.1 j l es g1
        obtain ⟨b, bs, g4, _⟩ := R2.ownSl g3
        have hj : j ∉ vs := fun z => by
          cases wipe_in z _ g4
        rw [ag.2 j fun z => hj (his j z)] at g2
        exact .inl ⟨j, l, es, g3, g2⟩
      · have g3 := os4.2 j kv g1
        have s := R2.sl j
        rw [g3] at s
        obtain ⟨b, g4, _⟩ := s
        have hj : j ∉ vs := fun z => by
          cases wipe_in z _ g4
        rw [ag.2 j fun z => hj (his j z)] at g2
        exact .inr ⟨j, kv, g3, g2⟩
    -- the frame of a turn, the block's names forgotten
    have fin : ∀ {env5 : Ev} {F5 H5 : Hp}, Rl K B F5 H5 env5 σ4 → Fm env4 σ4 F3 H3 env5 F5 H5 → Rl K B F5 H5 (wipeE env5 vs) (wipe σ vs) ∧ Fm env2 (wipe σ vs) F3 H3 (wipeE env5 vs) F5 H5 := fun {env5 F5 H5} R5 f5 => by
      have r5 := R5.wiped (vs := vs) nl
      rw [ew] at r5
      refine ⟨r5, ⟨fun b x e n => f5.keep b x e fun q => n (back q), f5.sub, fun b x e => ?_, fun j l es e => ?_, f5.dom, fun j kv e => ?_⟩⟩
      · rcases f5.new b x e with z | z | z
        · exact .inl z
        · exact .inr (.inl z)
        · exact .inr (.inr (back z))
      · by_cases hj : j ∈ vs
        · cases wipeE_in hj _ e
        · rw [wipeE_out hj] at e
          obtain ⟨ds0, g1⟩ := f5.own j l es e
          exact ⟨ds0, os4.1 j l ds0 g1⟩
      · by_cases hj : j ∈ vs
        · cases wipeE_in hj _ e
        · rw [wipeE_out hj] at e
          obtain ⟨kw, g1⟩ := f5.od j kv e
          exact ⟨kw, os4.2 j kw g1⟩
    have keepD : ∀ {env5 : Ev} {F5 H5 : Hp}, Fm env4 σ4 F3 H3 env5 F5 H5 → H5 D = some (.lst ws) ∧ F5 D = none := fun {env5 F5 H5} f5 => by
      have nD4 : ¬ ownAt env4 σ4 D := fun q => nD2 (back q)
      refine ⟨f5.keep D _ eD3 nD4, ?_⟩
      cases z : F5 D with
      | none => rfl
      | some x =>
        rcases f5.new D x z with y | y | y
        · rw [fD3] at y; cases y
        · exact (y.lst eD3).elim
        · exact absurd y nD4
    refine ⟨ew, F3, env4, _, R4, w4, fun env5 F5 H5 b R5 f5 k5 => ?_⟩
    cases b with
    | false =>
      rw [if_neg Bool.false_ne_true] at k5 ⊢
      obtain ⟨r5, m5⟩ := fin R5 f5
      obtain ⟨d1, d2⟩ := keepD f5
      exact ⟨F5, wipeE env5 vs, acc, ws, r5, ff3.trans m5, d1, d2, RpAll.mono (f3.sub.trans f5.sub) _ _ ra, k5⟩
    | true =>
      rw [if_pos rfl] at k5 ⊢
      refine ⟨F5, env5, _, NoX, R5, k5, fun _ _ _ _ _ _ _ z => z.elim, fun v env6 r F6 H6 R6 f6 q6 n6 ⟨pr, e6, hz, k6⟩ => ?_⟩
      obtain ⟨F7, R7, f7, rp7⟩ := freeze (env2 := pr.1) (d := pr.2) R6 f6 q6 n6 e6
      obtain ⟨r7, m7⟩ := fin R7 (f5.trans f7)
      obtain ⟨d1, d2⟩ := keepD (f5.trans f7)
      have nD7 : ¬ ownAt (wipeE pr.1 vs) (wipe σ vs) D := fun q => nD2 (m7.ownAt q)
      have ra7 := RpAll.mono (f3.sub.trans (f5.trans f7).sub) _ _ ra
      exact ⟨ws, d1, by rw [ra.length]; exact hz, F7, wipeE pr.1 vs, acc ++ [pr.2], ws ++ [v], r7.other d2 D0 nD7, (ff3.trans m7).other hD, upd_same, d2, ra7.append (.cons rp7 .nil), k6⟩
  · rw [List.drop_eq_nil_of_le (by omega)] at w2
    obtain ⟨r1, r2⟩ := Rl.restored R1 R2 f2 nl
    refine .inl ⟨g2 (by omega), restE e1 env2 vs, .tmp acc, F2, r1, f1.trans r2, ⟨D, ws, rfl, eD, fD2, D0, fun q => ?_, ra⟩, fun p e => ?_, w2⟩
    · exact nD (r2.ownAt q)
    · cases e
      cases z : H D with
      | none => rfl
      | some x => exact absurd hD (f1.dom D (by rw [z]; simp))
/-- [elt for tg in iter if ..] -/
theorem de_lc {ifs : List Expr} {scope : Scope} {own : List (Str × Nat)} (hi : DI B W X tg iter wi) (ok : BlkOk X.N X.env.scope scope own) (his : ∀ i ∈ is, i ∈ own.map (·.2)) (nl : ∀ p ∈ B.all, p.1 ∉ own.map (·.2)) (hN : X.N.Nodup)
    (hg : ∀ (s : Shared) (H : Hp) (C : Addr) (cl : List (Str × Addr)) (fp : List Addr), DG B (X.blk s H scope (compEnvC scope cl C X.env) fp) tg is g) (ht : ∀ (s : Shared) (H : Hp) (C : Addr) (cl : List (Str × Addr)) (fp : List Addr), DTs B (X.blk s H scope (compEnvC scope cl C X.env) fp) ifs ct)
    (he : ∀ (s : Shared) (H : Hp) (C : Addr) (cl : List (Str × Addr)) (fp : List Addr), DE B W0 (X.blk s H scope (compEnvC scope cl C X.env) fp) elt we) (hc : X.calm = true := by rfl) (hs : ∀ x, foldedSetIterable iter X.env x = pure x := by intro _; rfl) :
    DE B W X (.ListComp elt [⟨tg, iter, ifs, 0⟩] scope pos) (wLc (own.map (·.2)) wi g ct we) := by
  refine ⟨fun pins s σ F H env Ke Kx I R h hx => ?_⟩
  have pe := pe_lc (pos := pos) (elt := elt) (ifs := ifs) (te := teW X.K B W0 we) (tt := ttW X.K B ct) (g := tgW X.K B is g) hc hN hi.pi ok (fun s H C cl fp => (hg s H C cl fp).pg) (fun s H C cl fp => (ht s H C cl fp).pts) (fun s H C cl fp => (he s H C cl fp).pe) hs
  exact thn (pe.run pins s σ H (fun v H' => ∃ env' r F', Rl X.K B F' H' env' σ ∧ Fm env σ F H env' F' H' ∧ Res X.K B F' H' env' σ v r ∧ Nw H v r ∧ Ke env' r) I (lc_t his nl R h hx)) fun u s1 ⟨v, H', I', rv, env', r, F', h1, h2, h3, h4, h5⟩ => ⟨v, env', r, F', H', I', rv, h1, h2, h3, h4, h5⟩
theorem lc_mono {K : PySem.W.Frag} {tgx : TG} {ttx : TT} {tex : TE} {vs : List Nat} {σ : St} {H : Hp} {Q Q' : VK} (hQ : ∀ v H, Q v H → Q' v H) (h : tLc (tiW K B W wi) tgx ttx tex vs σ H Q) : tLc (tiW K B W wi) tgx ttx tex vs σ H Q' := by
  obtain ⟨F, env, Ki, Kx, R, hw, hx, q⟩ := h
  exact ⟨F, env, Ki, Kx, R, hw, hx, fun J e1 F1 H1 ds R1 f1 g k D hD => let ⟨Wi, w0, hW⟩ := q J e1 F1 H1 ds R1 f1 g k D hD; ⟨Wi, w0, fun i m H w => (hW i m H w).imp (fun ⟨a, b⟩ => ⟨a, hQ _ _ b⟩) id⟩⟩
/-- x = [elt for tg in iter if ..] on one line, x a local -/
theorem ds_setLc (i : Nat) {y : Str} {py spos : Pos} {ifs : List Expr} {scope : Scope} {own : List (Str × Nat)} (hi : DI B W X tg iter wi) (ok : BlkOk X.N X.env.scope scope own) (his : ∀ i ∈ is, i ∈ own.map (·.2)) (nl : ∀ p ∈ B.all, p.1 ∉ own.map (·.2)) (nli : ∀ p ∈ B.all, p.1 ≠ i) (hN : X.N.Nodup)
    (hg : ∀ (s : Shared) (H : Hp) (C : Addr) (cl : List (Str × Addr)) (fp : List Addr), DG B (X.blk s H scope (compEnvC scope cl C X.env) fp) tg is g) (ht : ∀ (s : Shared) (H : Hp) (C : Addr) (cl : List (Str × Addr)) (fp : List Addr), DTs B (X.blk s H scope (compEnvC scope cl C X.env) fp) ifs ct)
    (he : ∀ (s : Shared) (H : Hp) (C : Addr) (cl : List (Str × Addr)) (fp : List Addr), DE B W0 (X.blk s H scope (compEnvC scope cl C X.env) fp) elt we)
    (hy : X.N[i]? = some y := by rfl) (hk : X.env.scope.kind = .function := by rfl) (hyl : X.env.scope.names.lookup y = some .local := by rfl) (hl : (py.line == pos.line) = true := by rfl) (ha : (scope.names.any fun (n, k) => n == y && (k == .local || k == .cell)) = false := by rfl)
    (hc : X.calm = true := by rfl) (hs : ∀ x, foldedSetIterable iter X.env x = pure x := by intro _; rfl) :
    DS B W X (.Assign [.Name y py] (.ListComp elt [⟨tg, iter, ifs, 0⟩] scope pos) spos) (wSet i (wLc (own.map (·.2)) wi g ct we)) := by
  refine ⟨fun pins s σ F H env k I R h hx => ?_⟩
  have ps := ps_setLc (spos := spos) (py := py) (pos := pos) (elt := elt) (ifs := ifs) (te := teW X.K B W0 we) (tt := ttW X.K B ct) (g := tgW X.K B is g) hc hN hy hyl (sw_true hk hyl hl ha) hi.pi ok (fun s H C cl fp => (hg s H C cl fp).pg) (fun s H C cl fp => (ht s H C cl fp).pts) (fun s H C cl fp => (he s H C cl fp).pe) hs
  refine thn (ps.run pins s σ H (endsD X.K B F k) I ?_) fun f s1 h1 => SP.spd h1
  have h' : wLc (own.map (·.2)) wi g ct we env (fun e r => asg i e r k.nx) k.ex := h
  refine lc_mono (fun v H' ⟨env', r, F', g1, g2, g3, g4, g5⟩ => ?_) (lc_t (vs := own.map (·.2)) (is := is) his nl R h' hx)
  have hi2 : i < σ.length := by rw [I.len]; exact (List.getElem?_eq_some_iff.mp hy).1
  obtain ⟨e2, F2, k1, k2, k3⟩ := asg_ok g1 hi2 nli g3 g5
  exact ⟨e2, F2, k1, g2.sub.trans k2, k3⟩

end
end Dl
end L2

/-! The D layer, 11: a def keeps its promise; the law's own end. -/
namespace L2
namespace Dl
open PySem PySem.Spec PyProof.Rows

def slOf : AV → Sl
  | .val d => .val d
  | .own ds => .own true ds
def startEv (n : Nat) (avs : List AV) : Ev := avs.map slOf ++ List.replicate (n - avs.length) .un
/-- the places of the lent ones -/
def lsFrom : Nat → List AV → List Nat
  | _, [] => []
  | i, .val _ :: as => lsFrom (i + 1) as
  | i, .own _ :: as => i :: lsFrom (i + 1) as
def outsOf (env : Ev) : List Nat → Option (List (List PyData))
  | [] => some []
  | i :: is => match env[i]? with
    | some (.own true ds) => (outsOf env is).map (ds :: ·)
    | _ => none
def retV (env : Ev) : Rs → Option Rv
  | .val d => some (.val d)
  | .tmp ds => some (.own ds)
  | .slot i => match env[i]? with
    | some (.val d) => some (.val d)
    | some (.own false ds) => some (.own ds)
    | _ => none
def kenD (ls : List Nat) (Kr : List (List PyData) → Rv → Prop) (Kx : List (List PyData) → XD → Prop) : Ken where
  nx := fun env => ∃ outs, outsOf env ls = some outs ∧ Kr outs (.val .none)
  rt := fun env r => ∃ outs v, outsOf env ls = some outs ∧ retV env r = some v ∧ Kr outs v
  bk := fun _ => False
  ct := fun _ => False
  ex := fun env x => ∃ outs, outsOf env ls = some outs ∧ Kx outs x
section
variable {K : PySem.W.Frag} {B : Bs} {F H : Hp}
theorem lsFrom_len (vs : List V) : ∀ (avs : List AV) (i : Nat) (vs : List V), ArgsR K F H vs avs → (lsFrom i avs).length = (lentAs vs avs).length := by
  intro avs
  induction avs with
  | nil => intro i vs h; cases h; rfl
  | cons a avs ih =>
    intro i vs h
    cases h with
    | @val v vs' d as h1 h2 =>
      have hl : lentAs (v :: vs') (.val d :: avs) = lentAs vs' avs := by cases v <;> rfl
      rw [hl]
      exact ih (i + 1) vs' h2
    | @own a ws vs' ds as h1 h2 h3 h4 =>
      show (lsFrom (i + 1) avs).length + 1 = (lentAs vs' avs).length + 1
      rw [ih (i + 1) vs' h4]
/-- the slots of the parameters at the entry -/
theorem start_sl : ∀ (avs : List AV) (vs : List V) (j : Nat), ArgsR K F H vs avs → slR K F H (avs.map slOf)[j]? (vs.map some)[j]?
  | [], _, _, h => by cases h; trivial
  | .val d :: as, _, 0, h => by
    cases h with
    | @val v _ _ _ h1 h2 => exact ⟨v, rfl, h1⟩
  | .own ds :: as, _, 0, h => by
    cases h with
    | @own a ws _ _ _ h1 h2 h3 h4 => exact ⟨a, ws, rfl, h1, h2, h3⟩
  | .val d :: as, _, j + 1, h => by
    cases h with
    | @val v vs' _ _ h1 h2 => exact start_sl as vs' j h2
  | .own ds :: as, _, j + 1, h => by
    cases h with
    | @own a ws vs' _ _ h1 h2 h3 h4 => exact start_sl as vs' j h4
/-- own slots at the entry are the lent ones -/
theorem start_own : ∀ (avs : List AV) (vs : List V) (i j : Nat) (l : Bool) (ds : List PyData) (a : Addr), ArgsR K F H vs avs → (avs.map slOf)[j]? = some (Sl.own l ds) → (vs.map some)[j]? = some (some (V.ref a)) → l = true ∧ (i + j, a) ∈ (lsFrom i avs).zip (lentAs vs avs)
  | [], _, _, _, _, _, _, h, e, _ => by simp at e
  | .val d :: as, _, i, 0, l, ds, a, h, e, e2 => by simp [slOf] at e
  | .own es :: as, _, i, 0, l, ds, a, h, e, e2 => by
    cases h with
    | @own b ws vs' _ _ h1 h2 h3 h4 =>
      simp only [List.map_cons, slOf, List.getElem?_cons_zero, Option.some.injEq, Sl.own.injEq] at e
      simp only [List.map_cons, List.getElem?_cons_zero, Option.some.injEq, V.ref.injEq] at e2
      subst e2
      exact ⟨e.1.symm, List.mem_cons_self⟩
  | .val d :: as, _, i, j + 1, l, ds, a, h, e, e2 => by
    cases h with
    | @val v vs' _ _ h1 h2 =>
      obtain ⟨g1, g2⟩ := start_own as vs' (i + 1) j l ds a h2 (by simpa using e) (by simpa using e2)
      have hl : lentAs (v :: vs') (.val d :: as) = lentAs vs' as := by cases v <;> rfl
      rw [hl]
      refine ⟨g1, ?_⟩
      have e3 : i + (j + 1) = i + 1 + j := by omega
      rw [e3]
      exact g2
  | .own es :: as, _, i, j + 1, l, ds, a, h, e, e2 => by
    cases h with
    | @own b ws vs' _ _ h1 h2 h3 h4 =>
      obtain ⟨g1, g2⟩ := start_own as vs' (i + 1) j l ds a h4 (by simpa using e) (by simpa using e2)
      refine ⟨g1, ?_⟩
      have e3 : i + (j + 1) = i + 1 + j := by omega
      rw [e3]
      exact List.mem_cons_of_mem _ g2
theorem lent_at : ∀ (avs : List AV) (vs : List V) (i : Nat) (p : Nat × Addr), ArgsR K F H vs avs → p ∈ (lsFrom i avs).zip (lentAs vs avs) → ∃ j, p.1 = i + j ∧ (vs.map some)[j]? = some (some (V.ref p.2))
  | [], _, _, _, h, hp => by cases h; cases hp
  | .val d :: as, _, i, p, h, hp => by
    cases h with
    | @val v vs' _ _ h1 h2 =>
      have hl : lentAs (v :: vs') (.val d :: as) = lentAs vs' as := by cases v <;> rfl
      rw [hl] at hp
      obtain ⟨j, e1, e2⟩ := lent_at as vs' (i + 1) p h2 hp
      exact ⟨j + 1, by omega, by simpa using e2⟩
  | .own ds :: as, _, i, p, h, hp => by
    cases h with
    | @own b ws vs' _ _ h1 h2 h3 h4 =>
      rcases List.mem_cons.mp hp with z | z
      · subst z
        exact ⟨0, rfl, rfl⟩
      · obtain ⟨j, e1, e2⟩ := lent_at as vs' (i + 1) p h4 z
        exact ⟨j + 1, by omega, by simpa using e2⟩
theorem zip_snd_inj : ∀ {is : List Nat} {as : List Addr}, as.Nodup → ∀ {i j : Nat} {a : Addr}, (i, a) ∈ is.zip as → (j, a) ∈ is.zip as → i = j
  | [], _, _, _, _, _, h, _ => by cases h
  | _ :: _, [], _, _, _, _, h, _ => by cases h
  | k :: is, b :: as, nd, i, j, a, h1, h2 => by
    have nd' := List.nodup_cons.mp nd
    have hin : ∀ {i : Nat} {c : Addr}, (i, c) ∈ is.zip as → c ∈ as := fun h => (List.of_mem_zip h).2
    rcases List.mem_cons.mp h1 with z1 | z1
    · cases z1
      rcases List.mem_cons.mp h2 with z2 | z2
      · cases z2; rfl
      · exact absurd (hin z2) nd'.1
    · rcases List.mem_cons.mp h2 with z2 | z2
      · cases z2
        exact absurd (hin z1) nd'.1
      · exact zip_snd_inj nd'.2 z1 z2
theorem start_nodct (avs : List AV) (n i : Nat) (kv : List (List Int × PyData)) (h : (startEv n avs)[i]? = some (Sl.dct kv)) : False := by
  unfold startEv at h
  by_cases hj : i < avs.length
  · rw [List.getElem?_append_left (by simpa using hj), List.getElem?_map] at h
    cases q : avs[i]? with
    | none => rw [q] at h; cases h
    | some a => rw [q] at h; cases a <;> cases h
  · rw [List.getElem?_append_right (by simp; omega)] at h
    simp only [List.length_map, List.getElem?_replicate] at h
    split at h <;> cases h
theorem start_rl {mg : Str → Option Value} {N : List Str} {vs : List V} {avs : List AV} (s : Same F H) (h : ArgsR K F H vs avs) (nd : (lentAs vs avs).Nodup) (hl : avs.length ≤ N.length) :
    Rl K { H0 := H, F0 := F, lent := (lsFrom 0 avs).zip (lentAs vs avs), mg := mg } F H (startEv N.length avs) (start N vs) := by
  have e1 := h.length
  have env_at : ∀ (j : Nat) (l : Bool) (ds : List PyData), (startEv N.length avs)[j]? = some (Sl.own l ds) → j < avs.length ∧ (avs.map slOf)[j]? = some (Sl.own l ds) := fun j l ds q => by
    unfold startEv at q
    by_cases hj : j < avs.length
    · rw [List.getElem?_append_left (by simpa using hj)] at q
      exact ⟨hj, q⟩
    · rw [List.getElem?_append_right (by simp; omega)] at q
      simp only [List.length_map, List.getElem?_replicate] at q
      split at q <;> cases q
  have st_at : ∀ j, j < avs.length → (start N vs)[j]? = (vs.map some)[j]? := fun j hj => by
    unfold start
    rw [List.getElem?_append_left (by simp; omega)]
  refine ⟨?_, s, fun j => ?_, fun i j l m ds es a h1 h2 h3 h4 => ?_, fun _ _ h => h, fun b x q => .inl q, fun b x q _ => q, fun b q => q, fun i ds a h1 h2 => ?_, fun i ds a h1 h2 => ?_, fun p hp => ?_, fun i j kv kw a h1 => (start_nodct avs N.length i kv h1).elim, fun i kv a h1 => (start_nodct avs N.length i kv h1).elim⟩
  · unfold startEv start
    simp only [List.length_append, List.length_map, List.length_replicate]
    omega
  · by_cases hj : j < avs.length
    · rw [st_at j hj]
      unfold startEv
      rw [List.getElem?_append_left (by simpa using hj)]
      exact start_sl avs vs j h
    · unfold startEv
      rw [List.getElem?_append_right (by simp; omega)]
      simp only [List.getElem?_replicate]
      split <;> trivial
  · obtain ⟨l1, g1⟩ := env_at i l ds h1
    obtain ⟨l2, g2⟩ := env_at j m es h2
    rw [st_at i l1] at h3
    rw [st_at j l2] at h4
    have k1 := (start_own avs vs 0 i l ds a h g1 h3).2
    have k2 := (start_own avs vs 0 j m es a h g2 h4).2
    have := zip_snd_inj nd k1 k2
    omega
  · obtain ⟨l1, g1⟩ := env_at i false ds h1
    rw [st_at i l1] at h2
    cases (start_own avs vs 0 i false ds a h g1 h2).1
  · obtain ⟨l1, g1⟩ := env_at i true ds h1
    rw [st_at i l1] at h2
    exact ⟨_, (start_own avs vs 0 i true ds a h g1 h2).2, rfl⟩
  · obtain ⟨j, g1, g2⟩ := lent_at avs vs 0 p h ((List.append_nil _).subst (motive := fun l => p ∈ l) hp)
    have hj : j < avs.length := by
      have := (List.getElem?_eq_some_iff.mp g2).1
      simp at this
      omega
    have e : p.1 = j := by omega
    rw [e, st_at j hj]
    exact g2
/-- the lent lists at the end -/
theorem outs_at {env : Ev} {σ : St} (R : Rl K B F H env σ) : ∀ (is : List Nat) (as : List Addr) (outs : List (List PyData)), is.length = as.length → (∀ p ∈ is.zip as, p ∈ B.lent) → outsOf env is = some outs → OutsR K F H as outs
  | [], [], outs, _, _, e => by
    simp only [outsOf, Option.some.injEq] at e
    subst e
    exact .nil
  | [], _ :: _, _, hl, _, _ => by cases hl
  | _ :: _, [], _, hl, _, _ => by cases hl
  | i :: is, a :: as, outs, hl, hm, e => by
    simp only [outsOf] at e
    split at e
    · rename_i ds e0
      simp only [Option.map_eq_some_iff] at e
      obtain ⟨o, e1, rfl⟩ := e
      obtain ⟨b, ws, g1, g2, g3, g4⟩ := R.ownSl e0
      have g5 := R.lsl (i, a) (List.mem_append_left _ (hm _ List.mem_cons_self))
      rw [g1] at g5
      cases g5
      exact .cons ⟨ws, g2, g3, g4⟩ (outs_at R is as o (by simpa using hl) (fun p hp => hm p (List.mem_cons_of_mem _ hp)) e1)
    · cases e
theorem ret_at {env : Ev} {σ : St} {v : V} {r : Rs} {x : Rv} (R : Rl K B F H env σ) (q : Res K B F H env σ v r) (e : retV env r = some x) : RvR K B.H0 F H v x := by
  cases r with
  | val d =>
    cases e
    exact q
  | tmp ds =>
    cases e
    obtain ⟨p, vs, h1, h2, h3, h4, h5, h6⟩ := q
    exact ⟨p, vs, h1, h2, h3, h4, h6⟩
  | slot i =>
    simp only [retV] at e
    have q' : σ[i]? = some (some v) := q
    split at e
    · rename_i d e0
      cases e
      have s := R.sl i
      rw [e0] at s
      obtain ⟨w, h1, h2⟩ := s
      rw [q'] at h1
      cases h1
      exact h2
    · rename_i ds e0
      cases e
      obtain ⟨a, ws, g1, g2, g3, g4⟩ := R.ownSl e0
      rw [q'] at g1
      cases g1
      exact ⟨a, ws, rfl, g2, g3, R.own0 i ds a e0 q', g4⟩
    · cases e
end
section
variable {P : Program} {w : World} {K : PySem.W.Frag} {mg : Str → Option Value} {base : Heap}
theorem aft_of {F H F' H' : Hp} {vs : List V} {avs : List AV} {env : Ev} {σ : St} {outs : List (List PyData)} (h : ArgsR K F H vs avs) (R : Rl K { H0 := H, F0 := F, lent := (lsFrom 0 avs).zip (lentAs vs avs), mg := mg } F' H' env σ) (e : outsOf env (lsFrom 0 avs) = some outs) :
    Aft K F H (lentAs vs avs) F' H' outs :=
  ⟨R.sub0, R.sub, fun b x q n => R.frm b x q fun p hp z => n (by rw [← z]; exact (List.of_mem_zip hp).2), R.dom, R.new, outs_at R _ _ _ (lsFrom_len vs avs 0 vs h) (fun p hp => hp) e⟩
theorem tk0 {X : Cx} : L2N.Takes X (fun _ _ _ _ => False) := fun u s' ⟨_, _, _, _, _, _, _, _, h⟩ => h.2.2.2.2.2.2.2.2.elim
theorem fun_okN {x qual : Str} {st : Stmt} {f : Addr} {fd : FuncData} {N ps : List Str} {k : Nat} {sp : Sp} (F : Fun K x qual st f fd) (S : FnScope N ps (defScope st)) (len : ∀ vs H Q E, sp vs H Q E → vs.length = ps.length)
    (body : ∀ (cdv : Value) (A : Around) (outer : List Env) (s : Shared) (H : Hp) (vs : List V) (Q : VK) (E : XK), Room k (A.deeper (envOfC qual (defScope st) s.heap.objs.size f cdv)) → sp vs H Q E →
      ∃ t, PSs (cxOf (L2N.CX P w) P w K mg base N qual (defScope st) f cdv A outer s H E) (defBody st) t ∧ t { nx := fun _ H' => Q .non H', rt := Q } (start N vs) H) : FnOk P w K mg base (L2N.CX P w) (k + 1) f fd ps sp := by
  obtain ⟨_, _, _, _, _, _, c, _, _, e, l, h⟩ := F.ex
  subst e
  exact fn_of l h S len fun A outer s H vs Q E r q => body c A outer s H vs Q E r q
/-- THE RULE for a def -/
theorem def_ok {x qual : Str} {st : Stmt} {f : Addr} {fd : FuncData} {N ps : List Str} {k : Nat} (F : Fun K x qual st f fd) (S : FnScope N ps (defScope st)) {ls : List Nat} {spec : Spc} {wb : WS}
    (hbody : ∀ (cdv : Value) (A : Around) (outer : List Env) (s : Shared) (H : Hp) (E : XK) (B : Bs), Room k (A.deeper (envOfC qual (defScope st) s.heap.objs.size f cdv)) → B.mg = mg → B.all.map (·.1) = ls →
      L2N.Takes (cxOf (L2N.CX P w) P w K mg base N qual (defScope st) f cdv A outer s H E) (fun cls d _ H => E cls d H) →
      PassesOwn (model P w) (A.deeper (envOfC qual (defScope st) s.heap.objs.size f cdv)) (envOfC qual (defScope st) s.heap.objs.size f cdv) (cxOf (L2N.CX P w) P w K mg base N qual (defScope st) f cdv A outer s H E).xe →
      DSs B (fun cls d _ H => E cls d H) (cxOf (L2N.CX P w) P w K mg base N qual (defScope st) f cdv A outer s H E) (defBody st) wb)
    (vc : ∀ avs Kr Kx, avs.length = ps.length → spec avs Kr Kx → lsFrom 0 avs = ls ∧ wb (startEv N.length avs) (kenD ls Kr Kx)) : FnOk P w K mg base (L2N.CX P w) (k + 1) f fd ps (low K mg ps.length spec) := by
  refine fun_okN F S (fun vs H Q E h => ?_) (fun cdv A outer s H vs Q E hr h => ?_)
  · obtain ⟨F0, avs, Kr, Kx, h1, h2, h3, h4, h5⟩ := h
    rw [h2.length, h4]
  · obtain ⟨F0, avs, Kr, Kx, h1, h2, h3, h4, h5, h6, h7⟩ := h
    obtain ⟨v1, v2⟩ := vc avs Kr Kx h4 h5
    have hN : avs.length ≤ N.length := by
      rw [h4, ← S.pre, List.length_take]
      exact Nat.min_le_right _ _
    have R0 := start_rl (mg := mg) (N := N) h1 h2 h3 hN
    have hl := lsFrom_len vs avs 0 vs h2
    have bd := hbody cdv A outer s H E { H0 := H, F0 := F0, lent := (lsFrom 0 avs).zip (lentAs vs avs), mg := mg } hr rfl (by show List.map Prod.fst ((lsFrom 0 avs).zip (lentAs vs avs) ++ []) = ls; rw [List.append_nil, ← v1, List.map_fst_zip (by omega)]) (L2N.takes_of rfl rfl rfl rfl) (passes_of rfl)
    refine ⟨_, bd.pss, F0, startEv N.length avs, kenD ls Kr Kx, R0, v2, fun σ env y cls d F' H' ⟨outs, e1, k1⟩ R' xr => ?_, fun σ' env' F' H' R' _ ⟨outs, e1, k1⟩ => ?_, fun v σ' env' r F' H' R' res ⟨outs, rv, e1, e2, k1⟩ => ?_, fun _ _ _ _ _ _ z => z.elim, fun _ _ _ _ _ _ z => z.elim⟩
    · exact h7 outs y cls d F' H' (aft_of h2 R' (by rw [v1]; exact e1)) xr k1
    · exact h6 outs (.val .none) F' H' .non (aft_of h2 R' (by rw [v1]; exact e1)) .non k1
    · exact h6 outs rv F' H' v (aft_of h2 R' (by rw [v1]; exact e1)) (ret_at R' res e2) k1
theorem cal_of {x : Str} {st : Stmt} {qual : Str} {f : Addr} {fd : FuncData} {ps : List Str} {k : Nat} {spec : Spc} (F : Fun K x qual st f fd) (hm : mg x = some (.ref f)) (hb : Binds K fd ps []) (h : FnOk P w K mg base (L2N.CX P w) k f fd ps (low K mg ps.length spec)) : Cal P w K mg base k x ps.length spec :=
  ⟨f, fd, ps, rfl, hm, F.kp, hb, h⟩
theorem Cal.mono {j k n : Nat} {x : Str} {S : Spc} (c : Cal P w K mg base j x n S) (h : j ≤ k) : Cal P w K mg base k x n S := by
  obtain ⟨f, fd, ps, h0, h1, h2, h3, h4⟩ := c
  exact ⟨f, fd, ps, h0, h1, h2, h3, h4.mono h⟩
/-- a weaker promise -/
theorem Cal.imp {k n : Nat} {x : Str} {S S' : Spc} (c : Cal P w K mg base k x n S) (h : ∀ avs Kr Kx, S' avs Kr Kx → S avs Kr Kx) : Cal P w K mg base k x n S' := by
  obtain ⟨f, fd, ps, h0, h1, h2, h3, h4⟩ := c
  exact ⟨f, fd, ps, h0, h1, h2, h3, h4.imp fun vs H Q E ⟨F, avs, Kr, Kx, g1, g2, g3, g4, g5, g6⟩ => ⟨F, avs, Kr, Kx, g1, g2, g3, g4, h _ _ _ g5, g6⟩⟩
end
/-- a place that is not lent -/
theorem nl {B : Bs} {ls : List Nat} (h : B.all.map (·.1) = ls) {i : Nat} (n : i ∉ ls) : ∀ p ∈ B.all, p.1 ≠ i := fun p hp e => n (by rw [← h, ← e]; exact List.mem_map_of_mem hp)
theorem nls {B : Bs} {ls : List Nat} (h : B.all.map (·.1) = ls) {vs : List Nat} (n : ∀ i ∈ ls, i ∉ vs) : ∀ p ∈ B.all, p.1 ∉ vs := fun p hp => n _ (by rw [← h]; exact List.mem_map_of_mem hp)

/-! ### the law -/
/-- the law's promise: from a script of at most 63 ints: True -/
def spLaw : Spc := fun avs Kr _ => ∃ ns : List Int, avs = [.val (.list (ns.map .int))] ∧ ns.length ≤ 63 ∧ Kr [] (.val (.bool true))
end Dl
end L2

/-! The D layer, 12: sorted, sets. -/
namespace L2
namespace Dl
open PySem PySem.Spec PyProof.Rows
theorem sqT_mono {K : PySem.W.Frag} {F H : Hp} {a : Addr} {xs : List V} (h : SqT K F a xs) (s : Same F H) : SqT K H a xs := sqT_same s h
def dLe : PyData → PyData → Bool := PySem.W.dataLe false id
def Srts (ds : List PyData) : Prop := PySem.W.AllAlike ds ∧ PySem.W.Sortable ds ∧ ∀ d ∈ ds, SeqAt.shaped d = true
def oSorted : OpN := fun ds K => match ds with
  | [.list xs] => Srts xs ∧ K (.tmp (xs.mergeSort dLe))
  | [.tuple xs] => Srts xs ∧ K (.tmp (xs.mergeSort dLe))
  | _ => False
section
open PySem.Calls PySem.Builtin PySem.Builtin.List
variable {prog : Program} {w : World} {A : Around} {E : Value → Shared → Prop} {s : Shared}
/-- a tuple's items, on a new list -/
theorem collectT {l : Addr} {vs : List Value} {Q : List Value → Shared → Prop} (hl : s.heap.IsTuple l vs.toArray)
    (h : Q vs { s with heap := (s.heap.push (seqObj "list" #[] 0)).update s.heap.objs.size (Obj.mapSeq (· ++ vs.toArray)) }) (hsz : vs.length ≤ sizeLine) :
    wpAny (model prog w) A (collect (.ref l)) Q E s := by
  obtain ⟨o, ho, hc, n, hd⟩ := id hl
  unfold collect
  refine wpAny_bind (wpAny_runValue (codeAny_builtin entry_proto_collect' ?_))
  show wpAny _ _ (do again (.builtin "list.__iadd__" ⟨[← newList [], .ref l], []⟩)) _ _ s
  refine wpAny_bind (wpAny_newList (wpAny_pure ⟨Code.quiet_builtin _ (by decide +kernel), codeAny_builtin entry_list_iadd' ?_⟩))
  show wpAny _ _ (Builtin.List.listExtendWith (.ref s.heap.objs.size) (.ref l) (.ref s.heap.objs.size)) _ _ { s with heap := s.heap.push (seqObj "list" #[] 0) }
  unfold Builtin.List.listExtendWith
  have ho' : (s.heap.push (seqObj "list" #[] 0)).get? l = some o := Heap.get?_push_of_some _ ho
  refine wpAny_bind (wpAny_typeOf (T := "tuple") ⟨o, ho', hc⟩ ?_)
  have ht : (Value.type "tuple" == Value.type "tuple") = true := by rfl
  rw [if_pos (by rw [ht]; simp)]
  refine wpAny_bind (listItems_at ho' hd ?_)
  refine wpAny_bind (listItems_at (xs := #[]) (n := 0) (Heap.get?_push_size _ rfl) rfl ?_)
  rw [if_neg (by simp)]
  refine wpAny_bind (listUpdate_at (xs := #[]) (n := 0) (Heap.get?_push_size _ rfl) rfl ?_ (Nat.zero_le _) (by show (#[] ++ vs.toArray).size ≤ sizeLine + 1; simp only [Array.size_append, List.size_toArray, List.length_nil]; omega))
  refine wpAny_pure ?_
  show wpAny (model prog w) A (do
      let o ← load s.heap.objs.size
      match o.data with
      | .seq xs _ => pure xs.toList
      | _ => unsupported "internal:collect") Q E { s with heap := (s.heap.push (seqObj "list" #[] 0)).update s.heap.objs.size (Obj.mapSeq (· ++ vs.toArray)) }
  refine wpAny_bind (wpAny_load (get?_update_seq (Heap.get?_push_size _ rfl) _) ?_)
  show wpAny _ _ (pure ((#[] : Array Value) ++ vs.toArray).toList) Q E _
  rw [show ((#[] : Array Value) ++ vs.toArray).toList = vs by simp]
  exact wpAny_pure h
/-- sorted(xs), xs a tuple -/
theorem sortedT {l : Addr} {vs : List Value} {ds : List PyData} {R : Value → PyData → Prop} {Q : Value → Shared → Prop} (hl : s.heap.IsTuple l vs.toArray) (e : PySem.W.EachIs R vs ds) (er : PySem.W.EachIs (fun v b => ∃ as, Reads s.heap v b as) vs ds) (hal : PySem.W.AllAlike ds) (hk : PySem.W.Sortable ds) (hL : ds.length ≤ sizeLine)
    (hu : ∀ b, b ∈ ds → A.units + 2 + b.depth < cLine) (h : ∀ out, out.length = ds.length → PySem.W.EachIs R out (ds.mergeSort (PySem.W.dataLe false id)) → Q (.ref (s.heap.objs.size + 1)) { s with heap := sortedAll s.heap vs (List.toArray out) }) :
    wpAny (model prog w) A (call (.builtin "sorted") [.ref l]) Q E s := by
  have hL2 : vs.length ≤ sizeLine := by rw [e.length]; exact hL
  have er' : PySem.W.EachIs (fun v b => ∃ as, Reads (PySem.W.sortingHeap (PySem.W.copyHeap s.heap vs) (s.heap.objs.size + 1) vs) v (id b) as) vs ds := er.mono fun _ _ ⟨as, r⟩ => ⟨as, PyProof.Rows.Reads.keeps (fun _ _ => PySem.W.sorting_copy_old) r⟩
  refine call_function_entry_kw kind_sorted plain_sorted entry_sorted (args_sorted1 _) ?_
  unfold Builtin.«sorted»
  refine wpAny_bind (m := checkCount "sorted" 1 1 _) (wpAny_pure ?_)
  refine wpAny_bind (collectT hl ?_ hL2)
  refine wpAny_bind (wpAny_newList ?_ hL2)
  have hsz : ((s.heap.push (seqObj "list" #[] 0)).update s.heap.objs.size (Obj.mapSeq (· ++ vs.toArray))).objs.size = s.heap.objs.size + 1 := by
    rw [Heap.size_update, size_push']
  show wpAny _ _ _ _ _ { s with heap := PySem.W.copyHeap s.heap vs }
  rw [hsz]
  refine wpAny_bind (wpAny_holding (wpAny_call_entry_kw slot_list_sort ⟨_, PySem.W.copyHeap_at s.heap vs, rfl⟩ entry_list_sort ?body (args_list_sort _)))
  case body =>
    show wpAny (model prog w) A.in1.in1 (Builtin.«list.sort» ⟨[.ref (s.heap.objs.size + 1)], []⟩) _ _ _
    refine wpAny_mono (PySem.W.list_sort_vals (s := { s with heap := PySem.W.copyHeap s.heap vs }) (P := fun f s' => f = .done (.ret .none) ∧ Q (.ref (s.heap.objs.size + 1)) s') (PySem.W.copyHeap_at s.heap vs) (PySem.W.SortsAt.data (s := { s with heap := PySem.W.sortingHeap (PySem.W.copyHeap s.heap vs) (s.heap.objs.size + 1) vs }) (PySem.W.each_map (R := fun v d => ∃ as, Reads (PySem.W.sortingHeap (PySem.W.copyHeap s.heap vs) (s.heap.objs.size + 1) vs) v d as) id er') (by rwa [List.map_id]) (by rwa [List.map_id]) (PySem.W.bound_map hu)) hL2 ⟨rfl, h _ (by rw [PySem.W.sortVals_length false rfl]; exact e.length) (PySem.W.sortVals_data false e er' (by rwa [List.map_id]))⟩) (fun f s' hf => ?_) fun _ _ e => e
    obtain ⟨rfl, hq⟩ := hf
    exact ⟨_, rfl, wpAny_pure ⟨_, rfl, hq⟩⟩
end
section
variable {X : Cx}
theorem each_out {K : PySem.W.Frag} {F : Hp} : ∀ {us : List Value} {ds : List PyData}, PySem.W.EachIs (fun v d => ∃ x, RelV x v ∧ Rp K F x d) us ds → ∃ xs, Vals xs us ∧ RpAll K F xs ds
  | _, _, .nil => ⟨[], .nil, .nil⟩
  | _, _, .cons ⟨x, h1, h2⟩ t => by
    obtain ⟨xs, a, b⟩ := each_out t
    exact ⟨x :: xs, .cons h1 a, .cons h2 b⟩
theorem each_in {K : PySem.W.Frag} {F : Hp} : ∀ {xs : List V} {us : List Value} {ds : List PyData}, Vals xs us → RpAll K F xs ds → PySem.W.EachIs (fun v d => ∃ x, RelV x v ∧ Rp K F x d) us ds
  | [], _, _, .nil, h => by cases h; exact .nil
  | x :: xs, _, _, .cons r t, h => by
    cases h with
    | cons a b => exact .cons ⟨x, r, a⟩ (each_in t b)
theorem each_mem {R : Value → PyData → Prop} {S : Value → PyData → Prop} : ∀ {us : List Value} {ds : List PyData}, (∀ v d, d ∈ ds → R v d → S v d) → PySem.W.EachIs R us ds → PySem.W.EachIs S us ds
  | _, _, _, .nil => .nil
  | _, _, h, .cons a t => .cons (h _ _ List.mem_cons_self a) (each_mem (fun v d m => h v d (List.mem_cons_of_mem _ m)) t)
theorem dcl_sorted (hu : X.A.units + 67 < cLine) : DCl X (.builtin "sorted") oSorted := by
  refine ⟨fun B F env pins s σ H xs us ds Kr I rx R hx q => ?_⟩
  unfold oSorted at q
  split at q
  · rename_i ds
    obtain ⟨⟨q1, q2, q3⟩, q4⟩ := q
    obtain ⟨v, rfl, hv⟩ := hx.one
    obtain ⟨a, vs, rfl, hs, ha⟩ := hv.list R.sub
    obtain ⟨its, rv, hl, hz⟩ := I.list hs
    rw [Vals.ref1 rx]
    have ev : vs.length = ds.length := ha.length
    have e1 := each_in rv ha
    have er : PySem.W.EachIs (fun v b => ∃ as, Reads s.heap v (id b) as) its ds := each_mem (fun v d hd ⟨x, h1, h2⟩ => Dp.reads I _ x v (Rt.dp R.sub (.inl h2) (q3 d hd)) h1) e1
    refine PySem.W.sorted_data (enc := id) (bs := ds) (vs := its) (R := fun v d => ∃ x, RelV x v ∧ Rp X.K F x d) hl.isList e1 er (by rwa [List.map_id]) (by rwa [List.map_id]) (by rw [← ev]; exact hz) (fun b hb => ?_) (fun out ho h1 => ?_)
    · have := SeqAt.depth_of_shaped (q3 b hb)
      show _ + 2 + b.depth < _
      omega
    · obtain ⟨ys, g1, g2⟩ := each_out h1
      obtain ⟨ep, he'⟩ := PyProof.Rows.sortedAll_at s.heap its out.toArray
      have hlen : ys.length ≤ sizeLine := by rw [g2.length, List.length_mergeSort, ← ev]; exact hz
      have hn : H (s.heap.objs.size + 1) = none := I.hok.fresh (Nat.le_succ _)
      obtain ⟨r, F', k1, k2, k3, k4, k5⟩ := new_lst (Kr := Kr) R hn g2 q4
      exact ⟨.ref _, r, F', upd H (s.heap.objs.size + 1) (.lst ys), I.laid (t' := s.toks) (fun _ _ => PyProof.Rows.sortedAll_old) (Nat.le_succ _) ⟨hlen, out, ep, g1, he'⟩, rfl, k1, k2, k3, k4, k5⟩
  · rename_i ds
    obtain ⟨⟨q1, q2, q3⟩, q4⟩ := q
    obtain ⟨v, rfl, hv⟩ := hx.one
    obtain ⟨a, vs, rfl, hs, ha⟩ := hv.tuple R.sub
    obtain ⟨its, rv, hl, hz⟩ := I.tuple hs
    rw [Vals.ref1 rx]
    have ev : vs.length = ds.length := ha.length
    have e1 := each_in rv ha
    have er : PySem.W.EachIs (fun v b => ∃ as, Reads s.heap v (id b) as) its ds := each_mem (fun v d hd ⟨x, h1, h2⟩ => Dp.reads I _ x v (Rt.dp R.sub (.inl h2) (q3 d hd)) h1) e1
    refine sortedT (ds := ds) (vs := its) (R := fun v d => ∃ x, RelV x v ∧ Rp X.K F x d) (show s.heap.IsTuple a its.toArray from hl) e1 er q1 q2 (by rw [← ev]; exact hz) (fun b hb => ?_) (fun out ho h1 => ?_)
    · have := SeqAt.depth_of_shaped (q3 b hb)
      show _ + 2 + b.depth < _
      omega
    · obtain ⟨ys, g1, g2⟩ := each_out h1
      obtain ⟨ep, he'⟩ := PyProof.Rows.sortedAll_at s.heap its out.toArray
      have hlen : ys.length ≤ sizeLine := by rw [g2.length, List.length_mergeSort, ← ev]; exact hz
      have hn : H (s.heap.objs.size + 1) = none := I.hok.fresh (Nat.le_succ _)
      obtain ⟨r, F', k1, k2, k3, k4, k5⟩ := new_lst (Kr := Kr) R hn g2 q4
      exact ⟨.ref _, r, F', upd H (s.heap.objs.size + 1) (.lst ys), I.laid (t' := s.toks) (fun _ _ => PyProof.Rows.sortedAll_old) (Nat.le_succ _) ⟨hlen, out, ep, g1, he'⟩, rfl, k1, k2, k3, k4, k5⟩
  · exact q.elim
end
theorem bt_len : bootBuiltins "len" = some (.builtin "len") := by decide +kernel
theorem bt_max : bootBuiltins "max" = some (.builtin "max") := by decide +kernel
theorem bt_min : bootBuiltins "min" = some (.builtin "min") := by decide +kernel
theorem bt_sum : bootBuiltins "sum" = some (.builtin "sum") := by decide +kernel
theorem bt_all : bootBuiltins "all" = some (.builtin "all") := by decide +kernel
theorem bt_sorted : bootBuiltins "sorted" = some (.builtin "sorted") := by decide +kernel
theorem bt_int : bootBuiltins "int" = some (.type "int") := by decide +kernel
theorem bt_tuple : bootBuiltins "tuple" = some (.type "tuple") := by decide +kernel
theorem bt_bool : bootBuiltins "bool" = some (.type "bool") := by decide +kernel
theorem bt_set : bootBuiltins "set" = some (.type "set") := by decide +kernel
/-- a tuple of ints -/
def tupI (l : List Int) : PyData := .tuple (l.map .int)
def oSortSet (xs : List PyData) (K : Rs → Prop) : Prop := ∃ (L : List (List Int)) (d : Nat) (B : Int), xs = L.map tupI ∧ 1 ≤ d ∧ (∀ l ∈ L, l.length = d ∧ TS.Bd B l) ∧ L.length < 64 ∧
  ∀ M : List (List Int), M.Nodup → (∀ l, l ∈ M ↔ l ∈ L) → M.Pairwise (fun x y => TS.code B x ≤ TS.code B y) → K (.tmp (M.map tupI))
/-- an empty set -/
abbrev sO (w : World) : Obj := { cls := .type "set", dict := none, data := .set #[] 0 (.fresh 0 0 (!w.params.followText "set-order")) }
/-- set(xs), xs a tuple of tuples of ints -/
theorem set_tupT {P : Program} {w : World} {A : Around} {E : Value → Shared → Prop} {s : Shared} {l : Addr} {items : Array Value} (ks : List (Addr × List Int)) {Q : Value → Shared → Prop} (hh : A.handled = none) (hl : s.heap.IsTuple l items) (hit : items.toList = ks.map fun p => Value.ref p.1)
    (hk : ∀ p ∈ ks, IsT P w s.heap p.2 p.1) (hfew : ks.length < 64) (hu : A.units + 3 < cLine)
    (h : ∀ (h' : Heap) (tk : Nat) L es ep t, SetTR P w h' s.heap.objs.size L es ep t → Got ks ks.length L → (∀ b o, s.heap.get? b = some o → h'.get? b = some o) → Q (.ref s.heap.objs.size) { s with heap := h', toks := tk }) :
    wpAny (model P w) A (call (.type "set") [.ref l]) Q E s := by
  have hisz : items.size = ks.length := by
    have q := congrArg List.length hit
    rwa [Array.length_toList, List.length_map] at q
  obtain ⟨c, tl, hmro⟩ := F.called_set.mro
  have hmade := F.called_set.made
  have hsub := F.called_set.sub
  refine wpAny_call (codeAny_of_tree ?_)
  show wpAny _ _ (callAny (.type "set") _) _ _ _
  refine wpAny_pure ⟨Code.quiet_builtin _ (by decide +kernel), codeAny_builtin F.entry_type_call ?_⟩
  rw [Around.under_plain (weight_type_call_type "set" [.ref l] []) rfl]
  have h1 := F.called_set.notType
  have h2 := F.called_set.canCreate
  have hct := F.typeCall_set_1 (.ref l)
  repeat (any_goals (first | assumption | wp_step))
  refine codeAny_mono (code_set_led1 (.ref l) (E := E) (Q₁ := fun obj s₁ => obj = .ref s.heap.objs.size ∧ s₁ = { s with heap := s.heap.push (sO w) }) ⟨rfl, rfl⟩) fun r s₁ hr => ?_
  cases r with
  | error e => exact hr
  | ok fl =>
    cases fl with
    | ret obj =>
      obtain ⟨rfl, rfl⟩ := hr
      have hS : (s.heap.push (sO w)).get? s.heap.objs.size = some (sO w) := Heap.get?_push_size _ rfl
      have hT : Shared.TypeIs { s with heap := s.heap.push (sO w) } (.ref s.heap.objs.size) "set" := ⟨_, hS, rfl⟩
      have hli := F.called_set.init.lookup
      have hbi := F.called_set.init.bind (.ref s.heap.objs.size)
      repeat (any_goals (first | assumption | wp_step))
      refine codeAny_mono (codeAny_call_builtin (R := wants (fun r s₂ => r = .none ∧ ∃ h' tk L es ep t, s₂ = { s with heap := h', toks := tk } ∧ SetTR P w h' s.heap.objs.size L es ep t ∧ Got ks ks.length L ∧
          (∀ b o, s.heap.get? b = some o → h'.get? b = some o)) E) F.called_set.init.plain F.entry_set_init (check_set_init_1 hT ?_)) fun r₂ s₂ hr₂ => ?_
      · obtain ⟨ol, hol, hcl, nl, hdl⟩ := hl
        obtain ⟨ocls, odict, odata, oslots⟩ := ol
        simp only at hcl hdl
        subst hcl; subst hdl
        have hol' : (s.heap.push (sO w)).get? l = some { cls := .type "tuple", dict := odict, data := .seq items nl, slots := oslots } := Heap.get?_push_of_some _ hol
        have hsls := F.sub_tuple_set
        have hslf := F.sub_tuple_frozenset
        have hne : (Value.type "tuple" == Value.type "dict") = false := by decide
        have hl1 : (s.heap.push (sO w)).IsTuple l items := ⟨_, hol', rfl, nl, rfl⟩
        unfold Builtin.«set.__init__» noKeywords Builtin.Frozenset.updateFrom
        generalize hPI : pyIter = PI
        wp_walk
        subst hPI
        refine wpAny_pyIter_tuple hl1 ?_
        refine wpAny_bind (wpAny_runValue ?_)
        have hlS : l < s.heap.objs.size := Heap.lt_size hol
        have hh3 : A.in1.in1.in1.handled = none := by simp [hh]
        have hz1 : (s.heap.push (sO w)).objs.size = s.heap.objs.size + 1 := Heap.size_push ..
        have hneI : l ≠ (s.heap.push (sO w)).objs.size := by rw [Heap.size_push]; exact Nat.ne_of_lt (Nat.lt_succ_of_lt hlS)
        have hSf : s.heap.objs.size ∉ [(s.heap.push (sO w)).objs.size, l] := by
          rw [Heap.size_push]; simp only [List.mem_cons, List.mem_singleton, List.not_mem_nil, or_false, not_or]
          exact ⟨Nat.ne_of_lt (Nat.lt_succ_self _), Nat.ne_of_gt hlS⟩
        have hval : ∀ (i : Nat) (v : Value), items[i]? = some v → ∃ p, ks[i]? = some p ∧ v = .ref p.1 := fun i v hv => by
          have q : items.toList[i]? = some v := by rw [Array.getElem?_toList]; exact hv
          rw [hit, List.getElem?_map] at q
          cases hq : ks[i]? with
          | none => rw [hq] at q; cases q
          | some p =>
            rw [hq] at q
            exact ⟨p, rfl, (Option.some.inj q).symm⟩
        have none_of : ∀ b, s.heap.objs.size ≤ b → s.heap.get? b = none := fun b hb => by
          cases q : s.heap.get? b with
          | none => rfl
          | some o => exact absurd (Nat.lt_of_lt_of_le (Heap.lt_size q) hb) (Nat.lt_irrefl _)
        refine set_update_tups ((Walks.tuple hh3 _ l hneI items).toS) s.heap.objs.size
          hSf ks hisz hfew hval s.heap hk (none_of _ (Nat.le_refl _)) (fun b hb => none_of b (by
            rw [List.mem_singleton.mp hb, Heap.size_push]
            exact Nat.le_succ _)) hu (items.size - 0) 0 _ (by omega) (Nat.zero_le _)
          ⟨⟨_, Heap.get?_push_size _ rfl, rfl, rfl⟩, (hl1.push _)⟩ (fun b o e => Heap.get?_push_of_some _ (Heap.get?_push_of_some _ e)) ?hS0 ?hR
        case hS0 => exact ⟨[], #[], 0, _, setTR_fresh (Heap.get?_push_of_some _ hS), Got.zero ks⟩
        case hR =>
          intro s' L es ep t hm hS' g' hkp
          obtain ⟨h', g2, d', tk', os'⟩ := s'
          have eg : g2 = s.gens := hm.gens
          have ed : d' = s.drawn := hm.drawn
          have eo : os' = s.os := hm.os
          subst eg; subst ed; subst eo
          show wpAny _ _ _ _ _ _
          refine wpAny_pure ?_
          show wpAny _ _ (ret Value.none) _ _ _
          rw [hisz] at g'
          exact wpAny_pure ⟨rfl, h', tk', L, es, ep, t, rfl, hS', g', hkp⟩
      · cases r₂ with
        | error e => exact hr₂
        | ok fl₂ =>
          cases fl₂ with
          | ret r =>
            obtain ⟨rfl, h', tk, L, es, ep, t, rfl, hS', g', hk'⟩ := hr₂
            repeat (any_goals (first | assumption | wp_step))
            exact h _ _ _ _ _ _ hS' g' hk'
          | _ => exact hr₂.elim
    | _ => exact hr.elim
/-- set(xs), xs a list or a tuple of tuples of ints -/
def rSetLT (K : PySem.W.Frag) (P : Program) (w : World) : List V → Hp → VK → Prop := fun xs H Q => ∃ (l : Addr) (ks : List (Addr × List Int)), xs = [V.ref l] ∧ (SqL K H l (ks.map fun p => V.ref p.1) ∨ SqT K H l (ks.map fun p => V.ref p.1)) ∧ (∀ p ∈ ks, SqT K H p.1 (p.2.map V.int)) ∧ ks.length < 64 ∧
  ∀ a L, H a = none → (∀ p ∈ L, p ∈ ks) → (∀ p ∈ ks, p.2 ∈ L.map (·.2)) → Q (.ref a) (upd H a (SetTO P w a L))
theorem cr_setLT {X : Cx} (hc : X.calm = true) (hu : X.A.units + 64 < cLine) : CallR X (.type "set") (rSetLT X.K X.prog X.w) := by
  intro pins s σ H xs us Q I r h
  obtain ⟨l, ks, rfl, hl | hl, hk, hf, q⟩ := h
  · exact cr_setOfT hc hu pins s σ H [V.ref l] us Q I r ⟨l, ks, rfl, hl, hk, hf, q⟩
  · rw [Vals.ref1 r]
    obtain ⟨its, rv, pl, hz⟩ := I.tuple hl
    have hn : H s.heap.objs.size = none := I.hok.fresh (Nat.le_refl _)
    refine set_tupT (P := X.prog) (w := X.w) ks (I.ok.hd hc) (show s.heap.IsTuple l its.toArray from pl) (by simpa using refs_of_vals rv) (fun p hp => I.isT (hk p hp)) hf (by omega) fun h' tk L es ep t R g k => ?_
    refine ⟨.ref s.heap.objs.size, upd H s.heap.objs.size (SetTO X.prog X.w s.heap.objs.size L), I.laid (t' := tk) k (Nat.le_refl _) (setTO_new R.t0), rfl, q _ L hn (fun p hp => ?_) fun p hp => ?_⟩
    · exact List.mem_of_mem_take (g.sub p hp)
    · exact g.all p (by rw [List.take_length]; exact hp)
def wSortSet (w : WE) : WE := fun env Ke Kx => w env (fun env1 r => ∃ xs, (rd env1 r = some (.list xs) ∨ rd env1 r = some (.tuple xs)) ∧ oSortSet xs (Ke env1)) Kx
section
variable {B : Bs} {W : WX} {X : Cx} {e : Expr} {w : WE} {p p2 q pos : Pos}
theorem tups_at {K : PySem.W.Frag} {F H : Hp} (s : Same F H) : ∀ {vs : List V} {L : List (List Int)}, RpAll K F vs (L.map tupI) → ∃ ks : List (Addr × List Int), vs = ks.map (fun p => V.ref p.1) ∧ L = ks.map (·.2) ∧ ∀ p ∈ ks, F p.1 = some (.tup (p.2.map V.int))
  | _, [], h => by cases h; exact ⟨[], rfl, rfl, fun _ z => nomatch z⟩
  | _, l :: L, h => by
    cases h with
    | cons a b =>
      obtain ⟨ks, rfl, rfl, h3⟩ := tups_at s b
      cases a with
      | @tup ad xs ds h1 h2 =>
        have := h2.ints
        subst this
        exact ⟨(ad, l) :: ks, rfl, rfl, fun p hp => by
          rcases List.mem_cons.mp hp with z | z
          · subst z; exact h1
          · exact h3 p z⟩
theorem tups_to {K : PySem.W.Frag} {F : Hp} : ∀ {L : List (Addr × List Int)}, (∀ p ∈ L, F p.1 = some (.tup (p.2.map V.int))) → RpAll K F (L.map fun p => V.ref p.1) ((L.map (·.2)).map tupI)
  | [], _ => .nil
  | p :: L, h => .cons (.tup (h p List.mem_cons_self) (RpAll.of_ints _)) (tups_to fun q hq => h q (List.mem_cons_of_mem _ hq))
theorem de_sortSet (hu : X.A.units + 65 < cLine) (hc : X.calm = true) (hg : Gl X "sorted") (hm : X.mg "sorted" = none) (hg2 : Gl X "set") (hm2 : X.mg "set" = none) (ha : DE B W X e w)
    (na : starEach [e] X.env = (false, eval e X.env) :: starEach [] X.env := by rfl) : DE B W X (.Call (.Name "sorted" p) [.Call (.Name "set" p2) [e] [] q] [] pos) (wSortSet w) := by
  refine ⟨fun pins s σ F H env Ke Kx I R h hx => ?_⟩
  refine Call_ (ld_blt I hg hm bt_sorted ?_)
  refine PyProof.Rows.callWith_builtin1 (PyProof.Rows.args_cons ?_ rfl) rfl rfl
  refine Call_ (ld_blt I hg2 hm2 bt_set ?_)
  refine PyProof.Rows.callWith_type1 (PyProof.Rows.args_cons (thn (ha.run pins s σ F H env _ Kx I R h hx) fun u s1 ⟨v, env1, r, F1, H1, I1, rv, R1, f1, q1, n1, xs, e1, L, d, Bd, exs, hd, hL, hlen, k⟩ => PyProof.Rows.args_nil ?_) na) na rfl
  obtain ⟨a, vs, rfl, hs, hr⟩ : ∃ a vs, v = V.ref a ∧ (SqL X.K H1 a vs ∨ SqT X.K H1 a vs) ∧ RpAll X.K F1 vs xs := by
    rcases e1 with e1 | e1
    · obtain ⟨a, vs, rfl, hs, hr⟩ := (q1.rt R1 e1).list R1.sub
      exact ⟨a, vs, rfl, .inl hs, hr⟩
    · obtain ⟨a, vs, rfl, hs, hr⟩ := (q1.rt R1 e1).tuple R1.sub
      exact ⟨a, vs, rfl, .inr hs, hr⟩
  subst exs
  obtain ⟨ks, rfl, rfl, hk⟩ := tups_at R1.sub hr
  refine thn (cr_setLT hc (by omega) pins s1 σ H1 [.ref a] [u] (fun (y : V) (H2 : Hp) => ∃ (b : Addr) (M : List (Addr × List Int)), H1 b = none ∧ y = V.ref b ∧ H2 = upd H1 b (SetTO X.prog X.w b M) ∧ (∀ p ∈ M, p ∈ ks) ∧ ∀ p ∈ ks, p.2 ∈ M.map (·.2)) I1 (.cons rv .nil)
    ⟨a, ks, rfl, hs, fun p hp => sqT_mono (SqT.of (hk p hp)) R1.sub, by simpa using hlen, fun b M nb hM1 hM2 => ⟨b, M, nb, rfl, rfl, hM1, hM2⟩⟩) fun w s2 ⟨y, H2, I2, ry, b, M, nb, ey, eH, hM1, hM2⟩ => PyProof.Rows.args_nil ?_
  subst ey eH
  have R2 : Rl X.K B F1 (upd H1 b (SetTO X.prog X.w b M)) env1 σ := R1.lay nb
  have f2 : Fm env σ F H env1 F1 (upd H1 b (SetTO X.prog X.w b M)) := f1.trans (fm_lay nb)
  have hk2 : ∀ p ∈ M, F1 p.1 = some (.tup (p.2.map V.int)) := fun p hp => hk p (hM1 p hp)
  refine thn (cr_sortedT hc pins s2 σ _ [.ref b] [w] (fun v H' => ∃ r F', Rl X.K B F' H' env1 σ ∧ Fm env1 σ F1 (upd H1 b (SetTO X.prog X.w b M)) env1 F' H' ∧ Res X.K B F' H' env1 σ v r ∧ Nw (upd H1 b (SetTO X.prog X.w b M)) v r ∧ Ke env1 r) I2 (.cons ry .nil)
    ⟨b, M, d, Bd, rfl, upd_same, fun p hp => sqT_mono (SqT.of (hk2 p hp)) R2.sub, hd, fun p hp => hL p.2 (List.mem_map_of_mem (hM1 p hp)), fun L' p pm nd few pw np => ?_⟩) fun w s3 ⟨v, H3, I3, rv3, r, F3, g1, g2, g3, g4, g5⟩ => ?_
  · refine new_lst R2 np (tups_to fun p hp => hk2 p (pm.mem_iff.mp hp)) (k (L'.map (·.2)) nd (fun l => ?_) (List.pairwise_map.mpr pw))
    rw [(pm.map (·.2)).mem_iff]
    constructor
    · intro z
      obtain ⟨p, hp, rfl⟩ := List.mem_map.mp z
      exact List.mem_map_of_mem (hM1 p hp)
    · intro z
      obtain ⟨p, hp, rfl⟩ := List.mem_map.mp z
      exact hM2 p hp
  · exact DP.up f2 ⟨v, env1, r, F3, H3, I3, rv3, g1, g2, g3, g4, g5⟩
end
theorem noCX {P : Program} {w : World} {o : List Env} {H : Hp} {s : Shared} {e : Value} {s' : Shared} (h : L2N.CX P w o H s (fun _ _ _ => False) e s') : False := by
  obtain ⟨_, _, _, _, _, _, _, _, _, _, _, _, z⟩ := h
  exact z
def spTop (K : PySem.W.Frag) : Sp := fun vs H Q _ => ∃ (a : Addr) (ns : List Int), vs = [.ref a] ∧ ns.length ≤ 63 ∧ SqL K H a (ns.map V.int) ∧ ∀ v H', v = .bl true → Q v H'
theorem top_ok {P : Program} {w : World} {K : PySem.W.Frag} {mg : Str → Option Value} {base : Heap} {k : Nat} {f : Addr} {fd : FuncData} {ps : List Str} (h : FnOk P w K mg base (L2N.CX P w) k f fd ps (low K mg 1 spLaw)) : FnOk P w K mg base (L2N.CX P w) k f fd ps (spTop K) :=
  h.imp fun vs H Q E ⟨a, ns, e, hl, hS, q⟩ => by
    subst e
    refine ⟨H, [.val (.list (ns.map .int))], fun outs r => outs = [] ∧ r = .val (.bool true), fun _ _ => False, fun _ _ h => h, .val (.lst hS (RpAll.of_ints ns)) .nil, List.Pairwise.nil, rfl, ⟨ns, rfl, hl, rfl, rfl⟩, fun outs r F' H' v _ hv ⟨_, e⟩ => ?_, fun _ _ _ _ _ _ _ _ z => z.elim⟩
    subst e
    cases (show Rp K F' v (.bool true) from hv)
    exact q _ _ rfl
end Dl
theorem Room.u65 {k : Nat} {A : PySem.Around} (r : Room k A) : A.units + 65 < PySem.cLine := by have := r.un; omega
theorem Room.u67 {k : Nat} {A : PySem.Around} (r : Room k A) : A.units + 67 < PySem.cLine := by have := r.un; omega
end L2

/-! The D layer, 13: what is never come to; chains of comparisons; ranges as lists; zip, enumerate. -/
namespace L2
namespace Dl
open PySem PySem.Spec PyProof.Rows
def wNever : WS := fun _ _ => False
theorem ds_never {B : Bs} {W : WX} {X : Cx} {st : Stmt} : DS B W X st wNever := ⟨fun _ _ _ _ _ _ _ _ _ h _ => h.elim⟩
/-- the reading of a whole chain: a value -/
def wChain (o o' : Op2) (wa wb wc : WE) : WE := fun env Ke Kx => wa env (fun e1 r1 => wb e1 (fun e2 r2 => rdK e2 r1 fun d1 => rdK e2 r2 fun d2 => o d1 d2 (fun r3 => ∃ k, r3 = .val (.bool k) ∧
  if k = true then wc e2 (fun e4 r4 => rdK e4 r2 fun d3 => rdK e4 r4 fun d4 => o' d3 d4 (Ke e4)) Kx else Ke e2 (.val (.bool false)))) Kx) Kx
section
variable {B : Bs} {W : WX} {X : Cx} {pos : Pos} {a b c : Expr} {wa wb wc : WE}
/-! ranges as lists, tuples -/
def rgD (i j : Int) : List PyData := (List.range (j - i).toNat).map fun (m : Nat) => PyData.int (i + m)
def rgK (i j : Int) (K : List PyData → Prop) : Prop := RgOk i j ∧ K (rgD i j)
def wLR1 (tup : Bool) (w : WE) : WE := fun env Ke Kx => w env (fun e r => ∃ j, r = .val (.int j) ∧ rgK 0 j fun ds => Ke e (if tup = true then .val (.tuple ds) else .tmp ds)) Kx
def wLR2 (tup : Bool) (wa wb : WE) : WE := fun env Ke Kx => wa env (fun e1 r1 => wb e1 (fun e2 r2 => ∃ i, r1 = .val (.int i) ∧ ∃ j, r2 = .val (.int j) ∧ rgK i j fun ds => Ke e2 (if tup = true then .val (.tuple ds) else .tmp ds)) Kx) Kx
end
end Dl
end L2

/-! The D layer, 14: x[::-1], {}. -/
namespace L2
namespace Dl
open PySem PySem.Spec PyProof.Rows HT
section
variable {prog : Program} {w : World} {A : Around} {E : Value → Shared → Prop} {s : Shared}
end
/-- x[::-1] of a list, a tuple -/
def rvD (d : PyData) (K : Rs → Prop) : Prop := match d with
  | .list ds => K (.tmp ds.reverse)
  | .tuple ds => K (.val (.tuple ds.reverse))
  | _ => False
def wRev (wa : WE) : WE := fun env Ke Kx => wa env (fun e1 r1 => rdK e1 r1 fun d => rvD d (Ke e1)) Kx
section
variable {B : Bs} {W : WX} {X : Cx} {e : Expr} {w : WE} {pos p2 p3 p4 : Pos} {j : Nat}
/-- a module's whole number -/
theorem de_gint {x : Str} {v : Int} {p : Pos} (hm : ∃ t, X.mg x = some (.int v t)) (hg : Gl X x := by rfl) (hd : (x == ("__debug__" : Str)) = false := by decide) : DE B W X (.Name x p) (wC (.int v)) := by
  obtain ⟨t, h⟩ := hm
  exact de_glob (v := V.int v) hg h (show RelV (V.int v) (Value.int v t) from ⟨t, rfl⟩) (fun _ => .int v) hd
end
end Dl
end L2

/-! The D layer, 15: i in range(..); zip of two lists or two tuples; ranges with a step. -/
/-! zip of a list and a tuple -/
namespace L2
namespace Dl
section
open PySem PySem.Spec PyProof.Rows RZ
open PySem.Sem (wp)
section
variable {prog : Program} {w : World} {A : Around} {E : Value → Shared → Prop} {s : Shared}
end
abbrev zipMH1 (h : Heap) (l1 : Addr) : Heap := h.push { cls := .type "list_iterator", data := .fields #[.ref l1, .int 0 0] }
abbrev zipMH2 (h : Heap) (l1 l2 : Addr) : Heap := (zipMH1 h l1).push { cls := .type "tuple_iterator", data := .fields #[.ref l2, .int 0 0] }
abbrev zipMH3 (h : Heap) (l1 l2 : Addr) : Heap := (zipMH2 h l1 l2).push { cls := .type "tuple", data := .seq #[.ref h.objs.size, .ref (zipMH1 h l1).objs.size] }
abbrev zipMH4 (h : Heap) (l1 l2 : Addr) : Heap := (zipMH3 h l1 l2).push { cls := .type "tuple", data := .seq #[.none, .none] }
abbrev zipMH5 (h : Heap) (l1 l2 : Addr) : Heap := (zipMH4 h l1 l2).push { cls := .type "zip", data := .fields #[.none, .bool false, .bool false, .ref (zipMH2 h l1 l2).objs.size, .ref (zipMH3 h l1 l2).objs.size] }

section
variable {prog : Program} {w : World} {A : Around} {E : Value → Shared → Prop} {s : Shared}
end
end
end Dl
end L2
namespace L2
namespace Dl
open PySem PySem.Spec PyProof.Rows
section
variable {prog : Program} {w : World} {A : Around} {E : Value → Shared → Prop} {s : Shared}
end
def negB (neg : Bool) (b : Bool) : Bool := if neg = true then !b else b
def wIn1 (neg : Bool) (wa wb : WE) : WE := fun env Ke Kx => wa env (fun e1 r1 => wb e1 (fun e2 r2 => ∃ i, r1 = .val (.int i) ∧ ∃ j, r2 = .val (.int j) ∧ Ke e2 (.val (.bool (negB neg (decide (0 ≤ i ∧ i < j)))))) Kx) Kx
def wIn2 (neg : Bool) (wa wb wc : WE) : WE := fun env Ke Kx => wa env (fun e1 r1 => wb e1 (fun e2 r2 => wc e2 (fun e3 r3 => ∃ i, r1 = .val (.int i) ∧ ∃ j, r2 = .val (.int j) ∧ ∃ k, r3 = .val (.int k) ∧ Ke e3 (.val (.bool (negB neg (decide (j ≤ i ∧ i < k)))))) Kx) Kx) Kx
section
variable {B : Bs} {W : WX} {X : Cx} {pos q pos2 : Pos} {a b c : Expr} {wa wb wc : WE}
end
/-! zip -/
def zipD (xs ys : List PyData) : List PyData := (xs.zip ys).map fun p => .tuple [p.1, p.2]
def zpK (ds : List PyData) (K : List PyData → Prop) : Prop := match ds with
  | [.list xs, .list ys] => K (zipD xs ys)
  | [.tuple xs, .tuple ys] => K (zipD xs ys)
  | [.list xs, .tuple ys] => K (zipD xs ys)
  | _ => False
def wIZip (wf : WF) : WI := fun env Ki Kx => wf env (fun e ds => zpK ds (Ki e)) Kx
theorem DF.pa {B : Bs} {W : WX} {X : Cx} {es : List Expr} {wf : WF} (h : DF B W X es wf) : PA X es (fun σ H Q => ∃ F env Ka Kx, Rl X.K B F H env σ ∧ wf env Ka Kx ∧ XC X.K B W Kx ∧
    ∀ vs env' ds F' H', Rl X.K B F' H' env' σ → Fm env σ F H env' F' H' → RpAll X.K F' vs ds → Ka env' ds → Q vs H') :=
  ⟨fun pos pins s σ H Q I ⟨F, env, Ka, Kx, R, hw, hx, q⟩ => thn (h.run pos pins s σ F H env Ka Kx I R hw hx) fun us s1 ⟨vs, env', ds, F', H', I', rv, R', f', r', k'⟩ => ⟨vs, H', I', rv, q vs env' ds F' H' R' f' r' k'⟩⟩
end Dl
end L2

/-! The D layer, 16: raise, try. -/
namespace L2
namespace Dl
open PySem PySem.Spec PyProof.Rows

/-! ### an exception is made -/
section
variable {X : Cx}
/-- what such an __init__ leaves: each field -/
def spIni (C : Addr) (fs : List Str) : Sp := fun vs H Q _ => ∃ (a : Addr) (ws : List V), vs = .ref a :: ws ∧ ws.length = fs.length ∧ H a = some (exo a C none) ∧
  ∀ (H' : Hp) (d : Addr), H d = none → d ≠ a → H' a = some (exo a C (some d)) → H' d = some (exd d (fs.zip ws).reverse) → (∀ b, b ≠ a → b ≠ d → H' b = H b) → Q .non H'
end
/-! an __init__ of one field, of two -/
section
variable {P : Program} {w : World} {K : PySem.W.Frag} {mg : Str → Option Value} {base : Heap}
end

/-! ### raise -/
/-- what is known of a class whose __init__ stores its arguments -/
structure IniC (P : Program) (w : World) (K : PySem.W.Frag) (mg : Str → Option Value) (base : Heap) (name : Str) (fs : List Str) : Prop where
  ex : ∃ (C fI : Addr) (fd : FuncData), mg name = some (.ref C) ∧ OexC K C ∧ PySem.W.findIn K (.ref C) "__init__" = some (some (.ref fI)) ∧ PySem.W.typeIn K (.ref fI) = some (.type "function") ∧ Binds K fd ("self" :: fs) [] ∧ FnOk P w K mg base (L2N.CX P w) 1 fI fd ("self" :: fs) (spIni C fs)
/-- .. of a class without one -/
structure BareC (K : PySem.W.Frag) (mg : Str → Option Value) (name : Str) : Prop where
  ex : ∃ (C : Addr), mg name = some (.ref C) ∧ PySem.W.excIn K C [.type "ValueError", .type "Exception", .type "BaseException", .type "object"] "ValueError.__new__" = true ∧ PySem.W.keepIn K (.ref C) = true ∧ PySem.W.subIn K (.ref C) (.type "BaseException") = some true ∧ PySem.W.typeIn K (.ref C) = some (.type "type")
def wRaise0 (name : Str) : WS := fun env k => k.ex env ⟨name, []⟩
def wRaise (name : Str) (fs : List Str) (wf : WF) : WS := fun env k => wf env (fun e ds => ds.length = fs.length ∧ k.ex e ⟨name, (fs.zip ds).reverse⟩) k.ex
theorem fsR.mono {K : PySem.W.Frag} {F F' : Hp} (s : Same F F') : ∀ {fs : List (Str × V)} {gs : List (Str × PyData)}, fsR K F fs gs → fsR K F' fs gs
  | _, _, .nil => .nil
  | _, _, .cons ⟨e, r⟩ t => .cons ⟨e, Rp.mono s _ _ r⟩ (fsR.mono s t)
section
variable {B : Bs} {W : WX} {X : Cx} {x : Str} {e : Expr} {es : List Expr} {wf : WF} {p pos pos2 : Pos}
abbrev deadD : Ends := { nx := fun _ _ => False, rt := fun _ _ => False, bk := fun _ _ => False, ct := fun _ _ => False }
end
end Dl
end L2

/-! The D layer, 17: try; what runs while an exception is handled. -/
namespace L2
namespace Dl
open PySem PySem.Spec PyProof.Rows L2H

section
variable {K : PySem.W.Frag} {B : Bs} {F F' H H' : Hp} {env env' env0 : Ev} {σ σ' σ0 : St} {i : Nat} {a : Addr}
abbrev Bs.at (B : Bs) (F : Hp) : Bs := { B with F0 := F }
abbrev Bs.hot (B : Bs) (i : Nat) (a : Addr) (F : Hp) : Bs := { B with F0 := F, lent := (i, a) :: B.lent }
theorem Rl.at (R : Rl K B F H env σ) : Rl K (B.at F) F H env σ :=
  ⟨R.len, R.sub, R.sl, R.dist, Same.refl _, fun b x h => .inl h, R.frm, R.dom, R.own0, R.own1, R.lsl, R.dd, R.d0⟩
theorem Rl.hot (R : Rl K B F H env σ) (na : H a = none) (hi : i < σ.length) (nl : ∀ p ∈ B.all, p.1 ≠ i) : Rl K (B.hot i a F) F H (env.set i .un) (σ.set i (some (.ref a))) := by
  have R1 := R.put (v := .ref a) (s := .un) hi nl trivial (fun _ _ e => by cases e)
  refine ⟨R1.len, R1.sub, R1.sl, R1.dist, Same.refl _, fun b x h => .inl h, fun b x h n => R1.frm b x h fun p hp => n p (List.mem_cons_of_mem _ hp), R1.dom, R1.own0, fun j ds c h1 h2 => ?_, fun p hp => ?_, R1.dd, R1.d0⟩
  · obtain ⟨p, g1, g2⟩ := R1.own1 j ds c h1 h2
    exact ⟨p, List.mem_cons_of_mem _ g1, g2⟩
  · rcases List.mem_cons.mp hp with z | z
    · subst z
      exact List.getElem?_set_self hi
    · exact R1.lsl p z
end

/-- the exception x is handled, slot i holds it -/
structure HX (X : Cx) (B : Bs) (i : Nat) (x : XD) : Prop where
  ex : ∃ (a C : Addr) (oe : Obj) (d : Option Addr), (a, oe) ∈ X.pn ∧ (i, a) ∈ B.lent ∧ X.A.handled = some (.ref a) ∧ L2N.Zn (.ref C) d oe ∧ (∃ vs, oe.data = .fields vs) ∧ X.mg x.name = some (.ref C) ∧
    match d with
    | none => x.fs = []
    | some dx => ∃ fs, B.F0 dx = some (.xd fs) ∧ fsR X.K B.F0 fs x.fs
theorem HX.hot {X : Cx} {B : Bs} {i : Nat} {x : XD} (h : HX X B i x) : HotC X := by
  obtain ⟨a, C, oe, d, h1, _, h3, h4, ⟨vs, h5⟩, _⟩ := h.ex
  exact ⟨(a, oe), ⟨h3, vs, h5, h4.2.2 vs h5⟩, h1⟩

/-! ### try: body, except C as n: suite -/
def wTry (i : Nat) (ns : List Str) (t : WS) (u : XD → WS) : WS := fun env k => t env { k with ex := fun e x => x.name ∈ ns ∧ (∃ s, e[i]? = some s) ∧ u x (e.set i .un) { nx := fun e2 => k.nx (e2.set i .un), rt := k.rt, bk := fun e2 => k.bk (e2.set i .un), ct := fun e2 => k.ct (e2.set i .un), ex := NoX } }
section
variable {B : Bs} {W : WX} {X : Cx} {cx n : Str} {c : Value} {i : Nat} {b₀ : Stmt} {body suite : List Stmt} {t : WS} {u : XD → WS} {ns : List Str} {np pos pos' : Pos}
end
end Dl
end L2

/-! The D layer, 18: what is asked of a handled exception; defs called while one is handled; count, index. -/
namespace L2
namespace Dl
open PySem PySem.Spec PyProof.Rows L2H

/-! ### e.f, isinstance(e, C) -/
def wXf (ns : List Str) (x : XD) (f : Str) : WE := fun env Ke _ => x.name ∈ ns ∧ ∃ d, x.fs.lookup f = some d ∧ Ke env (.val d)
section
variable {B : Bs} {W : WX} {X : Cx} {i : Nat} {x : XD} {ns : List Str} {nm f T : Str} {p p1 p2 pos : Pos}
theorem HX.at (hx : HX X B i x) {F H : Hp} {env : Ev} {σ : St} {pins : List (Addr × Obj)} {s : Shared} (I : Inv X pins σ H s) (R : Rl X.K B F H env σ) : ∃ (a C : Addr) (oe : Obj) (d : Option Addr), σ[i]? = some (some (.ref a)) ∧ s.heap.get? a = some oe ∧ L2N.Zn (.ref C) d oe ∧ (∃ vs, oe.data = .fields vs) ∧ X.mg x.name = some (.ref C) ∧
    match d with
    | none => x.fs = []
    | some dx => ∃ fs, F dx = some (.xd fs) ∧ fsR X.K F fs x.fs := by
  obtain ⟨a, C, oe, d, h1, h2, h3, h4, h5, h6, h7⟩ := hx.ex
  refine ⟨a, C, oe, d, R.lsl (i, a) (List.mem_append_left _ h2), (I.pin (a, oe) (List.mem_append_left _ h1)).1, h4, h5, h6, ?_⟩
  cases d with
  | none => exact h7
  | some dx =>
    obtain ⟨fs, g1, g2⟩ := h7
    exact ⟨fs, R.sub0 _ _ g1, fsR.mono R.sub0 g2⟩
/-- a name of a class, with its value -/
def ClsN (X : Cx) (T : Str) (cv : Value) : Prop := (∃ C, cv = .ref C ∧ X.mg T = some (.ref C)) ∨ (∃ t, cv = .type t ∧ X.mg T = none ∧ bootBuiltins T = some (.type t))
theorem ClsN.pe {cv : Value} (h : ClsN X T cv) (hg : Gl X T) (hn : T ≠ "__name__") (hdb : (T == ("__debug__" : Str)) = false) : ∃ v : V, PE X (.Name T p2) (tC v) ∧ ∀ u, RelV v u → u = cv := by
  rcases h with ⟨C, rfl, h1⟩ | ⟨t, rfl, h1, h2⟩
  · exact ⟨.ref C, pe_glob hg h1 rfl hdb, fun u e => e⟩
  · exact ⟨.ty t, pe_bltn hg h1 h2 rfl hn hdb, fun u e => e⟩
end
end Dl
end L2

/-! The D layer, 19: defs called while an exception is handled. -/
namespace L2
namespace Dl
open PySem PySem.Spec PyProof.Rows L2H

/-- a def that may be handed the handled exception: its promise knows the exception's object -/
structure FnX (P : Program) (w : World) (K : PySem.W.Frag) (mg : Str → Option Value) (base : Heap) (CX : CXT) (k : Nat) (f : Addr) (fd : FuncData) (ps : List Str) (sp : Addr × Obj → Sp) : Prop where
  len : ∀ p vs H Q E, sp p vs H Q E → vs.length = ps.length
  run : ∀ (p : Addr × Obj) (A : Around) (outer : List Env) (s : Shared) (H : Hp) (args : Args) (us : List Value) (vs : List V) (Q : VK) (E : XK), RoomH k A → Hot1 A p → PinOk outer H s p → Env0 P w K mg base A outer s H → BindsTo s fd args (ps.zip us) → Vals vs us → sp p vs H Q E →
    codeAny (model P w) A (.call (.ref f) args) (CR CX outer P w H s Q E) s
section
variable {P : Program} {w : World} {K : PySem.W.Frag} {mg : Str → Option Value} {base : Heap}
end

/-! ### a def keeps its promise while an exception is handled -/
section
variable {P : Program} {w : World} {K : PySem.W.Frag} {mg : Str → Option Value} {base : Heap}
/-- what is promised of a handled exception -/
abbrev SpcE := XD → (Rv → Prop) → Prop
def lowX (K : PySem.W.Frag) (mg : Str → Option Value) (S : SpcE) : Addr × Obj → Sp := fun p vs H Q _ => vs = [.ref p.1] ∧ ∃ (x : XD) (C : Addr) (d : Option Addr) (F : Hp) (Kr : Rv → Prop), Same F H ∧ mg x.name = some (.ref C) ∧ L2N.Zn (.ref C) d p.2 ∧ (∃ vs, p.2.data = .fields vs) ∧ (match d with
    | none => x.fs = []
    | some dx => ∃ fs, F dx = some (.xd fs) ∧ fsR K F fs x.fs) ∧ S x Kr ∧ ∀ r F' H' v, Aft K F H [] F' H' [] → RvR K H F' H' v r → Kr r → Q v H'
end

/-! ### calls -/
def CalH (P : Program) (w : World) (K : PySem.W.Frag) (mg : Str → Option Value) (base : Heap) (k : Nat) (x : Str) (n : Nat) (S : Spc) : Prop :=
  ∃ f fd ps, ps.length = n ∧ mg x = some (.ref f) ∧ PySem.W.keepIn K (.ref f) = true ∧ Binds K fd ps [] ∧ FnH P w K mg base (L2N.CX P w) k f fd ps (low K mg n S)
def CalX (P : Program) (w : World) (K : PySem.W.Frag) (mg : Str → Option Value) (base : Heap) (k : Nat) (x : Str) (S : SpcE) : Prop :=
  ∃ f fd pn, mg x = some (.ref f) ∧ PySem.W.keepIn K (.ref f) = true ∧ Binds K fd [pn] [] ∧ FnX P w K mg base (L2N.CX P w) k f fd [pn] (lowX K mg S)
def wCallX (S : SpcE) (x : XD) : WE := fun env Ke _ => S x fun r => Ke env (rsOf r)
section
variable {P : Program} {w : World} {K : PySem.W.Frag} {mg : Str → Option Value} {base : Heap}
theorem FnH.mono {CX : CXT} {j k : Nat} {f : Addr} {fd : FuncData} {ps : List Str} {sp : Sp} (F : FnH P w K mg base CX j f fd ps sp) (h : j ≤ k) : FnH P w K mg base CX k f fd ps sp := ⟨F.len, fun A outer s H args us vs Q E p r => F.run A outer s H args us vs Q E p (r.mono h)⟩
theorem FnX.mono {CX : CXT} {j k : Nat} {f : Addr} {fd : FuncData} {ps : List Str} {sp : Addr × Obj → Sp} (F : FnX P w K mg base CX j f fd ps sp) (h : j ≤ k) : FnX P w K mg base CX k f fd ps sp := ⟨F.len, fun p A outer s H args us vs Q E r => F.run p A outer s H args us vs Q E (r.mono h)⟩
theorem CalH.mono {j k n : Nat} {x : Str} {S : Spc} (c : CalH P w K mg base j x n S) (h : j ≤ k) : CalH P w K mg base k x n S := by
  obtain ⟨f, fd, ps, h0, h1, h2, h3, h4⟩ := c
  exact ⟨f, fd, ps, h0, h1, h2, h3, FnH.mono h4 h⟩
theorem CalX.mono {j k : Nat} {x : Str} {S : SpcE} (c : CalX P w K mg base j x S) (h : j ≤ k) : CalX P w K mg base k x S := by
  obtain ⟨f, fd, pn, h1, h2, h3, h4⟩ := c
  exact ⟨f, fd, pn, h1, h2, h3, FnX.mono h4 h⟩
end
section
variable {B : Bs} {W : WX} {X : Cx} {k n i : Nat} {x nm : Str} {S : Spc} {e : Expr} {es : List Expr} {wm : WM} {p p1 pos : Pos}
end
end Dl
end L2

/-! The D layer, 20: the exceptions' classes, looked at once. -/
namespace L2
namespace Dl
open PySem PySem.Spec PyProof.Rows L2H
def xall : List Str := ["NoClock", "NoNumber", "NoPlace", "NoRow", "NoClocks", "NoText", "TooGreat"]
def xfld : List Str := ["many", "most", "number", "row"]
structure XFacts (K : PySem.W.Frag) (mg : Str → Option Value) : Prop where
  ce : ∃ C0, mg "ClockError" = some (.ref C0) ∧ ∀ n ∈ xall, ∃ C, mg n = some (.ref C) ∧ PySem.W.exmOne K (.ref C) (.ref C0) = some true
  at_ : ∀ n ∈ xall, ∀ C, mg n = some (.ref C) → ExcC K C ∧ XfC K C ∧ (∀ f ∈ xfld, PySem.W.findIn K (.ref C) f = some none) ∧ PySem.W.kitOne K (.ref C) (.type "ValueError") = some true ∧
    ∀ m ∈ xall, ∃ D, mg m = some (.ref D) ∧ PySem.W.kitOne K (.ref C) (.ref D) = some (decide (n = m))
section
variable {B : Bs} {W : WX} {X : Cx} {i : Nat} {x : XD} {nm f T : Str} {p p1 p2 pos pos' np : Pos} {ns : List Str}
end
/-! the classes that are raised -/
end Dl
end L2

/-! The D layer, 21: xs.count(y), xs.index(y). -/
namespace L2
namespace Dl
open PySem PySem.Spec PyProof.Rows L2H
/-- a method of a list that only reads it, with one argument -/
abbrev Rd := List PyData → PyData → (PyData → Prop) → Prop
def isLst : PyData → Prop
  | .list _ => True
  | _ => False
def wRd (w wa : WE) (μ : Rd) : WE := fun env Ke Kx => w env (fun e1 r1 => rdK e1 r1 isLst ∧ wa e1 (fun e2 r2 => rdK e2 r1 fun d1 => rdK e2 r2 fun d2 => ∃ ds, d1 = .list ds ∧ μ ds d2 fun d => Ke e2 (.val d)) Kx) Kx
section
variable {B : Bs} {W : WX} {X : Cx}
variable {e o : Expr} {w wo : WE} {apos cpos : Pos} {name : Str} {id : String} {r : V → List V → Hp → VK → Prop} {μ : Rd}
end
end Dl
end L2

/-! The D layer, 22: calls that only look at lists; [..] * k; enumerate of a list. -/
namespace L2
namespace Dl
open PySem PySem.Spec PyProof.Rows L2H

/-! ### f(xs, ..) that answers with no object: xs stays its holder's -/
def scal : PyData → Bool
  | .none | .bool _ | .int _ | .str _ => true
  | _ => false
/-- a name: a list of its own is lent, to be looked at -/
def wBr (i : Nat) (wm : WM) : WM := fun env Ka Kx => (∃ l ds, env[i]? = some (Sl.own l ds) ∧ wm env (fun e as => Ka e (.ln i :: as)) Kx) ∨ ∃ d, env[i]? = some (Sl.val d) ∧ wm env (fun e as => Ka e (.fz d :: as)) Kx
def avsB (env : Ev) : List Ar → Option (List AV)
  | [] => some []
  | .fz d :: as => (avsB env as).map (.val d :: ·)
  | .ln i :: as => match env[i]? with
    | some (.own _ ds) => (avsB env as).map (.val (.list ds) :: ·)
    | _ => none
def wCallS (n : Nat) (S : Spc) (wm : WM) : WE := fun env Ke Kx => wm env (fun e as => ∃ avs, avsB e as = some avs ∧ avs.length = n ∧ S avs (fun _ r => ∃ d, r = .val d ∧ scal d = true ∧ Ke e (.val d)) (fun _ _ => False)) Kx
section
variable {K : PySem.W.Frag} {B : Bs} {F H H' : Hp} {env : Ev} {σ : St}
/-- what stood stands -/
theorem Rl.later (R : Rl K B F H env σ) (k : ∀ b x, H b = some x → H' b = some x) : Rl K B F H' env σ ∧ Fm env σ F H env F H' := by
  have dm : ∀ b, H b ≠ none → H' b ≠ none := fun b h => by
    cases q : H b with
    | none => exact absurd q h
    | some x => rw [k b x q]; simp
  refine ⟨⟨R.len, fun b x h => k b x (R.sub b x h), fun j => ?_, R.dist, R.sub0, R.new, fun b x h n => k b x (R.frm b x h n), fun b h => dm b (R.dom b h), R.own0, R.own1, R.lsl, R.dd, R.d0⟩, ⟨fun b x h _ => k b x h, fun _ _ h => h, fun _ _ h => .inl h, fun _ _ _ h => ⟨_, h⟩, dm, fun _ _ h => ⟨_, h⟩⟩⟩
  have s := R.sl j
  cases q : env[j]? with
  | none => trivial
  | some z =>
    rw [q] at s
    cases z with
    | un => trivial
    | val d => exact s
    | own l ds =>
      obtain ⟨a, ws, g1, g2, g3, g4⟩ := s
      exact ⟨a, ws, g1, k a _ g2, g3, g4⟩
    | dct kv =>
      obtain ⟨a, g1, g2, g3⟩ := s
      exact ⟨a, g1, k a _ g2, g3⟩
end
section
variable {B : Bs} {W : WX} {X : Cx} {k n : Nat} {x : Str} {S : Spc} {e : Expr} {es : List Expr} {wm : WM} {p pos : Pos}
end

/-! ### [..] * k -/
def wRep (wa wb : WE) : WE := fun env Ke Kx => wa env (fun e1 r1 => ∃ ds, r1 = .tmp ds ∧ wb e1 (fun e2 r2 => ∃ k, r2 = .val (.int k) ∧ ds.length * k.toNat ≤ sizeLine ∧ k ≤ 16777216 ∧ -16777216 ≤ k ∧ Ke e2 (.tmp (List.replicate k.toNat ds).flatten)) Kx) Kx
section
variable {B : Bs} {W : WX} {X : Cx} {a b : Expr} {wa wb : WE} {pos : Pos}
theorem de_rep (ha : DE B W X a wa) (hb : DE B W X b wb) : DE B W X (.BinOp a .Mult b pos) (wRep wa wb) := by
  refine ⟨fun pins s σ F H env Ke Kx I R h hx => wpAny_BinOp ?_⟩
  refine thn (ha.run pins s σ F H env _ Kx I R h hx) fun v s1 ⟨x, env1, r1, F1, H1, I1, rx, R1, f1, q1, n1, ds, er, h1⟩ => ?_
  subst er
  refine thn (hb.run pins s1 σ F1 H1 env1 _ Kx I1 R1 h1 hx) fun u s2 ⟨y, env2, r2, F2, H2, I2, ry, R2, f2, q2, n2, k, er, hz, k1, k2, hk⟩ => ?_
  subst er
  cases (show Rp X.K F2 y (.int k) from q2)
  obtain ⟨p, vs, rfl, z1, z2, z3, z4, z5⟩ := q1.step f2
  refine thn (op_rep pins s2 σ H2 (.ref p) (.int k) v u (fun v' H' => ∃ r F', Rl X.K B F' H' env2 σ ∧ Fm env2 σ F2 H2 env2 F' H' ∧ Res X.K B F' H' env2 σ v' r ∧ Nw H2 v' r ∧ Ke env2 r) I2 rx ry ⟨p, k, vs, rfl, rfl, z1, by omega, by omega, by rw [z5.length]; exact hz, fun q hq => ?_⟩) fun w s3 ⟨v', H', I', rv, r, F', g1, g2, g3, g4, g5⟩ => (DP.up f2 ⟨v', env2, r, F', H', I', rv, g1, g2, g3, g4, g5⟩).up f1
  exact new_lst R2 hq (z5.rep k.toNat) hk
end

/-! ### enumerate of a list -/
def enD (ds : List PyData) : List PyData := ds.zipIdx.map fun p => .tuple [.int p.2, p.1]
def wIEnum (wf : WF) : WI := fun env Ki Kx => wf env (fun e ds => ∃ xs, ds = [.list xs] ∧ Ki e (enD xs)) Kx
theorem enD_len (ds : List PyData) : (enD ds).length = ds.length := by unfold enD; rw [List.length_map, List.length_zipIdx]
theorem enD_at {ds : List PyData} {i : Nat} {d : PyData} (h : ds[i]? = some d) : (enD ds)[i]? = some (.tuple [.int i, d]) := by
  unfold enD
  rw [List.getElem?_map, List.getElem?_zipIdx, h]
  simp
theorem good_enum {K : PySem.W.Frag} {B : Bs} {J : It} {F0 : Hp} {vx : List V} {xs : List PyData} (hx : RpAll K F0 vx xs)
    (go : ∀ (F H : Hp) (i : Nat), Same F0 F → Same F H → i < vx.length → J.go i H) (stop : ∀ (F H : Hp) (i : Nat), Same F0 F → Same F H → vx.length ≤ i → J.stop i H)
    (yld : ∀ (F H : Hp) (i : Nat) (v : V) (H' : Hp), Same F0 F → Same F H → J.yld i H v H' → ∃ T x, v = .ref T ∧ H T = none ∧ H' = upd H T (.tup [.int (i : Nat), x]) ∧ vx[i]? = some x) : GoodIt K B J F0 (enD xs) := by
  intro F H env σ i R s
  have l1 := hx.length
  refine ⟨fun hi => ?_, fun hi => ?_⟩
  · rw [enD_len] at hi
    refine ⟨go F H i s R.sub (by omega), fun v H' yl => ?_⟩
    obtain ⟨T, x, rfl, hT, rfl, e1⟩ := yld F H i v H' s R.sub yl
    obtain ⟨dx, g1, r1⟩ := hx.get2 e1
    have hF : F T = none := R.freeF hT
    have sm : Same F (upd F T (.tup [.int (i : Nat), x])) := fun b o e => by
      rw [upd_ne (ne_of_none e hF)]
      exact e
    exact ⟨upd F T (.tup [.int (i : Nat), x]), .tuple [.int i, dx], R.layF hT, R.fmLayF hT, enD_at g1, .tup upd_same (.cons (.int _) (.cons (Rp.mono (s.trans sm) _ _ r1) .nil))⟩
  · rw [enD_len] at hi
    exact stop F H i s R.sub (by omega)
theorem di_enum {B : Bs} {W : WX} {X : Cx} {e : Expr} {wf : WF} {p pos tpos : Pos} {elts : List Expr} {kk : Nat} (h : DF B W X [e] wf) (hg : Gl X "enumerate") (hm : X.mg "enumerate" = none)
    (hs : starEach [e] X.env = [(false, eval e X.env)] := by rfl) : DI B W X (.Tuple elts kk tpos) (.Call (.Name "enumerate" p) [e] [] pos) (wIEnum wf) := by
  refine ⟨⟨fun pins s σ H R I ⟨F, env, Ki, Kx, R0, hw, hx, q⟩ => ?_⟩⟩
  refine (pi_enum (p := p) (pos := pos) (tpos := tpos) (elts := elts) (kk := kk) hg hm h.pa hs).run pins s σ H R I ⟨F, env, _, Kx, R0, hw, hx, fun vs env' ds F' H' R' f' r' ⟨xs, e1, k'⟩ => ?_⟩
  subst e1
  cases r' with
  | cons a1 t1 =>
    cases t1
    cases a1 with
    | @lst ad vx _ h1 h2 =>
      refine ⟨ad, vx, rfl, R'.sub.seq h1, q _ env' F' H' _ R' f' (good_enum h2 (fun F H i s1 s2 i1 => ?_) (fun F H i s1 s2 hi => ?_) (fun F H i v H' s1 s2 yl => ?_)) k'⟩
      · exact ⟨vx, vx[i], (s1.trans s2).seq h1, List.getElem?_eq_getElem i1⟩
      · exact ⟨vx, (s1.trans s2).seq h1, hi⟩
      · obtain ⟨T, x, e1, e2, e3, e4⟩ := yl
        exact ⟨T, x, e1, e2, e3, e4 _ ((s1.trans s2).seq h1)⟩
end Dl
end L2

/-! The D layer, 23: loops, unpacking and pairs while an exception is handled. -/
namespace L2
namespace Dl
open PySem PySem.Spec PyProof.Rows L2H HotX

section
variable {prog : Program} {w : World} {A : Around} {E : Value → Shared → Prop} {s : Shared}
end

section
variable {X : Cx}
theorem HotC.pin {pins : List (Addr × Obj)} {σ : St} {H : Hp} {s : Shared} (c : HotC X) (I : Inv X pins σ H s) : ∃ p ∈ X.pn, HotAt X.A p.1 s.heap := by
  obtain ⟨p, ⟨hh, v1, e1, c1⟩, hp⟩ := c
  exact ⟨p, hp, hh, p.2, v1, (I.pin p (List.mem_append_left _ hp)).1, e1, c1⟩
end

/-! ### what is walked there -/
def seqOf : PyData → Option (List PyData)
  | .list ds => some ds
  | .tuple ds => some ds
  | _ => none
def wISq (w : WE) : WI := fun env Ki Kx => wFz w env (fun e d => ∃ ds, seqOf d = some ds ∧ Ki e ds) Kx
structure DIH (B : Bs) (W : WX) (X : Cx) (tg iter : Expr) (w : WI) : Prop where
  pi : PIH X tg iter (fun σ H R => ∃ F env Ki Kx, Rl X.K B F H env σ ∧ w env Ki Kx ∧ XC X.K B W Kx ∧ ∀ J env' F' H' ds, Rl X.K B F' H' env' σ → Fm env σ F H env' F' H' → GoodIt X.K B J F' ds → Ki env' ds → R J H')
section
variable {B : Bs} {W : WX} {X : Cx} {tg e : Expr} {w : WE} {pos : Pos}
/-! ### (a, b) = pair; a, b = x, y -/
end
section
variable {P : Program} {w : World} {K : PySem.W.Frag} {mg : Str → Option Value} {base : Heap}
end
/-! ### x[i] += e of a list of one's own -/
section
variable {B : Bs} {W : WX} {X : Cx} {x : Str} {a e : Expr} {wi w : WE} {p pos spos : Pos}
end
/-! ### an expression that only looks: one's own lists are put away, one is lent to it -/
section
variable {K : PySem.W.Frag} {B : Bs} {F H : Hp} {env : Ev} {σ : St}
end
section
variable {B : Bs} {W : WX} {X : Cx} {e : Expr} {w : WE}
end
end Dl
end L2

/-! The D layer, 24: a list comprehension while an exception is handled. -/
namespace L2
namespace Dl
open PySem PySem.Spec PyProof.Rows L2H HotX

/-- a block's context that keeps what is handled -/
abbrev hotB (X : Cx) (s : Shared) (H : Hp) (scope : Scope) (cenv : Env) (fp : List Addr) : Cx := { X.blk s H scope cenv fp with pn := X.pn }
section
variable {X : Cx} {s : Shared} {H : Hp} {σ : St} {pins : List (Addr × Obj)}
end
section
variable {B : Bs} {W : WX} {X : Cx} {tg iter elt : Expr} {is : List Nat} {wi : WI} {g : WG} {ct : WT} {we : WE} {pos : Pos}
end
end Dl
end L2

/-! The D layer, 25: enumerate of a tuple. -/
namespace L2
namespace Dl
open PySem PySem.Spec PyProof.Rows Builtin

section
open AutoSeq1 (wpAny_loadPart')
variable {prog : Program} {w : World} {A : Around} {E : Value → Shared → Prop} {s : Shared}
end
/-- for i, x in enumerate(a tuple) -/
def wIEnumT (wf : WF) : WI := fun env Ki Kx => wf env (fun e ds => ∃ xs, ds = [.tuple xs] ∧ Ki e (enD xs)) Kx
end Dl
end L2

/-! The D layer, 26: f(xs, ..) that answers with no list: xs stays its holder's. -/
namespace L2
namespace Dl
open PySem PySem.Spec PyProof.Rows L2H

mutual
def tupD : PyData → Bool
  | .none | .bool _ | .int _ | .str _ => true
  | .tuple ds => tupDs ds
  | .list _ => false
  | .dict _ => false
def tupDs : List PyData → Bool
  | [] => true
  | d :: ds => tupD d && tupDs ds
end
def wCallT (n : Nat) (S : Spc) (wm : WM) : WE := fun env Ke Kx => wm env (fun e as => ∃ avs, avsB e as = some avs ∧ avs.length = n ∧ S avs (fun _ r => ∃ d, r = .val d ∧ tupD d = true ∧ Ke e (.val d)) (fun _ x => (∀ p ∈ x.fs, tupD p.2 = true) ∧ Kx e x)) Kx
section
variable {K : PySem.W.Frag} {B : Bs} {F F1 F2 H H' : Hp} {env : Ev} {σ : St}
mutual
theorem thaw {no : Addr → Prop} (h : ∀ b, ¬ no b → F2 b = F1 b) (l : ∀ b, no b → ∃ ws, F1 b = some (.lst ws)) : ∀ (d : PyData) (v : V), tupD d = true → Rp K F1 v d → Rp K F2 v d
  | .none, _, _, r => by cases r; exact .non
  | .bool _, _, _, r => by cases r; exact .bl _
  | .int _, _, _, r => by cases r; exact .int _
  | .str _, _, _, r => by cases r; exact .str _
  | .list _, _, e, _ => by cases e
  | .dict _, _, e, _ => by cases e
  | .tuple ds, _, e, r => by
    cases r with
    | @tup a xs _ h1 h2 =>
      refine .tup (a := a) (xs := xs) ?_ (thawAll h l ds xs e h2)
      have na : ¬ no a := fun z => by
        obtain ⟨ws, e2⟩ := l a z
        rw [e2] at h1
        cases h1
      rw [h a na]
      exact h1
theorem thawAll {no : Addr → Prop} (h : ∀ b, ¬ no b → F2 b = F1 b) (l : ∀ b, no b → ∃ ws, F1 b = some (.lst ws)) : ∀ (ds : List PyData) (vs : List V), tupDs ds = true → RpAll K F1 vs ds → RpAll K F2 vs ds
  | [], _, _, r => by cases r; exact .nil
  | d :: ds, _, e, r => by
    have e : (tupD d && tupDs ds) = true := e
    rw [Bool.and_eq_true] at e
    cases r with
    | cons a b => exact .cons (thaw h l d _ e.1 a) (thawAll h l ds _ e.2 b)
end
end
section
variable {B : Bs} {W : WX} {X : Cx} {k n : Nat} {x : Str} {S : Spc} {e : Expr} {es : List Expr} {wm : WM} {p pos : Pos}
end
end Dl
end L2

/-! The D layer, 27: range with a step. -/
namespace L2
namespace Dl
open PySem PySem.Spec PyProof.Rows L2H

def rg3 (i c : Int) (n : Nat) : List PyData := (List.range n).map fun (m : Nat) => PyData.int (i + (m : Int) * c)
def wIRng3 (wf : WF) : WI := fun env Ki Kx => wf env (fun e ds => ∃ i j c n, ds = [.int i, .int j, .int c] ∧ RgC i j c n ∧ Ki e (rg3 i c n)) Kx
theorem good_rg3 {K : PySem.W.Frag} {B : Bs} {F0 : Hp} {i c : Int} {n : Nat} : GoodIt K B (Itc i c n) F0 (rg3 i c n) := by
  intro F H env σ m R s
  have l : (rg3 i c n).length = n := by unfold rg3; rw [List.length_map, List.length_range]
  rw [l]
  refine ⟨fun hm => ⟨hm, fun x H' ⟨e, y⟩ => ?_⟩, fun hm => hm⟩
  subst e y
  refine ⟨F, _, R, Fm.refl, ?_, .int _⟩
  unfold rg3
  rw [List.getElem?_map, List.getElem?_range hm]
  rfl
section
variable {B : Bs} {W : WX} {X : Cx} {tg a b c : Expr} {wf : WF} {p pos : Pos}
theorem di_rng3 (h : DF B W X [a, b, c] wf) (hg : Gl X "range") (hm : X.mg "range" = none) (hs : starEach [a, b, c] X.env = (false, eval a X.env) :: starEach [b, c] X.env := by rfl) (hpl : (backTo pos (starEach [b, c] X.env)).any (·.1) = false := by rfl) :
    DI B W X tg (.Call (.Name "range" p) [a, b, c] [] pos) (wIRng3 wf) := by
  refine ⟨⟨fun pins s σ H R I ⟨F, env, Ki, Kx, R0, hw, hx, q⟩ => ?_⟩⟩
  refine (pi_range3 (p := p) (pos := pos) hg hm h.pa hs hpl).run pins s σ H R I ⟨F, env, _, Kx, R0, hw, hx, fun vs env' ds F' H' R' f' r' ⟨i, j, k, n, e1, rg, k'⟩ => ?_⟩
  subst e1
  have e : vs = [i, j, k].map V.int := RpAll.ints (ns := [i, j, k]) r'
  exact ⟨i, j, k, n, e, rg, q _ env' F' H' _ R' f' good_rg3 k'⟩
end
end Dl
end L2

/-! The D layer, 28: (..) * k. -/
namespace L2
namespace Dl
open PySem PySem.Spec PyProof.Rows L2H
def wRepT (wa wb : WE) : WE := fun env Ke Kx => wa env (fun e1 r1 => ∃ ds, r1 = .val (.tuple ds) ∧ wb e1 (fun e2 r2 => ∃ k, r2 = .val (.int k) ∧ ds ≠ [] ∧ 2 ≤ k ∧ k ≤ 1000 ∧ ds.length ≤ 1000 ∧ Ke e2 (.val (.tuple (List.replicate k.toNat ds).flatten))) Kx) Kx
section
variable {B : Bs} {W : WX} {X : Cx} {a b : Expr} {wa wb : WE} {pos : Pos}
end
end Dl
end L2

/-! The D layer, 29: dicts of one's own, their keys tuples of ints. -/
namespace L2
namespace Dl
open PySem PySem.Spec PyProof.Rows

def isDct (env : Ev) (i : Nat) : Prop := ∃ kvs, env[i]? = some (Sl.dct kvs)
def putD (kvs : List (List Int × PyData)) (k : List Int) (d : PyData) : List (List Int × PyData) :=
  if (kvs.any fun p => decide (p.1 = k)) = true then kvs.map (fun p => if p.1 = k then (p.1, d) else p) else kvs ++ [(k, d)]
/-- what a dict's value may be -/
def scD : PyData → Prop
  | .int _ => True
  | .bool _ => True
  | .str _ => True
  | .none => True
  | _ => False
section
variable {K : PySem.W.Frag} {B : Bs} {F H : Hp} {env : Ev} {σ : St}
theorem Rp.scD {v : V} {d : PyData} (h : Rp K F v d) (s : scD d) : v = vOf d := by
  cases h with
  | non => rfl
  | bl b => rfl
  | int i => rfl
  | str x => rfl
  | lst _ _ => exact s.elim
  | tup _ _ => exact s.elim
  | dct _ => exact s.elim
theorem Rl.dctSl (R : Rl K B F H env σ) {i : Nat} {kv : List (List Int × PyData)} (e : env[i]? = some (Sl.dct kv)) : ∃ a, σ[i]? = some (some (V.ref a)) ∧ H a = some (.dT (kvO kv)) ∧ F a = none := by
  have s := R.sl i
  rw [e] at s
  exact s
theorem ints_key (ks : List Int) : (ks.map (Sum.inl : Int → Key)).map kV = ks.map V.int := by
  rw [List.map_map]
  rfl
/-- F takes in tuples of ints that stand in H -/
theorem Rl.keys : ∀ (kvs : List (List Int × PyData)) (bs : List Addr) (F : Hp), Rl K B F H env σ → IsKeys H (kvO kvs) bs → ∃ F2, Rl K B F2 H env σ ∧ Fm env σ F H env F2 H ∧ RpAll K F2 (bs.map V.ref) (kvs.map fun p => .tuple (p.1.map .int))
  | [], _, F, R, h => by
    cases h
    exact ⟨F, R, Fm.refl, .nil⟩
  | p :: kvs, _, F, R, h => by
    unfold IsKeys kvO at h
    rw [List.map_cons] at h
    cases h with
    | @cons _ b _ bs h1 h2 =>
      obtain ⟨F2, R2, f2, r2⟩ := Rl.keys kvs bs F R h2
      replace h1 : H b = some (.tup (p.1.map V.int)) := by
        rw [← ints_key]
        exact h1
      cases q : F2 b with
      | some x =>
        have q2 := R2.sub b x q
        rw [h1] at q2
        cases q2
        exact ⟨F2, R2, f2, .cons (.tup q (RpAll.of_ints _)) r2⟩
      | none =>
        have nb : ¬ ownAt env σ b := fun z => by
          obtain ⟨ob, z1, _, z3⟩ := R.ownH z
          rw [h1] at z1
          cases z1
          rcases z3 with ⟨_, z3⟩ | ⟨_, z3⟩ <;> cases z3
        have s1 : Same F2 (upd F2 b (.tup (p.1.map V.int))) := fun c x e => by rw [upd_ne (ne_of_none e q)]; exact e
        refine ⟨upd F2 b (.tup (p.1.map V.int)), ?_, ⟨f2.keep, f2.sub.trans s1, fun c x e => ?_, f2.own, f2.dom, f2.od⟩, .cons (.tup upd_same (RpAll.of_ints _)) (RpAll.mono s1 _ _ r2)⟩
        · refine ⟨R2.len, fun c x e => ?_, fun i => ?_, R2.dist, R2.sub0.trans s1, fun c x e => ?_, R2.frm, R2.dom, R2.own0, R2.own1, R2.lsl, R2.dd, R2.d0⟩
          · by_cases hc : c = b
            · subst hc
              rw [upd_same] at e
              cases e
              exact h1
            · rw [upd_ne hc] at e
              exact R2.sub c x e
          · have s := R2.sl i
            cases qi : env[i]? with
            | none => trivial
            | some z =>
              rw [qi] at s
              cases z with
              | un => trivial
              | val d =>
                obtain ⟨v, g1, g2⟩ := s
                exact ⟨v, g1, Rp.mono s1 _ _ g2⟩
              | own l ds =>
                obtain ⟨a, vs, g1, g2, g3, g4⟩ := s
                refine ⟨a, vs, g1, g2, ?_, RpAll.mono s1 _ _ g4⟩
                rw [upd_ne (fun z => nb (.inl ⟨i, l, ds, qi, by rw [← z]; exact g1⟩))]
                exact g3
              | dct kv =>
                obtain ⟨a, g1, g2, g3⟩ := s
                refine ⟨a, g1, g2, ?_⟩
                rw [upd_ne (fun z => nb (.inr ⟨i, kv, qi, by rw [← z]; exact g1⟩))]
                exact g3
          · by_cases hc : c = b
            · subst hc
              rw [upd_same] at e
              cases e
              exact .inr (.inr ⟨_, rfl⟩)
            · rw [upd_ne hc] at e
              exact R2.new c x e
        · by_cases hc : c = b
          · subst hc
            rw [upd_same] at e
            cases e
            exact .inr (.inl (.inr ⟨h1, _, rfl⟩))
          · rw [upd_ne hc] at e
            exact f2.new c x e
end

section
variable {B : Bs} {W : WX} {X : Cx} {x : Str} {a e : Expr} {wi w : WE} {p p2 pos pos' spos : Pos}
/-- x = {} -/
def wNewD (i : Nat) : WS := fun env k => k.nx (env.set i (.dct []))
/-- x[k] = e -/
def wPutD (i : Nat) (wi w : WE) : WS := fun env k => w env (fun env1 r => ∃ d, r = .val d ∧ scD d ∧ isDct env1 i ∧ wi env1 (fun env2 r2 => ∃ ks kvs, r2 = .val (.tuple (ks.map .int)) ∧ env2[i]? = some (Sl.dct kvs) ∧ kvs.length < sizeLine ∧ k.nx (env2.set i (.dct (putD kvs ks d)))) k.ex) k.ex
/-- len(x) -/
def wLenD (i : Nat) : WE := fun env Ke _ => ∃ kvs, env[i]? = some (Sl.dct kvs) ∧ Ke env (.val (.int kvs.length))
/-- list(x): the keys, as they came -/
def wListD (i : Nat) : WE := fun env Ke _ => ∃ kvs, env[i]? = some (Sl.dct kvs) ∧ Ke env (.tmp (kvs.map fun p => .tuple (p.1.map .int)))
end
end Dl
end L2

/-! The D layer, 30: sorted(set(t)), t a tuple of ints. -/
namespace L2
namespace Dl
open PySem PySem.Spec PyProof.Rows
def oSortSetI (xs : List PyData) (K : Rs → Prop) : Prop := ∃ zs : List Int, xs = zs.map .int ∧ zs.length < 64 ∧ ∀ ns : List Int, ns.Pairwise (· < ·) → (∀ k, k ∈ ns ↔ k ∈ zs) → K (.tmp (ns.map .int))
def wSortSetI (w : WE) : WE := fun env Ke Kx => w env (fun env1 r => ∃ xs, r = .val (.tuple xs) ∧ oSortSetI xs (Ke env1)) Kx
section
variable {B : Bs} {W : WX} {X : Cx} {e : Expr} {w : WE} {p p2 q pos : Pos}
end
end Dl
end L2

/-! The D layer, 31: min of a list of things that can be compared. -/
namespace L2
namespace Dl
open PySem PySem.Spec PyProof.Rows
def oMinL : OpN := fun ds K => match ds with
  | [.list (x :: xs)] => PySem.W.AlikeAll (x :: xs) ∧ (∀ d ∈ x :: xs, SeqAt.shaped d = true) ∧ K (.val (PySem.W.minD x xs))
  | _ => False
section
variable {X : Cx}
end
end Dl
end L2

/-! The D layer, 32: len(set(xs)), xs tuples of ints. -/
namespace L2
namespace Dl
open PySem PySem.Spec PyProof.Rows
def oLenSet (xs : List PyData) (K : Rs → Prop) : Prop := ∃ (L : List (List Int)), xs = L.map tupI ∧ L.length < 64 ∧ ∀ M : List (List Int), M.Nodup → (∀ l, l ∈ M ↔ l ∈ L) → K (.val (.int M.length))
def wLenSet (w : WE) : WE := fun env Ke Kx => w env (fun env1 r => ∃ xs, (rd env1 r = some (.list xs) ∨ rd env1 r = some (.tuple xs)) ∧ oLenSet xs (Ke env1)) Kx
section
variable {B : Bs} {W : WX} {X : Cx} {e : Expr} {w : WE} {p p2 q pos : Pos}
end
end Dl
end L2

/-! The D layer, 33: list(zip(xs, t)), xs a list, t a tuple. -/
namespace L2
namespace Dl
open PySem PySem.Spec PyProof.Rows RZ PySem.Calls
open PySem.Sem (wp)
section
variable {prog : Program} {w : World} {A : Around} {E : Value → Shared → Prop} {s : Shared}
/-- the zip at its k-th turn, its first tuple out or none yet -/
def ZSt (h : Heap) (S z TI TO i1 i2 l1 l2 : Addr) (k : Nat) : Prop := IsPair h TI (.ref i1) (.ref i2) ∧ h.IsListIter i1 l1 k ∧ h.IsTupleIter i2 l2 k ∧
  ((IsZip h z TI TO .none ∧ ∃ a b, IsPair h TO a b) ∨ ∃ T f oT, IsZipHeld h z TI TO T f ∧ h.get? T = some oT ∧ T ≠ z ∧ T ≠ i1 ∧ T ≠ i2 ∧ T ≠ S)
end
theorem ZSt.keep {h h' : Heap} {S z TI TO i1 i2 l1 l2 : Addr} {k : Nat} (x : ZSt h S z TI TO i1 i2 l1 l2 k) (up : ∀ b o, b ≠ S → h.get? b = some o → h'.get? b = some o) (nz : z ≠ S) (nTI : TI ≠ S) (nTO : TO ≠ S) (n1 : i1 ≠ S) (n2 : i2 ≠ S) : ZSt h' S z TI TO i1 i2 l1 l2 k := by
  obtain ⟨hTI, g1, g2, q⟩ := x
  refine ⟨up _ _ nTI hTI, g1.at fun o e => up _ o n1 e, g2.at fun o e => up _ o n2 e, ?_⟩
  rcases q with ⟨hz, a, b, hTO⟩ | ⟨T, f, oT, hz, hT, tz, t1, t2, t3⟩
  · exact .inl ⟨up _ _ nz hz, a, b, up _ _ nTO hTO⟩
  · exact .inr ⟨T, f, oT, up _ _ nz hz, up _ _ t3 hT, tz, t1, t2, t3⟩
/-- the pairs that were made -/
structure MadeZ (xs ys : Array Value) (lo : Addr) (h : Heap) (as : List Addr) : Prop where
  rise : as.Pairwise (· < ·)
  above : ∀ a ∈ as, lo < a
  pairs : ∀ (j : Nat) (a : Addr), as[j]? = some a → ∃ x y, xs[j]? = some x ∧ ys[j]? = some y ∧ IsPair h a x y
theorem MadeZ.there {xs ys : Array Value} {lo : Addr} {h : Heap} {as : List Addr} (g : MadeZ xs ys lo h as) {a : Addr} (ha : a ∈ as) : a < h.objs.size := by
  obtain ⟨j, hj⟩ := List.mem_iff_getElem?.mp ha
  obtain ⟨_, _, _, _, e⟩ := g.pairs j a hj
  exact Heap.lt_size e
section
variable {prog : Program} {w : World} {A : Around} {s : Shared} {R : Result → Shared → Prop} {xs ys : Array Value}
end
section
variable {prog : Program} {w : World} {A : Around} {E : Value → Shared → Prop} {s : Shared} {xs ys : Array Value}
end
end Dl
end L2

/-! The D layer, 34: list(zip(xs, t)) by value. -/
namespace L2
namespace Dl
open PySem PySem.Spec PyProof.Rows RZ
section
variable {K : PySem.W.Frag} {B : Bs} {H : Hp} {env : Ev} {σ : St}
end
def wLstZ (wf : WF) : WE := fun env Ke Kx => wf env (fun env' ds => ∃ xs ys, ds = [.list xs, .tuple ys] ∧ xs.length ≤ sizeLine ∧ Ke env' (.tmp (zipD xs ys))) Kx
section
variable {B : Bs} {W : WX} {X : Cx} {e e2 : Expr} {wf : WF} {p p2 q pos : Pos}
end
end Dl
end L2

/-! The D layer, 35: xs.insert(i, y) of a list of one's own. -/
namespace L2
namespace Dl
open PySem PySem.Spec PyProof.Rows
def wIns (i : Nat) (w1 w2 : WE) : WE := fun env Ke Kx => isOwn env i ∧ w1 env (fun env1 r1 => ∃ n, r1 = .val (.int n) ∧ 0 ≤ n ∧ n < 2 ^ 63 ∧ wFz w2 env1 (fun env2 d => ∃ l ds, env2[i]? = some (Sl.own l ds) ∧ ds.length < sizeLine ∧ Ke (env2.set i (.own l (ds.take n.toNat ++ [d] ++ ds.drop n.toNat))) (.val .none)) Kx) Kx
section
variable {B : Bs} {W : WX} {X : Cx} {x : Str} {e e2 : Expr} {w1 w2 : WE} {p apos cpos : Pos}
end
end Dl
end L2

/-! The D layer, 36: a function as the first argument of a def. -/
namespace L2
namespace Dl
open PySem PySem.Spec PyProof.Rows

/-- a def whose first argument is the module's function g -/
def lowF (K : PySem.W.Frag) (mg : Str → Option Value) (g : Str) (n : Nat) (S : Spc) : Sp := fun vs H Q E => ∃ (ga : Addr) (vs' : List V) (F : Hp) (avs : List AV) (Kr : List (List PyData) → Rv → Prop) (Kx : List (List PyData) → XD → Prop), mg g = some (.ref ga) ∧ vs = .ref ga :: vs' ∧ Same F H ∧ ArgsR K F H vs' avs ∧ lentAs vs' avs = [] ∧ avs.length = n ∧ S avs Kr Kx ∧
  (∀ outs r F' H' v, Aft K F H [] F' H' outs → RvR K H F' H' v r → Kr outs r → Q v H') ∧
  (∀ outs x cls d F' H', Aft K F H [] F' H' outs → XRm K mg F' H' x cls d → Kx outs x → E cls d H')
/-- such a def by its name in the module -/
def CalF (P : Program) (w : World) (K : PySem.W.Frag) (mg : Str → Option Value) (base : Heap) (k : Nat) (x : Str) (n : Nat) (g : Str) (S : Spc) : Prop :=
  ∃ f fd ps, ps.length = n + 1 ∧ mg x = some (.ref f) ∧ PySem.W.keepIn K (.ref f) = true ∧ Binds K fd ps [] ∧ FnOk P w K mg base (L2N.CX P w) k f fd ps (lowF K mg g n S)
section
variable {K : PySem.W.Frag} {B : Bs} {F H : Hp} {env : Ev} {σ : St}
/-- one more slot, ahead, that holds a function -/
theorem Rl.push {mg : Str → Option Value} {F0 H0 : Hp} {ga : Addr} (R : Rl K { H0 := H0, F0 := F0, lent := [], mg := mg } F H env σ) : Rl K { H0 := H0, F0 := F0, lent := [], mg := mg, fns := [(0, ga)] } F H (.un :: env) (some (.ref ga) :: σ) := by
  refine ⟨by rw [List.length_cons, List.length_cons, R.len], R.sub, fun j => ?_, fun i j l m ds es a h1 h2 h3 h4 => ?_, R.sub0, R.new, R.frm, R.dom, fun i ds a h1 h2 => ?_, fun i ds a h1 h2 => ?_, fun p hp => ?_, fun i j kv kw a h1 h2 h3 h4 => ?_, fun i kv a h1 h2 => ?_⟩
  · cases j with
    | zero => trivial
    | succ j => exact R.sl j
  · cases i with
    | zero => cases h1
    | succ i =>
      cases j with
      | zero => cases h2
      | succ j => exact congrArg Nat.succ (R.dist i j l m ds es a h1 h2 h3 h4)
  · cases i with
    | zero => cases h1
    | succ i => exact R.own0 i ds a h1 h2
  · cases i with
    | zero => cases h1
    | succ i => exact R.own1 i ds a h1 h2
  · have hp' : p ∈ [(0, ga)] := hp
    rw [List.mem_singleton] at hp'
    subst hp'
    rfl
  · cases i with
    | zero => cases h1
    | succ i =>
      cases j with
      | zero => cases h2
      | succ j => exact congrArg Nat.succ (R.dd i j kv kw a h1 h2 h3 h4)
  · cases i with
    | zero => cases h1
    | succ i => exact R.d0 i kv a h1 h2
end
section
variable {P : Program} {w : World} {K : PySem.W.Frag} {mg : Str → Option Value} {base : Heap}
theorem CalF.mono {j k n : Nat} {x g : Str} {S : Spc} (c : CalF P w K mg base j x n g S) (h : j ≤ k) : CalF P w K mg base k x n g S := by
  obtain ⟨f, fd, ps, h0, h1, h2, h3, h4⟩ := c
  exact ⟨f, fd, ps, h0, h1, h2, h3, h4.mono h⟩
end
/-- f(g, e, ..): nothing is lent -/
def wCallF (n : Nat) (S : Spc) (wm : WM) : WE := fun env Ke Kx => wm env (fun env' as => lnsOf as = [] ∧ ∃ avs, avsOf env' as = some avs ∧ avs.length = n ∧ S avs (fun _ r => Ke env' (rsOf r)) (fun _ x => Kx env' x)) Kx
section
variable {B : Bs} {W : WX} {X : Cx} {k n i : Nat} {x g : Str} {S : Spc} {e : Expr} {es : List Expr} {wm : WM} {p p0 pos : Pos}
end
end Dl
end L2

/-! The D layer, 37: a list of lists of one's own, each made longer in its place. -/
namespace L2
namespace Dl
open PySem PySem.Spec PyProof.Rows L2H

/-- slots that hold nothing that can change -/
def plainE (env : Ev) : Prop := ∀ (j : Nat) (s : Sl), env[j]? = some s → s = .un ∨ ∃ d, s = .val d ∧ tupD d = true
theorem plainE.own {env : Ev} (h : plainE env) {j : Nat} {l : Bool} {ds : List PyData} (e : env[j]? = some (Sl.own l ds)) : False := by
  rcases h j _ e with z | ⟨d, z, _⟩ <;> cases z
theorem plainE.dct {env : Ev} (h : plainE env) {j : Nat} {kv : List (List Int × PyData)} (e : env[j]? = some (Sl.dct kv)) : False := by
  rcases h j _ e with z | ⟨d, z, _⟩ <;> cases z
theorem plainE.no {env : Ev} (h : plainE env) {σ : St} {b : Addr} (o : ownAt env σ b) : False := by
  rcases o with ⟨j, l, ds, h1, _⟩ | ⟨j, kv, h1, _⟩
  · exact h.own h1
  · exact h.dct h1
/-- the list a of the lists qs: known to none; dss is what they hold -/
structure Nest (K : PySem.W.Frag) (B : Bs) (F H : Hp) (a : Addr) (qs : List Addr) (dss : List (List PyData)) : Prop where
  len : qs.length = dss.length
  out : H a = some (.lst (qs.map V.ref))
  fa : F a = none
  ba : B.H0 a = none
  na : a ∉ qs
  nd : qs.Nodup
  inn : ∀ (j : Nat) (q : Addr) (ds : List PyData), qs[j]? = some q → dss[j]? = some ds → F q = none ∧ B.H0 q = none ∧ ∃ ws, H q = some (.lst ws) ∧ RpAll K F ws ds
section
variable {K : PySem.W.Frag} {B : Bs} {F F' H H' : Hp} {env env' : Ev} {σ : St} {a : Addr} {qs : List Addr} {dss : List (List PyData)}
theorem Nest.at (N : Nest K B F H a qs dss) {q : Addr} (h : q ∈ qs) : F q = none ∧ B.H0 q = none ∧ ∃ ws, H q = some (.lst ws) := by
  obtain ⟨j, hj, rfl⟩ := List.mem_iff_getElem.mp h
  obtain ⟨h1, h2, ws, h3, _⟩ := N.inn j _ (dss[j]'(by rw [← N.len]; exact hj)) (List.getElem?_eq_getElem hj) (List.getElem?_eq_getElem _)
  exact ⟨h1, h2, ws, h3⟩
theorem Nest.in1 (N : Nest K B F H a qs dss) {b : Addr} (h : b = a ∨ b ∈ qs) : F b = none ∧ B.H0 b = none ∧ ∃ ws, H b = some (.lst ws) := by
  rcases h with rfl | h
  · exact ⟨N.fa, N.ba, _, N.out⟩
  · exact N.at h
/-- what is done beside it leaves it -/
theorem Nest.step (N : Nest K B F H a qs dss) (k : ∀ b x, H b = some x → H' b = some x) (s : Same F F') (f : ∀ b ws, F b = none → H b = some (.lst ws) → F' b = none) : Nest K B F' H' a qs dss :=
  ⟨N.len, k _ _ N.out, f _ _ N.fa N.out, N.ba, N.na, N.nd, fun j q ds h1 h2 => by
    obtain ⟨g1, g2, ws, g3, g4⟩ := N.inn j q ds h1 h2
    exact ⟨f _ _ g1 g3, g2, ws, k _ _ g3, RpAll.mono s _ _ g4⟩⟩
theorem Nest.fm (N : Nest K B F H a qs dss) (hp : plainE env) (f : Fm env σ F H env' F' H') : Nest K B F' H' a qs dss :=
  N.step (fun b x e => f.keep b x e fun o => hp.no o) f.sub fun b ws e1 e2 => by
    cases z : F' b with
    | none => rfl
    | some x =>
      rcases f.new b x z with y | y | y
      · rw [e1] at y; cases y
      · exact (y.lst e2).elim
      · exact (hp.no y).elim
/-- all of it looked at as if it stood still -/
def nestF (F H : Hp) (a : Addr) (qs : List Addr) : Hp := fun b => if b = a ∨ b ∈ qs then H b else F b
theorem nestF_in {b : Addr} (h : b = a ∨ b ∈ qs) : nestF F H a qs b = H b := if_pos h
theorem nestF_out {b : Addr} (h : ¬ (b = a ∨ b ∈ qs)) : nestF F H a qs b = F b := if_neg h
theorem Nest.up (N : Nest K B F H a qs dss) : Same F (nestF F H a qs) := fun b x e => by
  rw [nestF_out fun z => by rw [(N.in1 z).1] at e; cases e]
  exact e
theorem Nest.rp (N : Nest K B F H a qs dss) : Rp K (nestF F H a qs) (.ref a) (.list (dss.map .list)) := by
  refine .lst (xs := qs.map V.ref) (SqL.of (by rw [nestF_in (.inl rfl)]; exact N.out)) ?_
  have gen : ∀ (qs' : List Addr) (dss' : List (List PyData)), qs'.length = dss'.length → (∀ (j : Nat) q ds, qs'[j]? = some q → dss'[j]? = some ds → q ∈ qs ∧ ∃ ws, H q = some (.lst ws) ∧ RpAll K F ws ds) → RpAll K (nestF F H a qs) (qs'.map V.ref) (dss'.map .list) := by
    intro qs'
    induction qs' with
    | nil =>
      intro dss' hl _
      cases dss' with
      | nil => exact .nil
      | cons _ _ => cases hl
    | cons q qs' ih =>
      intro dss' hl h
      cases dss' with
      | nil => cases hl
      | cons ds dss' =>
        obtain ⟨h1, ws, h2, h3⟩ := h 0 q ds rfl rfl
        refine .cons (.lst (SqL.of (by rw [nestF_in (.inr h1)]; exact h2)) (RpAll.mono N.up _ _ h3)) (ih dss' (by simpa using hl) fun j q ds e1 e2 => h (j + 1) q ds (by simpa using e1) (by simpa using e2))
  refine gen qs dss N.len fun j q ds e1 e2 => ?_
  obtain ⟨_, _, ws, g3, g4⟩ := N.inn j q ds e1 e2
  exact ⟨List.mem_of_getElem? e1, ws, g3, g4⟩
/-- the ground of a run that may change nothing that stands -/
abbrev still (F H : Hp) (i : Nat) (a : Addr) (mg : Str → Option Value) : Bs := { H0 := H, F0 := F, lent := [], mg := mg, fns := [(i, a)] }
/-- few things are to be shown where the slots are plain -/
theorem rl_plain (hl : B.lent = []) (len : env.length = σ.length) (hp : plainE env) (sub : Same F H) (sl : ∀ i : Nat, slR K F H env[i]? σ[i]?) (sub0 : Same B.F0 F) (new : ∀ b x, F b = some x → B.F0 b = some x ∨ Nw0 B.H0 b x)
    (frm : ∀ b x, B.H0 b = some x → H b = some x) (lsl : ∀ p ∈ B.all, σ[p.1]? = some (some (.ref p.2))) : Rl K B F H env σ :=
  ⟨len, sub, sl, fun _ _ _ _ _ _ _ h => (hp.own h).elim, sub0, new, fun b x e _ => frm b x e, fun b e => by
    cases q : B.H0 b with
    | none => exact absurd q e
    | some x => rw [frm b x q]; simp, fun _ _ _ h => (hp.own h).elim, fun _ _ _ h => (hp.own h).elim, lsl, fun _ _ _ _ _ h => (hp.dct h).elim, fun _ _ _ h => (hp.dct h).elim⟩
theorem Rl.frm0 (R : Rl K B F H env σ) (hl : B.lent = []) {b : Addr} {x : HO} (h : B.H0 b = some x) : H b = some x := R.frm b x h fun p hp => by rw [hl] at hp; cases hp
/-- the frozen look, over a ground that may change nothing -/
theorem Nest.frozen {i : Nat} (N : Nest K B F H a qs dss) (R : Rl K B F H env σ) (hp : plainE env) (hi : σ[i]? = some (some (.ref a))) : Rl K (still (nestF F H a qs) H i a B.mg) (nestF F H a qs) H (env.set i (.val (.list (dss.map .list)))) σ := by
  have il : i < env.length := by rw [R.len]; exact (List.getElem?_eq_some_iff.mp hi).1
  have no : ∀ {j : Nat} {l : Bool} {ds : List PyData}, (env.set i (.val (.list (dss.map .list))))[j]? = some (Sl.own l ds) → False := fun {j l ds} e => by
    by_cases z : i = j
    · subst z
      rw [List.getElem?_set_self il] at e
      cases e
    · rw [List.getElem?_set_ne z] at e
      exact hp.own e
  have nd : ∀ {j : Nat} {kv : List (List Int × PyData)}, (env.set i (.val (.list (dss.map .list))))[j]? = some (Sl.dct kv) → False := fun {j kv} e => by
    by_cases z : i = j
    · subst z
      rw [List.getElem?_set_self il] at e
      cases e
    · rw [List.getElem?_set_ne z] at e
      exact hp.dct e
  refine ⟨by rw [List.length_set]; exact R.len, fun b x e => ?_, fun j => ?_, fun _ _ _ _ _ _ _ h => (no h).elim, Same.refl _, fun _ _ h => .inl h, fun _ _ h _ => h, fun _ h => h, fun _ _ _ h => (no h).elim, fun _ _ _ h => (no h).elim, fun p hq => ?_, fun _ _ _ _ _ h => (nd h).elim, fun _ _ _ h => (nd h).elim⟩
  · by_cases z : b = a ∨ b ∈ qs
    · rw [nestF_in z] at e
      exact e
    · rw [nestF_out z] at e
      exact R.sub b x e
  · by_cases z : i = j
    · subst z
      rw [List.getElem?_set_self il]
      exact ⟨_, hi, N.rp⟩
    · rw [List.getElem?_set_ne z]
      have s := R.sl j
      cases q : env[j]? with
      | none => trivial
      | some y =>
        rw [q] at s
        cases y with
        | un => trivial
        | val d =>
          obtain ⟨v, h1, h2⟩ := s
          exact ⟨v, h1, Rp.mono N.up _ _ h2⟩
        | own l ds => exact (hp.own q).elim
        | dct kv => exact (hp.dct q).elim
  · have hq' : p ∈ [(i, a)] := hq
    rw [List.mem_singleton] at hq'
    subst hq'
    exact hi
/-- one of the lists is made longer; the look is thawed -/
theorem Nest.longer {i m : Nat} {F3 H3 : Hp} {env3 : Ev} {σ3 : St} {q : Addr} {ws zs : List V} {ds es : List PyData} (N : Nest K B F H a qs dss) (R : Rl K B F H env σ) (hp : plainE env) (hl : B.lent = []) (hall : B.all = [(i, a)])
    (R3 : Rl K (still (nestF F H a qs) H i a B.mg) F3 H3 env3 σ3) (le : env3.length = env.length) (same : ∀ (j : Nat) (d : PyData), env[j]? = some (.val d) → env3[j]? = some (.val d))
    (hq : qs[m]? = some q) (hd : dss[m]? = some ds) (hw : H q = some (.lst ws)) (rz : RpAll K F3 zs es) (te : tupDs es = true) :
    ∃ F4, Rl K B F4 (upd H3 q (.lst (ws ++ zs))) env σ3 ∧ Same F F4 ∧ Nest K B F4 (upd H3 q (.lst (ws ++ zs))) a qs (dss.set m (ds ++ es)) ∧ σ3[i]? = some (some (.ref a)) := by
  have mem : q ∈ qs := List.mem_of_getElem? hq
  have keep : ∀ {b x}, H b = some x → H3 b = some x := fun {b x} h => R3.frm0 rfl h
  have f13 : Same (nestF F H a qs) F3 := R3.sub0
  -- the thawed look
  let F4 : Hp := fun b => if b = a ∨ b ∈ qs then none else F3 b
  have f4n : ∀ {b}, (b = a ∨ b ∈ qs) → F4 b = none := fun {b} h => if_pos h
  have f4o : ∀ {b}, ¬ (b = a ∨ b ∈ qs) → F4 b = F3 b := fun {b} h => if_neg h
  have lst3 : ∀ b, (b = a ∨ b ∈ qs) → ∃ vs, F3 b = some (.lst vs) := fun b h => by
    obtain ⟨_, _, vs, g⟩ := N.in1 h
    exact ⟨vs, f13 b _ (by rw [nestF_in h]; exact g)⟩
  have tw := @thaw K F3 F4 (fun b => b = a ∨ b ∈ qs) (fun b h => f4o h) lst3
  have sF : Same F F4 := fun b x e => by
    have nb : ¬ (b = a ∨ b ∈ qs) := fun z => by rw [(N.in1 z).1] at e; cases e
    rw [f4o nb]
    exact f13 b x (N.up b x e)
  have s43 : ∀ {b x}, F4 b = some x → ¬ (b = a ∨ b ∈ qs) ∧ F3 b = some x := fun {b x} e => by
    by_cases h : b = a ∨ b ∈ qs
    · rw [f4n h] at e; cases e
    · rw [f4o h] at e; exact ⟨h, e⟩
  have nq : ∀ {b}, ¬ (b = a ∨ b ∈ qs) → b ≠ q := fun {b} h z => h (.inr (z ▸ mem))
  have aq : a ≠ q := fun z => N.na (z ▸ mem)
  have hi := R3.lsl (i, a) (List.mem_singleton.mpr rfl)
  have len3 : env.length = σ3.length := le.symm.trans R3.len
  refine ⟨F4, rl_plain hl len3 hp (fun b x e => ?_) (fun j => ?_) (R.sub0.trans sF) (fun b x e => ?_) (fun b x e => ?_) (fun pr hpr => ?_), sF, ⟨?_, ?_, f4n (.inl rfl), N.ba, N.na, N.nd, fun j r es' e1 e2 => ?_⟩, hi⟩
  · obtain ⟨h1, h2⟩ := s43 e
    rw [upd_ne (nq h1)]
    exact R3.sub b x h2
  · cases z : env[j]? with
    | none => trivial
    | some s =>
      rcases hp j s z with rfl | ⟨d, rfl, td⟩
      · trivial
      · have s3 := R3.sl j
        rw [same j d z] at s3
        obtain ⟨v, h1, h2⟩ := s3
        exact ⟨v, h1, tw d v td h2⟩
  · obtain ⟨h1, h2⟩ := s43 e
    rcases R3.new b x h2 with y | y | y
    · have y : nestF F H a qs b = some x := y
      rw [nestF_out h1] at y
      exact R.new b x y
    · exact .inr (.inl (R.free0 y))
    · exact .inr (.inr y)
  · have h1 := keep (R.frm0 hl e)
    rw [upd_ne fun z => by rw [z, (N.at mem).2.1] at e; cases e]
    exact h1
  · rw [hall, List.mem_singleton] at hpr
    subst hpr
    exact hi
  · rw [List.length_set]
    exact N.len
  · rw [upd_ne aq]
    exact keep N.out
  · have hm : m < dss.length := (List.getElem?_eq_some_iff.mp hd).1
    by_cases z : m = j
    · subst z
      rw [hq] at e1
      cases e1
      rw [List.getElem?_set_self hm] at e2
      cases e2
      obtain ⟨_, g2, ws', g3, g4⟩ := N.inn m q ds hq hd
      rw [hw] at g3
      cases g3
      exact ⟨f4n (.inr mem), g2, _, upd_same, (RpAll.mono sF _ _ g4).append (thawAll (fun b h => f4o h) lst3 es zs te rz)⟩
    · rw [List.getElem?_set_ne z] at e2
      obtain ⟨g1, g2, ws', g3, g4⟩ := N.inn j r es' e1 e2
      have rq : r ≠ q := fun y => z ((List.getElem?_inj (List.getElem?_eq_some_iff.mp hq).1 N.nd).mp (hq.trans (by rw [e1, y])))
      exact ⟨f4n (.inr (List.mem_of_getElem? e1)), g2, ws', by rw [upd_ne rq]; exact keep g3, RpAll.mono sF _ _ g4⟩
end
end Dl
end L2

/-! The D layer, 38: found = [[e]] + [[] for ..]; for ..: for ..: y = ..; found[j + 1].extend(..). -/
namespace L2
namespace Dl
open PySem PySem.Spec PyProof.Rows L2H

/-- the slots: what is walked, the list of lists, the walked one, the number, the new ones, the block's name -/
abbrev env6 (cd : PyData) (f : Sl) (c : Sl) (j : Sl) (m : Sl) : Ev := [.val cd, f, c, j, m, .un]
abbrev lls (dss : List (List PyData)) : PyData := .list (dss.map .list)
abbrev kn0 (N : Ev → Prop) : Ken := { nx := N, rt := fun _ _ => False, bk := fun _ => False, ct := fun _ => False, ex := NoX }
/-- one walked thing: the numbers from j - 1 down -/
def wIn (w2 : WS) (w3 : WE) (cd c : PyData) (KN : List (List PyData) → Prop) : Nat → List (List PyData) → Prop
  | 0, dss => KN dss
  | j + 1, dss => w2 (env6 cd (.val (lls dss)) (.val c) (.val (.int (j : Nat))) .un) (kn0 fun e2 => ∃ rs, e2 = env6 cd (.val (lls dss)) (.val c) (.val (.int (j : Nat))) (.own false rs) ∧
      w3 e2 (fun e3 r => ∃ es m4, e3 = env6 cd (.val (lls dss)) (.val c) (.val (.int (j : Nat))) m4 ∧ r = .tmp es ∧ tupDs es = true ∧ (dss.getD (j + 1) []).length + es.length ≤ sizeLine ∧ wIn w2 w3 cd c KN j (dss.set (j + 1) (dss.getD (j + 1) [] ++ es))) NoX)
def wOut (w2 : WS) (w3 : WE) (cd : PyData) (n : Nat) (KN : List (List PyData) → Prop) : List PyData → List (List PyData) → Prop
  | [], dss => KN dss
  | c :: cs, dss => tupD c = true ∧ wIn w2 w3 cd c (fun dss' => wOut w2 w3 cd n KN cs dss') n dss
section
variable {X : Cx} {W : WX} {B : Bs} {a : Addr}
/-- found[j + 1].extend(..) behind y = .. -/
theorem pss_longer {x m : Str} {S2 : Stmt} {earg : Expr} {w2 : WS} {w3 : WE} {q1 q2 q3 q4 apos cpos q6 : Pos} {jj : Tok} {mg : Str → Option Value}
    (h2 : ∀ B' : Bs, B'.mg = mg → B'.all.map (·.1) = [1] → DS B' W X S2 w2) (h3 : ∀ B' : Bs, B'.mg = mg → B'.all.map (·.1) = [1] → DE B' W X earg w3)
    (hx : X.N[1]? = some x) (hm : X.N[3]? = some m) (vx : Vis X.env.scope x := by first | exact Or.inl rfl | exact Or.inr (Or.inl rfl) | exact Or.inr (Or.inr rfl)) (vm : Vis X.env.scope m := by first | exact Or.inl rfl | exact Or.inr (Or.inl rfl) | exact Or.inr (Or.inr rfl))
    (dx : (x == ("__debug__" : Str)) = false := by decide) (cx : (x == ("__classdict__" : Str)) = false := by decide) (dm : (m == ("__debug__" : Str)) = false := by decide) (cm : (m == ("__classdict__" : Str)) = false := by decide)
    (hix : PlainIx (.BinOp (.Name m q2) .Add (.Constant (.int 1) jj q3) q4) := by intro _ _; rfl)
    (hbase : attributeBase (.Subscript (.Name x q1) (.BinOp (.Name m q2) .Add (.Constant (.int 1) jj q3) q4) q6) "extend" X.env (eval (.Subscript (.Name x q1) (.BinOp (.Name m q2) .Add (.Constant (.int 1) jj q3) q4) q6) X.env) = eval (.Subscript (.Name x q1) (.BinOp (.Name m q2) .Add (.Constant (.int 1) jj q3) q4) q6) X.env := by rfl)
    (hfew : ((backTo cpos (starEach [earg] X.env)).all (fun x => !x.1) && (backToKw cpos (keywordEach [] X.env)).all (fun x => x.1.isSome)
      && decide ([earg].length + ([] : List Keyword).length + (if ([] : List Keyword).isEmpty then 0 else 1) < 30)) = true := by rfl)
    (hline : (apos.endLine == cpos.line) = true := by rfl) (hs : starEach [earg] X.env = (false, eval earg X.env) :: starEach [] X.env := by rfl) (hplain : (backTo cpos (starEach [] X.env)).any (·.1) = false := by rfl) {epos : Pos}
    (hsw : swapsWith (.Call (.Attribute (.Subscript (.Name x q1) (.BinOp (.Name m q2) .Add (.Constant (.int 1) jj q3) q4) q6) "extend" apos) [earg] [] cpos) none epos.line X.env = pure false := by rfl) :
    PSs X [S2, .Expr (.Call (.Attribute (.Subscript (.Name x q1) (.BinOp (.Name m q2) .Add (.Constant (.int 1) jj q3) q4) q6) "extend" apos) [earg] [] cpos) epos]
      (fun D σ H => ∃ (B : Bs) (a : Addr) (F : Hp) (qs : List Addr) (dss : List (List PyData)) (cd c : PyData) (j : Nat) (KN : List (List PyData) → Prop),
        B.mg = mg ∧ B.lent = [] ∧ B.all = [(1, a)] ∧ Rl X.K B F H (env6 cd .un (.val c) (.val (.int (j : Nat))) .un) σ ∧ tupD cd = true ∧ tupD c = true ∧ Nest X.K B F H a qs dss ∧ σ[1]? = some (some (.ref a)) ∧ j + 1 < dss.length ∧ wIn w2 w3 cd c KN (j + 1) dss ∧
        ∀ σ' F' H' dss', Rl X.K B F' H' (env6 cd .un (.val c) (.val (.int (j : Nat))) .un) σ' → Same F F' → Nest X.K B F' H' a qs dss' → dss'.length = dss.length → σ'[1]? = some (some (.ref a)) → wIn w2 w3 cd c KN j dss' → D.nx σ' H') := by
  have pearg : PE X earg (fun σ H Q => ∃ B' F env Ke, B'.mg = mg ∧ B'.all.map (·.1) = [1] ∧ Rl X.K B' F H env σ ∧ w3 env Ke NoX ∧ ∀ v env' r F' H', Rl X.K B' F' H' env' σ → Fm env σ F H env' F' H' → Res X.K B' F' H' env' σ v r → Ke env' r → Q v H') :=
    ⟨fun pins s σ H Q I ⟨B', F, env, Ke, hB, hL, R, hw, q⟩ => (h3 B' hB hL).pe.run pins s σ H Q I ⟨F, env, Ke, NoX, R, hw, fun _ _ _ _ _ _ _ z => z.elim, fun v env' r F' H' h1 h2 h3 h4 h5 => q v env' r F' H' h1 h2 h3 h5⟩⟩
  have pe := pe_bm (cpos := cpos) (apos := apos) PySem.F.plainAttrs_list PySem.F.slot_list_extend PySem.F.type_list_extend mt_extend (pe_ix (pos := q6) ix_seq (pe_var (pos := q1) hx vx dx cx) (pe_op (pos := q4) op_add (pe_var (pos := q2) hm vm dm cm) (pe_int (i := 1) (j := jj) (pos := q3))) hix) (pa_cons pearg pa_nil hs) hbase hfew hline hs hplain
  have ps := ps_expr (pos := epos) pe hsw
  refine ⟨fun pins s σ H D I ⟨B, a, F, qs, dss, cd, c, j, KN, hmg, hl, hall, R, tcd, tc, N, ha, hj, hw, q⟩ => ?_⟩
  have hp : plainE (env6 cd .un (.val c) (.val (.int (j : Nat))) .un) := fun k s e => by
    match k, e with
    | 0, e => cases e; exact .inr ⟨_, rfl, tcd⟩
    | 1, e => cases e; exact .inl rfl
    | 2, e => cases e; exact .inr ⟨_, rfl, tc⟩
    | 3, e => cases e; exact .inr ⟨_, rfl, rfl⟩
    | 4, e => cases e; exact .inl rfl
    | 5, e => cases e; exact .inl rfl
    | k + 6, e => cases e
  have R1 := N.frozen (i := 1) R hp ha
  refine wpAny_execs_cons (thn ((h2 (still (nestF F H a qs) H 1 a B.mg) hmg rfl).run pins s σ (nestF F H a qs) H _ (kn0 _) I R1 hw (fun _ _ _ _ _ _ _ z => z.elim)) fun f s1 h1 => ?_)
  cases f with
  | brk => obtain ⟨_, _, _, _, _, _, _, z⟩ := h1; exact z.elim
  | cont => obtain ⟨_, _, _, _, _, _, _, z⟩ := h1; exact z.elim
  | ret u => obtain ⟨_, _, _, _, _, _, _, _, _, _, _, z⟩ := h1; exact z.elim
  | next =>
    obtain ⟨σ2, env2, F2, H2, I2, R2, sm2, rs, e2, hw3⟩ := h1
    subst e2
    have a2 := R2.lsl (1, a) (List.mem_singleton.mpr rfl)
    have s3 := R2.sl 3
    obtain ⟨v3, g3, r3⟩ := s3
    cases r3
    have hqj : j + 1 < qs.length := by rw [N.len]; exact hj
    obtain ⟨fq, bq, ws, hws, rws⟩ := N.inn (j + 1) _ _ (List.getElem?_eq_getElem hqj) (List.getElem?_eq_getElem hj)
    have H2a : H2 a = some (.lst (qs.map V.ref)) := R2.frm0 rfl N.out
    have H2q : H2 qs[j + 1] = some (.lst ws) := R2.frm0 rfl hws
    refine (pss_one ps).run pins s1 σ2 H2 D I2 ?_
    refine ⟨.ref a, a2, .int (j : Nat), g3, ((j : Nat) : Int), 1, rfl, rfl, .inl ⟨a, qs.map V.ref, ((j : Nat) : Int) + 1, .ref qs[j + 1], rfl, rfl, SqL.of H2a, ?_, Or.inl ⟨rfl, ws, SqL.of H2q⟩, ?_⟩⟩
    · exact atI_nat (xs := qs.map V.ref) (j := j + 1) (by rw [List.getElem?_map, List.getElem?_eq_getElem hqj]; rfl)
    · refine ⟨still (nestF F H a qs) H 1 a B.mg, F2, (env6 cd (.val (lls dss)) (.val c) (.val (.int (j : Nat))) (.own false rs)), _, hmg, rfl, R2, hw3, fun v env3 r F3 H3 R3 f3 q3 ⟨es, m4, e3, er, te, hz, hin⟩ => ?_⟩
      subst e3 er
      obtain ⟨p, zs, rfl, z1, z2, z3, z4, z5⟩ := q3
      have gd : dss.getD (j + 1) [] = dss[j + 1] := by rw [List.getD_eq_getElem?_getD, List.getElem?_eq_getElem hj]; rfl
      have own4 : ∀ b, ownAt (env6 cd (.val (lls dss)) (.val c) (.val (.int (j : Nat))) (.own false rs)) σ2 b → H b = none := fun b o => by
        rcases o with ⟨k, l, ds, k1, k2⟩ | ⟨k, kv, k1, k2⟩
        · match k, k1 with
          | 4, k1 => cases k1; exact R2.own0 4 rs b rfl k2
          | 0, k1 => cases k1
          | 1, k1 => cases k1
          | 2, k1 => cases k1
          | 3, k1 => cases k1
          | 5, k1 => cases k1
          | k + 6, k1 => cases k1
        · match k, k1 with
          | 0, k1 => cases k1
          | 1, k1 => cases k1
          | 2, k1 => cases k1
          | 3, k1 => cases k1
          | 4, k1 => cases k1
          | 5, k1 => cases k1
          | k + 6, k1 => cases k1
      have H3q : H3 qs[j + 1] = some (.lst ws) := f3.keep _ _ H2q fun o => by rw [own4 _ o] at hws; cases hws
      obtain ⟨F4, R4, s4, N4, a4⟩ := N.longer R hp hl hall R3 rfl (fun k d e => by
        match k, e with
        | 0, e => exact e
        | 1, e => cases e
        | 2, e => exact e
        | 3, e => exact e
        | 4, e => cases e
        | 5, e => cases e
        | k + 6, e => cases e) (List.getElem?_eq_getElem hqj) (List.getElem?_eq_getElem hj) hws z5 te
      refine ⟨qs[j + 1], p, ws, zs, rfl, rfl, H3q, z1, by rw [rws.length, z5.length, ← gd]; exact hz, ?_⟩
      rw [gd] at hin
      exact q σ2 F4 _ _ R4 s4 N4 (by rw [List.length_set]) a4 hin
end
end Dl
end L2

/-! The D layer, 39: the two loops over it. -/
namespace L2
namespace Dl
open PySem PySem.Spec PyProof.Rows L2H

abbrev tSlot (x : Sl) : Prop := x = .un ∨ ∃ d, x = .val d ∧ tupD d = true
abbrev envN (cd : PyData) (x2 x3 : Sl) : Ev := [.val cd, .un, x2, x3, .un, .un]
theorem plainN {cd : PyData} {x2 x3 : Sl} (h : tupD cd = true) (h2 : tSlot x2) (h3 : tSlot x3) : plainE (envN cd x2 x3) := fun k s e => by
  match k, e with
  | 0, e => cases e; exact .inr ⟨_, rfl, h⟩
  | 1, e => cases e; exact .inl rfl
  | 2, e => cases e; exact h2
  | 3, e => cases e; exact h3
  | 4, e => cases e; exact .inl rfl
  | 5, e => cases e; exact .inl rfl
  | k + 6, e => cases e
section
variable {X : Cx} {W : WX}
/-- the first one's walk -/
theorem ps_inner {mg : Str → Option Value} {tg2 : Str} {tp : Pos} {it2 : Expr} {body : List Stmt} {wi2 : WI} {w2 : WS} {w3 : WE} {pos : Pos} (hp : PassesOwn (model X.prog X.w) X.A X.env X.xe) (hc : X.calm = true)
    (hi2 : ∀ B' : Bs, B'.mg = mg → B'.all.map (·.1) = [1] → DI B' W X (.Name tg2 tp) it2 wi2) (hN : X.N.Nodup) (h3 : X.N[3]? = some tg2) (hx : Loc X.env.scope tg2) (hf : X.fn tg2 = true ∨ X.env.scope.names.lookup tg2 = some .local)
    (hs : ∀ x, foldedSetIterable it2 X.env x = pure x)
    (hb : PSs X body (fun D σ H => ∃ (B : Bs) (a : Addr) (F : Hp) (qs : List Addr) (dss : List (List PyData)) (cd c : PyData) (j : Nat) (KN : List (List PyData) → Prop),
        B.mg = mg ∧ B.lent = [] ∧ B.all = [(1, a)] ∧ Rl X.K B F H (env6 cd .un (.val c) (.val (.int (j : Nat))) .un) σ ∧ tupD cd = true ∧ tupD c = true ∧ Nest X.K B F H a qs dss ∧ σ[1]? = some (some (.ref a)) ∧ j + 1 < dss.length ∧ wIn w2 w3 cd c KN (j + 1) dss ∧
        ∀ σ' F' H' dss', Rl X.K B F' H' (env6 cd .un (.val c) (.val (.int (j : Nat))) .un) σ' → Same F F' → Nest X.K B F' H' a qs dss' → dss'.length = dss.length → σ'[1]? = some (some (.ref a)) → wIn w2 w3 cd c KN j dss' → D.nx σ' H')) :
    PS X (.For (.Name tg2 tp) it2 body [] pos) (fun D σ H => ∃ (B : Bs) (a : Addr) (F : Hp) (qs : List Addr) (dss : List (List PyData)) (cd c : PyData) (x3 : Sl) (n : Nat) (KN : List (List PyData) → Prop),
        B.mg = mg ∧ B.lent = [] ∧ B.all = [(1, a)] ∧ Rl X.K B F H (envN cd (.val c) x3) σ ∧ tSlot x3 ∧ tupD cd = true ∧ tupD c = true ∧ Nest X.K B F H a qs dss ∧ σ[1]? = some (some (.ref a)) ∧ dss.length = n + 1 ∧
        wi2 (envN cd (.val c) x3) (fun e its => e = envN cd (.val c) x3 ∧ its = rg3 ((n : Int) - 1) (-1) n) NoX ∧ wIn w2 w3 cd c KN n dss ∧
        ∀ σ' F' H' dss' x3', tSlot x3' → Rl X.K B F' H' (envN cd (.val c) x3') σ' → Same F F' → Nest X.K B F' H' a qs dss' → dss'.length = n + 1 → σ'[1]? = some (some (.ref a)) → KN dss' → D.nx σ' H') := by
  have pi : PI X (.Name tg2 tp) it2 (fun σ H R => ∃ B' F env Ki, B'.mg = mg ∧ B'.all.map (·.1) = [1] ∧ Rl X.K B' F H env σ ∧ wi2 env Ki NoX ∧ ∀ J env' F' H' ds, Rl X.K B' F' H' env' σ → Fm env σ F H env' F' H' → GoodIt X.K B' J F' ds → Ki env' ds → R J H') :=
    ⟨fun pins s σ H R I ⟨B', F, env, Ki, hB, hL, R0, hw, q⟩ => (hi2 B' hB hL).pi.run pins s σ H R I ⟨F, env, Ki, NoX, R0, hw, fun _ _ _ _ _ _ _ z => z.elim, q⟩⟩
  have ps := ps_for (pos := pos) hp hc pi (pg_name (pos := tp) hN h3 hx hf) hb hs
  refine ⟨fun pins s σ H D I ⟨B, a, F, qs, dss, cd, c, x3, n, KN, hmg, hl, hall, R, t3, tcd, tc, N, ha, hn, hw, hin, q⟩ => ps.run pins s σ H D I ?_⟩
  have pl := plainN tcd (.inr ⟨c, rfl, tc⟩) t3
  have hall1 : B.all.map (·.1) = [1] := by rw [hall]; rfl
  refine ⟨B, F, _, _, hmg, hall1, R, hw, fun J env1 F1 H1 its R1 f1 good ⟨e1, e2⟩ => ?_⟩
  subst e1 e2
  have il : (rg3 ((n : Int) - 1) (-1) n).length = n := by unfold rg3; rw [List.length_map, List.length_range]
  refine ⟨fun i m σ' H' => m = n - i ∧ i ≤ n ∧ ∃ F' dss' x3', tSlot x3' ∧ Rl X.K B F' H' (envN cd (.val c) x3') σ' ∧ Same F1 F' ∧ Nest X.K B F' H' a qs dss' ∧ dss'.length = n + 1 ∧ σ'[1]? = some (some (.ref a)) ∧ wIn w2 w3 cd c KN (n - i) dss',
    ⟨n, by omega, by omega, F1, dss, x3, t3, R1, Same.refl _, N.fm pl f1, hn, ha, hin⟩, ?_⟩
  rintro i m σ' H' ⟨rfl, hi, F', dss', x3', t3', R', s', N', hn', ha', hin'⟩
  obtain ⟨g1, g2⟩ := good F' H' _ σ' i R' s'
  by_cases hlt : i < n
  · obtain ⟨h1, h2⟩ := g1 (by rw [il]; exact hlt)
    refine .inr ⟨h1, _, fun σ2 H2 h => ⟨n - (i + 1), by omega, rfl, by omega, h⟩, fun x H2 y => ?_⟩
    obtain ⟨F2, d, R2, f2, e2, rp⟩ := h2 x H2 y
    have ed : d = .int ((n - 1 - i : Nat) : Int) := by
      unfold rg3 at e2
      rw [List.getElem?_map, List.getElem?_range hlt] at e2
      have e3 : PyData.int ((n : Int) - 1 + (i : Int) * -1) = d := Option.some.inj e2
      rw [← e3]
      congr 1
      omega
    subst ed
    have pl' := plainN tcd (.inr ⟨c, rfl, tc⟩) t3'
    have i3 : 3 < σ'.length := by rw [← R'.len]; exact Nat.lt_of_sub_pos (by simp [envN])
    have R3 := R2.putVal (i := 3) i3 (fun p hp => by rw [hall, List.mem_singleton] at hp; subst hp; exact (by omega)) rp
    have ej : n - i = (n - 1 - i) + 1 := by omega
    rw [ej] at hin'
    refine ⟨B, a, F2, qs, dss', cd, c, n - 1 - i, KN, hmg, hl, hall, R3, tcd, tc, N'.fm pl' f2, by rw [List.getElem?_set_ne (by decide)]; exact ha', by omega, hin', fun σ4 F4 H4 dss4 R4 s4 N4 l4 a4 w4 => ⟨F4, dss4, _, .inr ⟨_, rfl, rfl⟩, R4, (s'.trans f2.sub).trans s4, N4, by omega, a4, ?_⟩⟩
    rw [show n - (i + 1) = n - 1 - i by omega]
    exact w4
  · have e0 : n - i = 0 := by omega
    rw [e0] at hin'
    exact .inl ⟨g2 (by rw [il]; omega), q σ' F' H' dss' x3' t3' R' (f1.sub.trans s') N' hn' ha' hin'⟩
/-- the walk of all -/
theorem ps_outer {mg : Str → Option Value} {tg1 : Str} {tp : Pos} {it1 : Expr} {S : Stmt} {wi1 wi2 : WI} {w2 : WS} {w3 : WE} {pos : Pos} (hp : PassesOwn (model X.prog X.w) X.A X.env X.xe) (hc : X.calm = true)
    (hi1 : ∀ B' : Bs, B'.mg = mg → B'.all.map (·.1) = [1] → DI B' W X (.Name tg1 tp) it1 wi1) (hN : X.N.Nodup) (h2 : X.N[2]? = some tg1) (hx : Loc X.env.scope tg1) (hf : X.fn tg1 = true ∨ X.env.scope.names.lookup tg1 = some .local)
    (hs : ∀ x, foldedSetIterable it1 X.env x = pure x)
    (hb : PS X S (fun D σ H => ∃ (B : Bs) (a : Addr) (F : Hp) (qs : List Addr) (dss : List (List PyData)) (cd c : PyData) (x3 : Sl) (n : Nat) (KN : List (List PyData) → Prop),
        B.mg = mg ∧ B.lent = [] ∧ B.all = [(1, a)] ∧ Rl X.K B F H (envN cd (.val c) x3) σ ∧ tSlot x3 ∧ tupD cd = true ∧ tupD c = true ∧ Nest X.K B F H a qs dss ∧ σ[1]? = some (some (.ref a)) ∧ dss.length = n + 1 ∧
        wi2 (envN cd (.val c) x3) (fun e its => e = envN cd (.val c) x3 ∧ its = rg3 ((n : Int) - 1) (-1) n) NoX ∧ wIn w2 w3 cd c KN n dss ∧
        ∀ σ' F' H' dss' x3', tSlot x3' → Rl X.K B F' H' (envN cd (.val c) x3') σ' → Same F F' → Nest X.K B F' H' a qs dss' → dss'.length = n + 1 → σ'[1]? = some (some (.ref a)) → KN dss' → D.nx σ' H')) :
    PS X (.For (.Name tg1 tp) it1 [S] [] pos) (fun D σ H => ∃ (B : Bs) (a : Addr) (F : Hp) (qs : List Addr) (dss : List (List PyData)) (cd : PyData) (cs : List PyData) (n : Nat) (KN : List (List PyData) → Prop),
        B.mg = mg ∧ B.lent = [] ∧ B.all = [(1, a)] ∧ Rl X.K B F H (envN cd .un .un) σ ∧ tupD cd = true ∧ Nest X.K B F H a qs dss ∧ σ[1]? = some (some (.ref a)) ∧ dss.length = n + 1 ∧
        wi1 (envN cd .un .un) (fun e its => e = envN cd .un .un ∧ its = cs) NoX ∧ (∀ c x3, tupD c = true → tSlot x3 → wi2 (envN cd (.val c) x3) (fun e its => e = envN cd (.val c) x3 ∧ its = rg3 ((n : Int) - 1) (-1) n) NoX) ∧
        wOut w2 w3 cd n KN cs dss ∧
        ∀ σ' F' H' dss' x2' x3', tSlot x2' → tSlot x3' → Rl X.K B F' H' (envN cd x2' x3') σ' → Same F F' → Nest X.K B F' H' a qs dss' → σ'[1]? = some (some (.ref a)) → KN dss' → D.nx σ' H') := by
  have pi : PI X (.Name tg1 tp) it1 (fun σ H R => ∃ B' F env Ki, B'.mg = mg ∧ B'.all.map (·.1) = [1] ∧ Rl X.K B' F H env σ ∧ wi1 env Ki NoX ∧ ∀ J env' F' H' ds, Rl X.K B' F' H' env' σ → Fm env σ F H env' F' H' → GoodIt X.K B' J F' ds → Ki env' ds → R J H') :=
    ⟨fun pins s σ H R I ⟨B', F, env, Ki, hB, hL, R0, hw, q⟩ => (hi1 B' hB hL).pi.run pins s σ H R I ⟨F, env, Ki, NoX, R0, hw, fun _ _ _ _ _ _ _ z => z.elim, q⟩⟩
  have ps := ps_for (pos := pos) hp hc pi (pg_name (pos := tp) hN h2 hx hf) (pss_one hb) hs
  refine ⟨fun pins s σ H D I ⟨B, a, F, qs, dss, cd, cs, n, KN, hmg, hl, hall, R, tcd, N, ha, hn, hw, hw2, hin, q⟩ => ps.run pins s σ H D I ?_⟩
  have pl := plainN tcd (.inl (rfl : Sl.un = .un)) (.inl (rfl : Sl.un = .un))
  have hall1 : B.all.map (·.1) = [1] := by rw [hall]; rfl
  refine ⟨B, F, _, _, hmg, hall1, R, hw, fun J env1 F1 H1 its R1 f1 good ⟨e1, e2⟩ => ?_⟩
  subst e1 e2
  refine ⟨fun i m σ' H' => m = its.length - i ∧ i ≤ its.length ∧ ∃ F' dss' x2' x3', tSlot x2' ∧ tSlot x3' ∧ Rl X.K B F' H' (envN cd x2' x3') σ' ∧ Same F1 F' ∧ Nest X.K B F' H' a qs dss' ∧ dss'.length = n + 1 ∧ σ'[1]? = some (some (.ref a)) ∧ wOut w2 w3 cd n KN (its.drop i) dss',
    ⟨its.length, by omega, by omega, F1, dss, _, _, .inl rfl, .inl rfl, R1, Same.refl _, N.fm pl f1, hn, ha, hin⟩, ?_⟩
  rintro i m σ' H' ⟨rfl, hi, F', dss', x2', x3', t2', t3', R', s', N', hn', ha', hin'⟩
  obtain ⟨g1, g2⟩ := good F' H' _ σ' i R' s'
  by_cases hlt : i < its.length
  · obtain ⟨h1, h2⟩ := g1 hlt
    refine .inr ⟨h1, _, fun σ2 H2 h => ⟨its.length - (i + 1), by omega, rfl, by omega, h⟩, fun x H2 y => ?_⟩
    obtain ⟨F2, d, R2, f2, e2, rp⟩ := h2 x H2 y
    have hd : its.drop i = d :: its.drop (i + 1) := by
      rw [List.drop_eq_getElem_cons hlt]
      rw [List.getElem?_eq_getElem hlt] at e2
      cases e2
      rfl
    rw [hd] at hin'
    obtain ⟨td, hin'⟩ := hin'
    have pl' := plainN tcd t2' t3'
    have i2 : 2 < σ'.length := by rw [← R'.len]; exact Nat.lt_of_sub_pos (by simp [envN])
    have R3 := R2.putVal (i := 2) i2 (fun p hp => by rw [hall, List.mem_singleton] at hp; subst hp; exact (by omega)) rp
    exact ⟨B, a, F2, qs, dss', cd, d, x3', n, _, hmg, hl, hall, R3, t3', tcd, td, N'.fm pl' f2, by rw [List.getElem?_set_ne (by decide)]; exact ha', hn', hw2 d x3' td t3', hin', fun σ4 F4 H4 dss4 x4 t4 R4 s4 N4 l4 a4 w4 => ⟨F4, dss4, _, x4, .inr ⟨_, rfl, td⟩, t4, R4, (s'.trans f2.sub).trans s4, N4, l4, a4, w4⟩⟩
  · rw [List.drop_eq_nil_of_le (by omega)] at hin'
    exact .inl ⟨g2 (by omega), q σ' F' H' dss' x2' x3' t2' t3' R' (f1.sub.trans s') N' ha' hin'⟩
end
section
variable {K : PySem.W.Frag} {B B1 : Bs} {F H : Hp} {σ : St} {a : Addr} {qs : List Addr} {dss : List (List PyData)}
/-- at the end it is a list of one's own of lists that stand still -/
theorem Nest.done {cd : PyData} {x2 x3 : Sl} (hB : B1 = { B with fns := [(1, a)] }) (hall : B.all = []) (N : Nest K B1 F H a qs dss) (R : Rl K B1 F H (envN cd x2 x3) σ) (ha : σ[1]? = some (some (.ref a))) :
    ∃ F', Rl K B F' H [.val cd, .own false (dss.map .list), .un, .un, .un, .un] σ ∧ Same F F' := by
  subst hB
  have hl : B.lent = [] := (List.append_eq_nil_iff.mp hall).1
  let F' : Hp := fun b => if b ∈ qs then H b else F b
  have fi : ∀ {b}, b ∈ qs → F' b = H b := fun h => if_pos h
  have fo : ∀ {b}, b ∉ qs → F' b = F b := fun h => if_neg h
  have sF : Same F F' := fun b x e => by
    rw [fo fun z => by rw [(N.at z).1] at e; cases e]
    exact e
  have own1 : ∀ {i : Nat} {l : Bool} {ds : List PyData}, ([.val cd, .own false (dss.map .list), .un, .un, .un, .un] : Ev)[i]? = some (Sl.own l ds) → i = 1 ∧ l = false := fun {i l ds} e => by
    match i, e with
    | 0, e => cases e
    | 1, e => cases e; exact ⟨rfl, rfl⟩
    | 2, e => cases e
    | 3, e => cases e
    | 4, e => cases e
    | 5, e => cases e
    | i + 6, e => cases e
  have nod : ∀ {i : Nat} {kv : List (List Int × PyData)}, ([.val cd, .own false (dss.map .list), .un, .un, .un, .un] : Ev)[i]? = some (Sl.dct kv) → False := fun {i kv} e => by
    match i, e with
    | 0, e => cases e
    | 1, e => cases e
    | 2, e => cases e
    | 3, e => cases e
    | 4, e => cases e
    | 5, e => cases e
    | i + 6, e => cases e
  refine ⟨F', ⟨R.len, fun b x e => ?_, fun i => ?_, fun i j l m ds es b h1 h2 _ _ => (own1 h1).1.trans (own1 h2).1.symm, R.sub0.trans sF, fun b x e => ?_, R.frm, R.dom, fun i ds b h1 h2 => ?_, fun i ds b h1 h2 => ?_, fun p hp => ?_, fun i j kv kw b h1 => (nod h1).elim, fun i kv b h1 => (nod h1).elim⟩, sF⟩
  · by_cases z : b ∈ qs
    · rw [fi z] at e; exact e
    · rw [fo z] at e; exact R.sub b x e
  · match i with
    | 0 =>
      obtain ⟨v, h1, h2⟩ := R.sl 0
      exact ⟨v, h1, Rp.mono sF _ _ h2⟩
    | 1 =>
      refine ⟨a, qs.map V.ref, ha, N.out, by rw [fo N.na]; exact N.fa, ?_⟩
      have gen : ∀ (qs' : List Addr) (dss' : List (List PyData)), qs'.length = dss'.length → (∀ (j : Nat) q ds, qs'[j]? = some q → dss'[j]? = some ds → q ∈ qs ∧ ∃ ws, H q = some (.lst ws) ∧ RpAll K F ws ds) → RpAll K F' (qs'.map V.ref) (dss'.map .list) := by
        intro qs'
        induction qs' with
        | nil =>
          intro dss' hl _
          cases dss' with
          | nil => exact .nil
          | cons _ _ => cases hl
        | cons q qs' ih =>
          intro dss' hl h
          cases dss' with
          | nil => cases hl
          | cons ds dss' =>
            obtain ⟨h1, ws, h2, h3⟩ := h 0 q ds rfl rfl
            exact .cons (.lst (SqL.of (by rw [fi h1]; exact h2)) (RpAll.mono sF _ _ h3)) (ih dss' (by simpa using hl) fun j q ds e1 e2 => h (j + 1) q ds (by simpa using e1) (by simpa using e2))
      refine gen qs dss N.len fun j q ds e1 e2 => ?_
      obtain ⟨_, _, ws, g3, g4⟩ := N.inn j q ds e1 e2
      exact ⟨List.mem_of_getElem? e1, ws, g3, g4⟩
    | 2 => trivial
    | 3 => trivial
    | 4 => trivial
    | 5 => trivial
    | i + 6 => trivial
  · by_cases z : b ∈ qs
    · exact .inr (.inl (N.at z).2.1)
    · rw [fo z] at e; exact R.new b x e
  · obtain ⟨e, _⟩ := own1 h1
    subst e
    rw [ha] at h2
    cases h2
    exact N.ba
  · cases (own1 h1).2
  · rw [hall] at hp
    cases hp
end
end Dl
end L2

/-! The D layer, 40: the list of lists is made; the whole. -/
namespace L2
namespace Dl
open PySem PySem.Spec PyProof.Rows L2H

section
variable {X : Cx} {W : WX}
/-- found = [[e0]] + [[] for ..] -/
theorem ps_make {mg : Str → Option Value} {B : Bs} {x : Str} {xp p1 p2 p3 p4 p5 p6 : Pos} {e0 tg it : Expr} {scope : Scope} {w0 : WE} {wi0 : WI} (hall : B.all = [])
    (h0 : DE B W X e0 w0) (hi0 : DI B W X tg it wi0) (hc : X.calm = true) (hN : X.N.Nodup) (h1 : X.N[1]? = some x) (hx : Loc X.env.scope x) (hf : X.fn x = true ∨ X.env.scope.names.lookup x = some .local)
    {own : List (Str × Nat)} (ok : BlkOk X.N X.env.scope scope own) (ho : own.map (·.2) = [2])
    (hg : ∀ (s : Shared) (H : Hp) (C : Addr) (cl : List (Str × Addr)) (fp : List Addr), PG (X.blk s H scope (compEnvC scope cl C X.env) fp) tg (gName 2))
    (hs1 : starEach [e0] X.env = (false, eval e0 X.env) :: starEach [] X.env) (hs2 : starEach [.List [e0] p1] X.env = (false, eval (.List [e0] p1) X.env) :: starEach [] X.env)
    (hsw : swapsWith (.BinOp (.List [.List [e0] p1] p2) .Add (.ListComp (.List [] p3) [⟨tg, it, [], 0⟩] scope p4) p5) (some (.Name x xp)) p6.line X.env = pure false) (hfo : ∀ x, foldedSetIterable it X.env x = pure x) :
    PS X (.Assign [.Name x xp] (.BinOp (.List [.List [e0] p1] p2) .Add (.ListComp (.List [] p3) [⟨tg, it, [], 0⟩] scope p4) p5) p6) (fun D σ H => ∃ (F : Hp) (cd d0 : PyData) (its : List PyData),
      Rl X.K B F H (envN cd .un .un) σ ∧ tupD cd = true ∧ its.length ≤ 100 ∧ w0 (envN cd .un .un) (fun e r => e = envN cd .un .un ∧ r = .val d0) NoX ∧ wi0 (envN cd .un .un) (fun e i => e = envN cd .un .un ∧ i = its) NoX ∧
      ∀ σ' F' H' a qs, Rl X.K { B with fns := [(1, a)] } F' H' (envN cd .un .un) σ' → Same F F' → Nest X.K { B with fns := [(1, a)] } F' H' a qs ([d0] :: List.replicate its.length []) → σ'[1]? = some (some (.ref a)) → D.nx σ' H') := by
  have pe := pe_op (pos := p5) op_cat (pe_lst (pos := p2) (pa_cons (pe_lst (pos := p1) (pa_cons h0.pe pa_nil hs1)) pa_nil hs2)) (pe_lc (pos := p4) hc hN hi0.pi ok hg (fun _ _ _ _ _ => pts_nil) (fun _ _ _ _ _ => pe_lst (pos := p3) pa_nil) hfo)
  have ps := ps_set (pos := p6) (pos' := xp) hN h1 hx pe hsw hf
  refine ⟨fun pins s σ H D I ⟨F, cd, d0, its, R, tcd, hz, hw0, hwi, q⟩ => ps.run pins s σ H D I ?_⟩
  have hl : B.lent = [] := (List.append_eq_nil_iff.mp hall).1
  have pl := plainN tcd (.inl (rfl : Sl.un = .un)) (.inl (rfl : Sl.un = .un))
  have nx : XC X.K B W NoX := fun _ _ _ _ _ _ _ z => z.elim
  have no : ∀ {σ : St} {b : Addr}, ¬ ownAt (envN cd .un .un) σ b := fun o => pl.no o
  rw [ho]
  refine ⟨F, _, _, NoX, R, hw0, nx, fun v env1 r F1 H1 R1 f1 q1 _ ⟨ee, er⟩ => ?_⟩
  subst ee er
  have q1 : Rp X.K F1 v d0 := q1
  refine ⟨(by show 1 ≤ sizeLine; decide), fun q0 hq0 => ?_⟩
  show (([V.ref q0] : List V).length ≤ sizeLine ∧ _)
  refine ⟨(by show 1 ≤ sizeLine; decide), fun l hl0 => ?_⟩
  -- the heap with the first list and the list of it
  generalize eHb : upd H1 q0 (.lst [v]) = Hb at hl0 ⊢
  have hb1 : ∀ b x, H1 b = some x → Hb b = some x := fun b x e => by rw [← eHb, upd_ne (ne_of_none e hq0)]; exact e
  have hbq : Hb q0 = some (.lst [v]) := by rw [← eHb, upd_same]
  generalize eHc : upd Hb l (.lst [V.ref q0]) = Hc
  have hc1 : ∀ b x, Hb b = some x → Hc b = some x := fun b x e => by rw [← eHc, upd_ne (ne_of_none e hl0)]; exact e
  have hcl : Hc l = some (.lst [V.ref q0]) := by rw [← eHc, upd_same]
  obtain ⟨Rc, _⟩ := R1.later fun b x e => hc1 b x (hb1 b x e)
  refine ⟨F1, _, _, NoX, Rc, hwi, nx, fun J env2 F2 H2 its2 R2 f2 good ⟨ee, ei⟩ => ?_⟩
  subst ee ei
  have k2 : ∀ b x, Hc b = some x → H2 b = some x := fun b x e => f2.keep b x e no
  intro Dd hD
  refine ⟨fun i m H' => m = its2.length - i ∧ i ≤ its2.length ∧ ∃ qs : List Addr, qs.length = i ∧ (∀ b x, H2 b = some x → H' b = some x) ∧ H' Dd = some (.lst (qs.map V.ref)) ∧ (∀ q ∈ qs, H2 q = none ∧ q ≠ Dd ∧ H' q = some (.lst [])) ∧ qs.Nodup,
    ⟨its2.length, by omega, by omega, [], rfl, fun b x e => by rw [upd_ne (ne_of_none e hD)]; exact e, by rw [upd_same]; rfl, fun _ h => (by cases h), List.nodup_nil⟩, ?_⟩
  rintro i m H' ⟨rfl, hi, qs, hq, k', hDd, hin, nd⟩
  obtain ⟨R', _⟩ := R2.later k'
  obtain ⟨g1, g2⟩ := good F2 H' _ σ i R' (Same.refl _)
  by_cases hlt : i < its2.length
  · obtain ⟨go, yl⟩ := g1 hlt
    refine .inr ⟨go, fun H'' => ∃ qs : List Addr, qs.length = i + 1 ∧ (∀ b x, H2 b = some x → H'' b = some x) ∧ H'' Dd = some (.lst (qs.map V.ref)) ∧ (∀ q ∈ qs, H2 q = none ∧ q ≠ Dd ∧ H'' q = some (.lst [])) ∧ qs.Nodup, fun H'' h => ⟨its2.length - (i + 1), by omega, rfl, by omega, h⟩, fun y H3 hy => ?_⟩
    obtain ⟨F3, d, R3, f3, _, _⟩ := yl y H3 hy
    have k3 : ∀ b x, H' b = some x → H3 b = some x := fun b x e => f3.keep b x e no
    refine ⟨?_, ?_⟩
    · show (((wipe σ [2]).set 2 (some y)).set 2 none) = (wipe σ []).set 2 none
      rw [List.set_set]
      show ((σ.set 2 none).set 2 none) = σ.set 2 none
      rw [List.set_set]
    refine ⟨Nat.zero_le _, fun p hp => ⟨qs.map V.ref, ?_, ?_, qs ++ [p], by rw [List.length_append, hq]; rfl, fun b x e => ?_, ?_, fun q hqm => ?_, ?_⟩⟩
    · rw [upd_ne (ne_of_none (k3 _ _ hDd) hp)]
      exact k3 _ _ hDd
    · rw [List.length_map, hq, sizeLine_eq]
      omega
    · have e3 := k3 b x (k' b x e)
      rw [upd_ne (fun z => by rw [z, hD] at e; cases e), upd_ne (ne_of_none e3 hp)]
      exact e3
    · rw [upd_same, List.map_append]
      rfl
    · rcases List.mem_append.mp hqm with z | z
      · obtain ⟨z1, z2, z3⟩ := hin q z
        refine ⟨z1, z2, ?_⟩
        have e3 := k3 _ _ z3
        rw [upd_ne z2, upd_ne (ne_of_none e3 hp)]
        exact e3
      · rw [List.mem_singleton] at z
        subst z
        have np : q ≠ Dd := fun z => by rw [z, k3 _ _ hDd] at hp; cases hp
        refine ⟨?_, np, by rw [upd_ne np, upd_same]⟩
        cases w : H2 q with
        | none => rfl
        | some x => rw [k3 _ _ (k' _ _ w)] at hp; cases hp
    · refine List.nodup_append.mpr ⟨nd, List.nodup_cons.mpr ⟨by simp, List.nodup_nil⟩, fun b hb c hc e => ?_⟩
      rw [List.mem_singleton] at hc
      subst hc e
      rw [k3 _ _ (hin b hb).2.2] at hp
      cases hp
  · have ei : i = its2.length := by omega
    subst ei
    refine .inl ⟨g2 (Nat.le_refl _), l, Dd, [V.ref q0], qs.map V.ref, rfl, rfl, k' _ _ (k2 _ _ hcl), hDd, by rw [List.length_map, hq, sizeLine_eq]; simp; omega, fun a ha => ?_⟩
    have hq2 : H2 q0 = some (.lst [v]) := k2 _ _ (hc1 _ _ hbq)
    have fq0 : F2 q0 = none := by
      cases z : F2 q0 with
      | none => rfl
      | some y =>
        rcases f2.new q0 y z with w | w | w
        · have := R1.sub q0 y w
          rw [hq0] at this
          cases this
        · exact (w.lst (hc1 _ _ hbq)).elim
        · exact (no w).elim
    have bq0 : B.H0 q0 = none := R1.free0 hq0
    have hq' : H' q0 = some (.lst [v]) := k' _ _ hq2
    have nq : q0 ∉ qs := fun z => by rw [(hin q0 z).1] at hq2; cases hq2
    have keep : ∀ {b x}, H' b = some x → upd H' a (.lst ([V.ref q0] ++ qs.map V.ref)) b = some x := fun {b x} e => by
      rw [upd_ne (ne_of_none e ha)]; exact e
    have h2a : H2 a = none := by
      cases z : H2 a with
      | none => rfl
      | some y => rw [k' _ _ z] at ha; cases ha
    have fa : F2 a = none := R2.sub.free h2a
    have i1 : 1 < σ.length := by rw [← R2.len]; exact Nat.lt_of_sub_pos (by simp [envN])
    have na : a ≠ q0 := fun z => by rw [z, hq'] at ha; cases ha
    have nas : a ∉ qs := fun z => by rw [(hin a z).2.2] at ha; cases ha
    refine q (σ.set 1 (some (.ref a))) F2 _ a (q0 :: qs) (rl_plain hl (by rw [List.length_set]; exact R2.len) pl (fun b x e => keep (k' _ _ (R2.sub b x e))) (fun j => ?_) R2.sub0 R2.new (fun b x e => keep (k' _ _ (R2.frm0 hl e))) (fun p hp => ?_)) (f1.sub.trans f2.sub) ⟨?_, ?_, fa, R2.free0 h2a, ?_, List.nodup_cons.mpr ⟨nq, nd⟩, fun j r ds e1 e2 => ?_⟩ (List.getElem?_set_self i1)
    · match j with
      | 0 =>
        rw [List.getElem?_set_ne (by decide)]
        exact R2.sl 0
      | 1 => trivial
      | 2 => trivial
      | 3 => trivial
      | 4 => trivial
      | 5 => trivial
      | j + 6 => trivial
    · have hp' : p ∈ B.lent ++ [(1, a)] := hp
      rw [hl, List.nil_append, List.mem_singleton] at hp'
      subst hp'
      exact List.getElem?_set_self i1
    · rw [List.length_cons, List.length_cons, List.length_replicate, hq]
    · rw [upd_same]
      rfl
    · intro z
      rcases List.mem_cons.mp z with z | z
      · exact na z
      · exact nas z
    · cases j with
      | zero =>
        cases e1
        cases e2
        exact ⟨fq0, bq0, [v], keep hq', .cons (Rp.mono f2.sub _ _ q1) .nil⟩
      | succ j =>
        have e1 : qs[j]? = some r := e1
        have e2 : (List.replicate its2.length ([] : List PyData))[j]? = some ds := e2
        have hr := hin r (List.mem_of_getElem? e1)
        have ed : ds = [] := by
          rw [List.getElem?_replicate] at e2
          split at e2
          · exact (Option.some.inj e2).symm
          · cases e2
        subst ed
        exact ⟨R2.sub.free hr.1, R2.free0 hr.1, [], keep hr.2.2, .nil⟩
def wNest (w0 : WE) (wi0 wi1 wi2 : WI) (w2 : WS) (w3 : WE) (u : WS) : WS := fun env k => ∃ (cd d0 : PyData) (its : List PyData), env = envN cd .un .un ∧ tupD cd = true ∧ its.length ≤ 100 ∧
  w0 (envN cd .un .un) (fun e r => e = envN cd .un .un ∧ r = .val d0) NoX ∧ wi0 (envN cd .un .un) (fun e i => e = envN cd .un .un ∧ i = its) NoX ∧ wi1 (envN cd .un .un) (fun e i => e = envN cd .un .un ∧ i = its) NoX ∧
  (∀ c x3, tupD c = true → tSlot x3 → wi2 (envN cd (.val c) x3) (fun e i => e = envN cd (.val c) x3 ∧ i = rg3 ((its.length : Int) - 1) (-1) its.length) NoX) ∧
  wOut w2 w3 cd its.length (fun dss => u [.val cd, .own false (dss.map .list), .un, .un, .un, .un] k) its ([d0] :: List.replicate its.length [])
/-- THE RULE -/
theorem dss_nest {B : Bs} {x m y0 tg1 tg2 : Str} {xp yp t1p t2p p1 p2 p3 p4 p5 p6 p7 p8 q1 q2 q3 q4 q6 apos cpos epos : Pos} {jj : Tok} {e0 it0 it1 it2 earg : Expr} {S2 : Stmt} {rest : List Stmt} {scope : Scope} {w0 w3 : WE} {wi0 wi1 wi2 : WI} {w2 u : WS}
    (hL : B.all.map (·.1) = []) (hB : B.mg = X.mg) (hp : PassesOwn (model X.prog X.w) X.A X.env X.xe) (hN : X.N.Nodup)
    (h0 : DE B W X e0 w0) (hi0 : DI B W X (.Name y0 yp) it0 wi0) {own : List (Str × Nat)} (ok : BlkOk X.N X.env.scope scope own) (ho : own.map (·.2) = [2])
    (hg : ∀ (s : Shared) (H : Hp) (C : Addr) (cl : List (Str × Addr)) (fp : List Addr), PG (X.blk s H scope (compEnvC scope cl C X.env) fp) (.Name y0 yp) (gName 2))
    (hi1 : ∀ B' : Bs, B'.mg = X.mg → B'.all.map (·.1) = [1] → DI B' W X (.Name tg1 t1p) it1 wi1) (hi2 : ∀ B' : Bs, B'.mg = X.mg → B'.all.map (·.1) = [1] → DI B' W X (.Name tg2 t2p) it2 wi2)
    (h2 : ∀ B' : Bs, B'.mg = X.mg → B'.all.map (·.1) = [1] → DS B' W X S2 w2) (h3 : ∀ B' : Bs, B'.mg = X.mg → B'.all.map (·.1) = [1] → DE B' W X earg w3) (hrest : DSs B W X rest u)
    (n1 : X.N[1]? = some x := by rfl) (n2 : X.N[2]? = some tg1 := by rfl) (n3 : X.N[3]? = some tg2 := by rfl) (n3' : X.N[3]? = some m := by rfl) (hc : X.calm = true := by rfl)
    (lx : Loc X.env.scope x := by first | exact Or.inl rfl | exact Or.inr rfl) (l1 : Loc X.env.scope tg1 := by first | exact Or.inl rfl | exact Or.inr rfl) (l2 : Loc X.env.scope tg2 := by first | exact Or.inl rfl | exact Or.inr rfl)
    (fx : X.fn x = true ∨ X.env.scope.names.lookup x = some .local := by first | exact .inl rfl | exact .inr rfl) (f1 : X.fn tg1 = true ∨ X.env.scope.names.lookup tg1 = some .local := by first | exact .inl rfl | exact .inr rfl) (f2 : X.fn tg2 = true ∨ X.env.scope.names.lookup tg2 = some .local := by first | exact .inl rfl | exact .inr rfl)
    (hs1 : starEach [e0] X.env = (false, eval e0 X.env) :: starEach [] X.env := by rfl) (hs2 : starEach [.List [e0] p1] X.env = (false, eval (.List [e0] p1) X.env) :: starEach [] X.env := by rfl)
    (hsw : swapsWith (.BinOp (.List [.List [e0] p1] p2) .Add (.ListComp (.List [] p3) [⟨.Name y0 yp, it0, [], 0⟩] scope p4) p5) (some (.Name x xp)) p6.line X.env = pure false := by rfl) (hfo0 : ∀ x, foldedSetIterable it0 X.env x = pure x := by intro _; rfl)
    (hfo1 : ∀ x, foldedSetIterable it1 X.env x = pure x := by intro _; rfl) (hfo2 : ∀ x, foldedSetIterable it2 X.env x = pure x := by intro _; rfl)
    (vx : Vis X.env.scope x := by first | exact Or.inl rfl | exact Or.inr (Or.inl rfl) | exact Or.inr (Or.inr rfl)) (vm : Vis X.env.scope m := by first | exact Or.inl rfl | exact Or.inr (Or.inl rfl) | exact Or.inr (Or.inr rfl))
    (dx : (x == ("__debug__" : Str)) = false := by decide) (cx : (x == ("__classdict__" : Str)) = false := by decide) (dm : (m == ("__debug__" : Str)) = false := by decide) (cm : (m == ("__classdict__" : Str)) = false := by decide)
    (hix : PlainIx (.BinOp (.Name m q2) .Add (.Constant (.int 1) jj q3) q4) := by intro _ _; rfl)
    (hbase : attributeBase (.Subscript (.Name x q1) (.BinOp (.Name m q2) .Add (.Constant (.int 1) jj q3) q4) q6) "extend" X.env (eval (.Subscript (.Name x q1) (.BinOp (.Name m q2) .Add (.Constant (.int 1) jj q3) q4) q6) X.env) = eval (.Subscript (.Name x q1) (.BinOp (.Name m q2) .Add (.Constant (.int 1) jj q3) q4) q6) X.env := by rfl)
    (hfew : ((backTo cpos (starEach [earg] X.env)).all (fun x => !x.1) && (backToKw cpos (keywordEach [] X.env)).all (fun x => x.1.isSome)
      && decide ([earg].length + ([] : List Keyword).length + (if ([] : List Keyword).isEmpty then 0 else 1) < 30)) = true := by rfl)
    (hline : (apos.endLine == cpos.line) = true := by rfl) (hs : starEach [earg] X.env = (false, eval earg X.env) :: starEach [] X.env := by rfl) (hplain : (backTo cpos (starEach [] X.env)).any (·.1) = false := by rfl)
    (hse : swapsWith (.Call (.Attribute (.Subscript (.Name x q1) (.BinOp (.Name m q2) .Add (.Constant (.int 1) jj q3) q4) q6) "extend" apos) [earg] [] cpos) none epos.line X.env = pure false := by rfl) :
    DSs B W X (.Assign [.Name x xp] (.BinOp (.List [.List [e0] p1] p2) .Add (.ListComp (.List [] p3) [⟨.Name y0 yp, it0, [], 0⟩] scope p4) p5) p6 ::
      .For (.Name tg1 t1p) it1 [.For (.Name tg2 t2p) it2 [S2, .Expr (.Call (.Attribute (.Subscript (.Name x q1) (.BinOp (.Name m q2) .Add (.Constant (.int 1) jj q3) q4) q6) "extend" apos) [earg] [] cpos) epos] [] p7] [] p8 :: rest) (wNest w0 wi0 wi1 wi2 w2 w3 u) := by
  have hall : B.all = [] := List.map_eq_nil_iff.mp hL
  have hl : B.lent = [] := (List.append_eq_nil_iff.mp hall).1
  have a1 := ps_make (mg := X.mg) (xp := xp) (p1 := p1) (p2 := p2) (p3 := p3) (p4 := p4) (p5 := p5) (p6 := p6) hall h0 hi0 hc hN n1 lx fx ok ho hg hs1 hs2 hsw hfo0
  have a2 := pss_longer (q1 := q1) (q2 := q2) (q3 := q3) (q4 := q4) (q6 := q6) (apos := apos) (cpos := cpos) (epos := epos) (jj := jj) h2 h3 n1 n3' vx vm dx cx dm cm hix hbase hfew hline hs hplain hse
  have a3 := ps_outer (pos := p8) hp hc hi1 hN n2 l1 f1 hfo1 (ps_inner (pos := p7) hp hc hi2 hN n3 l2 f2 hfo2 a2)
  have a4 := pss_cons a1 (pss_cons a3 hrest.pss)
  refine ⟨fun pins s σ F H env k I R ⟨cd, d0, its, ee, tcd, hz, hw0, hwi, hw1, hw2, hout⟩ hx => ?_⟩
  subst ee
  refine thn (a4.run pins s σ H (endsD X.K B F k) I ⟨F, cd, d0, its, R, tcd, hz, hw0, hwi, fun σ1 F1 H1 a qs R1 s1 N1 h1 => ?_⟩) fun f s1 q => SP.spd q
  refine ⟨{ B with fns := [(1, a)] }, a, F1, qs, _, cd, its, its.length, _, hB, hl, by show B.lent ++ [(1, a)] = _; rw [hl]; rfl, R1, tcd, N1, h1, by rw [List.length_cons, List.length_replicate], hw1, hw2, hout, fun σ2 F2 H2 dss x2 x3 t2 t3 R2 s2 N2 h2 hk => ?_⟩
  obtain ⟨F3, R3, s3⟩ := Nest.done rfl hall N2 R2 h2
  have sm := (s1.trans s2).trans s3
  exact ⟨F3, _, k, R3, hk, hx, fun σ' env' F' H' R' s' k' => ⟨env', F', R', sm.trans s', k'⟩, fun v σ' env' r F' H' R' res k' => ⟨σ', env', r, F', R', res, k'⟩, fun σ' env' F' H' R' s' k' => ⟨env', F', R', sm.trans s', k'⟩, fun σ' env' F' H' R' s' k' => ⟨env', F', R', sm.trans s', k'⟩⟩
end
end Dl
end L2

/-! The D layer, 41: x.get(k, e), list(x.items()), x a dict of one's own. -/
namespace L2
namespace Dl
open PySem PySem.Spec PyProof.Rows

section
variable {B : Bs} {W : WX} {X : Cx} {x : Str} {e f : Expr} {we wf : WE} {p apos cpos pos : Pos}
end

/-! ### list(x.items()) -/
section
variable {K : PySem.W.Frag} {B : Bs} {env : Ev} {σ : St}
end
section
variable {X : Cx} {e : Expr} {te : TE} {p apos cpos pos : Pos}
end
section
variable {B : Bs} {W : WX} {X : Cx} {x : Str} {p0 p apos cpos pos : Pos}
end
end Dl
end L2

/-! The D layer, 42: [e for k in x], x a dict of one's own; x[k] in it. -/
namespace L2
namespace Dl
open PySem PySem.Spec PyProof.Rows

/-- o stands at a, which the slot i holds, as long as B is the ground -/
def pinD (B : Bs) (i : Nat) (a : Addr) (o : HO) : Bs := { B with H0 := upd B.H0 a o, fns := (i, a) :: B.fns }
section
variable {K : PySem.W.Frag} {B : Bs} {F F' H H' : Hp} {env env' : Ev} {σ : St} {i : Nat} {a : Addr} {kvs : List (List Int × PyData)}
theorem set_un_own {j : Nat} {s : Sl} {x : Sl} (h : (env.set i s)[j]? = some x) (hs : s ≠ x) : j ≠ i ∧ env[j]? = some x := by
  by_cases hj : i = j
  · subst hj
    by_cases hi : i < env.length
    · rw [List.getElem?_set_self hi] at h
      exact absurd (Option.some.inj h) hs
    · rw [List.getElem?_eq_none (by rw [List.length_set]; omega)] at h
      cases h
  · rw [List.getElem?_set_ne hj] at h
    exact ⟨fun z => hj z.symm, h⟩
theorem Rl.pin (R : Rl K B F H env σ) (hB : B.all = []) (e : env[i]? = some (Sl.dct kvs)) (ea : σ[i]? = some (some (.ref a))) {od : Obj} :
    Rl K (pinD B i a (.frz od (.dT (kvO kvs)))) F (upd H a (.frz od (.dT (kvO kvs)))) (env.set i .un) σ := by
  obtain ⟨a', e1, e2, e3⟩ := R.dctSl e
  rw [ea] at e1
  cases e1
  have h0 := R.d0 i kvs a e ea
  have hl : B.lent = [] := (List.append_eq_nil_iff.mp hB).1
  have hf : B.fns = [] := (List.append_eq_nil_iff.mp hB).2
  refine ⟨by rw [List.length_set]; exact R.len, fun b x q => ?_, fun j => ?_, fun j k m n es fs b h5 h6 h7 h8 => R.dist j k m n es fs b (set_un_own h5 (by simp)).2 (set_un_own h6 (by simp)).2 h7 h8, R.sub0, fun b x q => ?_, fun b x q n => ?_, fun b q => ?_, fun j es b h5 h6 => ?_, fun j es b h5 h6 => ?_, fun p hp => ?_, fun j k kv kw b h5 h6 h7 h8 => R.dd j k kv kw b (set_un_own h5 (by simp)).2 (set_un_own h6 (by simp)).2 h7 h8, fun j kv b h5 h6 => ?_⟩
  · rw [upd_ne]
    · exact R.sub b x q
    · rintro rfl
      rw [e3] at q
      cases q
  · by_cases hj : i = j
    · subst hj
      rw [List.getElem?_set_self (List.getElem?_eq_some_iff.mp e).1]
      trivial
    · rw [List.getElem?_set_ne hj]
      have s := R.sl j
      cases q : env[j]? with
      | none => trivial
      | some z =>
        rw [q] at s
        cases z with
        | un => trivial
        | val d => exact s
        | own m es =>
          obtain ⟨c, ws, g1, g2, g3, g4⟩ := s
          refine ⟨c, ws, g1, ?_, g3, g4⟩
          rw [upd_ne]
          · exact g2
          · rintro rfl
            rw [e2] at g2
            cases g2
        | dct kw =>
          obtain ⟨c, g1, g2, g3⟩ := s
          refine ⟨c, g1, ?_, g3⟩
          rw [upd_ne]
          · exact g2
          · rintro rfl
            exact hj (R.dd i j kvs kw c e q ea g1)
  · by_cases hb : b = a
    · subst hb
      rw [e3] at q
      cases q
    · rcases R.new b x q with z | z | z
      · exact .inl z
      · exact .inr (.inl (by show upd B.H0 a _ b = none; rw [upd_ne hb]; exact z))
      · exact .inr (.inr z)
  · have q : upd B.H0 a (.frz od (.dT (kvO kvs))) b = some x := q
    by_cases hb : b = a
    · subst hb
      rw [upd_same] at q ⊢
      exact q
    · rw [upd_ne hb] at q ⊢
      exact R.frm b x q (by rw [hl]; intro p hp; cases hp)
  · have q : upd B.H0 a (.frz od (.dT (kvO kvs))) b ≠ none := q
    by_cases hb : b = a
    · subst hb
      rw [upd_same]
      simp
    · rw [upd_ne hb] at q ⊢
      exact R.dom b q
  · obtain ⟨hj, h9⟩ := set_un_own h5 (by simp)
    show upd B.H0 a _ b = none
    rw [upd_ne]
    · exact R.own0 j es b h9 h6
    · rintro rfl
      have s := R.sl j
      rw [h9] at s
      obtain ⟨c, ws, g1, g2, g3, g4⟩ := s
      rw [h6] at g1
      cases g1
      rw [e2] at g2
      cases g2
  · exact R.own1 j es b (set_un_own h5 (by simp)).2 h6
  · have hp : p ∈ B.lent ++ (i, a) :: B.fns := hp
    rw [hl, hf, List.nil_append, List.mem_singleton] at hp
    subst hp
    exact ea
  · obtain ⟨hj, h9⟩ := set_un_own h5 (by simp)
    show upd B.H0 a _ b = none
    rw [upd_ne]
    · exact R.d0 j kv b h9 h6
    · rintro rfl
      exact hj (R.dd j i kv kvs b h9 e h6 ea)
theorem Rl.pinned (R : Rl K B F H env σ) (hB : B.all = []) (e : env[i]? = some (Sl.dct kvs)) (ea : σ[i]? = some (some (.ref a))) {od : Obj}
    (R' : Rl K (pinD B i a (.frz od (.dT (kvO kvs)))) F' H' env' σ) (f : Fm (env.set i .un) σ F (upd H a (.frz od (.dT (kvO kvs)))) env' F' H') :
    H' a = some (.frz od (.dT (kvO kvs))) ∧ Rl K B F' (upd H' a (.dT (kvO kvs))) (env'.set i (.dct kvs)) σ ∧ Fm env σ F H (env'.set i (.dct kvs)) F' (upd H' a (.dT (kvO kvs))) := by
  obtain ⟨a', e1, e2, e3⟩ := R.dctSl e
  rw [ea] at e1
  cases e1
  have h0 := R.d0 i kvs a e ea
  have hl : B.lent = [] := (List.append_eq_nil_iff.mp hB).1
  have nl : ∀ b, ∀ p ∈ (pinD B i a (.frz od (.dT (kvO kvs)))).lent, p.2 ≠ b := fun b p hp => by
    have hp : p ∈ B.lent := hp
    rw [hl] at hp
    cases hp
  have ha : H' a = some (.frz od (.dT (kvO kvs))) := R'.frm a _ (by show upd B.H0 a _ a = _; rw [upd_same]) (nl a)
  have fa : F' a = none := by
    cases q : F' a with
    | none => rfl
    | some x =>
      have := R'.sub a x q
      rw [ha] at this
      cases this
      rcases R'.new a _ q with z | z | ⟨ys, z⟩
      · rw [R.sub0 a _ z] at e3
        cases e3
      · have z : upd B.H0 a _ a = none := z
        rw [upd_same] at z
        cases z
      · cases z
  have il : i < env'.length := by rw [R'.len, ← R.len]; exact (List.getElem?_eq_some_iff.mp e).1
  have H0n : ∀ b, (pinD B i a (.frz od (.dT (kvO kvs)))).H0 b = none → B.H0 b = none := fun b q => by
    have q : upd B.H0 a _ b = none := q
    by_cases hb : b = a
    · subst hb; exact h0
    · rwa [upd_ne hb] at q
  have own_a : ownAt env σ a := .inr ⟨i, kvs, e, ea⟩
  have ownU : ∀ {b}, ownAt (env.set i .un) σ b → ownAt env σ b := fun {b} q => by
    rcases q with ⟨j, l, ds, h1, h2⟩ | ⟨j, kv, h1, h2⟩
    · exact .inl ⟨j, l, ds, (set_un_own h1 (by simp)).2, h2⟩
    · exact .inr ⟨j, kv, (set_un_own h1 (by simp)).2, h2⟩
  have dctN : ∀ {j : Nat} {kv : List (List Int × PyData)}, env'[j]? = some (Sl.dct kv) → σ[j]? = some (some (.ref a)) → False := fun {j kv} h1 h2 => by
    have s := R'.sl j
    rw [h1] at s
    obtain ⟨c, g1, g2, g3⟩ := s
    rw [h2] at g1
    cases g1
    rw [ha] at g2
    cases g2
  refine ⟨ha, ⟨by rw [List.length_set]; exact R'.len, fun b x q => ?_, fun j => ?_, fun j k m n es fs b h5 h6 h7 h8 => R'.dist j k m n es fs b (set_un_own h5 (by simp)).2 (set_un_own h6 (by simp)).2 h7 h8, R'.sub0, fun b x q => ?_, fun b x q n => ?_, fun b q => ?_, fun j es b h5 h6 => H0n b (R'.own0 j es b (set_un_own h5 (by simp)).2 h6), fun j es b h5 h6 => R'.own1 j es b (set_un_own h5 (by simp)).2 h6, fun p hp => ?_, fun j k kv kw b h5 h6 h7 h8 => ?_, fun j kv b h5 h6 => ?_⟩, ⟨fun b x q n => ?_, f.sub, fun b x q => ?_, fun j l ds q => ?_, fun b q => ?_, fun j kv q => ?_⟩⟩
  · rw [upd_ne]
    · exact R'.sub b x q
    · rintro rfl
      rw [fa] at q
      cases q
  · by_cases hj : i = j
    · subst hj
      rw [List.getElem?_set_self il]
      exact ⟨a, ea, upd_same, fa⟩
    · rw [List.getElem?_set_ne hj]
      have s := R'.sl j
      cases q : env'[j]? with
      | none => trivial
      | some z =>
        rw [q] at s
        cases z with
        | un => trivial
        | val d => exact s
        | own m es =>
          obtain ⟨c, ws, g1, g2, g3, g4⟩ := s
          refine ⟨c, ws, g1, ?_, g3, g4⟩
          rw [upd_ne]
          · exact g2
          · rintro rfl
            rw [ha] at g2
            cases g2
        | dct kw =>
          obtain ⟨c, g1, g2, g3⟩ := s
          refine ⟨c, g1, ?_, g3⟩
          rw [upd_ne]
          · exact g2
          · rintro rfl
            rw [ha] at g2
            cases g2
  · rcases R'.new b x q with z | z | z
    · exact .inl z
    · exact .inr (.inl (H0n b z))
    · exact .inr (.inr z)
  · have hb : b ≠ a := fun z => by rw [z, h0] at q; cases q
    rw [upd_ne hb]
    exact R'.frm b x (by show upd B.H0 a _ b = _; rw [upd_ne hb]; exact q) (nl b)
  · by_cases hb : b = a
    · subst hb
      rw [upd_same]
      simp
    · rw [upd_ne hb]
      exact R'.dom b (by show upd B.H0 a _ b ≠ none; rw [upd_ne hb]; exact q)
  · rw [hB] at hp
    cases hp
  · by_cases hj : j = i
    · by_cases hk : k = i
      · rw [hj, hk]
      · subst hj
        rw [ea] at h7
        cases h7
        rw [List.getElem?_set_ne (fun z => hk z.symm)] at h6
        exact (dctN h6 h8).elim
    · by_cases hk : k = i
      · subst hk
        rw [ea] at h8
        cases h8
        rw [List.getElem?_set_ne (fun z => hj z.symm)] at h5
        exact (dctN h5 h7).elim
      · rw [List.getElem?_set_ne (fun z => hj z.symm)] at h5
        rw [List.getElem?_set_ne (fun z => hk z.symm)] at h6
        exact R'.dd j k kv kw b h5 h6 h7 h8
  · by_cases hj : j = i
    · subst hj
      exact R.d0 j kvs b e h6
    · rw [List.getElem?_set_ne (fun z => hj z.symm)] at h5
      exact H0n b (R'.d0 j kv b h5 h6)
  · have hb : b ≠ a := fun z => n (by rw [z]; exact own_a)
    rw [upd_ne hb]
    exact f.keep b x (by rw [upd_ne hb]; exact q) fun z => n (ownU z)
  · rcases f.new b x q with z | z | z
    · exact .inl z
    · have hb : b ≠ a := fun z2 => by
        subst z2
        rw [fa] at q
        cases q
      rcases z with z | ⟨z, ys⟩
      · rw [upd_ne hb] at z
        exact .inr (.inl (.inl z))
      · rw [upd_ne hb] at z
        exact .inr (.inl (.inr ⟨z, ys⟩))
    · exact .inr (.inr (ownU z))
  · obtain ⟨hj, h9⟩ := set_un_own q (by simp)
    obtain ⟨ds0, h8⟩ := f.own j l ds h9
    exact ⟨ds0, (set_un_own h8 (by simp)).2⟩
  · by_cases hb : b = a
    · subst hb
      rw [upd_same]
      simp
    · rw [upd_ne hb]
      exact f.dom b (by rw [upd_ne hb]; exact q)
  · by_cases hj : j = i
    · subst hj
      exact ⟨kvs, e⟩
    · rw [List.getElem?_set_ne (fun z => hj z.symm)] at q
      obtain ⟨kw, h8⟩ := f.od j kv q
      exact ⟨kw, (set_un_own h8 (by simp)).2⟩
end
section
variable {B : Bs} {W : WX} {X : Cx} {tg elt ek : Expr} {x : Str} {p pos spos : Pos} {a : Addr} {od : Obj} {kvs : List (List Int × PyData)} {wk : WE}
end
end Dl
end L2

/-! The D layer, 43: range(i, j), i and j of any size. -/
namespace L2
namespace Dl
open PySem PySem.Spec PyProof.Rows
theorem turnL {P : Program} {w : World} {K : PySem.W.Frag} {tg : Expr} (it : Addr) (lo : Int) (n : Nat) : Turn P w K tg (Itr lo n) [it] it (fun i h => IsLongIter h it (lo + (i : Nat) * 1) ((n : Int) - (i : Nat)) 1) where
  mem := by simp
  obj := fun i h st b hb => by
    obtain rfl : b = it := by simpa using hb
    exact ⟨_, st, fun v z => by cases (show Data.fields _ = Data.cell v from z)⟩
  keep := fun i h h' st k => k it (by simp) _ st
  item := by
    intro X hP hw hK hc i pins s σ H E I hf st hg
    subst hP hw hK
    obtain ⟨k0, k1, k2, k3, k4, k5⟩ := hf it (by simp)
    refine (Walks.longrange (prog := X.prog) (w := X.w) (I.ok.hd hc) it lo 1 n).item i s _ _ hg st fun v h' tk hv st' kk => ?_
    obtain ⟨t, rfl⟩ := hv
    have J : Inv X pins σ H { s with heap := h', toks := tk } := I.turned (fun b o hb e => kk b o (by simpa using hb) e) k0 k1 k3 k4 k5
    refine ⟨_, rfl, go_of (s := { s with heap := h', toks := tk }) (n := "longrange_iterator") st' rfl rfl (by decide) ⟨.int (lo + i), H, J, ⟨t, by rw [Int.mul_one]⟩, ⟨rfl, rfl⟩, st', fun b hb => (hf b hb).1⟩⟩
  done := by
    intro X hP hw hK hc i pins s σ H E I hf st hg
    subst hP hw hK
    obtain ⟨k0, k1, k2, k3, k4, k5⟩ := hf it (by simp)
    have hni : n ≤ i := hg
    exact wpAny_pyNext_long_end (I.ok.hd hc) st (by omega) fun h' eb => ⟨rfl, I.turned (t' := s.toks) (fun b o hb e => eb b o hb e) k0 k1 k3 k4 k5⟩
  self := fun _ _ _ _ _ st h => wpAny_pyIter_longiter st h
section
variable {X : Cx} {tg : Expr}
/-- a range of any bounds, walked -/
theorem itL {pins : List (Addr × Obj)} {σ : St} {H : Hp} {s : Shared} {R : It → Hp → Prop} {E : Value → Shared → Prop} {lo hi : Int} {t u v : Tok} {tk : Nat} (I : Inv X pins σ H s) (q : R (Itr lo (hi - lo).toNat) H) :
    wpAny (model X.prog X.w) X.A (pyIter (.ref s.heap.objs.size)) (PIE X pins σ tg R) E { s with heap := s.heap.push { cls := .type "range", data := .fields #[.int lo t, .int hi u, .int 1 v] }, toks := tk } := by
  have J : Inv X pins σ H { s with heap := s.heap.push { cls := .type "range", data := .fields #[.int lo t, .int hi u, .int 1 v] }, toks := tk } := I.kept fun b o e => Heap.get?_push_of_some _ e
  have z1 : lo + ((0 : Nat) : Int) * 1 = lo := by simp
  have z2 : (((hi - lo).toNat : Nat) : Int) - ((0 : Nat) : Int) = Builtin.Range.rangeSize lo hi 1 := by rw [rangeSize_one]; split <;> omega
  cases c : Builtin.Range.small lo hi 1 with
  | true =>
    refine wpAny_pyIter_range (IsRange.new ..) c ?_
    refine pi_one (tk := tk) J _ (turn_range _ lo (hi - lo).toNat) ?_ q
    show IsRangeIter _ _ (lo + ((0 : Nat) : Int) * 1) ((((hi - lo).toNat : Nat) : Int) - ((0 : Nat) : Int)) 1
    rw [z1, z2]
    exact Heap.get?_push_size _ rfl
  | false =>
    refine wpAny_pyIter_longrange (IsRange.new ..) c ?_
    refine pi_one (tk := tk) J _ (turnL _ lo (hi - lo).toNat) ?_ q
    show IsLongIter _ _ (lo + ((0 : Nat) : Int) * 1) ((((hi - lo).toNat : Nat) : Int) - ((0 : Nat) : Int)) 1
    rw [z1, z2]
    exact Heap.get?_push_size _ rfl
def iRngL (ta : TA) : TI := fun σ H R => ta σ H fun vs H1 => ∃ i j : Int, vs = [.int i, .int j] ∧ R (Itr i (j - i).toNat) H1
theorem pi_rngL {a b : Expr} {ta : TA} {p pos : Pos} (hg : Gl X "range") (hm : X.mg "range" = none) (ha : PA X [a, b] ta) (hs : starEach [a, b] X.env = [(false, eval a X.env), (false, eval b X.env)] := by rfl) (hs2 : starEach [b] X.env = [(false, eval b X.env)] := by rfl) :
    PI X tg (.Call (.Name "range" p) [a, b] [] pos) (iRngL ta) := by
  refine ⟨fun pins s σ H R I h => ?_⟩
  refine Call_ (ld_blt I hg hm boot_range (PyProof.Rows.callWith_type1 (thn (ha.run pos pins s σ H _ I h) fun us s1 ⟨vs, H1, J, r1, i, j, e, q⟩ => ?_) (by rw [hs, hs2]) (by rw [hs2]; rfl)))
  subst e
  cases r1 with
  | cons ra rr =>
    cases rr with
    | cons rb rr =>
      cases rr
      obtain ⟨t, rfl⟩ := ra
      obtain ⟨t', rfl⟩ := rb
      exact call_range_2 (itL J q)
end
def wIRngL (wa wb : WE) : WI := fun env Ki Kx => wa env (fun e1 r1 => wb e1 (fun e2 r2 => ∃ i j, r1 = .val (.int i) ∧ r2 = .val (.int j) ∧ Ki e2 ((List.range (j - i).toNat).map fun (m : Nat) => PyData.int (i + m))) Kx) Kx
section
variable {B : Bs} {W : WX} {X : Cx} {tg a b : Expr} {wa wb : WE} {pos p : Pos}
theorem di_rngL (ha : DE B W X a wa) (hb : DE B W X b wb) (hg : Gl X "range") (hm : X.mg "range" = none) (hs : starEach [a, b] X.env = [(false, eval a X.env), (false, eval b X.env)] := by rfl) (hs2 : starEach [b] X.env = [(false, eval b X.env)] := by rfl) (hs1 : starEach [a, b] X.env = (false, eval a X.env) :: starEach [b] X.env := by rfl) (hs3 : starEach [b] X.env = (false, eval b X.env) :: starEach [] X.env := by rfl) :
    DI B W X tg (.Call (.Name "range" p) [a, b] [] pos) (wIRngL wa wb) := by
  refine ⟨⟨fun pins s σ H R I ⟨F, env, Ki, Kx, R0, hw, hx, q⟩ => ?_⟩⟩
  refine (pi_rngL (p := p) (pos := pos) hg hm (pa_cons ha.pe (pa_cons hb.pe pa_nil hs3) hs1) hs hs2).run pins s σ H R I ⟨F, env, _, Kx, R0, hw, hx, fun v env1 r F1 H1 R1 f1 q1 n1 k1 => ⟨F1, env1, _, Kx, R1, k1, hx, fun v2 env2 r2 F2 H2 R2 f2 q2 n2 ⟨i, j, e1, e2, k⟩ => ?_⟩⟩
  subst e1 e2
  cases (show Rp X.K F1 v (.int i) from q1)
  cases (show Rp X.K F2 v2 (.int j) from q2)
  exact ⟨i, j, rfl, q _ env2 F2 H2 _ R2 (f1.trans f2) good_rng k⟩
end
end Dl
end L2

/-! The D layer, 44: f(e, ..), a new list lent. -/
namespace L2
namespace Dl
open PySem PySem.Spec PyProof.Rows
section
variable {K : PySem.W.Frag} {B : Bs} {F H F1 H1 F' H' : Hp} {env env1 : Ev} {σ : St} {p : Addr} {ws : List V} {outs : List (List PyData)}
end
section
variable {B : Bs} {W : WX} {X : Cx} {k n : Nat} {x : Str} {S : Spc} {e : Expr} {es : List Expr} {w : WE} {wm : WM} {p pos : Pos}
end
end Dl
end L2

/-! The D layer, 45: x = {}; for k in ..: x[e] = True; len(x), the keys being tuples of tuples. -/
namespace L2
namespace Dl
open PySem PySem.Spec PyProof.Rows

/-! ### the dict at a -/
def NOk (P : Program) (w : World) (a : Addr) (xs : List (NestedKey × Addr × Value)) (h : Heap) : Prop :=
  (a == sysModules) = false ∧ ∃ o es ep, h.get? a = some o ∧ o.ExactDict ∧ o.data = .dict es ep ∧ es.toList = xs.map (entryOfKey (nestedKind P w))
/-- the keys stand still, each once, all values True -/
structure KeysN (K : PySem.W.Frag) (F : Hp) (xs : List (NestedKey × Addr × Value)) : Prop where
  rp : ∀ x ∈ xs, Rp K F (.ref x.2.1) x.1.data ∧ x.1.depth ≤ 8 ∧ x.2.2 = .bool true
  nd : (xs.map (·.1)).Nodup
theorem KeysN.mono {K : PySem.W.Frag} {F F' : Hp} {xs : List (NestedKey × Addr × Value)} (h : KeysN K F xs) (s : Same F F') : KeysN K F' xs := ⟨fun x hx => ⟨Rp.mono s _ _ (h.rp x hx).1, (h.rp x hx).2⟩, h.nd⟩
section
variable {K : PySem.W.Frag} {F H : Hp} {h : Heap} {P : Program} {w : World}
mutual
theorem nkIs (ok : HOk P w H h) (s : Same F H) : ∀ (κ : NestedKey) (v : V) (u : Value), Rp K F v κ.data → RelV v u → NestedIs h κ u
  | .none, _, u, r, e => by
    simp only [NestedKey.data] at r
    cases r
    obtain rfl : u = Value.none := e
    exact .none
  | .num i, _, _, r, e => by
    simp only [NestedKey.data] at r
    cases r
    obtain ⟨t, rfl⟩ := e
    exact .int i t
  | .text x, _, _, r, e => by
    simp only [NestedKey.data] at r
    cases r
    obtain ⟨t, rfl⟩ := e
    exact .text x t
  | .tup ks, _, u, r, e => by
    simp only [NestedKey.data] at r
    cases r with
    | @tup a xs _ t1 t2 =>
      obtain rfl : u = Value.ref a := e
      obtain ⟨_, its, rv, o, g1, g2, n, g3⟩ := ok a _ (s _ _ t1)
      exact .tup g1 g2 g3 (by rw [List.toList_toArray]; exact nkAll ok s ks xs its t2 rv)
theorem nkAll (ok : HOk P w H h) (s : Same F H) : ∀ (ks : List NestedKey) (vs : List V) (us : List Value), RpAll K F vs (NestedKey.datas ks) → Vals vs us → NestedAll h ks us
  | [], _, _, r, e => by
    simp only [NestedKey.datas] at r
    cases r
    cases e
    exact .nil
  | k :: ks, _, _, r, e => by
    simp only [NestedKey.datas] at r
    cases r with
    | cons r1 r2 =>
      cases e with
      | cons e1 e2 => exact .cons (nkIs ok s k _ _ r1 e1) (nkAll ok s ks _ _ r2 e2)
end
theorem KeysN.dict (ok : HOk P w H h) (s : Same F H) {a : Addr} {xs : List (NestedKey × Addr × Value)} (k : KeysN K F xs) (x : NOk P w a xs h) : h.DictOfH (nestedKind P w) a xs := by
  obtain ⟨_, o, es, ep, e1, e2, e3, e4⟩ := x
  exact ⟨o, es, ep, e1, e2, e3, e4, fun y hy => ⟨nkIs ok s _ _ _ (k.rp y hy).1 rfl, (k.rp y hy).2.1⟩, k.nd⟩
end
/-- the keys, one more -/
def stN (xs : List (NestedKey × Addr × Value)) (κ : NestedKey) (b : Addr) : List (NestedKey × Addr × Value) := if κ ∈ xs.map (·.1) then xs else xs ++ [(κ, b, .bool true)]
def insN (ks : List NestedKey) (κ : NestedKey) : List NestedKey := if κ ∈ ks then ks else ks ++ [κ]
theorem stN_keys (xs : List (NestedKey × Addr × Value)) (κ : NestedKey) (b : Addr) : (stN xs κ b).map (·.1) = insN (xs.map (·.1)) κ := by
  unfold stN insN
  split
  · rfl
  · rw [List.map_append]
    rfl
theorem KeysN.st {K : PySem.W.Frag} {F : Hp} {xs : List (NestedKey × Addr × Value)} (h : KeysN K F xs) {κ : NestedKey} {b : Addr} (r : Rp K F (.ref b) κ.data) (d : κ.depth ≤ 8) : KeysN K F (stN xs κ b) := by
  refine ⟨fun x hx => ?_, ?_⟩
  · unfold stN at hx
    split at hx
    · exact h.rp x hx
    · rcases List.mem_append.mp hx with hx | hx
      · exact h.rp x hx
      · rw [List.mem_singleton] at hx
        subst hx
        exact ⟨r, d, rfl⟩
  · rw [stN_keys]
    unfold insN
    split
    · exact h.nd
    · rename_i c
      exact List.nodup_append.mpr ⟨h.nd, List.nodup_cons.mpr ⟨by simp, List.nodup_nil⟩, fun x hx y hy e => by
        rw [List.mem_singleton] at hy
        subst hy e
        exact c hx⟩
section
variable {X : Cx}
end

/-! ### the ground, the dict lent or pinned -/
section
variable {K : PySem.W.Frag} {B : Bs} {F H : Hp} {env : Ev} {σ : St} {i : Nat} {a : Addr}
end
section
variable {B : Bs} {W : WX} {X : Cx} {x : Str} {ek : Expr} {wk : WE} {xp dp q1 q2 q3 q4 p1 p2 tp : Pos} {jj : Tok} {i ti : Nat}
end
section
variable {X : Cx}
end
section
variable {B : Bs} {W : WX} {X : Cx} {x : Str} {p p2 pos : Pos}
end
end Dl
end L2

/-! The D layer, 46: the rule for x = {}; for k in ..: x[e] = True; and the rest. -/
namespace L2
namespace Dl
open PySem PySem.Spec PyProof.Rows
section
variable {K : PySem.W.Frag} {B : Bs} {F H F' H' : Hp} {env env' : Ev} {σ : St} {a : Addr} {φ : Heap → Prop}
end
section
variable {B : Bs} {W : WX} {X : Cx} {x tg : Str} {ek it : Expr} {wk : WE} {wi : WI} {u : Nat → WS} {xp dp q1 q2 q3 q4 p1 p2 tp : Pos} {jj : Tok} {i ti : Nat} {rest : List Stmt} {body : Stmt}
end
end Dl
end L2

/-! The plain half, 0: w terms are evaluated from the outside, slot by slot. -/
namespace L2
namespace Dl
open PySem PySem.Spec PyProof.Rows
def getS : Ev → Nat → (Sl → Prop) → Prop
  | s :: _, 0, K => K s
  | _ :: e, n + 1, K => getS e n K
  | [], _, _ => False
theorem getS_0 (s : Sl) (e : Ev) (K : Sl → Prop) : getS (s :: e) 0 K = K s := rfl
theorem getS_s (s : Sl) (e : Ev) (n : Nat) (K : Sl → Prop) : getS (s :: e) (n + 1) K = getS e n K := rfl
theorem getS_ex : ∀ (e : Ev) (i : Nat) (K : Sl → Prop), getS e i K = ∃ s, e[i]? = some s ∧ K s
  | [], i, K => by simp [getS]
  | s :: e, 0, K => by simp [getS]
  | s :: e, n + 1, K => by rw [getS_s, getS_ex e n K]; simp
theorem getS_at {e : Ev} {i : Nat} {s : Sl} (h : e[i]? = some s) (K : Sl → Prop) : getS e i K = K s := by
  rw [getS_ex, h]; simp
def setS : Ev → Nat → Sl → (Ev → Prop) → Prop
  | _ :: e, 0, x, K => K (x :: e)
  | s :: e, n + 1, x, K => setS e n x fun e' => K (s :: e')
  | [], _, _, K => K []
theorem setS_0 (s x : Sl) (e : Ev) (K : Ev → Prop) : setS (s :: e) 0 x K = K (x :: e) := rfl
theorem setS_s (s x : Sl) (e : Ev) (n : Nat) (K : Ev → Prop) : setS (s :: e) (n + 1) x K = setS e n x fun e' => K (s :: e') := rfl
theorem setS_eq : ∀ (e : Ev) (i : Nat) (x : Sl) (K : Ev → Prop), setS e i x K = K (e.set i x)
  | [], _, _, _ => rfl
  | _ :: _, 0, _, _ => rfl
  | s :: e, n + 1, x, K => by rw [setS_s, setS_eq e n x]; rfl
/-! names, results -/
def varK (i : Nat) (env : Ev) (Ke : KE) : Sl → Prop
  | .val d => Ke env (.val d)
  | .own _ _ => Ke env (.slot i)
  | _ => False
theorem varK_v (i : Nat) (env : Ev) (Ke : KE) (d : PyData) : varK i env Ke (.val d) = Ke env (.val d) := rfl
theorem varK_o (i : Nat) (env : Ev) (Ke : KE) (l : Bool) (ds : List PyData) : varK i env Ke (.own l ds) = Ke env (.slot i) := rfl
theorem varK_u (i : Nat) (env : Ev) (Ke : KE) : varK i env Ke .un = False := rfl
theorem e_var (i : Nat) (env : Ev) (Ke : KE) (Kx : KXc) : wVar i env Ke Kx = getS env i (varK i env Ke) := by
  rw [getS_ex]
  unfold wVar
  cases h : env[i]? with
  | none => simp
  | some s => cases s <;> simp [varK]
def rdS (k : PyData → Prop) : Sl → Prop
  | .val d => k d
  | .own _ ds => k (.list ds)
  | _ => False
theorem rdS_v (k : PyData → Prop) (d : PyData) : rdS k (.val d) = k d := rfl
theorem rdS_o (k : PyData → Prop) (l : Bool) (ds : List PyData) : rdS k (.own l ds) = k (.list ds) := rfl
theorem rdS_u (k : PyData → Prop) : rdS k .un = False := rfl
theorem rdK_v (env : Ev) (d : PyData) (k : PyData → Prop) : rdK env (.val d) k = k d := by simp [rdK, rd]
theorem rdK_t (env : Ev) (ds : List PyData) (k : PyData → Prop) : rdK env (.tmp ds) k = k (.list ds) := by simp [rdK, rd]
theorem rdK_s (env : Ev) (i : Nat) (k : PyData → Prop) : rdK env (.slot i) k = getS env i (rdS k) := by
  rw [getS_ex]
  unfold rdK rd
  cases h : env[i]? with
  | none => simp [h]
  | some s => cases s <;> simp [rdS, h]
def fzS (i : Nat) (env : Ev) (Kd : Ev → PyData → Prop) : Sl → Prop
  | .val d => Kd env d
  | .own false ds => setS env i (.val (.list ds)) fun e => Kd e (.list ds)
  | _ => False
theorem fzS_v (i : Nat) (env : Ev) (Kd : Ev → PyData → Prop) (d : PyData) : fzS i env Kd (.val d) = Kd env d := rfl
theorem fzS_o (i : Nat) (env : Ev) (Kd : Ev → PyData → Prop) (ds : List PyData) : fzS i env Kd (.own false ds) = setS env i (.val (.list ds)) fun e => Kd e (.list ds) := rfl
theorem fzS_l (i : Nat) (env : Ev) (Kd : Ev → PyData → Prop) (ds : List PyData) : fzS i env Kd (.own true ds) = False := rfl
theorem fzS_u (i : Nat) (env : Ev) (Kd : Ev → PyData → Prop) : fzS i env Kd .un = False := rfl
def fzK (env : Ev) (r : Rs) (Kd : Ev → PyData → Prop) : Prop := ∃ p, fz env r = some p ∧ Kd p.1 p.2
theorem fzK_v (env : Ev) (d : PyData) (Kd : Ev → PyData → Prop) : fzK env (.val d) Kd = Kd env d := by simp [fzK, fz]
theorem fzK_t (env : Ev) (ds : List PyData) (Kd : Ev → PyData → Prop) : fzK env (.tmp ds) Kd = Kd env (.list ds) := by simp [fzK, fz]
theorem fzK_s (env : Ev) (i : Nat) (Kd : Ev → PyData → Prop) : fzK env (.slot i) Kd = getS env i (fzS i env Kd) := by
  rw [getS_ex]
  unfold fzK fz
  cases h : env[i]? with
  | none => simp [h]
  | some s =>
    cases s with
    | un => simp [fzS, h]
    | val d => simp [fzS, h]
    | own l ds => cases l <;> simp [fzS, setS_eq, h]
    | dct kv => simp [fzS, h]
theorem e_fz (w : WE) (env : Ev) (Kd : Ev → PyData → Prop) (Kx : KXc) : wFz w env Kd Kx = w env (fun e r => fzK e r Kd) Kx := rfl
theorem asg_v (i : Nat) (env : Ev) (d : PyData) (K : Ev → Prop) : asg i env (.val d) K = setS env i (.val d) K := (setS_eq _ _ _ _).symm
theorem asg_t (i : Nat) (env : Ev) (ds : List PyData) (K : Ev → Prop) : asg i env (.tmp ds) K = setS env i (.own false ds) K := (setS_eq _ _ _ _).symm
theorem asg_s (i j : Nat) (env : Ev) (K : Ev → Prop) : asg i env (.slot j) K = fzK env (.slot j) fun e d => setS e i (.val d) K := by
  unfold asg fzK
  simp only [setS_eq]
def tbK (r : Rs) (K : Bool → Prop) : Prop := ∃ b, r = .val (.bool b) ∧ K b
theorem tbK_b (b : Bool) (K : Bool → Prop) : tbK (.val (.bool b)) K = K b := by simp [tbK]
theorem e_tb (w : WE) (env : Ev) (Kt : KT) (Kx : KXc) : wTB w env Kt Kx = w env (fun e r => tbK r (Kt e)) Kx := rfl
theorem e_notV (w : WE) (env : Ev) (Ke : KE) (Kx : KXc) : wNotV w env Ke Kx = w env (fun e r => tbK r fun c => Ke e (.val (.bool (!c)))) Kx := rfl
theorem e_andV (wa wb : WE) (env : Ev) (Ke : KE) (Kx : KXc) : wAndV wa wb env Ke Kx = wa env (fun e r => tbK r fun c => if c = true then wb e Ke Kx else Ke e (.val (.bool false))) Kx := rfl
theorem e_orV (wa wb : WE) (env : Ev) (Ke : KE) (Kx : KXc) : wOrV wa wb env Ke Kx = wa env (fun e r => tbK r fun c => if c = true then Ke e (.val (.bool true)) else wb e Ke Kx) Kx := rfl
def intK (r : Rs) (K : Int → Prop) : Prop := ∃ i, r = .val (.int i) ∧ K i
theorem intK_i (i : Int) (K : Int → Prop) : intK (.val (.int i)) K = K i := by simp [intK]
theorem e_neg (w : WE) (env : Ev) (Ke : KE) (Kx : KXc) : wNeg w env Ke Kx = w env (fun e r => intK r fun i => Ke e (.val (.int (-i)))) Kx := rfl
theorem e_oso (w : WE) (env : Ev) (Ko : Ev → Option Int → Prop) (Kx : KXc) : wOSo w env Ko Kx = w env (fun e r => intK r fun i => Ko e (some i)) Kx := rfl
theorem e_rng1 (w : WE) (env : Ev) (Ki : Ev → List PyData → Prop) (Kx : KXc) : wIRng1 w env Ki Kx = w env (fun e r => intK r fun j => -(2 ^ 62) ≤ j ∧ j < 2 ^ 62 ∧ Ki e ((List.range j.toNat).map fun (i : Nat) => PyData.int (i : Int))) Kx := rfl
theorem e_rng2 (wa wb : WE) (env : Ev) (Ki : Ev → List PyData → Prop) (Kx : KXc) : wIRng2 wa wb env Ki Kx = wa env (fun e1 r1 => wb e1 (fun e2 r2 => intK r1 fun i => intK r2 fun j => (-(2 ^ 62) ≤ i ∧ i < 2 ^ 62 ∧ -(2 ^ 62) ≤ j ∧ j < 2 ^ 62) ∧ Ki e2 ((List.range (j - i).toNat).map fun (m : Nat) => PyData.int (i + m))) Kx) Kx := by
  have : (fun (e2 : Ev) (r1 r2 : Rs) => intK r1 fun i => intK r2 fun j => (-(2 ^ 62) ≤ i ∧ i < 2 ^ 62 ∧ -(2 ^ 62) ≤ j ∧ j < 2 ^ 62) ∧ Ki e2 ((List.range (j - i).toNat).map fun (m : Nat) => PyData.int (i + m))) =
      fun e2 r1 r2 => ∃ i j, r1 = .val (.int i) ∧ r2 = .val (.int j) ∧ (-(2 ^ 62) ≤ i ∧ i < 2 ^ 62 ∧ -(2 ^ 62) ≤ j ∧ j < 2 ^ 62) ∧ Ki e2 ((List.range (j - i).toNat).map fun (m : Nat) => PyData.int (i + m)) := by
    funext e2 r1 r2
    unfold intK
    apply propext
    constructor
    · rintro ⟨i, h1, j, h2, h3⟩; exact ⟨i, j, h1, h2, h3⟩
    · rintro ⟨i, j, h1, h2, h3⟩; exact ⟨i, h1, j, h2, h3⟩
  unfold wIRng2
  congr 1
  funext e1 r1
  congr 1
  funext e2 r2
  exact (congrFun (congrFun (congrFun this e2) r1) r2).symm
/-! calls -/
def rdAllK (env : Ev) : List Rs → (List PyData → Prop) → Prop
  | [], K => K []
  | r :: rs, K => rdK env r fun d => rdAllK env rs fun ds => K (d :: ds)
theorem rdAllK_n (env : Ev) (K : List PyData → Prop) : rdAllK env [] K = K [] := rfl
theorem rdAllK_c (env : Ev) (r : Rs) (rs : List Rs) (K : List PyData → Prop) : rdAllK env (r :: rs) K = rdK env r fun d => rdAllK env rs fun ds => K (d :: ds) := rfl
theorem rdAllK_ex (env : Ev) : ∀ (rs : List Rs) (K : List PyData → Prop), rdAllK env rs K = ∃ ds, rdAll env rs = some ds ∧ K ds
  | [], K => by simp [rdAllK, rdAll]
  | r :: rs, K => by
    rw [rdAllK_c]
    unfold rdK rdAll
    cases h1 : rd env r with
    | none => simp
    | some d =>
      cases h2 : rdAll env rs with
      | none => simp [rdAllK_ex env rs, h2]
      | some ds => simp [rdAllK_ex env rs, h2]
theorem e_callB (o : OpN) (wa : WA) (env : Ev) (Ke : KE) (Kx : KXc) : wCallB o wa env Ke Kx = wa env (fun e rs => rdAllK e rs fun ds => o ds (Ke e)) Kx := by
  simp only [rdAllK_ex]
  rfl
def lnS (K : List PyData → Prop) : Sl → Prop
  | .own _ ds => K ds
  | _ => False
theorem lnS_o (K : List PyData → Prop) (l : Bool) (ds : List PyData) : lnS K (.own l ds) = K ds := rfl
theorem lnS_v (K : List PyData → Prop) (d : PyData) : lnS K (.val d) = False := rfl
theorem lnS_u (K : List PyData → Prop) : lnS K .un = False := rfl
def avsK (env : Ev) : List Ar → (List AV → Prop) → Prop
  | [], K => K []
  | .fz d :: as, K => avsK env as fun a => K (.val d :: a)
  | .ln i :: as, K => getS env i (lnS fun ds => avsK env as fun a => K (.own ds :: a))
theorem avsK_n (env : Ev) (K : List AV → Prop) : avsK env [] K = K [] := rfl
theorem avsK_f (env : Ev) (d : PyData) (as : List Ar) (K : List AV → Prop) : avsK env (.fz d :: as) K = avsK env as fun a => K (.val d :: a) := rfl
theorem avsK_l (env : Ev) (i : Nat) (as : List Ar) (K : List AV → Prop) : avsK env (.ln i :: as) K = getS env i (lnS fun ds => avsK env as fun a => K (.own ds :: a)) := rfl
theorem avsK_ex (env : Ev) : ∀ (as : List Ar) (K : List AV → Prop), avsK env as K = ∃ a, avsOf env as = some a ∧ K a
  | [], K => by simp [avsK, avsOf]
  | .fz d :: as, K => by
    rw [avsK_f, avsK_ex env as, show avsOf env (.fz d :: as) = (avsOf env as).map (.val d :: ·) from rfl]
    simp only [Option.map_eq_some_iff]
    apply propext
    constructor
    · rintro ⟨a, h1, h2⟩; exact ⟨_, ⟨a, h1, rfl⟩, h2⟩
    · rintro ⟨_, ⟨a, h1, rfl⟩, h2⟩; exact ⟨a, h1, h2⟩
  | .ln i :: as, K => by
    rw [avsK_l, getS_ex]
    unfold avsOf
    cases h : env[i]? with
    | none => simp
    | some s =>
      cases s with
      | un => simp [lnS]
      | dct kv => simp [lnS]
      | val d => simp [lnS]
      | own l ds =>
        simp only [Option.some.injEq, exists_eq_left', lnS_o, avsK_ex env as, Option.map_eq_some_iff]
        apply propext
        constructor
        · rintro ⟨a, h1, h2⟩; exact ⟨_, ⟨a, h1, rfl⟩, h2⟩
        · rintro ⟨_, ⟨a, h1, rfl⟩, h2⟩; exact ⟨a, h1, h2⟩
def poS (i : Nat) (env : Ev) (ds : List PyData) (K : Ev → Prop) : Sl → Prop
  | .own l _ => setS env i (.own l ds) K
  | _ => K env
theorem poS_o (i : Nat) (env : Ev) (ds es : List PyData) (l : Bool) (K : Ev → Prop) : poS i env ds K (.own l es) = setS env i (.own l ds) K := rfl
def poK (env : Ev) : List Nat → List (List PyData) → (Ev → Prop) → Prop
  | i :: is, ds :: outs, K => match env[i]? with
    | some s => poS i env ds (fun e => poK e is outs K) s
    | none => poK env is outs K
  | _, _, K => K env
theorem poK_n (env : Ev) (outs : List (List PyData)) (K : Ev → Prop) : poK env [] outs K = K env := rfl
theorem poK_eq : ∀ (is : List Nat) (outs : List (List PyData)) (env : Ev) (K : Ev → Prop), poK env is outs K = K (putOuts env is outs)
  | [], _, _, _ => rfl
  | _ :: _, [], _, _ => rfl
  | i :: is, ds :: outs, env, K => by
    unfold poK putOuts
    cases h : env[i]? with
    | none => exact poK_eq is outs env K
    | some s =>
      cases s with
      | un => exact poK_eq is outs env K
      | dct kv => exact poK_eq is outs env K
      | val d => exact poK_eq is outs env K
      | own l es =>
        show setS env i (.own l ds) (fun e => poK e is outs K) = _
        rw [setS_eq, poK_eq is outs]
theorem poK_c (i : Nat) (is : List Nat) (env : Ev) (ds : List PyData) (outs : List (List PyData)) (K : Ev → Prop) (h : ∃ s, env[i]? = some s) : poK env (i :: is) (ds :: outs) K = getS env i (poS i env ds fun e => poK e is outs K) := by
  obtain ⟨s, h⟩ := h
  rw [getS_at h]
  show (match env[i]? with
    | some s => poS i env ds (fun e => poK e is outs K) s
    | none => poK env is outs K) = _
  rw [h]
theorem inS_0 (s : Sl) (e : Ev) : (∃ t, (s :: e)[0]? = some t) = True := by simp
theorem inS_s (s : Sl) (e : Ev) (n : Nat) : (∃ t, (s :: e)[n + 1]? = some t) = (∃ t, e[n]? = some t) := by simp
def rsK (r : Rv) (K : Rs → Prop) : Prop := K (rsOf r)
theorem rsK_v (d : PyData) (K : Rs → Prop) : rsK (.val d) K = K (.val d) := rfl
theorem rsK_o (ds : List PyData) (K : Rs → Prop) : rsK (.own ds) K = K (.tmp ds) := rfl
theorem e_call (n : Nat) (S : Spc) (wm : WM) (env : Ev) (Ke : KE) (Kx : KXc) : wCall n S wm env Ke Kx = wm env (fun e as => (lnsOf as).Nodup ∧ avsK e as fun avs => avs.length = n ∧ S avs (fun outs r => poK e (lnsOf as) outs fun e' => rsK r (Ke e')) (fun outs x => poK e (lnsOf as) outs fun e' => Kx e' x)) Kx := by
  simp only [avsK_ex, poK_eq, rsK]
  rfl
theorem e_callF (n : Nat) (S : Spc) (wm : WM) (env : Ev) (Ke : KE) (Kx : KXc) : wCallF n S wm env Ke Kx = wm env (fun e as => lnsOf as = [] ∧ avsK e as fun avs => avs.length = n ∧ S avs (fun _ r => rsK r (Ke e)) (fun _ x => Kx e x)) Kx := by
  simp only [avsK_ex, rsK]
  rfl
/-! own lists -/
def ownB : Sl → Prop
  | .own _ _ => True
  | _ => False
theorem ownB_o (l : Bool) (ds : List PyData) : ownB (.own l ds) = True := rfl
theorem e_isOwn (env : Ev) (i : Nat) : isOwn env i = getS env i ownB := by
  rw [getS_ex]
  unfold isOwn
  apply propext
  constructor
  · rintro ⟨l, ds, h⟩; exact ⟨_, h, trivial⟩
  · rintro ⟨s, h, z⟩
    cases s with
    | own l ds => exact ⟨l, ds, h⟩
    | un => exact z.elim
    | dct kv => exact z.elim
    | val d => exact z.elim
theorem e_ld (i : Nat) (wm : WM) (env : Ev) (Ka : Ev → List Ar → Prop) (Kx : KXc) : wLd i wm env Ka Kx = (getS env i ownB ∧ wm env (fun e as => Ka e (.ln i :: as)) Kx) := by
  rw [← e_isOwn]
  unfold wLd isOwn wMLend
  apply propext
  constructor
  · rintro ⟨⟨ds, l, h⟩, z⟩; exact ⟨⟨l, ds, h⟩, z⟩
  · rintro ⟨⟨l, ds, h⟩, z⟩; exact ⟨⟨ds, l, h⟩, z⟩
def oS (K : Bool → List PyData → Prop) : Sl → Prop
  | .own l ds => K l ds
  | _ => False
theorem oS_o (K : Bool → List PyData → Prop) (l : Bool) (ds : List PyData) : oS K (.own l ds) = K l ds := rfl
theorem oS_v (K : Bool → List PyData → Prop) (d : PyData) : oS K (.val d) = False := rfl
theorem oS_u (K : Bool → List PyData → Prop) : oS K .un = False := rfl
theorem own_ex (env : Ev) (i : Nat) (K : Bool → List PyData → Prop) : getS env i (oS K) = ∃ l ds, env[i]? = some (Sl.own l ds) ∧ K l ds := by
  rw [getS_ex]
  apply propext
  constructor
  · rintro ⟨s, h, z⟩
    cases s with
    | own l ds => exact ⟨l, ds, h, z⟩
    | un => exact z.elim
    | dct kv => exact z.elim
    | val d => exact z.elim
  · rintro ⟨l, ds, h, z⟩; exact ⟨_, h, z⟩
theorem e_ownF (i : Nat) (w : WE) (m : Mu) (env : Ev) (Ke : KE) (Kx : KXc) : wOwnF i w m env Ke Kx = (getS env i ownB ∧ wFz w env (fun e d => getS e i (oS fun l ds => m ds d fun ds' d' => setS e i (.own l ds') fun e' => Ke e' (.val d'))) Kx) := by
  simp only [own_ex, setS_eq, ← e_isOwn]
  rfl
theorem e_own0 (i : Nat) (m : List PyData → (List PyData → PyData → Prop) → Prop) (env : Ev) (Ke : KE) (Kx : KXc) : wOwn0 i m env Ke Kx = getS env i (oS fun l ds => m ds fun ds' d' => setS env i (.own l ds') fun e' => Ke e' (.val d')) := by
  simp only [own_ex, setS_eq]
  rfl
theorem e_setIx (i : Nat) (wi w : WE) (env : Ev) (k : Ken) : wSetIx i wi w env k = wFz w env (fun e d => getS e i ownB ∧ wi e (fun e2 r => intK r fun j => getS e2 i (oS fun l ds => ∃ n, ixN ds.length j = some n ∧ setS e2 i (.own l (ds.set n d)) k.nx)) k.ex) k.ex := by
  have : ∀ (e2 : Ev) (r : Rs) (d : PyData), (intK r fun j => getS e2 i (oS fun l ds => ∃ n, ixN ds.length j = some n ∧ setS e2 i (.own l (ds.set n d)) k.nx)) = ∃ j l ds n, r = .val (.int j) ∧ e2[i]? = some (Sl.own l ds) ∧ ixN ds.length j = some n ∧ k.nx (e2.set i (.own l (ds.set n d))) := by
    intro e2 r d
    simp only [own_ex, setS_eq, intK]
    apply propext
    constructor
    · rintro ⟨j, h1, l, ds, h2, n, h3, h4⟩; exact ⟨j, l, ds, n, h1, h2, h3, h4⟩
    · rintro ⟨j, l, ds, n, h1, h2, h3, h4⟩; exact ⟨j, h1, l, ds, h2, n, h3, h4⟩
  simp only [this, ← e_isOwn]
  rfl
def agS (f : Int → Prop) : Sl → Prop
  | .val (.int n) => f n
  | _ => False
theorem agS_i (f : Int → Prop) (n : Int) : agS f (.val (.int n)) = f n := rfl
theorem e_aug (i : Nat) (f : Int → Int → Int) (w : WE) (env : Ev) (k : Ken) : wAug i f w env k = getS env i (agS fun n => w env (fun e r => intK r fun m => setS e i (.val (.int (f n m))) k.nx) k.ex) := by
  rw [getS_ex]
  simp only [setS_eq]
  unfold wAug intK
  apply propext
  constructor
  · rintro ⟨n, h, z⟩; exact ⟨_, h, z⟩
  · rintro ⟨s, h, z⟩
    cases s with
    | own l ds => exact z.elim
    | un => exact z.elim
    | dct kv => exact z.elim
    | val d =>
      cases d with
      | int n => exact ⟨n, h, z⟩
      | none => exact z.elim
      | bool _ => exact z.elim
      | str _ => exact z.elim
      | list _ => exact z.elim
      | tuple _ => exact z.elim
      | dict _ => exact z.elim
theorem e_par (i j : Nat) (wf : WF) (env : Ev) (k : Ken) : wPar i j wf env k = wf env (fun e ds => match ds with
  | [d1, d2] => setS e i (.val d1) fun e1 => setS e1 j (.val d2) k.nx
  | _ => False) k.ex := by
  simp only [setS_eq]
  rfl
theorem e_gN (i : Nat) (d : PyData) (env : Ev) (K : Ev → Prop) : gN i d env K = setS env i (.val d) K := (setS_eq _ _ _ _).symm
/-! the ends -/
def otS (K : List PyData → Prop) : Sl → Prop
  | .own true ds => K ds
  | _ => False
theorem otS_o (K : List PyData → Prop) (ds : List PyData) : otS K (.own true ds) = K ds := rfl
def outK (env : Ev) : List Nat → (List (List PyData) → Prop) → Prop
  | [], K => K []
  | i :: is, K => getS env i (otS fun ds => outK env is fun o => K (ds :: o))
theorem outK_n (env : Ev) (K : List (List PyData) → Prop) : outK env [] K = K [] := rfl
theorem outK_c (env : Ev) (i : Nat) (is : List Nat) (K : List (List PyData) → Prop) : outK env (i :: is) K = getS env i (otS fun ds => outK env is fun o => K (ds :: o)) := rfl
theorem outK_ex (env : Ev) : ∀ (is : List Nat) (K : List (List PyData) → Prop), outK env is K = ∃ o, outsOf env is = some o ∧ K o
  | [], K => by simp [outK, outsOf]
  | i :: is, K => by
    rw [outK_c, getS_ex]
    unfold outsOf
    cases h : env[i]? with
    | none => simp
    | some s =>
      cases s with
      | un => simp [otS]
      | dct kv => simp [otS]
      | val d => simp [otS]
      | own l ds =>
        cases l with
        | false => simp [otS]
        | true =>
          simp only [Option.some.injEq, exists_eq_left', otS_o, outK_ex env is, Option.map_eq_some_iff]
          apply propext
          constructor
          · rintro ⟨a, h1, h2⟩; exact ⟨_, ⟨a, h1, rfl⟩, h2⟩
          · rintro ⟨_, ⟨a, h1, rfl⟩, h2⟩; exact ⟨a, h1, h2⟩
def rvS (K : Rv → Prop) : Sl → Prop
  | .val d => K (.val d)
  | .own false ds => K (.own ds)
  | _ => False
theorem rvS_v (K : Rv → Prop) (d : PyData) : rvS K (.val d) = K (.val d) := rfl
theorem rvS_o (K : Rv → Prop) (ds : List PyData) : rvS K (.own false ds) = K (.own ds) := rfl
def rvK (env : Ev) (r : Rs) (K : Rv → Prop) : Prop := ∃ v, retV env r = some v ∧ K v
theorem rvK_v (env : Ev) (d : PyData) (K : Rv → Prop) : rvK env (.val d) K = K (.val d) := by simp [rvK, retV]
theorem rvK_t (env : Ev) (ds : List PyData) (K : Rv → Prop) : rvK env (.tmp ds) K = K (.own ds) := by simp [rvK, retV]
theorem rvK_s (env : Ev) (i : Nat) (K : Rv → Prop) : rvK env (.slot i) K = getS env i (rvS K) := by
  rw [getS_ex]
  unfold rvK retV
  cases h : env[i]? with
  | none => simp [h]
  | some s =>
    cases s with
    | un => simp [rvS, h]
    | val d => simp [rvS, h]
    | own l ds => cases l <;> simp [rvS, h]
    | dct kv => simp [rvS, h]
theorem kenD_nx {ls : List Nat} {Kr : List (List PyData) → Rv → Prop} {Kx : List (List PyData) → XD → Prop} {env : Ev} : (kenD ls Kr Kx).nx env = outK env ls fun o => Kr o (.val .none) := by rw [outK_ex]; rfl
theorem kenD_rt {ls : List Nat} {Kr : List (List PyData) → Rv → Prop} {Kx : List (List PyData) → XD → Prop} {env : Ev} {r : Rs} : (kenD ls Kr Kx).rt env r = outK env ls fun o => rvK env r (Kr o) := by
  rw [outK_ex]
  unfold rvK kenD
  apply propext
  constructor
  · rintro ⟨o, v, h1, h2, h3⟩; exact ⟨o, h1, v, h2, h3⟩
  · rintro ⟨o, h1, v, h2, h3⟩; exact ⟨o, v, h1, h2, h3⟩
theorem kenD_bk {ls : List Nat} {Kr : List (List PyData) → Rv → Prop} {Kx : List (List PyData) → XD → Prop} {env : Ev} : (kenD ls Kr Kx).bk env = False := rfl
theorem kenD_ct {ls : List Nat} {Kr : List (List PyData) → Rv → Prop} {Kx : List (List PyData) → XD → Prop} {env : Ev} : (kenD ls Kr Kx).ct env = False := rfl
theorem kenD_ex {ls : List Nat} {Kr : List (List PyData) → Rv → Prop} {Kx : List (List PyData) → XD → Prop} {env : Ev} {x : XD} : (kenD ls Kr Kx).ex env x = outK env ls fun o => Kx o x := by rw [outK_ex]; rfl
/-! operators on known data -/
section
variable (K : Rs → Prop) (i j : Int) (xs ys : List PyData)
theorem oAdd_i : oAdd (.int i) (.int j) K = K (.val (.int (i + j))) := rfl
theorem oAdd_l : oAdd (.list xs) (.list ys) K = (xs.length + ys.length ≤ sizeLine ∧ K (.tmp (xs ++ ys))) := rfl
theorem oAdd_t : oAdd (.tuple xs) (.tuple ys) K = (xs.length + ys.length ≤ sizeLine ∧ K (.val (.tuple (xs ++ ys)))) := rfl
theorem oAdd_s (x y : Str) : oAdd (.str x) (.str y) K = (x.length + y.length ≤ sizeLine ∧ K (.val (.str (x ++ y)))) := rfl
theorem oSub_i : oSub (.int i) (.int j) K = K (.val (.int (i - j))) := rfl
theorem oMul_i : oMul (.int i) (.int j) K = (CMulX i j ∧ K (.val (.int (i * j)))) := rfl
theorem oFdiv_i : oFdiv (.int i) (.int j) K = ((0 < j ∧ j.natAbs.log2 < 9000) ∧ K (.val (.int (i / j)))) := rfl
theorem oMod_i : oMod (.int i) (.int j) K = (0 < j ∧ K (.val (.int (i % j)))) := rfl
theorem oPow_i : oPow (.int i) (.int j) K = (CPow i j ∧ K (.val (.int (i ^ j.toNat)))) := rfl
theorem oShl_i : oShl (.int i) (.int j) K = (CShl i j ∧ K (.val (.int (i * 2 ^ j.toNat)))) := rfl
theorem oShr_i : oShr (.int i) (.int j) K = (0 ≤ j ∧ K (.val (.int (i / 2 ^ j.toNat)))) := rfl
theorem oOr_i : oOr (.int i) (.int j) K = (True ∧ K (.val (.int (Builtin.bitOr i j)))) := rfl
theorem oAndB_i : oAndB (.int i) (.int j) K = (True ∧ K (.val (.int (Builtin.bitAnd i j)))) := rfl
theorem oLt_i : oLt (.int i) (.int j) K = K (.val (.bool (decide (i < j)))) := rfl
theorem oLe_i : oLe (.int i) (.int j) K = K (.val (.bool (decide (i ≤ j)))) := rfl
theorem oGt_i : oGt (.int i) (.int j) K = K (.val (.bool (decide (j < i)))) := rfl
theorem oGe_i : oGe (.int i) (.int j) K = K (.val (.bool (decide (j ≤ i)))) := rfl
theorem oEq_i : oEq (.int i) (.int j) K = K (.val (.bool (decide (i = j)))) := by
  apply propext
  exact ⟨fun h => h.2.2, fun h => ⟨rfl, rfl, h⟩⟩
theorem oNe_i : oNe (.int i) (.int j) K = K (.val (.bool (!decide (i = j)))) := by
  apply propext
  exact ⟨fun h => h.2.2, fun h => ⟨rfl, rfl, h⟩⟩
theorem oIx_l : oIx (.list xs) (.int i) K = ∃ x, atI xs i = some x ∧ K (.val x) := rfl
theorem oIx_t : oIx (.tuple xs) (.int i) K = ∃ x, atI xs i = some x ∧ K (.val x) := rfl
theorem oLen_l : oLen [.list xs] K = K (.val (.int xs.length)) := rfl
theorem oLen_t : oLen [.tuple xs] K = K (.val (.int xs.length)) := rfl
theorem oInt_i : oInt [.int i] K = K (.val (.int i)) := rfl
theorem oInt_b (b : Bool) : oInt [.bool b] K = K (.val (.int (if b then 1 else 0))) := rfl
theorem oMax_i : oMax [.int i, .int j] K = K (.val (.int (if j > i then j else i))) := rfl
theorem oMin_i : oMin [.int i, .int j] K = K (.val (.int (if j < i then j else i))) := rfl
theorem oList_l : oList [.list xs] K = K (.tmp xs) := rfl
theorem oList_t : oList [.tuple xs] K = K (.tmp xs) := rfl
theorem oTuple_l : oTuple [.list xs] K = K (.val (.tuple xs)) := rfl
theorem oTuple_t : oTuple [.tuple xs] K = K (.val (.tuple xs)) := rfl
theorem oSorted_l : oSorted [.list xs] K = (Srts xs ∧ K (.tmp (xs.mergeSort dLe))) := rfl
theorem oSorted_t : oSorted [.tuple xs] K = (Srts xs ∧ K (.tmp (xs.mergeSort dLe))) := rfl
theorem oIs_n (d : PyData) : oIs d .none K = K (.val (.bool (isNone d))) := by cases d <;> rfl
theorem oIsN_n (d : PyData) : oIsNot d .none K = K (.val (.bool (!isNone d))) := by cases d <;> rfl
theorem oIs_b (a b : Bool) : oIs (.bool a) (.bool b) K = K (.val (.bool (decide (a = b)))) := rfl
theorem oIsN_b (a b : Bool) : oIsNot (.bool a) (.bool b) K = K (.val (.bool (!decide (a = b)))) := rfl
theorem isNone_n : isNone .none = true := rfl
theorem isNone_t : isNone (.tuple xs) = false := rfl
theorem isNone_l : isNone (.list xs) = false := rfl
theorem isNone_i : isNone (.int i) = false := rfl
theorem isNone_s (x : Str) : isNone (.str x) = false := rfl
theorem isNone_b (x : Bool) : isNone (.bool x) = false := rfl
theorem oSl_l (lo hi : Option Int) : oSl (.list xs) lo hi K = K (.tmp (cutD xs lo hi)) := rfl
theorem oSl_t (lo hi : Option Int) : oSl (.tuple xs) lo hi K = K (.val (.tuple (cutD xs lo hi))) := rfl
end
theorem gT_t (n : Nat) (gs : WGs) (ds : List PyData) (env : Ev) (K : Ev → Prop) : gT n gs (.tuple ds) env K = (ds.length = n ∧ gs ds env K) := rfl
theorem gC_c (g : WG) (gs : WGs) (d : PyData) (r : List PyData) (env : Ev) (K : Ev → Prop) : gCons' g gs (d :: r) env K = g d env fun e => gs r e K := rfl
def sqK (d : PyData) (K : List PyData → Prop) : Prop := ∃ ds, itemsOf d = some ds ∧ K ds
theorem sqK_l (ds : List PyData) (K : List PyData → Prop) : sqK (.list ds) K = K ds := by simp [sqK, itemsOf]
theorem sqK_t (ds : List PyData) (K : List PyData → Prop) : sqK (.tuple ds) K = K ds := by simp [sqK, itemsOf]
theorem sqK2_l (ds : List PyData) (K : List PyData → Prop) : (∃ es, seqOf (.list ds) = some es ∧ K es) = K ds := by simp [seqOf]
theorem sqK2_t (ds : List PyData) (K : List PyData → Prop) : (∃ es, seqOf (.tuple ds) = some es ∧ K es) = K ds := by simp [seqOf]
def sq2K (d : PyData) (K : List PyData → Prop) : Prop := ∃ ds, seqOf d = some ds ∧ K ds
theorem sq2K_l (ds : List PyData) (K : List PyData → Prop) : sq2K (.list ds) K = K ds := sqK2_l ds K
theorem sq2K_t (ds : List PyData) (K : List PyData → Prop) : sq2K (.tuple ds) K = K ds := sqK2_t ds K
theorem e_isq (w : WE) (env : Ev) (Ki : Ev → List PyData → Prop) (Kx : KXc) : wISq w env Ki Kx = wFz w env (fun e d => sq2K d (Ki e)) Kx := rfl
theorem e_iseq (w : WE) (env : Ev) (Ki : Ev → List PyData → Prop) (Kx : KXc) : wISeq w env Ki Kx = wFz w env (fun e d => sqK d (Ki e)) Kx := rfl
def ssK (d : PyData) (K : List PyData → Prop) : Prop := ∃ xs, (d = .list xs ∨ d = .tuple xs) ∧ K xs
theorem ssK_l (ds : List PyData) (K : List PyData → Prop) : ssK (.list ds) K = K ds := by simp [ssK]
theorem ssK_t (ds : List PyData) (K : List PyData → Prop) : ssK (.tuple ds) K = K ds := by simp [ssK]
theorem e_sset (w : WE) (env : Ev) (Ke : KE) (Kx : KXc) : wSortSet w env Ke Kx = w env (fun e r => rdK e r fun d => ssK d fun xs => oSortSet xs (Ke e)) Kx := by
  unfold wSortSet
  congr 1
  funext e r
  unfold rdK ssK
  apply propext
  constructor
  · rintro ⟨xs, h1 | h1, h2⟩
    · exact ⟨_, h1, xs, .inl rfl, h2⟩
    · exact ⟨_, h1, xs, .inr rfl, h2⟩
  · rintro ⟨d, h1, xs, rfl | rfl, h2⟩
    · exact ⟨xs, .inl h1, h2⟩
    · exact ⟨xs, .inr h1, h2⟩
theorem e_chain (o o' : Op2) (wa wb wc : WE) (env : Ev) (Ke : KE) (Kx : KXc) : wChain o o' wa wb wc env Ke Kx = wa env (fun e1 r1 => wb e1 (fun e2 r2 => rdK e2 r1 fun d1 => rdK e2 r2 fun d2 => o d1 d2 fun r3 => tbK r3 fun k =>
  if k = true then wc e2 (fun e4 r4 => rdK e4 r2 fun d3 => rdK e4 r4 fun d4 => o' d3 d4 (Ke e4)) Kx else Ke e2 (.val (.bool false))) Kx) Kx := rfl
theorem e_lr1 (b : Bool) (w : WE) (env : Ev) (Ke : KE) (Kx : KXc) : wLR1 b w env Ke Kx = w env (fun e r => intK r fun j => rgK 0 j fun ds => Ke e (if b = true then .val (.tuple ds) else .tmp ds)) Kx := rfl
theorem e_lr2 (b : Bool) (wa wb : WE) (env : Ev) (Ke : KE) (Kx : KXc) : wLR2 b wa wb env Ke Kx = wa env (fun e1 r1 => wb e1 (fun e2 r2 => intK r1 fun i => intK r2 fun j => rgK i j fun ds => Ke e2 (if b = true then .val (.tuple ds) else .tmp ds)) Kx) Kx := by
  unfold wLR2 intK
  rfl
theorem rvD_l (ds : List PyData) (K : Rs → Prop) : rvD (.list ds) K = K (.tmp ds.reverse) := rfl
theorem rvD_t (ds : List PyData) (K : Rs → Prop) : rvD (.tuple ds) K = K (.val (.tuple ds.reverse)) := rfl
theorem e_in1 (neg : Bool) (wa wb : WE) (env : Ev) (Ke : KE) (Kx : KXc) : wIn1 neg wa wb env Ke Kx = wa env (fun e1 r1 => wb e1 (fun e2 r2 => intK r1 fun i => intK r2 fun j => Ke e2 (.val (.bool (negB neg (decide (0 ≤ i ∧ i < j)))))) Kx) Kx := by
  unfold wIn1 intK
  rfl
theorem e_in2 (neg : Bool) (wa wb wc : WE) (env : Ev) (Ke : KE) (Kx : KXc) : wIn2 neg wa wb wc env Ke Kx = wa env (fun e1 r1 => wb e1 (fun e2 r2 => wc e2 (fun e3 r3 => intK r1 fun i => intK r2 fun j => intK r3 fun k => Ke e3 (.val (.bool (negB neg (decide (j ≤ i ∧ i < k)))))) Kx) Kx) Kx := by
  unfold wIn2 intK
  rfl
theorem negB_f (b : Bool) : negB false b = b := rfl
theorem negB_t (b : Bool) : negB true b = !b := rfl
theorem zpK_l (xs ys : List PyData) (K : List PyData → Prop) : zpK [.list xs, .list ys] K = K (zipD xs ys) := rfl
theorem zpK_m (xs ys : List PyData) (K : List PyData → Prop) : zpK [.list xs, .tuple ys] K = K (zipD xs ys) := rfl
theorem zpK_t (xs ys : List PyData) (K : List PyData → Prop) : zpK [.tuple xs, .tuple ys] K = K (zipD xs ys) := rfl
def extR (env : Ev) (i : Nat) (r : Rs) (K : List PyData → Prop) : Prop := ∃ es, (r = .tmp es ∨ ∃ j, j ≠ i ∧ r = .slot j ∧ ∃ m, env[j]? = some (Sl.own m es)) ∧ K es
theorem extR_t (env : Ev) (i : Nat) (es : List PyData) (K : List PyData → Prop) : extR env i (.tmp es) K = K es := by
  unfold extR
  apply propext
  constructor
  · rintro ⟨es', h | ⟨_, _, h, _⟩, k⟩
    · cases h; exact k
    · cases h
  · exact fun k => ⟨es, .inl rfl, k⟩
theorem e_extend (i : Nat) (w : WE) (env : Ev) (Ke : KE) (Kx : KXc) : wExtend i w env Ke Kx = (getS env i ownB ∧ w env (fun e r => getS e i (oS fun l ds => extR e i r fun es => ds.length + es.length ≤ sizeLine ∧ setS e i (.own l (ds ++ es)) fun e' => Ke e' (.val .none))) Kx) := by
  have : ∀ (e : Ev) (r : Rs), (getS e i (oS fun l ds => extR e i r fun es => ds.length + es.length ≤ sizeLine ∧ setS e i (.own l (ds ++ es)) fun e' => Ke e' (.val .none))) =
      ∃ l ds es, e[i]? = some (Sl.own l ds) ∧ (r = .tmp es ∨ ∃ j, j ≠ i ∧ r = .slot j ∧ ∃ m, e[j]? = some (Sl.own m es)) ∧ ds.length + es.length ≤ sizeLine ∧ Ke (e.set i (.own l (ds ++ es))) (.val .none) := by
    intro e r
    simp only [own_ex, setS_eq, extR]
    apply propext
    constructor
    · rintro ⟨l, ds, h1, es, h2, h3⟩; exact ⟨l, ds, es, h1, h2, h3⟩
    · rintro ⟨l, ds, es, h1, h2, h3⟩; exact ⟨l, ds, h1, es, h2, h3⟩
  simp only [this, ← e_isOwn]
  rfl
theorem eqv_ss (x y : Str) : PyData.eqv (.str x) (.str y) = decide (x = y) := by
  rw [PyData.eqv]
  by_cases h : x = y
  · subst h; simp
  · simp [h]
/-! exceptions -/
abbrev xGreat (a b : Int) : XD := ⟨"TooGreat", [("most", .int b), ("many", .int a)]⟩
abbrev xClocks (a : Int) : XD := ⟨"NoClocks", [("number", .int a)]⟩
abbrev xText (a : Int) : XD := ⟨"NoText", [("row", .int a)]⟩
abbrev xBare (n : Str) : XD := ⟨n, []⟩
def grK (ds : List PyData) (K : XD → Prop) : Prop := match ds with
  | [.int a, .int b] => K (xGreat a b)
  | _ => ds.length = 2 ∧ K ⟨"TooGreat", ((["many", "most"] : List Str).zip ds).reverse⟩
theorem grK_i (a b : Int) (K : XD → Prop) : grK [.int a, .int b] K = K (xGreat a b) := rfl
theorem e_raiseG (wf : WF) (env : Ev) (k : Ken) : wRaise "TooGreat" ["many", "most"] wf env k = wf env (fun e ds => grK ds (k.ex e)) k.ex := by
  have : ∀ (e : Ev) (ds : List PyData), grK ds (k.ex e) = (ds.length = (["many", "most"] : List Str).length ∧ k.ex e ⟨"TooGreat", ((["many", "most"] : List Str).zip ds).reverse⟩) := by
    intro e ds
    unfold grK
    split
    · rename_i a b
      apply propext
      exact ⟨fun h => ⟨rfl, h⟩, fun h => h.2⟩
    · rfl
  simp only [this]
  rfl
def onK (ds : List PyData) (f n : Str) (K : XD → Prop) : Prop := match ds with
  | [.int a] => K ⟨n, [(f, .int a)]⟩
  | _ => ds.length = 1 ∧ K ⟨n, (([f] : List Str).zip ds).reverse⟩
theorem onK_i (a : Int) (f n : Str) (K : XD → Prop) : onK [.int a] f n K = K ⟨n, [(f, .int a)]⟩ := rfl
theorem e_raise1 (f n : Str) (wf : WF) (env : Ev) (k : Ken) : wRaise n [f] wf env k = wf env (fun e ds => onK ds f n (k.ex e)) k.ex := by
  have : ∀ (e : Ev) (ds : List PyData), onK ds f n (k.ex e) = (ds.length = ([f] : List Str).length ∧ k.ex e ⟨n, (([f] : List Str).zip ds).reverse⟩) := by
    intro e ds
    unfold onK
    split
    · rename_i a
      apply propext
      exact ⟨fun h => ⟨rfl, h⟩, fun h => h.2⟩
    · rfl
  simp only [this]
  rfl
theorem e_callX (S : SpcE) (x : XD) (env : Ev) (Ke : KE) (Kx : KXc) : wCallX S x env Ke Kx = S x fun r => rsK r (Ke env) := rfl
theorem xa_1 : (("NoClock" : Str) ∈ xall) = True := eq_true (by decide +kernel)
theorem xa_2 : (("NoNumber" : Str) ∈ xall) = True := eq_true (by decide +kernel)
theorem xa_3 : (("NoPlace" : Str) ∈ xall) = True := eq_true (by decide +kernel)
theorem xa_4 : (("NoRow" : Str) ∈ xall) = True := eq_true (by decide +kernel)
theorem xa_5 : (("NoClocks" : Str) ∈ xall) = True := eq_true (by decide +kernel)
theorem xa_6 : (("NoText" : Str) ∈ xall) = True := eq_true (by decide +kernel)
theorem xa_7 : (("TooGreat" : Str) ∈ xall) = True := eq_true (by decide +kernel)
theorem e_many (a b : Int) (env : Ev) (Ke : KE) (Kx : KXc) : wXf ["TooGreat"] (xGreat a b) "many" env Ke Kx = Ke env (.val (.int a)) := by
  have : (xGreat a b).fs.lookup ("many" : Str) = some (.int a) := by rfl
  unfold wXf
  rw [this]
  simp
theorem e_most (a b : Int) (env : Ev) (Ke : KE) (Kx : KXc) : wXf ["TooGreat"] (xGreat a b) "most" env Ke Kx = Ke env (.val (.int b)) := by
  have : (xGreat a b).fs.lookup ("most" : Str) = some (.int b) := by rfl
  unfold wXf
  rw [this]
  simp
theorem e_number (a : Int) (env : Ev) (Ke : KE) (Kx : KXc) : wXf ["NoClocks"] (xClocks a) "number" env Ke Kx = Ke env (.val (.int a)) := by
  have : (xClocks a).fs.lookup ("number" : Str) = some (.int a) := by rfl
  unfold wXf
  rw [this]
  simp
theorem e_row (a : Int) (env : Ev) (Ke : KE) (Kx : KXc) : wXf ["NoText"] (xText a) "row" env Ke Kx = Ke env (.val (.int a)) := by
  have : (xText a).fs.lookup ("row" : Str) = some (.int a) := by rfl
  unfold wXf
  rw [this]
  simp
/-! reading methods, looking calls, repeated lists, enumerate -/
theorem isLst_l (ds : List PyData) : isLst (.list ds) = True := rfl
def lsK (d : PyData) (K : List PyData → Prop) : Prop := ∃ ds, d = .list ds ∧ K ds
theorem lsK_l (ds : List PyData) (K : List PyData → Prop) : lsK (.list ds) K = K ds := by simp [lsK]
theorem e_rd (w wa : WE) (m : Rd) (env : Ev) (Ke : KE) (Kx : KXc) : wRd w wa m env Ke Kx = w env (fun e1 r1 => rdK e1 r1 isLst ∧ wa e1 (fun e2 r2 => rdK e2 r1 fun d1 => rdK e2 r2 fun d2 => lsK d1 fun ds => m ds d2 fun d => Ke e2 (.val d)) Kx) Kx := rfl
def brS (f : Sl → Prop) : Sl → Prop
  | .own l ds => f (.own l ds)
  | .val d => f (.val d)
  | _ => False
theorem brS_o (f : Sl → Prop) (l : Bool) (ds : List PyData) : brS f (.own l ds) = f (.own l ds) := rfl
theorem brS_v (f : Sl → Prop) (d : PyData) : brS f (.val d) = f (.val d) := rfl
def arS (i : Nat) : Sl → Ar
  | .val d => .fz d
  | _ => .ln i
theorem arS_o (i : Nat) (l : Bool) (ds : List PyData) : arS i (.own l ds) = .ln i := rfl
theorem arS_v (i : Nat) (d : PyData) : arS i (.val d) = .fz d := rfl
theorem e_br (i : Nat) (wm : WM) (env : Ev) (Ka : Ev → List Ar → Prop) (Kx : KXc) : wBr i wm env Ka Kx = getS env i (brS fun s => wm env (fun e as => Ka e (arS i s :: as)) Kx) := by
  rw [getS_ex]
  unfold wBr
  apply propext
  constructor
  · rintro (⟨l, ds, h, z⟩ | ⟨d, h, z⟩)
    · exact ⟨_, h, z⟩
    · exact ⟨_, h, z⟩
  · rintro ⟨s, h, z⟩
    cases s with
    | un => exact z.elim
    | dct kv => exact z.elim
    | val d => exact .inr ⟨d, h, z⟩
    | own l ds => exact .inl ⟨l, ds, h, z⟩
def avbK (env : Ev) : List Ar → (List AV → Prop) → Prop
  | [], K => K []
  | .fz d :: as, K => avbK env as fun a => K (.val d :: a)
  | .ln i :: as, K => getS env i (lnS fun ds => avbK env as fun a => K (.val (.list ds) :: a))
theorem avbK_n (env : Ev) (K : List AV → Prop) : avbK env [] K = K [] := rfl
theorem avbK_f (env : Ev) (d : PyData) (as : List Ar) (K : List AV → Prop) : avbK env (.fz d :: as) K = avbK env as fun a => K (.val d :: a) := rfl
theorem avbK_l (env : Ev) (i : Nat) (as : List Ar) (K : List AV → Prop) : avbK env (.ln i :: as) K = getS env i (lnS fun ds => avbK env as fun a => K (.val (.list ds) :: a)) := rfl
theorem avbK_ex (env : Ev) : ∀ (as : List Ar) (K : List AV → Prop), avbK env as K = ∃ a, avsB env as = some a ∧ K a
  | [], K => by simp [avbK, avsB]
  | .fz d :: as, K => by
    rw [avbK_f, avbK_ex env as, show avsB env (.fz d :: as) = (avsB env as).map (.val d :: ·) from rfl]
    simp only [Option.map_eq_some_iff]
    apply propext
    constructor
    · rintro ⟨a, h1, h2⟩; exact ⟨_, ⟨a, h1, rfl⟩, h2⟩
    · rintro ⟨_, ⟨a, h1, rfl⟩, h2⟩; exact ⟨a, h1, h2⟩
  | .ln i :: as, K => by
    rw [avbK_l, getS_ex]
    unfold avsB
    cases h : env[i]? with
    | none => simp
    | some s =>
      cases s with
      | un => simp [lnS]
      | dct kv => simp [lnS]
      | val d => simp [lnS]
      | own l ds =>
        simp only [Option.some.injEq, exists_eq_left', lnS_o, avbK_ex env as, Option.map_eq_some_iff]
        apply propext
        constructor
        · rintro ⟨a, h1, h2⟩; exact ⟨_, ⟨a, h1, rfl⟩, h2⟩
        · rintro ⟨_, ⟨a, h1, rfl⟩, h2⟩; exact ⟨a, h1, h2⟩
def scK (r : Rv) (K : PyData → Prop) : Prop := ∃ d, r = .val d ∧ scal d = true ∧ K d
theorem scK_b (b : Bool) (K : PyData → Prop) : scK (.val (.bool b)) K = K (.bool b) := by simp [scK, scal]
theorem scK_i (b : Int) (K : PyData → Prop) : scK (.val (.int b)) K = K (.int b) := by simp [scK, scal]
theorem scK_n (K : PyData → Prop) : scK (.val .none) K = K .none := by simp [scK, scal]
theorem scK_s (b : Str) (K : PyData → Prop) : scK (.val (.str b)) K = K (.str b) := by simp [scK, scal]
theorem e_callS (n : Nat) (S : Spc) (wm : WM) (env : Ev) (Ke : KE) (Kx : KXc) : wCallS n S wm env Ke Kx = wm env (fun e as => avbK e as fun avs => avs.length = n ∧ S avs (fun _ r => scK r fun d => Ke e (.val d)) (fun _ _ => False)) Kx := by
  simp only [avbK_ex]
  rfl
def tmK (r : Rs) (K : List PyData → Prop) : Prop := ∃ ds, r = .tmp ds ∧ K ds
theorem tmK_t (ds : List PyData) (K : List PyData → Prop) : tmK (.tmp ds) K = K ds := by simp [tmK]
def tutK (r : Rs) (K : List PyData → Prop) : Prop := ∃ ds, r = .val (.tuple ds) ∧ K ds
theorem tutK_t (ds : List PyData) (K : List PyData → Prop) : tutK (.val (.tuple ds)) K = K ds := by simp [tutK]
theorem e_repT (wa wb : WE) (env : Ev) (Ke : KE) (Kx : KXc) : wRepT wa wb env Ke Kx = wa env (fun e1 r1 => tutK r1 fun ds => wb e1 (fun e2 r2 => intK r2 fun k => ds ≠ [] ∧ 2 ≤ k ∧ k ≤ 1000 ∧ ds.length ≤ 1000 ∧ Ke e2 (.val (.tuple (List.replicate k.toNat ds).flatten))) Kx) Kx := rfl
theorem e_rep (wa wb : WE) (env : Ev) (Ke : KE) (Kx : KXc) : wRep wa wb env Ke Kx = wa env (fun e1 r1 => tmK r1 fun ds => wb e1 (fun e2 r2 => intK r2 fun k => ds.length * k.toNat ≤ sizeLine ∧ k ≤ 16777216 ∧ -16777216 ≤ k ∧ Ke e2 (.tmp (List.replicate k.toNat ds).flatten)) Kx) Kx := rfl
def enK (ds : List PyData) (K : List PyData → Prop) : Prop := ∃ xs, ds = [.list xs] ∧ K (enD xs)
theorem enK_l (xs : List PyData) (K : List PyData → Prop) : enK [.list xs] K = K (enD xs) := by simp [enK]
theorem e_ienum (wf : WF) (env : Ev) (Ki : Ev → List PyData → Prop) (Kx : KXc) : wIEnum wf env Ki Kx = wf env (fun e ds => enK ds (Ki e)) Kx := rfl
/-! calls that look at lists and answer with tuples; enumerate of a tuple; range with a step -/
def tpK (r : Rv) (K : PyData → Prop) : Prop := ∃ d, r = .val d ∧ tupD d = true ∧ K d
theorem tpK_v (d : PyData) (K : PyData → Prop) : tpK (.val d) K = (tupD d = true ∧ K d) := by simp [tpK]
def txK (x : XD) (p : Prop) : Prop := (∀ q ∈ x.fs, tupD q.2 = true) ∧ p
theorem txK_1 (n f : Str) (a : Int) (p : Prop) : txK ⟨n, [(f, .int a)]⟩ p = p := by
  unfold txK
  apply propext
  constructor
  · exact fun h => h.2
  · intro h
    refine ⟨fun q hq => ?_, h⟩
    have e : q = (f, .int a) := by simpa using hq
    subst e
    rfl
theorem e_callT (n : Nat) (S : Spc) (wm : WM) (env : Ev) (Ke : KE) (Kx : KXc) : wCallT n S wm env Ke Kx = wm env (fun e as => avbK e as fun avs => avs.length = n ∧ S avs (fun _ r => tpK r fun d => Ke e (.val d)) (fun _ x => txK x (Kx e x))) Kx := by
  simp only [avbK_ex]
  rfl
def enTK (ds : List PyData) (K : List PyData → Prop) : Prop := ∃ xs, ds = [.tuple xs] ∧ K (enD xs)
theorem enTK_t (xs : List PyData) (K : List PyData → Prop) : enTK [.tuple xs] K = K (enD xs) := by simp [enTK]
theorem e_ienumT (wf : WF) (env : Ev) (Ki : Ev → List PyData → Prop) (Kx : KXc) : wIEnumT wf env Ki Kx = wf env (fun e ds => enTK ds (Ki e)) Kx := rfl
def r3K (ds : List PyData) (K : List PyData → Prop) : Prop := ∃ i j c n, ds = [.int i, .int j, .int c] ∧ RgC i j c n ∧ K (rg3 i c n)
theorem r3K_i (i j c : Int) (K : List PyData → Prop) : r3K [.int i, .int j, .int c] K = ∃ n, RgC i j c n ∧ K (rg3 i c n) := by
  unfold r3K
  apply propext
  constructor
  · rintro ⟨i', j', c', n, e, h⟩
    cases e
    exact ⟨n, h⟩
  · rintro ⟨n, h⟩
    exact ⟨i, j, c, n, rfl, h⟩
theorem e_rng3 (wf : WF) (env : Ev) (Ki : Ev → List PyData → Prop) (Kx : KXc) : wIRng3 wf env Ki Kx = wf env (fun e ds => r3K ds (Ki e)) Kx := rfl
/-! dicts -/
def dcS (K : List (List Int × PyData) → Prop) : Sl → Prop
  | .dct kv => K kv
  | _ => False
theorem dcS_d (K : List (List Int × PyData) → Prop) (kv : List (List Int × PyData)) : dcS K (.dct kv) = K kv := rfl
def dcB : Sl → Prop
  | .dct _ => True
  | _ => False
theorem dcB_d (kv : List (List Int × PyData)) : dcB (.dct kv) = True := rfl
theorem dct_ex (env : Ev) (i : Nat) (K : List (List Int × PyData) → Prop) : getS env i (dcS K) = ∃ kv, env[i]? = some (Sl.dct kv) ∧ K kv := by
  rw [getS_ex]
  apply propext
  constructor
  · rintro ⟨s, h, z⟩
    cases s with
    | dct kv => exact ⟨kv, h, z⟩
    | _ => exact z.elim
  · rintro ⟨kv, h, z⟩; exact ⟨_, h, z⟩
theorem e_isDct (env : Ev) (i : Nat) : isDct env i = getS env i dcB := by
  rw [getS_ex]
  unfold isDct
  apply propext
  constructor
  · rintro ⟨kv, h⟩; exact ⟨_, h, trivial⟩
  · rintro ⟨s, h, z⟩
    cases s with
    | dct kv => exact ⟨kv, h⟩
    | _ => exact z.elim
theorem e_newD (i : Nat) (env : Ev) (k : Ken) : wNewD i env k = setS env i (.dct []) k.nx := (setS_eq _ _ _ _).symm
def pvK (r : Rs) (K : PyData → Prop) : Prop := ∃ d, r = .val d ∧ scD d ∧ K d
theorem pvK_b (b : Bool) (K : PyData → Prop) : pvK (.val (.bool b)) K = K (.bool b) := by simp [pvK, scD]
theorem pvK_i (b : Int) (K : PyData → Prop) : pvK (.val (.int b)) K = K (.int b) := by simp [pvK, scD]
def tkK (r : Rs) (K : List Int → Prop) : Prop := ∃ ks : List Int, r = .val (.tuple (ks.map .int)) ∧ K ks
theorem tkK_m (ks : List Int) (K : List Int → Prop) : tkK (.val (.tuple (ks.map .int))) K = K ks := by
  unfold tkK
  apply propext
  constructor
  · rintro ⟨k2, e, h⟩
    rw [Rs.val.injEq, PyData.tuple.injEq] at e
    rw [(List.map_inj_right fun x y e => by cases e; rfl).mp e]
    exact h
  · exact fun h => ⟨ks, rfl, h⟩
theorem tkK_2 (a b : Int) (K : List Int → Prop) : tkK (.val (.tuple [.int a, .int b])) K = K [a, b] := tkK_m [a, b] K
theorem e_putD (i : Nat) (wi w : WE) (env : Ev) (k : Ken) : wPutD i wi w env k = w env (fun e r => pvK r fun d => getS e i dcB ∧ wi e (fun e2 r2 => tkK r2 fun ks => getS e2 i (dcS fun kvs => kvs.length < sizeLine ∧ setS e2 i (.dct (putD kvs ks d)) k.nx)) k.ex) k.ex := by
  have : ∀ (e2 : Ev) (r2 : Rs) (d : PyData), (tkK r2 fun ks => getS e2 i (dcS fun kvs => kvs.length < sizeLine ∧ setS e2 i (.dct (putD kvs ks d)) k.nx)) = ∃ ks kvs, r2 = .val (.tuple (ks.map .int)) ∧ e2[i]? = some (Sl.dct kvs) ∧ kvs.length < sizeLine ∧ k.nx (e2.set i (.dct (putD kvs ks d))) := by
    intro e2 r2 d
    simp only [dct_ex, setS_eq, tkK]
    apply propext
    constructor
    · rintro ⟨ks, h1, kvs, h2, h3⟩; exact ⟨ks, kvs, h1, h2, h3⟩
    · rintro ⟨ks, kvs, h1, h2, h3⟩; exact ⟨ks, h1, kvs, h2, h3⟩
  simp only [this, ← e_isDct]
  rfl
theorem e_lenD (i : Nat) (env : Ev) (Ke : KE) (Kx : KXc) : wLenD i env Ke Kx = getS env i (dcS fun kv => Ke env (.val (.int kv.length))) := by
  rw [dct_ex]
  rfl
theorem e_listD (i : Nat) (env : Ev) (Ke : KE) (Kx : KXc) : wListD i env Ke Kx = getS env i (dcS fun kv => Ke env (.tmp (kv.map fun p => .tuple (p.1.map .int)))) := by
  rw [dct_ex]
  rfl
theorem e_ssetI (w : WE) (env : Ev) (Ke : KE) (Kx : KXc) : wSortSetI w env Ke Kx = w env (fun e r => tutK r fun xs => oSortSetI xs (Ke e)) Kx := rfl
theorem oMinL_c (x : PyData) (xs : List PyData) (K : Rs → Prop) : oMinL [.list (x :: xs)] K = (PySem.W.AlikeAll (x :: xs) ∧ (∀ d ∈ x :: xs, SeqAt.shaped d = true) ∧ K (.val (PySem.W.minD x xs))) := rfl
theorem e_lset (w : WE) (env : Ev) (Ke : KE) (Kx : KXc) : wLenSet w env Ke Kx = w env (fun e r => rdK e r fun d => ssK d fun xs => oLenSet xs (Ke e)) Kx := by
  unfold wLenSet
  congr 1
  funext e r
  unfold rdK ssK
  apply propext
  constructor
  · rintro ⟨xs, h1 | h1, h2⟩
    · exact ⟨_, h1, xs, .inl rfl, h2⟩
    · exact ⟨_, h1, xs, .inr rfl, h2⟩
  · rintro ⟨d, h1, xs, rfl | rfl, h2⟩
    · exact ⟨xs, .inl h1, h2⟩
    · exact ⟨xs, .inr h1, h2⟩
def zlK (ds : List PyData) (K : List PyData → List PyData → Prop) : Prop := ∃ xs ys, ds = [.list xs, .tuple ys] ∧ K xs ys
theorem zlK_c (xs ys : List PyData) (K : List PyData → List PyData → Prop) : zlK [.list xs, .tuple ys] K = K xs ys := propext ⟨fun ⟨_, _, e, h⟩ => by cases e; exact h, fun h => ⟨xs, ys, rfl, h⟩⟩
theorem e_lstZ (wf : WF) (env : Ev) (Ke : KE) (Kx : KXc) : wLstZ wf env Ke Kx = wf env (fun e ds => zlK ds fun xs ys => xs.length ≤ sizeLine ∧ Ke e (.tmp (zipD xs ys))) Kx := rfl
theorem e_ins (i : Nat) (w1 w2 : WE) (env : Ev) (Ke : KE) (Kx : KXc) : wIns i w1 w2 env Ke Kx = (getS env i ownB ∧ w1 env (fun e1 r1 => intK r1 fun n => 0 ≤ n ∧ n < 2 ^ 63 ∧ wFz w2 e1 (fun e2 d => getS e2 i (oS fun l ds => ds.length < sizeLine ∧ setS e2 i (.own l (ds.take n.toNat ++ [d] ++ ds.drop n.toNat)) fun e' => Ke e' (.val .none))) Kx) Kx) := by
  simp only [own_ex, setS_eq, ← e_isOwn]
  rfl
end Dl
end L2

/-! The plain half, 1: evaluation of w terms; loops. -/
namespace L2
namespace Dl
open PySem PySem.Spec PyProof.Rows
@[simp] theorem isTy_int_int (i : Int) : isTy "int" (.int i) = true := rfl
@[simp] theorem isTy_bool_int (i : Int) : isTy "bool" (.int i) = false := rfl
@[simp] theorem isTy_int_bool (i : Bool) : isTy "int" (.bool i) = true := rfl
@[simp] theorem isTy_bool_bool (i : Bool) : isTy "bool" (.bool i) = true := rfl
@[simp] theorem isTy_int_tup (i : List PyData) : isTy "int" (.tuple i) = false := rfl
@[simp] theorem isTy_int_lst (i : List PyData) : isTy "int" (.list i) = false := rfl
@[simp] theorem isTy_int_non : isTy "int" .none = false := rfl
@[simp] theorem isTy_int_str (s : Str) : isTy "int" (.str s) = false := rfl
@[simp] theorem isTy_tup_tup (i : List PyData) : isTy "tuple" (.tuple i) = true := rfl
@[simp] theorem isTy_tup_lst (i : List PyData) : isTy "tuple" (.list i) = false := rfl
@[simp] theorem isTy_tup_int (i : Int) : isTy "tuple" (.int i) = false := rfl
@[simp] theorem isTy_tup_bool (i : Bool) : isTy "tuple" (.bool i) = false := rfl
@[simp] theorem isTy_tup_non : isTy "tuple" .none = false := rfl
@[simp] theorem isTy_tup_str (s : Str) : isTy "tuple" (.str s) = false := rfl
@[simp] theorem isTy_lst_lst (i : List PyData) : isTy "list" (.list i) = true := rfl
@[simp] theorem isTy_lst_tup (i : List PyData) : isTy "list" (.tuple i) = false := rfl
@[simp] theorem isTy_lst_int (i : Int) : isTy "list" (.int i) = false := rfl
theorem atI_0 {α : Type} (x0 : α) (l : List α) : atI (x0 :: l) 0 = some x0 := atI_nat (j := 0) rfl
theorem atI_1 {α : Type} (x0 x1 : α) (l : List α) : atI (x0 :: x1 :: l) 1 = some x1 := atI_nat (j := 1) rfl
theorem atI_2 {α : Type} (x0 x1 x2 : α) (l : List α) : atI (x0 :: x1 :: x2 :: l) 2 = some x2 := atI_nat (j := 2) rfl
theorem atI_3 {α : Type} (x0 x1 x2 x3 : α) (l : List α) : atI (x0 :: x1 :: x2 :: x3 :: l) 3 = some x3 := atI_nat (j := 3) rfl
theorem atI_4 {α : Type} (x0 x1 x2 x3 x4 : α) (l : List α) : atI (x0 :: x1 :: x2 :: x3 :: x4 :: l) 4 = some x4 := atI_nat (j := 4) rfl
theorem atI_5 {α : Type} (x0 x1 x2 x3 x4 x5 : α) (l : List α) : atI (x0 :: x1 :: x2 :: x3 :: x4 :: x5 :: l) 5 = some x5 := atI_nat (j := 5) rfl
theorem atI_6 {α : Type} (x0 x1 x2 x3 x4 x5 x6 : α) (l : List α) : atI (x0 :: x1 :: x2 :: x3 :: x4 :: x5 :: x6 :: l) 6 = some x6 := atI_nat (j := 6) rfl
theorem atI_7 {α : Type} (x0 x1 x2 x3 x4 x5 x6 x7 : α) (l : List α) : atI (x0 :: x1 :: x2 :: x3 :: x4 :: x5 :: x6 :: x7 :: l) 7 = some x7 := atI_nat (j := 7) rfl
theorem atI_8 {α : Type} (x0 x1 x2 x3 x4 x5 x6 x7 x8 : α) (l : List α) : atI (x0 :: x1 :: x2 :: x3 :: x4 :: x5 :: x6 :: x7 :: x8 :: l) 8 = some x8 := atI_nat (j := 8) rfl
theorem atI_9 {α : Type} (x0 x1 x2 x3 x4 x5 x6 x7 x8 x9 : α) (l : List α) : atI (x0 :: x1 :: x2 :: x3 :: x4 :: x5 :: x6 :: x7 :: x8 :: x9 :: l) 9 = some x9 := atI_nat (j := 9) rfl
theorem atI_10 {α : Type} (x0 x1 x2 x3 x4 x5 x6 x7 x8 x9 x10 : α) (l : List α) : atI (x0 :: x1 :: x2 :: x3 :: x4 :: x5 :: x6 :: x7 :: x8 :: x9 :: x10 :: l) 10 = some x10 := atI_nat (j := 10) rfl
theorem atI_11 {α : Type} (x0 x1 x2 x3 x4 x5 x6 x7 x8 x9 x10 x11 : α) (l : List α) : atI (x0 :: x1 :: x2 :: x3 :: x4 :: x5 :: x6 :: x7 :: x8 :: x9 :: x10 :: x11 :: l) 11 = some x11 := atI_nat (j := 11) rfl
theorem ixN_3_0 : ixN 3 0 = some 0 := rfl
theorem ixN_3_1 : ixN 3 1 = some 1 := rfl
theorem ixN_3_2 : ixN 3 2 = some 2 := rfl
theorem sh_int (i : Int) : SeqAt.shaped (.int i) = true := rfl
theorem sh_bool (i : Bool) : SeqAt.shaped (.bool i) = true := rfl
theorem nd_true {p : Prop} [Decidable p] : ((!decide p) = true) = ¬ p := by simp
theorem nd1 (i : Nat) : ([i] : List Nat).Nodup = True := by simp
theorem sh_non : SeqAt.shaped .none = true := rfl
theorem eqv_ii (i j : Int) : PyData.eqv (.int i) (.int j) = decide (i = j) := by by_cases h : i = j <;> rfl
theorem eqv_bb (i j : Bool) : PyData.eqv (.bool i) (.bool j) = (i == j) := by cases i <;> cases j <;> rfl
local macro_rules | `(tactic| dsimp? [$xs,*] $[$l]?) => `(tactic| simp only [wSeq, wNext, wBreak, wCont, wDrop, wRet, wRetN, wIfS, wSet, wAsgT, e_aug, e_setIx, e_par, e_gN, getS_0, getS_s, setS_0, setS_s, e_var, varK_v, varK_o, varK_u, wC, wBin, rdK_v, rdK_t, rdK_s, rdS_v, rdS_o, rdS_u, fzK_v, fzK_t, fzK_s, fzS_v, fzS_o, fzS_l, fzS_u, e_fz, asg_v, asg_t, asg_s, e_tb, tbK_b, wAnd, wOr, wNot, e_notV, e_andV, e_orV, wBV, wIf, e_neg, intK_i, e_oso, wONo, e_rng1, e_rng2, wFNil, wFCons, wANil, wACons, wTup, wLst, e_callB, rdAllK_n, rdAllK_c, wIsi, e_call, wMNil, wMCons, e_ld, lnsOf, avsK_n, avsK_f, avsK_l, lnS_o, lnS_v, lnS_u, poK_n, poK_c, poS_o, inS_0, inS_s, rsK_v, rsK_o, wSl, e_ownF, e_own0, ownB_o, oS_o, oS_v, oS_u, agS_i, muApp, oAdd_i, oAdd_l, oAdd_t, oAdd_s, oSub_i, oMul_i, oFdiv_i, oMod_i, oPow_i, oShl_i, oShr_i, oOr_i, oAndB_i, oLt_i, oLe_i, oGt_i, oGe_i, oEq_i, oNe_i, oEq, oNe, oIx_l, oIx_t, oLen_l, oLen_t, oInt_i, oInt_b, oMax_i, oMin_i, oList_l, oList_t, oTuple_l, oTuple_t, oSorted_l, oSorted_t, oIs_n, oIsN_n, oIs_b, oIsN_b, isNone_n, isNone_t, isNone_l, isNone_i, isNone_s, isNone_b, oSl_l, oSl_t, oIn, gT_t, gC_c, gNil', e_iseq, sqK_l, sqK_t, e_isq, sq2K_l, sq2K_t, e_sset, ssK_l, ssK_t, e_chain, e_lr1, e_lr2, wRev, rvD_l, rvD_t, e_in1, e_in2, negB_f, negB_t, wIZip, zpK_l, zpK_t, zpK_m, e_extend, extR_t, wYes, startEv, kenD_nx, kenD_rt, kenD_bk, kenD_ct, kenD_ex, outK_n, outK_c, otS_o, rvK_v, rvK_t, rvK_s, rvS_v, rvS_o, slOf, lsFrom, wipeE, restE, List.map_cons, List.map_nil, List.length_cons, List.length_nil, List.replicate, List.append_nil, List.cons_append, List.nil_append, List.getElem?_cons_zero, List.getElem?_cons_succ, List.getElem?_nil, List.set_cons_zero, List.set_cons_succ, List.set_nil, Option.getD_some, Option.getD_none, Option.map_some, Option.map_none, Option.some.injEq, Rs.val.injEq, Rs.tmp.injEq, Rs.slot.injEq, Sl.own.injEq, Sl.val.injEq, PyData.int.injEq, PyData.bool.injEq, PyData.str.injEq, PyData.list.injEq, PyData.tuple.injEq, Prod.mk.injEq, Nat.sub_self, Nat.zero_add, Nat.reduceAdd, Nat.reduceSub, Nat.add_zero, isTy_int_int, isTy_bool_int, isTy_int_bool, isTy_bool_bool, isTy_int_tup, isTy_int_lst, isTy_int_non, isTy_int_str, isTy_tup_tup, isTy_tup_lst, isTy_tup_int, isTy_tup_bool, isTy_tup_non, isTy_tup_str, isTy_lst_lst, isTy_lst_tup, isTy_lst_int, exists_eq_left', exists_eq_left, exists_and_left, exists_eq_right, exists_eq, exists_eq', exists_const, true_and, and_true, and_self, Bool.not_true, Bool.not_false, if_true, if_false, Bool.false_eq_true, reduceIte, reduceCtorEq, List.nodup_nil, decide_eq_true_eq, atI_0, atI_1, atI_2, atI_3, atI_4, atI_5, atI_6, atI_7, atI_8, atI_9, atI_10, atI_11, ixN_3_0, ixN_3_1, ixN_3_2, sh_int, sh_bool, sh_non, and_assoc, nd1, nd_true, eq_self, decide_true, decide_false, Int.cast_ofNat_Int, not_true_eq_false, not_false_eq_true, eqv_ii, eqv_bb, wRaise0, e_raiseG, grK_i, e_raise1, onK_i, e_callX, xa_1, xa_2, xa_3, xa_4, xa_5, xa_6, xa_7, e_many, e_most, e_number, e_row, isLst_l, lsK_l, e_rd, e_br, brS_o, brS_v, arS_o, arS_v, avbK_n, avbK_f, avbK_l, scK_b, scK_i, scK_n, scK_s, e_callS, tmK_t, e_rep, enK_l, e_ienum, wTry, eqv_ss, tpK_v, txK_1, tutK_t, e_repT, e_callT, enTK_t, e_ienumT, r3K_i, e_rng3, e_newD, e_putD, e_lenD, e_listD, dcS_d, dcB_d, pvK_b, pvK_i, tkK_m, tkK_2, e_ssetI, oMinL_c, e_lset, e_lstZ, zlK_c, e_ins, e_callF, $xs,*] $[$l]?)
/-- one statement at a time -/
theorem seq_cut {t u : WS} {env : Ev} {k : Ken} (h : ∀ R : Ev → Prop, (∀ e, u e k → R e) → t env { k with nx := R }) : wSeq t u env k := h _ fun _ h => h
/-- a for, by an invariant over what is left -/
theorem wEach_ind {g : WG} {t : WS} {k : Ken} (Wi : List PyData → Ev → Prop) (h0 : ∀ e, Wi [] e → k.nx e)
    (hs : ∀ d r e, Wi (d :: r) e → (∀ e2, Wi r e2 → wEach g t r e2 k) → g d e (fun e1 => t e1 { k with nx := fun e2 => wEach g t r e2 k, ct := fun e2 => wEach g t r e2 k, bk := k.nx })) : ∀ ds e, Wi ds e → wEach g t ds e k
  | [], e, h => h0 e h
  | d :: r, e, h => hs d r e h fun e2 h2 => wEach_ind Wi h0 hs r e2 h2
theorem wLcE_ind {vs : List Nat} {g : WG} {ct : WT} {we : WE} {K : Ev → List PyData → Prop} (Wi : List PyData → List PyData → Ev → Prop) (h0 : ∀ acc e, Wi [] acc e → K e acc)
    (hs : ∀ d r acc e, Wi (d :: r) acc e → (∀ acc2 e2, Wi r acc2 e2 → wLcE vs g ct we r acc2 e2 K) →
      g d e (fun e1 => ct e1 (fun e2 b => if b = true then wFz we e2 (fun e3 y => acc.length < sizeLine ∧ wLcE vs g ct we r (acc ++ [y]) (wipeE e3 vs) K) NoX else wLcE vs g ct we r acc (wipeE e2 vs) K) NoX)) :
    ∀ ds acc e, Wi ds acc e → wLcE vs g ct we ds acc e K
  | [], acc, e, h => h0 acc e h
  | d :: r, acc, e, h => hs d r acc e h fun a2 e2 h2 => wLcE_ind Wi h0 hs r a2 e2 h2

/-! ### the common defs -/
def sp_divisor_of : Spc := fun avs Kr _ => match avs with
  | [.val (.int a), .val (.int b)] => 0 ≤ a ∧ 0 ≤ b ∧ Kr [] (.val (.int (Int.gcd a b : Nat)))
  | _ => False
def w_divisor_of_T1 : WT :=
  (wTB (wBin oGt (wVar 1) (wC (.int 0))))
def w_divisor_of_B1 : WS :=
  (wPar 0 1 (wFCons (wVar 1) (wFCons (wBin oMod (wVar 0) (wVar 1)) wFNil)))
def w_divisor_of_L1 : WS :=
  wWhile w_divisor_of_T1 w_divisor_of_B1
def w_divisor_of_R1 : WS :=
  (wRet (wVar 0))
/-- divisor_of: 0 one, 1 other -/
def w_divisor_of : WS :=
  (wSeq w_divisor_of_L1
    w_divisor_of_R1)

theorem gcd_mod (x y : Int) : Int.gcd y (x % y) = Int.gcd x y := by
  rw [Int.emod_def, Int.gcd_sub_mul_left_right, Int.gcd_comm]
theorem vc_divisor_of : ∀ avs Kr Kx, avs.length = 2 → sp_divisor_of avs Kr Kx → lsFrom 0 avs = [] ∧ w_divisor_of (startEv 2 avs) (kenD [] Kr Kx) := by
  intro avs Kr Kx hl h
  unfold sp_divisor_of at h
  split at h
  · rename_i a b
    obtain ⟨ha, hb, k⟩ := h
    refine ⟨rfl, ?_⟩
    dsimp? [w_divisor_of]
    refine ⟨fun m e => ∃ x y : Int, e = [.val (.int x), .val (.int y)] ∧ 0 ≤ x ∧ 0 ≤ y ∧ m = y.toNat ∧ Int.gcd x y = Int.gcd a b, ⟨_, a, b, rfl, ha, hb, rfl, rfl⟩, ?_⟩
    rintro m e ⟨x, y, rfl, hx, hy, rfl, hg⟩
    dsimp? [w_divisor_of_T1, w_divisor_of_B1]
    split
    · rename_i hp
      have h1 := Int.emod_nonneg x (Int.ne_of_gt hp)
      have h2 := Int.emod_lt_of_pos x hp
      exact ⟨hp, _, by omega, _, _, rfl, hy, h1, rfl, by rw [gcd_mod]; exact hg⟩
    · have : y = 0 := by omega
      subst this
      have e : (x : Int) = (Int.gcd x 0 : Nat) := by rw [Int.gcd_zero_right]; omega
      dsimp? [w_divisor_of_R1]
      rw [e, hg]
      exact k
  · exact h.elim

/-! #### the pen -/
/-- three ints -/
def pen3 (ds : List PyData) : Prop := ∃ l f s : Int, ds = [.int l, .int f, .int s]
def sp__law_cell_at : Spc := fun avs Kr _ => match avs with
  | [.val (.list xs), .val (.int k)] => (∃ ns : List Int, xs = ns.map .int) ∧ 0 ≤ k ∧ ∀ n, Kr [] (.val (.int n))
  | _ => False
/-- _law_cell_at: 0 script, 1 k -/
def w__law_cell_at : WS :=
  (wSeq (wIfS (wTB (wBin oLt (wVar 1) (wCallB oLen (wACons (wVar 0) wANil)))) (wRet (wBin oIx (wVar 0) (wVar 1))) wNext)
    (wRet (wC (.int 0))))

theorem atI_ints {ns : List Int} {k : Int} (h0 : 0 ≤ k) (h1 : k < ns.length) : ∃ n, atI (ns.map PyData.int) k = some (.int n) := by
  obtain ⟨j, rfl⟩ := Int.eq_ofNat_of_zero_le h0
  have hj : j < ns.length := by omega
  exact ⟨ns[j], atI_nat (by rw [List.getElem?_map, List.getElem?_eq_getElem hj]; rfl)⟩
theorem atI_mem {ns : List Int} {k : Int} (h0 : 0 ≤ k) (h1 : k < ns.length) : ∃ n, n ∈ ns ∧ atI (ns.map PyData.int) k = some (.int n) := by
  obtain ⟨j, rfl⟩ := Int.eq_ofNat_of_zero_le h0
  have hj : j < ns.length := by omega
  exact ⟨ns[j], List.getElem_mem hj, atI_nat (by rw [List.getElem?_map, List.getElem?_eq_getElem hj]; rfl)⟩
theorem vc__law_cell_at : ∀ avs Kr Kx, avs.length = 2 → sp__law_cell_at avs Kr Kx → lsFrom 0 avs = [] ∧ w__law_cell_at (startEv 2 avs) (kenD [] Kr Kx) := by
  intro avs Kr Kx hl h
  unfold sp__law_cell_at at h
  split at h
  · rename_i xs k
    obtain ⟨⟨ns, rfl⟩, hk, q⟩ := h
    refine ⟨rfl, ?_⟩
    dsimp? [w__law_cell_at]
    split
    · rename_i hp
      obtain ⟨n, e⟩ := atI_ints (ns := ns) hk (by simpa using hp)
      dsimp? [e]
      exact q n
    · exact q 0
  · exact h.elim
def sp__law_next : Spc := fun avs Kr _ => match avs with
  | [.val (.int k)] => ∀ n : Int, 0 ≤ n → n < 2147483647 → Kr [] (.val (.int n))
  | _ => False
/-- _law_next: 0 seed -/
def w__law_next : WS :=
  (wSeq (wSet 0 (wBin oMod (wBin oAdd (wVar 0) (wC (.int 7919))) (wC (.int 2147483647))))
    (wRet (wBin oMod (wBin oAdd (wBin oAdd (wBin oMul (wVar 0) (wVar 0)) (wBin oMul (wC (.int 48271)) (wVar 0))) (wC (.int 12345))) (wC (.int 2147483629)))))

theorem vc__law_next : ∀ avs Kr Kx, avs.length = 1 → sp__law_next avs Kr Kx → lsFrom 0 avs = [] ∧ w__law_next (startEv 1 avs) (kenD [] Kr Kx) := by
  intro avs Kr Kx hl h
  unfold sp__law_next at h
  split at h
  · rename_i k
    refine ⟨rfl, ?_⟩
    dsimp? [w__law_next]
    have h1 := Int.emod_nonneg (k + 7919) (show (2147483647 : Int) ≠ 0 by decide)
    have h2 := Int.emod_lt_of_pos (k + 7919) (show (0 : Int) < 2147483647 by decide)
    have hb : ((k + 7919) % 2147483647).natAbs < 2 ^ 31 := by omega
    refine ⟨by decide, mulx_ok hb hb (by decide), mulx_ok (a := 31) (by decide) hb (by decide), by decide, h _ (Int.emod_nonneg _ (by decide)) ?_⟩
    exact Int.lt_trans (Int.emod_lt_of_pos _ (by decide)) (by decide)
  · exact h.elim
def sp__law_pen_of : Spc := fun avs Kr _ => match avs with
  | [.val (.int k)] => ∀ ds, pen3 ds → Kr [] (.own ds)
  | _ => False
/-- _law_pen_of: 0 cell, 1 left -/
def w__law_pen_of : WS :=
  (wSeq (wSet 1 (wCallB oMax (wACons (wVar 0) (wACons (wBin oSub (wC (.int 0)) (wVar 0)) wANil))))
    (wRet (wLst (wFCons (wVar 1) (wFCons (wCallB oInt (wACons (wBin oGe (wVar 1) (wBin oPow (wC (.int 10)) (wC (.int 18)))) wANil)) (wFCons (wBin oMod (wVar 1) (wC (.int 1000003))) wFNil))))))

theorem vc__law_pen_of : ∀ avs Kr Kx, avs.length = 1 → sp__law_pen_of avs Kr Kx → lsFrom 0 avs = [] ∧ w__law_pen_of (startEv 2 avs) (kenD [] Kr Kx) := by
  intro avs Kr Kx hl h
  unfold sp__law_pen_of at h
  split at h
  · rename_i k
    refine ⟨rfl, ?_⟩
    dsimp? [w__law_pen_of]
    exact ⟨⟨by decide, by decide, by decide⟩, by decide, by decide, h _ ⟨_, _, _, rfl⟩⟩
  · exact h.elim
def sp__law_draw : Spc := fun avs Kr _ => match avs with
  | [.own ds, .val (.int m)] => pen3 ds ∧ 0 < m ∧ m.natAbs.log2 < 9000 ∧ ∀ ds' r, pen3 ds' → 0 ≤ r → r < m → Kr [ds'] (.val (.int r))
  | _ => False
/-- _law_draw: 0 pen, 1 many, 2 found -/
def w__law_draw : WS :=
  (wSeq (wIfS (wTB (wBin oEq (wBin oIx (wVar 0) (wC (.int 1))) (wC (.int 1)))) (wSeq (wSet 2 (wBin oMod (wBin oIx (wVar 0) (wC (.int 0))) (wVar 1)))
    (wSeq (wSetIx 0 (wC (.int 0)) (wBin oFdiv (wBin oIx (wVar 0) (wC (.int 0))) (wVar 1)))
    (wRet (wVar 2)))) wNext)
    (wSeq (wSetIx 0 (wC (.int 2)) (wCall 1 sp__law_next (wMCons (wBin oAdd (wCall 1 sp__law_next (wMCons (wBin oIx (wVar 0) (wC (.int 2))) wMNil)) (wC (.int 7))) wMNil)))
    (wRet (wBin oMod (wBin oFdiv (wBin oIx (wVar 0) (wC (.int 2))) (wC (.int 64))) (wVar 1)))))

theorem vc__law_draw : ∀ avs Kr Kx, avs.length = 2 → sp__law_draw avs Kr Kx → lsFrom 0 avs = [0] ∧ w__law_draw (startEv 3 avs) (kenD [0] Kr Kx) := by
  intro avs Kr Kx hl h
  unfold sp__law_draw at h
  split at h
  · rename_i ds m
    obtain ⟨⟨l, f, s, rfl⟩, hm, hm2, q⟩ := h
    refine ⟨rfl, ?_⟩
    dsimp? [w__law_draw, sp__law_next]
    split
    · exact ⟨hm, hm, hm2, q _ _ ⟨_, _, _, rfl⟩ (Int.emod_nonneg _ (Int.ne_of_gt hm)) (Int.emod_lt_of_pos _ hm)⟩
    · intro n1 _ _ n2 _ _
      exact ⟨by decide, by decide, hm, q _ _ ⟨_, _, _, rfl⟩ (Int.emod_nonneg _ (Int.ne_of_gt hm)) (Int.emod_lt_of_pos _ hm)⟩
  · exact h.elim
def ck (c : Int × Int) : PyData := .tuple [.int c.1, .int c.2]
abbrev cks (cs : List (Int × Int)) : List PyData := cs.map ck
/-- a clock of a step of at most m -/
def CkOk (m : Int) (c : Int × Int) : Prop := 1 ≤ c.1 ∧ c.1 ≤ m ∧ 0 ≤ c.2 ∧ c.2 < c.1
def sp__law_clock_by : Spc := fun avs Kr _ => match avs with
  | [.own ds, .val (.int m)] => pen3 ds ∧ 0 < m ∧ m < 2 ^ 60 ∧ ∀ ds' a b, pen3 ds' → 1 ≤ a → a ≤ m → 0 ≤ b → b < a → Kr [ds'] (.val (.tuple [.int a, .int b]))
  | _ => False
theorem log_small {m : Int} (h0 : 0 < m) (h : m < 2 ^ 60) : m.natAbs.log2 < 9000 := by
  have h1 : m.natAbs < 2 ^ 60 := by omega
  exact Nat.lt_trans ((Nat.log2_lt (by omega)).mpr h1) (by decide)
/-- _law_clock_by: 0 pen, 1 most, 2 step -/
def w__law_clock_by : WS :=
  (wSeq (wSet 2 (wBin oAdd (wC (.int 1)) (wCall 2 sp__law_draw (wLd 0 (wMCons (wVar 1) wMNil)))))
    (wRet (wTup (wFCons (wVar 2) (wFCons (wCall 2 sp__law_draw (wLd 0 (wMCons (wVar 2) wMNil))) wFNil)))))

theorem vc__law_clock_by : ∀ avs Kr Kx, avs.length = 2 → sp__law_clock_by avs Kr Kx → lsFrom 0 avs = [0] ∧ w__law_clock_by (startEv 3 avs) (kenD [0] Kr Kx) := by
  intro avs Kr Kx hl h
  unfold sp__law_clock_by at h
  split at h
  · rename_i ds m
    obtain ⟨hp, hm, hm2, q⟩ := h
    refine ⟨rfl, ?_⟩
    dsimp? [w__law_clock_by, sp__law_draw]
    refine ⟨hp, hm, log_small hm hm2, fun ds1 r1 hp1 h1 h2 => ⟨hp1, by omega, log_small (by omega) (by omega), fun ds2 r2 hp2 h3 h4 => ⟨by decide, q _ _ _ hp2 (by omega) (by omega) h3 h4⟩⟩⟩
  · exact h.elim
end Dl
end L2

/-! The plain half, 2: clocks drawn. -/
namespace L2
namespace Dl
open PySem PySem.Spec PyProof.Rows
local macro_rules | `(tactic| dsimp? [$xs,*] $[$l]?) => `(tactic| simp only [wSeq, wNext, wBreak, wCont, wDrop, wRet, wRetN, wIfS, wSet, wAsgT, e_aug, e_setIx, e_par, e_gN, getS_0, getS_s, setS_0, setS_s, e_var, varK_v, varK_o, varK_u, wC, wBin, rdK_v, rdK_t, rdK_s, rdS_v, rdS_o, rdS_u, fzK_v, fzK_t, fzK_s, fzS_v, fzS_o, fzS_l, fzS_u, e_fz, asg_v, asg_t, asg_s, e_tb, tbK_b, wAnd, wOr, wNot, e_notV, e_andV, e_orV, wBV, wIf, e_neg, intK_i, e_oso, wONo, e_rng1, e_rng2, wFNil, wFCons, wANil, wACons, wTup, wLst, e_callB, rdAllK_n, rdAllK_c, wIsi, e_call, wMNil, wMCons, e_ld, lnsOf, avsK_n, avsK_f, avsK_l, lnS_o, lnS_v, lnS_u, poK_n, poK_c, poS_o, inS_0, inS_s, rsK_v, rsK_o, wSl, e_ownF, e_own0, ownB_o, oS_o, oS_v, oS_u, agS_i, muApp, oAdd_i, oAdd_l, oAdd_t, oAdd_s, oSub_i, oMul_i, oFdiv_i, oMod_i, oPow_i, oShl_i, oShr_i, oOr_i, oAndB_i, oLt_i, oLe_i, oGt_i, oGe_i, oEq_i, oNe_i, oEq, oNe, oIx_l, oIx_t, oLen_l, oLen_t, oInt_i, oInt_b, oMax_i, oMin_i, oList_l, oList_t, oTuple_l, oTuple_t, oSorted_l, oSorted_t, oIs_n, oIsN_n, oIs_b, oIsN_b, isNone_n, isNone_t, isNone_l, isNone_i, isNone_s, isNone_b, oSl_l, oSl_t, oIn, gT_t, gC_c, gNil', e_iseq, sqK_l, sqK_t, e_isq, sq2K_l, sq2K_t, e_sset, ssK_l, ssK_t, e_chain, e_lr1, e_lr2, wRev, rvD_l, rvD_t, e_in1, e_in2, negB_f, negB_t, wIZip, zpK_l, zpK_t, zpK_m, e_extend, extR_t, wYes, startEv, kenD_nx, kenD_rt, kenD_bk, kenD_ct, kenD_ex, outK_n, outK_c, otS_o, rvK_v, rvK_t, rvK_s, rvS_v, rvS_o, slOf, lsFrom, wipeE, restE, List.map_cons, List.map_nil, List.length_cons, List.length_nil, List.replicate, List.append_nil, List.cons_append, List.nil_append, List.getElem?_cons_zero, List.getElem?_cons_succ, List.getElem?_nil, List.set_cons_zero, List.set_cons_succ, List.set_nil, Option.getD_some, Option.getD_none, Option.map_some, Option.map_none, Option.some.injEq, Rs.val.injEq, Rs.tmp.injEq, Rs.slot.injEq, Sl.own.injEq, Sl.val.injEq, PyData.int.injEq, PyData.bool.injEq, PyData.str.injEq, PyData.list.injEq, PyData.tuple.injEq, Prod.mk.injEq, Nat.sub_self, Nat.zero_add, Nat.reduceAdd, Nat.reduceSub, Nat.add_zero, isTy_int_int, isTy_bool_int, isTy_int_bool, isTy_bool_bool, isTy_int_tup, isTy_int_lst, isTy_int_non, isTy_int_str, isTy_tup_tup, isTy_tup_lst, isTy_tup_int, isTy_tup_bool, isTy_tup_non, isTy_tup_str, isTy_lst_lst, isTy_lst_tup, isTy_lst_int, exists_eq_left', exists_eq_left, exists_and_left, exists_eq_right, exists_eq, exists_eq', exists_const, true_and, and_true, and_self, Bool.not_true, Bool.not_false, if_true, if_false, Bool.false_eq_true, reduceIte, reduceCtorEq, List.nodup_nil, decide_eq_true_eq, atI_0, atI_1, atI_2, atI_3, atI_4, atI_5, atI_6, atI_7, atI_8, atI_9, atI_10, atI_11, ixN_3_0, ixN_3_1, ixN_3_2, sh_int, sh_bool, sh_non, and_assoc, nd1, nd_true, eq_self, decide_true, decide_false, Int.cast_ofNat_Int, not_true_eq_false, not_false_eq_true, eqv_ii, eqv_bb, wRaise0, e_raiseG, grK_i, e_raise1, onK_i, e_callX, xa_1, xa_2, xa_3, xa_4, xa_5, xa_6, xa_7, e_many, e_most, e_number, e_row, isLst_l, lsK_l, e_rd, e_br, brS_o, brS_v, arS_o, arS_v, avbK_n, avbK_f, avbK_l, scK_b, scK_i, scK_n, scK_s, e_callS, tmK_t, e_rep, enK_l, e_ienum, wTry, eqv_ss, tpK_v, txK_1, tutK_t, e_repT, e_callT, enTK_t, e_ienumT, r3K_i, e_rng3, e_newD, e_putD, e_lenD, e_listD, dcS_d, dcB_d, pvK_b, pvK_i, tkK_m, tkK_2, e_ssetI, oMinL_c, e_lset, e_lstZ, zlK_c, e_ins, e_callF, $xs,*] $[$l]?)
def cle (p q : Int × Int) : Bool := decide (p.1 < q.1 ∨ (p.1 = q.1 ∧ p.2 ≤ q.2))
theorem ck_sh (c : Int × Int) : SeqAt.shaped (ck c) = true := rfl
theorem srt_cks (cs : List (Int × Int)) : Srts (cks cs) := by
  refine ⟨fun d hd e he => ?_, .inl fun d hd => ?_, fun d hd => ?_⟩
  · obtain ⟨c, _, rfl⟩ := List.mem_map.mp hd
    obtain ⟨c2, _, rfl⟩ := List.mem_map.mp he
    rfl
  · obtain ⟨c, _, rfl⟩ := List.mem_map.mp hd
    exact ⟨_, _, rfl⟩
  · obtain ⟨c, _, rfl⟩ := List.mem_map.mp hd
    exact ck_sh c
theorem sort_cks (cs : List (Int × Int)) : (cks cs).mergeSort dLe = cks (cs.mergeSort cle) := by
  refine (PySem.W.sort_maps ck fun a _ b _ => ?_).symm
  have e := congrFun (congrFun (PySem.W.dataLe_ii (β := Int × Int) (fun c => c.1) (fun c => c.2)) a) b
  exact e.symm
theorem code2 (B x y : Int) : TS.code B [x, y] = x * B + y := by
  show x * B ^ 1 + (y * B ^ 0 + 0) = x * B + y
  rw [Int.pow_succ, Int.pow_zero, Int.one_mul, Int.mul_one, Int.add_zero]
/-- strictly before -/
def clt (p q : Int × Int) : Prop := p.1 < q.1 ∨ (p.1 = q.1 ∧ p.2 < q.2)
theorem sortSet_cks {cs : List (Int × Int)} {K : Rs → Prop} {B : Int} (hB : ∀ c ∈ cs, 0 ≤ c.1 ∧ c.1 < B ∧ 0 ≤ c.2 ∧ c.2 < B) (hl : cs.length < 64)
    (h : ∀ ms : List (Int × Int), ms.Nodup → (∀ c, c ∈ ms ↔ c ∈ cs) → ms.Pairwise clt → K (.tmp (cks ms))) : oSortSet (cks cs) K := by
  refine ⟨cs.map fun c => [c.1, c.2], 2, B, ?_, by decide, fun l hl => ?_, by simpa using hl, fun M nd hm pw => ?_⟩
  · rw [List.map_map]; rfl
  · obtain ⟨c, hc, rfl⟩ := List.mem_map.mp hl
    obtain ⟨h1, h2, h3, h4⟩ := hB c hc
    refine ⟨rfl, fun m hm => ?_⟩
    rcases List.mem_cons.mp hm with z | z
    · subst z; exact ⟨h1, h2⟩
    · rcases List.mem_cons.mp z with z | z
      · subst z; exact ⟨h3, h4⟩
      · cases z
  · -- M is a list of pairs
    let g : List Int → Int × Int := fun l => (l.getD 0 0, l.getD 1 0)
    have e1 : ∀ l ∈ M, [(g l).1, (g l).2] = l := fun l hl => by
      obtain ⟨c, _, rfl⟩ := List.mem_map.mp ((hm l).mp hl)
      rfl
    have eM : (M.map g).map (fun c => [c.1, c.2]) = M := by
      rw [List.map_map]
      conv => rhs; rw [← List.map_id M]
      exact List.map_congr_left fun l hl => e1 l hl
    have nd2 : (M.map g).Nodup := by
      have : ((M.map g).map (fun c => [c.1, c.2])).Nodup := by rw [eM]; exact nd
      exact L2.nodup_of_map this
    have mem : ∀ c, c ∈ M.map g ↔ c ∈ cs := fun c => by
      constructor
      · intro z
        obtain ⟨l, hl, rfl⟩ := List.mem_map.mp z
        obtain ⟨c, hc, rfl⟩ := List.mem_map.mp ((hm l).mp hl)
        exact hc
      · intro z
        exact List.mem_map.mpr ⟨[c.1, c.2], (hm _).mpr (List.mem_map.mpr ⟨c, z, rfl⟩), rfl⟩
    have pw2 : (M.map g).Pairwise (fun p q => p.1 * B + p.2 ≤ q.1 * B + q.2) := by
      refine List.pairwise_map.mpr (List.Pairwise.imp_of_mem (fun {x y} hx hy hle => ?_) pw)
      rw [← e1 x hx, ← e1 y hy, code2, code2] at hle
      exact hle
    have fin : (M.map g).Pairwise clt := by
      refine List.Pairwise.imp_of_mem (fun {p q} hp hq ⟨hle, hne⟩ => ?_) (pw2.and nd2)
      obtain ⟨a1, a2, a3, a4⟩ := hB p ((mem p).mp hp)
      obtain ⟨b1, b2, b3, b4⟩ := hB q ((mem q).mp hq)
      have hle' : p.1 * B + p.2 ≤ q.1 * B + q.2 := hle
      rcases Int.lt_trichotomy p.1 q.1 with c | c | c
      · exact .inl c
      · refine .inr ⟨c, ?_⟩
        rw [c] at hle'
        have : p.2 ≠ q.2 := fun z => hne (Prod.ext c z)
        omega
      · have : (q.1 + 1) * B ≤ p.1 * B := Int.mul_le_mul_of_nonneg_right (by omega) (by omega)
        rw [Int.add_mul, Int.one_mul] at this
        omega
    have eK : M.map tupI = cks (M.map g) := by
      conv => lhs; rw [← eM]
      rw [List.map_map]; rfl
    rw [eK]
    exact h _ nd2 mem fin
/-- the parts of a clock -/
def prtK (c : Int × Int) (k : Nat) : List (Int × Int) := (List.range k).map fun (i : Nat) => (c.1 * k, c.2 + c.1 * i)
def Apart (c d : Int × Int) : Prop := ∀ x : Int, ¬ (c.1 ∣ x - c.2 ∧ d.1 ∣ x - d.2)
/-- of splits: short ones have a small round; of two or more the greatest step stands twice -/
def TwP (cs : List (Int × Int)) : Prop := (∃ P : Nat, 1 ≤ P ∧ 2 * P ≤ 2 ^ cs.length ∧ ∀ c ∈ cs, c.1 ∣ (P : Int)) ∧ (cs.length = 1 ∨ ∀ M : Int, (∀ c ∈ cs, c.1 ≤ M) → (∃ c ∈ cs, c.1 = M) → 2 ≤ cs.countP fun c => decide (c.1 = M))
theorem TwP.perm {cs ds : List (Int × Int)} (h : TwP cs) (p : cs.Perm ds) : TwP ds := by
  obtain ⟨⟨P, h1, h2, h3⟩, h4⟩ := h
  refine ⟨⟨P, h1, by rw [← p.length_eq]; exact h2, fun c hc => h3 c (p.mem_iff.mpr hc)⟩, ?_⟩
  rcases h4 with h4 | h4
  · exact .inl (by rw [← p.length_eq]; exact h4)
  · refine .inr fun M a ⟨c, hc, e⟩ => ?_
    rw [← p.countP_eq]
    exact h4 M (fun c hc => a c (p.mem_iff.mp hc)) ⟨c, p.mem_iff.mpr hc, e⟩
theorem TwP.split {c : Int × Int} {cs : List (Int × Int)} {k : Nat} (h : TwP (c :: cs)) (hc : 1 ≤ c.1) (hk : 2 ≤ k) : TwP (cs ++ prtK c k) := by
  obtain ⟨⟨P, h1, h2, h3⟩, h4⟩ := h
  have hl : (cs ++ prtK c k).length = cs.length + k := by unfold prtK; rw [List.length_append, List.length_map, List.length_range]
  have hm : ∀ p ∈ prtK c k, p.1 = c.1 * (k : Int) := fun p hp => by
    obtain ⟨i, _, rfl⟩ := List.mem_map.mp hp
    rfl
  refine ⟨⟨P * k, Nat.mul_pos h1 (by omega), ?_, fun d hd => ?_⟩, .inr fun M a ⟨d, hd, e⟩ => ?_⟩
  · rw [hl, show cs.length + k = (cs.length + 1) + (k - 1) by omega, Nat.pow_add, ← Nat.mul_assoc]
    rw [List.length_cons] at h2
    have : k - 1 < 2 ^ (k - 1) := Nat.lt_two_pow_self
    exact Nat.mul_le_mul h2 (by omega)
  · rw [Int.natCast_mul]
    rcases List.mem_append.mp hd with z | z
    · exact Int.dvd_trans (h3 d (List.mem_cons_of_mem _ z)) (Int.dvd_mul_right _ _)
    · rw [hm d z]
      exact Int.mul_dvd_mul (h3 c List.mem_cons_self) (Int.dvd_refl _)
  · rw [List.countP_append]
    have pc : (c.1 * (k : Int), c.2 + c.1 * ((0 : Nat) : Int)) ∈ prtK c k := List.mem_map.mpr ⟨0, List.mem_range.mpr (by omega), rfl⟩
    by_cases z : c.1 * (k : Int) = M
    · have : (prtK c k).countP (fun c => decide (c.1 = M)) = (prtK c k).length := List.countP_eq_length.mpr fun p hp => by rw [hm p hp, z]; exact decide_eq_true rfl
      rw [this]
      unfold prtK
      rw [List.length_map, List.length_range]
      omega
    · have le := a _ (List.mem_append_right _ pc)
      have lt : c.1 < M := by
        have h5 : c.1 * 2 ≤ c.1 * (k : Int) := Int.mul_le_mul_of_nonneg_left (by omega) (by omega)
        simp only at le
        omega
      have dcs : d ∈ cs := by
        rcases List.mem_append.mp hd with y | y
        · exact y
        · rw [hm d y] at e
          exact (z e).elim
      rcases h4 with h4 | h4
      · rw [List.length_cons] at h4
        have := List.length_pos_of_mem dcs
        omega
      · have := h4 M (fun x hx => by
          rcases List.mem_cons.mp hx with rfl | hx
          · omega
          · exact a x (List.mem_append_left _ hx)) ⟨d, List.mem_cons_of_mem _ dcs, e⟩
        rw [List.countP_cons, if_neg (by rw [decide_eq_false (by omega)]; decide)] at this
        omega
/-- exact: none ring together, and the shares come to 1; and of splits -/
def Exq (cs : List (Int × Int)) : Prop := cs.Pairwise Apart ∧ (∀ M : Int, (∀ c ∈ cs, c.1 ∣ M) → (cs.map fun c => M / c.1).sum = M) ∧ TwP cs
theorem sum_perm {xs ys : List Int} (h : xs.Perm ys) : xs.sum = ys.sum := by
  induction h with
  | nil => rfl
  | cons x _ ih => rw [List.sum_cons, List.sum_cons, ih]
  | swap x y l => rw [List.sum_cons, List.sum_cons, List.sum_cons, List.sum_cons]; omega
  | trans _ _ a b => rw [a, b]
theorem erase_perm {α : Type} {cs : List α} {j : Nat} (h : j < cs.length) : (cs[j] :: cs.eraseIdx j).Perm cs := by
  have e := List.take_append_drop j cs
  rw [List.drop_eq_getElem_cons h] at e
  rw [List.eraseIdx_eq_take_drop_succ]
  exact List.perm_middle.symm.trans (by rw [e])
theorem Apart.symm {c d : Int × Int} (h : Apart c d) : Apart d c := fun x hx => h x ⟨hx.2, hx.1⟩
theorem Exq.perm {cs ds : List (Int × Int)} (h : Exq cs) (p : cs.Perm ds) : Exq ds := ⟨(p.pairwise_iff fun h => h.symm).mp h.1, fun M hM => by
  rw [← sum_perm (p.map fun c => M / c.1)]
  exact h.2.1 M fun c hc => hM c (p.mem_iff.mp hc), h.2.2.perm p⟩
theorem Exq.one : Exq [(1, 0)] := ⟨by simp, fun M _ => by simp, ⟨1, by decide, by decide, fun c h => by
  rw [List.mem_singleton] at h
  subst h
  exact ⟨1, rfl⟩⟩, .inl rfl⟩
theorem rep_sum (q : Int) : ∀ k : Nat, ((List.range k).map fun _ => q).sum = k * q
  | 0 => by simp
  | k + 1 => by
    rw [List.range_succ, List.map_append, List.sum_append, rep_sum q k, List.map_cons, List.map_nil, List.sum_cons, List.sum_nil, Int.natCast_add, Int.add_mul]
    omega
theorem part_apart {c : Int × Int} {k i j : Nat} (hc : 1 ≤ c.1) (hi : i < k) (hj : j < k) (hij : i < j) : Apart (c.1 * (k : Int), c.2 + c.1 * (i : Int)) (c.1 * (k : Int), c.2 + c.1 * (j : Int)) := fun x ⟨h1, h2⟩ => by
  simp only at h1 h2
  have h3 := Int.dvd_sub h1 h2
  rw [show x - (c.2 + c.1 * (i : Int)) - (x - (c.2 + c.1 * (j : Int))) = c.1 * ((j : Int) - (i : Int)) by rw [Int.mul_sub]; omega] at h3
  have h4 := Int.dvd_of_mul_dvd_mul_left (show c.1 ≠ 0 by omega) h3
  have := Int.le_of_dvd (show (0 : Int) < (j : Int) - (i : Int) by omega) h4
  omega
theorem Exq.split {c : Int × Int} {cs : List (Int × Int)} {k : Nat} (h : Exq (c :: cs)) (hc : 1 ≤ c.1) (hk : 2 ≤ k) : Exq (cs ++ prtK c k) := by
  obtain ⟨h1, h2, h3⟩ := h
  rw [List.pairwise_cons] at h1
  refine ⟨?_, ?_, h3.split hc hk⟩
  · rw [List.pairwise_append]
    refine ⟨h1.2, ?_, fun d hd p hp => ?_⟩
    · unfold prtK
      rw [List.pairwise_map]
      have : (List.range k).Pairwise fun i j => i < j ∧ i < k ∧ j < k := List.pairwise_lt_range.imp_of_mem fun hi hj h => ⟨h, List.mem_range.mp hi, List.mem_range.mp hj⟩
      exact this.imp fun ⟨a, b, d⟩ => part_apart hc b d a
    · obtain ⟨i, _, rfl⟩ := List.mem_map.mp hp
      intro x ⟨a, b⟩
      simp only at b
      refine h1.1 d hd x ⟨?_, a⟩
      have h3 := Int.dvd_add (Int.dvd_trans (Int.dvd_mul_right c.1 (k : Int)) b) (Int.dvd_mul_right c.1 (i : Int))
      rwa [show x - (c.2 + c.1 * (i : Int)) + c.1 * (i : Int) = x - c.2 by omega] at h3
  · intro M hM
    have hck : c.1 * (k : Int) ∣ M := by
      refine hM (c.1 * (k : Int), c.2 + c.1 * ((0 : Nat) : Int)) (List.mem_append_right _ (List.mem_map.mpr ⟨0, List.mem_range.mpr (by omega), rfl⟩))
    have e := h2 M fun d hd => by
      rcases List.mem_cons.mp hd with rfl | hd
      · exact Int.dvd_trans (Int.dvd_mul_right _ _) hck
      · exact hM d (List.mem_append_left _ hd)
    rw [List.map_cons, List.sum_cons] at e
    rw [List.map_append, List.sum_append]
    have e2 : ((prtK c k).map fun d => M / d.1).sum = (k : Int) * (M / (c.1 * (k : Int))) := by
      unfold prtK
      rw [List.map_map]
      exact rep_sum (M / (c.1 * (k : Int))) k
    obtain ⟨q, hq⟩ := hck
    rw [e2, hq, Int.mul_ediv_cancel_left _ (show c.1 * (k : Int) ≠ 0 from Int.mul_ne_zero (by omega) (by omega))]
    rw [hq, Int.mul_assoc, Int.mul_ediv_cancel_left _ (show c.1 ≠ 0 by omega), ← Int.mul_assoc] at e
    omega
def sp__law_parts_by : Spc := fun avs Kr _ => match avs with
  | [.own ds, .val (.int least), .val (.int most)] => pen3 ds ∧ 1 ≤ least ∧ least ≤ 40 ∧ 1 ≤ most ∧ most ≤ 40 ∧ ∀ ds' cs, pen3 ds' → (∀ c ∈ cs, CkOk 1000 c) → 1 ≤ cs.length → (cs.length : Int) ≤ max least most → Exq cs ∧ (∃ l, cs = List.mergeSort l cle) ∧ (least ≤ 2 → least ≤ cs.length) → Kr [ds'] (.own (cks cs))
  | _ => False
def w__law_parts_by_C1 : WE :=
  wLc [7] (wIRng1 (wVar 4)) (gN 7) wYes (wTup (wFCons (wBin oMul (wVar 5) (wVar 4)) (wFCons (wBin oAdd (wVar 6) (wBin oMul (wVar 5) (wVar 7))) wFNil)))
def w__law_parts_by_T1 : WT :=
  (wOr (wTB (wBin oLt (wCallB oLen (wACons (wVar 3) wANil)) (wVar 1))) (wAnd (wTB (wBin oGt (wCall 2 sp__law_draw (wLd 0 (wMCons (wC (.int 4)) wMNil))) (wC (.int 0)))) (wTB (wBin oLt (wCallB oLen (wACons (wVar 3) wANil)) (wVar 2)))))
def w__law_parts_by_B1 : WS :=
  (wSeq (wSet 4 (wBin oIx (wLst (wFCons (wC (.int 2)) (wFCons (wC (.int 2)) (wFCons (wC (.int 3)) (wFCons (wC (.int 2)) (wFCons (wC (.int 3)) (wFCons (wC (.int 5)) wFNil))))))) (wCall 2 sp__law_draw (wLd 0 (wMCons (wC (.int 6)) wMNil)))))
    (wSeq (wSet 4 (wCallB oMin (wACons (wVar 4) (wACons (wCallB oMax (wACons (wC (.int 2)) (wACons (wBin oAdd (wBin oSub (wVar 2) (wCallB oLen (wACons (wVar 3) wANil))) (wC (.int 1))) wANil))) wANil))))
    (wSeq (wAsgT (wOwnF 3 (wCall 2 sp__law_draw (wLd 0 (wMCons (wCallB oLen (wACons (wVar 3) wANil)) wMNil))) muPopAt) (gT 2 (gCons' (gN 5) (gCons' (gN 6) gNil'))))
    (wSeq (wIfS (wTB (wBin oGt (wBin oMul (wVar 5) (wVar 4)) (wC (.int 1000)))) (wRet (wCallB oSorted (wACons (wBin oAdd (wVar 3) (wLst (wFCons (wTup (wFCons (wVar 5) (wFCons (wVar 6) wFNil))) wFNil))) wANil))) wNext)
    (wSet 3 (wBin oAdd (wVar 3) w__law_parts_by_C1))))))
def w__law_parts_by_L1 : WS :=
  wWhile w__law_parts_by_T1 w__law_parts_by_B1
def w__law_parts_by_R1 : WS :=
  (wRet (wCallB oSorted (wACons (wVar 3) wANil)))
/-- _law_parts_by: 0 pen, 1 least, 2 most, 3 clocks, 4 k, 5 step, 6 rest, 7 part -/
def w__law_parts_by : WS :=
  (wSeq (wSet 3 (wLst (wFCons (wTup (wFCons (wC (.int 1)) (wFCons (wC (.int 0)) wFNil))) wFNil)))
    (wSeq w__law_parts_by_L1
    w__law_parts_by_R1))

theorem map_erase {α β : Type} (f : α → β) : ∀ (l : List α) (j : Nat), (l.map f).eraseIdx j = (l.eraseIdx j).map f
  | [], _ => rfl
  | _ :: _, 0 => rfl
  | x :: l, j + 1 => congrArg (f x :: ·) (map_erase f l j)
theorem c__law_parts_by {ds : List PyData} {least most k st re : Int} {L : List PyData} {Ke : KE} {Kx : KXc} (h0 : 0 ≤ k) (hk : k ≤ 100) (hs : 1 ≤ st) (hr0 : 0 ≤ re) (hr : re < st) (hsk : st * k ≤ 1000)
    (hK : ∀ ms : List (Int × Int), (∀ c ∈ ms, CkOk 1000 c) → (ms.length : Int) = k → ms = prtK (st, re) k.toNat → Ke [.own true ds, .val (.int least), .val (.int most), .own false L, .val (.int k), .val (.int st), .val (.int re), .un] (.tmp (cks ms))) :
    w__law_parts_by_C1 [.own true ds, .val (.int least), .val (.int most), .own false L, .val (.int k), .val (.int st), .val (.int re), .un] Ke Kx := by
  dsimp? [w__law_parts_by_C1, wLc]
  refine ⟨by omega, by omega, ?_⟩
  refine wLcE_ind (fun ds' acc e => ∃ ms : List (Int × Int), acc = cks ms ∧ (∀ c ∈ ms, CkOk 1000 c) ∧ (ds' = (List.range' ms.length ds'.length).map (fun (i : Nat) => PyData.int (i : Int)) ∧ ms = (List.range ms.length).map fun (i : Nat) => (st * k, re + st * (i : Int))) ∧ ((ms.length + ds'.length : Nat) : Int) = k ∧ e = [.own true ds, .val (.int least), .val (.int most), .own false L, .val (.int k), .val (.int st), .val (.int re), .un]) ?_ ?_ _ _ _ ⟨[], rfl, fun _ z => (by cases z), ?_, by simp; omega, rfl⟩
  · rintro acc e ⟨ms, rfl, h1, h2, h3, rfl⟩
    have h4 : (ms.length : Int) = k := by simpa using h3
    dsimp? []
    refine hK ms h1 h4 ?_
    have h5 := h2.2
    rw [← h4] at h5 ⊢
    rw [Int.toNat_natCast]
    exact h5
  · rintro d r acc e ⟨ms, rfl, h1, h2, h3, rfl⟩ ih
    obtain ⟨h2, h5⟩ := h2
    rw [List.length_cons, List.range'_succ, List.map_cons] at h2
    injection h2 with ed h2
    subst ed
    have i0 : (0 : Int) ≤ (ms.length : Int) := by omega
    have ik : (ms.length : Int) < k := by rw [List.length_cons] at h3; omega
    generalize hgi : (ms.length : Int) = i at *
    dsimp? []
    have e1 : st * i + st ≤ st * k := by
      have := Int.mul_le_mul_of_nonneg_left (show i + 1 ≤ k by omega) (show 0 ≤ st by omega)
      rw [Int.mul_add, Int.mul_one] at this
      exact this
    have e0 : 0 ≤ st * i := Int.mul_nonneg (by omega) i0
    have eg : st ≤ st * k := by
      have := Int.mul_le_mul_of_nonneg_left (show 1 ≤ k by omega) (show 0 ≤ st by omega)
      rw [Int.mul_one] at this
      exact this
    simp only [List.length_cons] at h3
    have hml : ms.length ≤ 100 := by omega
    refine ⟨mulx_ok (a := 30) (b := 30) (by omega) (by omega) (by decide), mulx_ok (a := 30) (b := 30) (by omega) (by omega) (by decide), by decide, by rw [List.length_map]; exact small1000 (by omega), ih _ _ ⟨ms ++ [(st * k, re + st * i)], by simp only [cks, List.map_append]; rfl, fun c hc => ?_, ⟨?_, ?_⟩, by rw [List.length_append]; simp only [List.length_cons, List.length_nil]; omega, rfl⟩⟩
    · rcases List.mem_append.mp hc with z | z
      · exact h1 c z
      · simp only [List.mem_singleton] at z
        subst z
        exact ⟨by show 1 ≤ st * k; omega, hsk, by show 0 ≤ re + st * i; omega, by show re + st * i < st * k; omega⟩
    · rw [List.length_append, List.length_singleton]
      exact h2
    · rw [List.length_append, List.length_singleton, List.range_succ, List.map_append, ← h5, ← hgi]
      rfl
  · refine ⟨?_, rfl⟩
    rw [List.length_nil, List.length_map, List.length_range, List.range_eq_range']
theorem b__law_parts_by {ds : List PyData} {least most : Int} {cs : List (Int × Int)} {x4 x5 x6 : Sl} {k : Ken} (hp : pen3 ds) (hm : most ≤ 40) (hcs : ∀ c ∈ cs, CkOk 1000 c) (hx : Exq cs) (h1 : 1 ≤ cs.length) (h2 : (cs.length : Int) < max least most) (h3 : (cs.length : Int) ≤ 40)
    (hn : ∀ ds cs' x4 x5 x6, pen3 ds → (∀ c ∈ cs', CkOk 1000 c) → Exq cs' → cs.length < cs'.length → (cs'.length : Int) ≤ max least most → k.nx [.own true ds, .val (.int least), .val (.int most), .own false (cks cs'), x4, x5, x6, .un])
    (hr : ∀ ds cs' x3 x4 x5 x6, pen3 ds → (∀ c ∈ cs', CkOk 1000 c) → Exq cs' ∧ (∃ l, cs' = List.mergeSort l cle) → cs'.length = cs.length → 2 ≤ cs.length → k.rt [.own true ds, .val (.int least), .val (.int most), x3, x4, x5, x6, .un] (.tmp (cks cs'))) :
    w__law_parts_by_B1 [.own true ds, .val (.int least), .val (.int most), .own false (cks cs), x4, x5, x6, .un] k := by
  unfold w__law_parts_by_B1
  refine seq_cut fun R hR => ?_
  dsimp? [sp__law_draw]
  refine ⟨by decide, hp, by decide, by decide, fun ds1 r1 hp1 a1 a2 => ?_⟩
  obtain ⟨n1, hn1, e1⟩ := atI_mem (ns := [2, 2, 3, 2, 3, 5]) a1 a2
  refine ⟨_, e1, hR _ ?_⟩
  have hn2 : 2 ≤ n1 ∧ n1 ≤ 5 := by
    simp only [List.mem_cons, List.not_mem_nil, or_false] at hn1
    omega
  refine seq_cut fun R hR => ?_
  dsimp? []
  refine hR _ ?_
  generalize hn3 : (if (if most - (cks cs).length + 1 > 2 then most - (cks cs).length + 1 else 2) < n1 then (if most - (cks cs).length + 1 > 2 then most - (cks cs).length + 1 else 2) else n1) = n3
  have hn4 : 2 ≤ n3 ∧ n3 ≤ 5 ∧ (n3 = 2 ∨ n3 ≤ most - cs.length + 1) := by
    rw [List.length_map] at hn3
    subst hn3
    split <;> split <;> omega
  refine seq_cut fun R hR => ?_
  dsimp? [sp__law_draw, muPopAt]
  refine ⟨hp1, by rw [List.length_map]; omega, log_small (by rw [List.length_map]; omega) (by rw [List.length_map]; omega), fun ds2 r2 hp2 b1 b2 => ?_⟩
  rw [List.length_map] at b2
  obtain ⟨j, rfl⟩ := Int.eq_ofNat_of_zero_le b1
  have hj : j < cs.length := by omega
  have ej : (cks cs)[j]? = some (ck cs[j]) := by rw [cks, List.getElem?_map, List.getElem?_eq_getElem hj]; rfl
  obtain ⟨c1, c2, c3, c4⟩ := hcs _ (List.getElem_mem hj)
  refine ⟨b1, by omega, _, ej, ?_⟩
  dsimp? [ck]
  refine hR _ ?_
  have e5 : (cks cs).eraseIdx j = cks (cs.eraseIdx j) := map_erase _ _ _
  rw [Int.toNat_natCast, e5]
  have hl5 : (cs.eraseIdx j).length = cs.length - 1 := by rw [List.length_eraseIdx, if_pos hj]
  have hc5 : ∀ c ∈ cs.eraseIdx j, CkOk 1000 c := fun c hc => hcs c (List.mem_of_mem_eraseIdx hc)
  have hxp : Exq (cs[j] :: cs.eraseIdx j) := hx.perm (erase_perm hj).symm
  have hst : cs.length = 1 → cs[j].1 ≤ 1 := fun e => by
    obtain ⟨P, p1, p2, p3⟩ := hx.2.2.1
    rw [e] at p2
    have : (2 : Nat) ^ 1 = 2 := rfl
    have h4 := Int.le_of_dvd (by omega) (p3 _ (List.getElem_mem hj))
    omega
  have hpe : cs[j] = (cs[j].1, cs[j].2) := rfl
  rw [hpe] at hxp
  clear hpe
  generalize cs[j].1 = st at c1 c2 c4 hxp hst ⊢
  generalize cs[j].2 = re at c3 c4 hxp ⊢
  have hb1 : CMulX st n3 := mulx_ok (a := 30) (b := 30) (by omega) (by omega) (by decide)
  refine seq_cut fun R hR => ?_
  dsimp? []
  refine ⟨hb1, ?_⟩
  split
  · rename_i hgt
    refine ⟨by decide, by decide, ?_, ?_⟩
    · rw [List.length_map, sizeLine_eq]; omega
    have e6 : cks (cs.eraseIdx j) ++ [PyData.tuple [.int st, .int re]] = cks (cs.eraseIdx j ++ [(st, re)]) := by
      simp only [cks, List.map_append]; rfl
    rw [e6]
    refine ⟨srt_cks _, ?_⟩
    rw [sort_cks]
    refine hr _ _ _ _ _ _ hp2 (fun c hc => ?_) ⟨(hxp.perm (List.perm_append_singleton (st, re) (cs.eraseIdx j)).symm).perm (List.mergeSort_perm _ cle).symm, _, rfl⟩ (by rw [List.length_mergeSort, List.length_append, hl5]; simp only [List.length_cons, List.length_nil]; omega) (by
      by_cases e : cs.length = 1
      · have h1 := hst e
        obtain rfl : st = 1 := by omega
        rw [Int.one_mul] at hgt
        omega
      · omega)
    rcases List.mem_append.mp ((List.mergeSort_perm _ cle).mem_iff.mp hc) with z | z
    · exact hc5 c z
    · simp only [List.mem_singleton] at z
      subst z
      exact ⟨c1, c2, c3, c4⟩
  · rename_i hle
    refine hR _ ?_
    dsimp? []
    refine c__law_parts_by (by omega) (by omega) c1 c3 c4 (by omega) fun ms hms hml hpr => ?_
    dsimp? []
    refine ⟨by rw [List.length_map, List.length_map, sizeLine_eq]; omega, ?_⟩
    have e6 : cks (cs.eraseIdx j) ++ cks ms = cks (cs.eraseIdx j ++ ms) := by simp only [cks, List.map_append]
    rw [e6]
    refine hn _ _ _ _ _ hp2 (fun c hc => ?_) (by rw [hpr]; exact hxp.split c1 (by omega)) (by rw [List.length_append, hl5]; omega) (by rw [List.length_append, hl5]; omega)
    rcases List.mem_append.mp hc with z | z
    · exact hc5 c z
    · exact hms c z
theorem vc__law_parts_by : ∀ avs Kr Kx, avs.length = 3 → sp__law_parts_by avs Kr Kx → lsFrom 0 avs = [0] ∧ w__law_parts_by (startEv 8 avs) (kenD [0] Kr Kx) := by
  intro avs Kr Kx hl h
  unfold sp__law_parts_by at h
  split at h
  · rename_i ds least most
    obtain ⟨hp, hl1, hl2, hm1, hm2, q⟩ := h
    refine ⟨rfl, ?_⟩
    dsimp? [w__law_parts_by]
    refine ⟨by decide, by decide, ?_⟩
    refine ⟨fun m e => ∃ ds cs x4 x5 x6, e = [.own true ds, .val (.int least), .val (.int most), .own false (cks cs), x4, x5, x6, .un] ∧ pen3 ds ∧ (∀ c ∈ cs, CkOk 1000 c) ∧ Exq cs ∧ 1 ≤ cs.length ∧ (cs.length : Int) ≤ max least most ∧ m = 100 - cs.length, ⟨_, ds, [(1, 0)], _, _, _, rfl, hp, ?_, Exq.one, by decide, ?_, rfl⟩, ?_⟩
    · intro c hc
      simp only [List.mem_singleton] at hc
      subst hc
      exact ⟨by decide, by decide, by decide, by decide⟩
    · show (1 : Int) ≤ _
      omega
    rintro m e ⟨ds1, cs, x4, x5, x6, rfl, hp1, hcs, hx, hlen1, hlen2, rfl⟩
    have out : ∀ ds', pen3 ds' → least ≤ cs.length → ∀ x4 x5 x6, w__law_parts_by_R1 [.own true ds', .val (.int least), .val (.int most), .own false (cks cs), x4, x5, x6, .un] (kenD [0] Kr Kx) := by
      intro ds' hp' hle x4 x5 x6
      dsimp? [w__law_parts_by_R1]
      refine ⟨srt_cks cs, ?_⟩
      rw [sort_cks]
      exact q _ _ hp' (fun c hc => hcs c ((List.mergeSort_perm cs cle).mem_iff.mp hc)) (by rw [List.length_mergeSort]; exact hlen1) (by rw [List.length_mergeSort]; exact hlen2) ⟨hx.perm (List.mergeSort_perm cs cle).symm, ⟨_, rfl⟩, fun _ => by rw [List.length_mergeSort]; exact hle⟩
    have body : ∀ ds' x4 x5 x6 (k : Ken), pen3 ds' → (cs.length : Int) < max least most → k.rt = (kenD [0] Kr Kx).rt → (k.nx = fun e2 => ∃ m', m' < 100 - cs.length ∧ ∃ ds cs x4 x5 x6, e2 = [.own true ds, .val (.int least), .val (.int most), .own false (cks cs), x4, x5, x6, .un] ∧ pen3 ds ∧ (∀ c ∈ cs, CkOk 1000 c) ∧ Exq cs ∧ 1 ≤ cs.length ∧ (cs.length : Int) ≤ max least most ∧ m' = 100 - cs.length) →
        w__law_parts_by_B1 [.own true ds', .val (.int least), .val (.int most), .own false (cks cs), x4, x5, x6, .un] k := by
      intro ds' x4 x5 x6 k hp' hlt hk1 hk2
      refine b__law_parts_by hp' hm2 hcs hx hlen1 hlt (by omega) (fun ds2 cs2 y4 y5 y6 g1 g2 gx g3 g4 => ?_) (fun ds2 cs2 y3 y4 y5 y6 g1 g2 gx g3 g5 => ?_)
      · rw [hk2]
        exact ⟨_, by omega, ds2, cs2, y4, y5, y6, rfl, g1, g2, gx, by omega, g4, rfl⟩
      · rw [hk1]
        dsimp? []
        exact q _ _ g1 g2 (by omega) (by omega) ⟨gx.1, gx.2, fun _ => by omega⟩
    dsimp? [w__law_parts_by_T1, sp__law_draw]
    split
    · exact body _ _ _ _ _ hp1 (by rename_i z; rw [List.length_map] at z; omega) rfl rfl
    · rename_i z
      have hle : least ≤ cs.length := by rw [List.length_map] at z; omega
      refine ⟨hp1, by decide, by decide, fun ds2 r2 hp2 _ _ => ?_⟩
      split
      · split
        · exact body _ _ _ _ _ hp2 (by rename_i z; rw [List.length_map] at z; omega) rfl rfl
        · exact out _ hp2 hle _ _ _
      · exact out _ hp2 hle _ _ _
  · exact h.elim
end Dl
end L2

/-! The plain half, 3: clocks drawn by ways. -/
namespace L2
namespace Dl
open PySem PySem.Spec PyProof.Rows
local macro_rules | `(tactic| dsimp? [$xs,*] $[$l]?) => `(tactic| simp only [wSeq, wNext, wBreak, wCont, wDrop, wRet, wRetN, wIfS, wSet, wAsgT, e_aug, e_setIx, e_par, e_gN, getS_0, getS_s, setS_0, setS_s, e_var, varK_v, varK_o, varK_u, wC, wBin, rdK_v, rdK_t, rdK_s, rdS_v, rdS_o, rdS_u, fzK_v, fzK_t, fzK_s, fzS_v, fzS_o, fzS_l, fzS_u, e_fz, asg_v, asg_t, asg_s, e_tb, tbK_b, wAnd, wOr, wNot, e_notV, e_andV, e_orV, wBV, wIf, e_neg, intK_i, e_oso, wONo, e_rng1, e_rng2, wFNil, wFCons, wANil, wACons, wTup, wLst, e_callB, rdAllK_n, rdAllK_c, wIsi, e_call, wMNil, wMCons, e_ld, lnsOf, avsK_n, avsK_f, avsK_l, lnS_o, lnS_v, lnS_u, poK_n, poK_c, poS_o, inS_0, inS_s, rsK_v, rsK_o, wSl, e_ownF, e_own0, ownB_o, oS_o, oS_v, oS_u, agS_i, muApp, oAdd_i, oAdd_l, oAdd_t, oAdd_s, oSub_i, oMul_i, oFdiv_i, oMod_i, oPow_i, oShl_i, oShr_i, oOr_i, oAndB_i, oLt_i, oLe_i, oGt_i, oGe_i, oEq_i, oNe_i, oEq, oNe, oIx_l, oIx_t, oLen_l, oLen_t, oInt_i, oInt_b, oMax_i, oMin_i, oList_l, oList_t, oTuple_l, oTuple_t, oSorted_l, oSorted_t, oIs_n, oIsN_n, oIs_b, oIsN_b, isNone_n, isNone_t, isNone_l, isNone_i, isNone_s, isNone_b, oSl_l, oSl_t, oIn, gT_t, gC_c, gNil', e_iseq, sqK_l, sqK_t, e_isq, sq2K_l, sq2K_t, e_sset, ssK_l, ssK_t, e_chain, e_lr1, e_lr2, wRev, rvD_l, rvD_t, e_in1, e_in2, negB_f, negB_t, wIZip, zpK_l, zpK_t, zpK_m, e_extend, extR_t, wYes, startEv, kenD_nx, kenD_rt, kenD_bk, kenD_ct, kenD_ex, outK_n, outK_c, otS_o, rvK_v, rvK_t, rvK_s, rvS_v, rvS_o, slOf, lsFrom, wipeE, restE, List.map_cons, List.map_nil, List.length_cons, List.length_nil, List.replicate, List.append_nil, List.cons_append, List.nil_append, List.getElem?_cons_zero, List.getElem?_cons_succ, List.getElem?_nil, List.set_cons_zero, List.set_cons_succ, List.set_nil, Option.getD_some, Option.getD_none, Option.map_some, Option.map_none, Option.some.injEq, Rs.val.injEq, Rs.tmp.injEq, Rs.slot.injEq, Sl.own.injEq, Sl.val.injEq, PyData.int.injEq, PyData.bool.injEq, PyData.str.injEq, PyData.list.injEq, PyData.tuple.injEq, Prod.mk.injEq, Nat.sub_self, Nat.zero_add, Nat.reduceAdd, Nat.reduceSub, Nat.add_zero, isTy_int_int, isTy_bool_int, isTy_int_bool, isTy_bool_bool, isTy_int_tup, isTy_int_lst, isTy_int_non, isTy_int_str, isTy_tup_tup, isTy_tup_lst, isTy_tup_int, isTy_tup_bool, isTy_tup_non, isTy_tup_str, isTy_lst_lst, isTy_lst_tup, isTy_lst_int, exists_eq_left', exists_eq_left, exists_and_left, exists_eq_right, exists_eq, exists_eq', exists_const, true_and, and_true, and_self, Bool.not_true, Bool.not_false, if_true, if_false, Bool.false_eq_true, reduceIte, reduceCtorEq, List.nodup_nil, decide_eq_true_eq, atI_0, atI_1, atI_2, atI_3, atI_4, atI_5, atI_6, atI_7, atI_8, atI_9, atI_10, atI_11, ixN_3_0, ixN_3_1, ixN_3_2, sh_int, sh_bool, sh_non, and_assoc, nd1, nd_true, eq_self, decide_true, decide_false, Int.cast_ofNat_Int, not_true_eq_false, not_false_eq_true, eqv_ii, eqv_bb, wRaise0, e_raiseG, grK_i, e_raise1, onK_i, e_callX, xa_1, xa_2, xa_3, xa_4, xa_5, xa_6, xa_7, e_many, e_most, e_number, e_row, isLst_l, lsK_l, e_rd, e_br, brS_o, brS_v, arS_o, arS_v, avbK_n, avbK_f, avbK_l, scK_b, scK_i, scK_n, scK_s, e_callS, tmK_t, e_rep, enK_l, e_ienum, wTry, eqv_ss, tpK_v, txK_1, tutK_t, e_repT, e_callT, enTK_t, e_ienumT, r3K_i, e_rng3, e_newD, e_putD, e_lenD, e_listD, dcS_d, dcB_d, pvK_b, pvK_i, tkK_m, tkK_2, e_ssetI, oMinL_c, e_lset, e_lstZ, zlK_c, e_ins, e_callF, $xs,*] $[$l]?)
theorem cks_snoc (ms : List (Int × Int)) (a b : Int) : cks ms ++ [.tuple [.int a, .int b]] = cks (ms ++ [(a, b)]) := by
  simp only [cks, List.map_append]; rfl
theorem ck_more {m : Int} {ms : List (Int × Int)} {a b : Int} (h : ∀ c ∈ ms, CkOk m c) (h1 : 1 ≤ a) (h2 : a ≤ m) (h3 : 0 ≤ b) (h4 : b < a) : ∀ c ∈ ms ++ [(a, b)], CkOk m c := fun c hc => by
  rcases List.mem_append.mp hc with z | z
  · exact h c z
  · simp only [List.mem_singleton] at z
    subst z
    exact ⟨h1, h2, h3, h4⟩
theorem set_same {α : Type} : ∀ {l : List α} {i : Nat} {x : α}, l[i]? = some x → l.set i x = l
  | [], i, x, h => by simp at h
  | a :: l, 0, x, h => by
    have e : a = x := Option.some.inj h
    rw [e]; rfl
  | a :: l, i + 1, x, h => by
    have := set_same (l := l) (i := i) (x := x) h
    show a :: l.set i x = a :: l
    rw [this]
/-- [_law_clock_by(pen, m) for t in ..] -/
theorem clocks_lc {p t : Nat} {m : Int} {K : Ev → List PyData → Prop} (h0 : 0 < m) (hm : m < 2 ^ 60) (hpt : p ≠ t) : ∀ (ds : List PyData) (ms : List (Int × Int)) (env : Ev) (l : Bool) (pen : List PyData), env[p]? = some (.own l pen) → env[t]? = some .un → pen3 pen → (∀ c ∈ ms, CkOk m c) → ms.length + ds.length ≤ 1000 →
    (∀ pen' ms', pen3 pen' → (∀ c ∈ ms', CkOk m c) → ms'.length = ms.length + ds.length → K (env.set p (.own l pen')) (cks ms')) →
    wLcE [t] (gN t) wYes (wCall 2 sp__law_clock_by (wLd p (wMCons (wC (.int m)) wMNil))) ds (cks ms) env K
  | [], ms, env, l, pen, e1, e2, hp, hc, hl, hK => by
    have := hK pen ms hp hc rfl
    rw [set_same e1] at this
    exact this
  | d :: ds, ms, env, l, pen, e1, e2, hp, hc, hl, hK => by
    have ht : t < env.length := (List.getElem?_eq_some_iff.mp e2).1
    have hpl : p < env.length := (List.getElem?_eq_some_iff.mp e1).1
    have g1 : (env.set t (.val d))[p]? = some (.own l pen) := by rw [List.getElem?_set_ne (Ne.symm hpt)]; exact e1
    unfold wLcE
    dsimp? [sp__law_clock_by]
    simp only [setS_eq, getS_at g1, ownB_o, lnS_o, true_and, poK_c _ _ _ _ _ _ ⟨_, g1⟩, poS_o, poK_n]
    refine ⟨hp, h0, hm, fun ds' a b hp' a1 a2 b1 b2 => ⟨?_, ?_⟩⟩
    · rw [List.length_map]
      simp only [List.length_cons] at hl
      exact small1000 (by omega)
    · rw [cks_snoc]
      have es : ((env.set t (.val d)).set p (.own l ds')).set t .un = env.set p (.own l ds') := by
        rw [List.set_comm _ _ (Ne.symm hpt), List.set_set, List.set_comm _ _ hpt, set_same e2]
      rw [es]
      refine clocks_lc h0 hm hpt ds _ _ l ds' (List.getElem?_set_self hpl) (by rw [List.getElem?_set_ne hpt]; exact e2) hp' (ck_more hc a1 a2 b1 b2) (by simp only [List.length_cons, List.length_append, List.length_nil] at hl ⊢; omega) fun pen' ms' h1 h2 h3 => ?_
      rw [List.set_set]
      exact hK pen' ms' h1 h2 (by simp only [List.length_cons, List.length_append, List.length_nil] at h3 ⊢; omega)
theorem cutD_cks (cs : List (Int × Int)) (lo hi : Option Int) : cutD (cks cs) lo hi = cks (cutD cs lo hi) := by
  unfold cutD cks
  rw [List.length_map, List.map_take, List.map_drop]
theorem cutD_to (cs : List (Int × Int)) (m : Nat) : cutD cs none (some (m : Int)) = cs.take m := by
  unfold cutD
  rw [HT.sIx_none, HT.sIx_nat, List.drop_zero, Nat.sub_zero, List.take_eq_take_iff]
  omega
/-- small steps, or a small round -/
def CB (cs : List (Int × Int)) : Prop := (∀ c ∈ cs, c.1 ≤ 12) ∨ ∃ P : Nat, 1 ≤ P ∧ P ≤ 1000 ∧ ∀ c ∈ cs, c.1 ∣ (P : Int)
theorem CB.sub {cs ds : List (Int × Int)} (h : CB cs) (k : ∀ c ∈ ds, c ∈ cs) : CB ds := by
  rcases h with h | ⟨P, h1, h2, h3⟩
  · exact .inl fun c hc => h c (k c hc)
  · exact .inr ⟨P, h1, h2, fun c hc => h3 c (k c hc)⟩
theorem TwP.cb {cs : List (Int × Int)} (h : TwP cs) (hl : cs.length ≤ 7) : ∃ P : Nat, 1 ≤ P ∧ P ≤ 64 ∧ ∀ c ∈ cs, c.1 ∣ (P : Int) := by
  obtain ⟨P, h1, h2, h3⟩ := h.1
  have : 2 ^ cs.length ≤ 2 ^ 7 := Nat.pow_le_pow_right (by decide) hl
  have e : (2 : Nat) ^ 7 = 128 := rfl
  exact ⟨P, h1, by omega, h3⟩
def sp__law_clocks_by : Spc := fun avs Kr _ => match avs with
  | [.own ds, .val (.int most)] => pen3 ds ∧ 1 ≤ most ∧ most ≤ 40 ∧ ∀ ds' cs, pen3 ds' → (∀ c ∈ cs, CkOk 1000 c) → cs.Nodup → cs.Pairwise clt → (cs.length : Int) ≤ most → (most ≤ 8 → CB cs) → Kr [ds'] (.val (.tuple (cks cs)))
  | _ => False
def w__law_clocks_by_C1 : WE :=
  wLc [5] (wIRng1 (wCall 2 sp__law_draw (wLd 0 (wMCons (wBin oAdd (wVar 1) (wC (.int 1))) wMNil)))) (gN 5) wYes (wCall 2 sp__law_clock_by (wLd 0 (wMCons (wC (.int 12)) wMNil)))
def w__law_clocks_by_B1 : WS :=
  (wSeq (wSet 6 (wBin oIx (wVar 4) (wCall 2 sp__law_draw (wLd 0 (wMCons (wC (.int 7)) wMNil)))))
    (wDrop (wOwnF 3 (wTup (wFCons (wVar 6) (wFCons (wCall 2 sp__law_draw (wLd 0 (wMCons (wVar 6) wMNil))) wFNil))) muApp)))
def w__law_clocks_by_L1 : WS :=
  wFor (wIRng1 (wCall 2 sp__law_draw (wLd 0 (wMCons (wBin oAdd (wVar 1) (wC (.int 1))) wMNil)))) (gN 5) w__law_clocks_by_B1
def w__law_clocks_by_R1 : WS :=
  (wIfS (wTB (wBin oEq (wVar 2) (wC (.int 4)))) (wDrop (wOwnF 3 (wCall 2 sp__law_draw (wLd 0 (wMCons (wCallB oLen (wACons (wVar 3) wANil)) wMNil))) muPopAt)) wNext)
def w__law_clocks_by_R2 : WS :=
  (wRet (wSl (wCallB oTuple (wACons (wSortSet (wVar 3)) wANil)) wONo (wOSo (wVar 1))))
/-- _law_clocks_by: 0 pen, 1 most, 2 way, 3 found, 4 steps, 5 turn, 6 step -/
def w__law_clocks_by : WS :=
  (wSeq (wSet 2 (wCall 2 sp__law_draw (wLd 0 (wMCons (wC (.int 5)) wMNil))))
    (wSeq (wIfS (wTB (wBin oEq (wVar 2) (wC (.int 0)))) (wSet 3 w__law_clocks_by_C1) (wIfS (wTB (wBin oEq (wVar 2) (wC (.int 1)))) (wSeq (wSet 4 (wLst (wFCons (wC (.int 2)) (wFCons (wC (.int 3)) (wFCons (wC (.int 4)) (wFCons (wC (.int 6)) (wFCons (wC (.int 8)) (wFCons (wC (.int 12)) (wFCons (wC (.int 24)) wFNil)))))))))
    (wSeq (wSet 3 (wLst wFNil))
    w__law_clocks_by_L1)) (wSeq (wSet 3 (wCall 3 sp__law_parts_by (wLd 0 (wMCons (wC (.int 1)) (wMCons (wCallB oMax (wACons (wC (.int 1)) (wACons (wBin oSub (wVar 1) (wC (.int 1))) wANil))) wMNil)))))
    (wSeq (wIfS (wTB (wBin oEq (wVar 2) (wC (.int 3)))) (wSet 3 (wBin oAdd (wVar 3) (wLst (wFCons (wCall 2 sp__law_clock_by (wLd 0 (wMCons (wC (.int 6)) wMNil))) wFNil)))) wNext)
    w__law_clocks_by_R1))))
    w__law_clocks_by_R2))

theorem ck_mono {m n : Int} (h : m ≤ n) {cs : List (Int × Int)} (hc : ∀ c ∈ cs, CkOk m c) : ∀ c ∈ cs, CkOk n c := fun c z => by
  obtain ⟨h1, h2, h3, h4⟩ := hc c z
  exact ⟨h1, by omega, h3, h4⟩
/-- tuple(sorted(set(clocks)))[:most] -/
theorem ss_clocks {cs : List (Int × Int)} {K : Rs → Prop} {m : Int} (hm : m ≤ 2 ^ 60) (hc : ∀ c ∈ cs, CkOk m c) (hl : cs.length < 64) (h : ∀ ms : List (Int × Int), ms.Nodup → (∀ c, c ∈ ms ↔ c ∈ cs) → ms.Pairwise clt → K (.tmp (cks ms))) : oSortSet (cks cs) K :=
  sortSet_cks (B := m + 1) (fun c z => by
    obtain ⟨h1, h2, h3, h4⟩ := hc c z
    exact ⟨by omega, by omega, h3, by omega⟩) hl h
theorem r__law_clocks_by {ds : List PyData} {most : Int} {cs : List (Int × Int)} {x2 x4 x5 x6 : Sl} {k : Ken} (hp : pen3 ds) (h1 : 0 ≤ most) (hcs : ∀ c ∈ cs, CkOk 1000 c) (hl : cs.length < 64) (hb : most ≤ 8 → CB cs)
    (hr : ∀ cs x3, (∀ c ∈ cs, CkOk 1000 c) → cs.Nodup → cs.Pairwise clt → (cs.length : Int) ≤ most → (most ≤ 8 → CB cs) → k.rt [.own true ds, .val (.int most), x2, x3, x4, x5, x6] (.val (.tuple (cks cs)))) :
    w__law_clocks_by_R2 [.own true ds, .val (.int most), x2, .own false (cks cs), x4, x5, x6] k := by
  dsimp? [w__law_clocks_by_R2]
  refine ss_clocks (m := 1000) (by decide) hcs hl fun ms nd mem pw => ?_
  dsimp? []
  obtain ⟨m, rfl⟩ := Int.eq_ofNat_of_zero_le h1
  rw [cutD_cks, cutD_to]
  exact hr _ _ (fun c hc => hcs c ((mem c).mp (List.mem_of_mem_take hc))) (nd.sublist (List.take_sublist _ _)) (pw.sublist (List.take_sublist _ _)) (by rw [List.length_take]; omega) (fun h => (hb h).sub fun c hc => (mem c).mp (List.mem_of_mem_take hc))
theorem vc__law_clocks_by : ∀ avs Kr Kx, avs.length = 2 → sp__law_clocks_by avs Kr Kx → lsFrom 0 avs = [0] ∧ w__law_clocks_by (startEv 7 avs) (kenD [0] Kr Kx) := by
  intro avs Kr Kx hl h
  unfold sp__law_clocks_by at h
  split at h
  · rename_i ds most
    obtain ⟨hp, hm1, hm2, q⟩ := h
    refine ⟨rfl, ?_⟩
    have fin : ∀ (ds : List PyData) (cs : List (Int × Int)) (x2 x4 x5 x6 : Sl), pen3 ds → (∀ c ∈ cs, CkOk 1000 c) → cs.length < 64 → (most ≤ 8 → CB cs) → w__law_clocks_by_R2 [.own true ds, .val (.int most), x2, .own false (cks cs), x4, x5, x6] (kenD [0] Kr Kx) := by
      intro ds cs x2 x4 x5 x6 hp hc hl hb
      refine r__law_clocks_by hp (by omega) hc hl hb fun cs x3 a1 a2 a3 a4 a5 => ?_
      dsimp? []
      exact q _ _ hp a1 a2 a3 a4 a5
    unfold w__law_clocks_by
    refine seq_cut fun R hR => ?_
    dsimp? [sp__law_draw]
    refine ⟨hp, by decide, by decide, fun ds1 way hp1 w0 w5 => hR _ ?_⟩
    refine seq_cut fun R hR => ?_
    dsimp? []
    split
    · dsimp? [w__law_clocks_by_C1, wLc, sp__law_draw]
      refine ⟨hp1, by omega, log_small (by omega) (by omega), fun ds2 n hp2 n0 n1 => ⟨by omega, by omega, ?_⟩⟩
      refine clocks_lc (p := 0) (l := true) (pen := ds2) (by decide) (by decide) (by decide) _ [] _ rfl rfl hp2 (fun _ z => (by cases z)) (by rw [List.length_map, List.length_range]; simp; omega) fun ds3 ms hp3 hms hml => ?_
      dsimp? []
      refine hR _ ?_
      refine fin _ _ _ _ _ _ hp3 (ck_mono (by decide) hms) ?_ (fun _ => .inl fun c hc => (hms c hc).2.1)
      rw [hml, List.length_map, List.length_range]
      simp
      omega
    · split
      · dsimp? [w__law_clocks_by_L1, wFor, sp__law_draw]
        refine ⟨by decide, by decide, hp1, by omega, log_small (by omega) (by omega), fun ds2 n hp2 n0 n1 => ⟨by omega, by omega, ?_⟩⟩
        refine wEach_ind (fun ds' e => ∃ pen cs x5 x6, e = [.own true pen, .val (.int most), .val (.int way), .own false (cks cs), .own false [.int 2, .int 3, .int 4, .int 6, .int 8, .int 12, .int 24], x5, x6] ∧ pen3 pen ∧ (∀ c ∈ cs, CkOk 1000 c) ∧ cs.length + ds'.length < 64 ∧ ∀ c ∈ cs, c.1 ∣ ((24 : Nat) : Int)) ?_ ?_ _ _ ⟨ds2, [], _, _, rfl, hp2, fun _ z => (by cases z), by rw [List.length_map, List.length_range]; simp; omega, fun _ z => (by cases z)⟩
        · rintro e ⟨pen, cs, x5, x6, rfl, g1, g2, g3, g24⟩
          refine hR _ ?_
          exact fin _ _ _ _ _ _ g1 g2 (by simpa using g3) (fun _ => .inr ⟨24, by decide, by decide, g24⟩)
        · rintro d r e ⟨pen, cs, x5, x6, rfl, g1, g2, g3, g24⟩ ih
          dsimp? [w__law_clocks_by_B1, sp__law_draw]
          refine ⟨g1, by decide, by decide, fun pen2 i g4 i0 i7 => ?_⟩
          obtain ⟨n1, hn1, e1⟩ := atI_mem (ns := [2, 3, 4, 6, 8, 12, 24]) i0 i7
          refine ⟨_, e1, ?_⟩
          dsimp? []
          have hn2 : 2 ≤ n1 ∧ n1 ≤ 24 := by
            simp only [List.mem_cons, List.not_mem_nil, or_false] at hn1
            omega
          have hn24 : n1 ∣ ((24 : Nat) : Int) := by
            simp only [List.mem_cons, List.not_mem_nil, or_false] at hn1
            rcases hn1 with rfl | rfl | rfl | rfl | rfl | rfl | rfl <;> decide
          refine ⟨g4, by omega, log_small (by omega) (by omega), fun pen3 r3 g5 r0 r1 => ⟨by decide, ?_, ?_⟩⟩
          · simp only [List.length_cons] at g3
            rw [List.length_map, sizeLine_eq]; omega
          · rw [cks_snoc]
            exact ih _ ⟨_, _, _, _, rfl, g5, ck_more g2 (by omega) (by omega) r0 r1, by simp only [List.length_cons, List.length_append, List.length_nil] at g3 ⊢; omega, fun c hc => by
              rcases List.mem_append.mp hc with z | z
              · exact g24 c z
              · rw [List.mem_singleton] at z
                subst z
                exact hn24⟩
      · dsimp? [sp__law_parts_by, sp__law_clock_by]
        refine ⟨hp1, by decide, by decide, ?_⟩
        have hq : 1 ≤ (if most - 1 > 1 then most - 1 else 1) ∧ (if most - 1 > 1 then most - 1 else 1) ≤ 40 := by split <;> omega
        refine ⟨hq.1, hq.2, fun ds2 cs hp2 hcs c1 c2 hx => ?_⟩
        have cb : most ≤ 8 → ∃ P : Nat, 1 ≤ P ∧ P ≤ 64 ∧ ∀ c ∈ cs, c.1 ∣ (P : Int) := fun h8 => hx.1.2.2.cb (by clear hx; omega)
        have cb0 : most ≤ 8 → CB cs := fun h8 => by
          obtain ⟨P, p1, p2, p3⟩ := cb h8
          exact .inr ⟨P, p1, by omega, p3⟩
        have c3 : cs.length ≤ 40 := by clear hx cb cb0; omega
        split
        · refine ⟨hp2, by decide, by decide, fun ds3 a b hp3 a1 a2 b1 b2 => ⟨by decide, ?_, ?_⟩⟩
          · rw [List.length_map, sizeLine_eq]; omega
          · dsimp? [w__law_clocks_by_R1]
            rename_i hw
            rw [if_neg (by omega), cks_snoc]
            refine hR _ ?_
            exact fin _ _ _ _ _ _ hp3 (ck_more hcs a1 (by omega) b1 b2) (by simp only [List.length_append, List.length_cons, List.length_nil]; omega) (fun h8 => by
              obtain ⟨P, p1, p2, p3⟩ := cb h8
              obtain ⟨a', rfl⟩ := Int.eq_ofNat_of_zero_le (show 0 ≤ a by omega)
              refine .inr ⟨P * a', Nat.mul_pos p1 (by omega), Nat.le_trans (Nat.mul_le_mul p2 (show a' ≤ 6 by omega)) (by decide), fun c hc => ?_⟩
              rw [Int.natCast_mul]
              rcases List.mem_append.mp hc with z | z
              · exact Int.dvd_trans (p3 c z) (Int.dvd_mul_right _ _)
              · rw [List.mem_singleton] at z
                subst z
                exact Int.dvd_mul_left _ _)
        · dsimp? [w__law_clocks_by_R1, sp__law_draw, muPopAt]
          split
          · refine ⟨hp2, by rw [List.length_map]; omega, log_small (by rw [List.length_map]; omega) (by rw [List.length_map]; omega), fun ds3 j hp3 j0 j1 => ?_⟩
            rw [List.length_map] at j1
            obtain ⟨j, rfl⟩ := Int.eq_ofNat_of_zero_le j0
            have hj : j < cs.length := by omega
            refine ⟨j0, by omega, _, (by rw [Int.toNat_natCast, cks, List.getElem?_map, List.getElem?_eq_getElem hj]; rfl), ?_⟩
            rw [Int.toNat_natCast, map_erase]
            refine hR _ ?_
            exact fin _ _ _ _ _ _ hp3 (fun c hc => hcs c (List.mem_of_mem_eraseIdx hc)) (by rw [List.length_eraseIdx]; split <;> omega) (fun h8 => (cb0 h8).sub fun c hc => List.mem_of_mem_eraseIdx hc)
          · refine hR _ ?_
            exact fin _ _ _ _ _ _ hp2 hcs (by omega) cb0
  · exact h.elim
end Dl
end L2

/-! The plain half, 4: comprehensions without deeds; rounds, shares. -/
namespace L2
namespace Dl
open PySem PySem.Spec PyProof.Rows
local macro_rules | `(tactic| dsimp? [$xs,*] $[$l]?) => `(tactic| simp only [wSeq, wNext, wBreak, wCont, wDrop, wRet, wRetN, wIfS, wSet, wAsgT, e_aug, e_setIx, e_par, e_gN, getS_0, getS_s, setS_0, setS_s, e_var, varK_v, varK_o, varK_u, wC, wBin, rdK_v, rdK_t, rdK_s, rdS_v, rdS_o, rdS_u, fzK_v, fzK_t, fzK_s, fzS_v, fzS_o, fzS_l, fzS_u, e_fz, asg_v, asg_t, asg_s, e_tb, tbK_b, wAnd, wOr, wNot, e_notV, e_andV, e_orV, wBV, wIf, e_neg, intK_i, e_oso, wONo, e_rng1, e_rng2, wFNil, wFCons, wANil, wACons, wTup, wLst, e_callB, rdAllK_n, rdAllK_c, wIsi, e_call, wMNil, wMCons, e_ld, lnsOf, avsK_n, avsK_f, avsK_l, lnS_o, lnS_v, lnS_u, poK_n, poK_c, poS_o, inS_0, inS_s, rsK_v, rsK_o, wSl, e_ownF, e_own0, ownB_o, oS_o, oS_v, oS_u, agS_i, muApp, oAdd_i, oAdd_l, oAdd_t, oAdd_s, oSub_i, oMul_i, oFdiv_i, oMod_i, oPow_i, oShl_i, oShr_i, oOr_i, oAndB_i, oLt_i, oLe_i, oGt_i, oGe_i, oEq_i, oNe_i, oEq, oNe, oIx_l, oIx_t, oLen_l, oLen_t, oInt_i, oInt_b, oMax_i, oMin_i, oList_l, oList_t, oTuple_l, oTuple_t, oSorted_l, oSorted_t, oIs_n, oIsN_n, oIs_b, oIsN_b, isNone_n, isNone_t, isNone_l, isNone_i, isNone_s, isNone_b, oSl_l, oSl_t, oIn, gT_t, gC_c, gNil', e_iseq, sqK_l, sqK_t, e_isq, sq2K_l, sq2K_t, e_sset, ssK_l, ssK_t, e_chain, e_lr1, e_lr2, wRev, rvD_l, rvD_t, e_in1, e_in2, negB_f, negB_t, wIZip, zpK_l, zpK_t, zpK_m, e_extend, extR_t, wYes, startEv, kenD_nx, kenD_rt, kenD_bk, kenD_ct, kenD_ex, outK_n, outK_c, otS_o, rvK_v, rvK_t, rvK_s, rvS_v, rvS_o, slOf, lsFrom, wipeE, restE, List.map_cons, List.map_nil, List.length_cons, List.length_nil, List.replicate, List.append_nil, List.cons_append, List.nil_append, List.getElem?_cons_zero, List.getElem?_cons_succ, List.getElem?_nil, List.set_cons_zero, List.set_cons_succ, List.set_nil, Option.getD_some, Option.getD_none, Option.map_some, Option.map_none, Option.some.injEq, Rs.val.injEq, Rs.tmp.injEq, Rs.slot.injEq, Sl.own.injEq, Sl.val.injEq, PyData.int.injEq, PyData.bool.injEq, PyData.str.injEq, PyData.list.injEq, PyData.tuple.injEq, Prod.mk.injEq, Nat.sub_self, Nat.zero_add, Nat.reduceAdd, Nat.reduceSub, Nat.add_zero, isTy_int_int, isTy_bool_int, isTy_int_bool, isTy_bool_bool, isTy_int_tup, isTy_int_lst, isTy_int_non, isTy_int_str, isTy_tup_tup, isTy_tup_lst, isTy_tup_int, isTy_tup_bool, isTy_tup_non, isTy_tup_str, isTy_lst_lst, isTy_lst_tup, isTy_lst_int, exists_eq_left', exists_eq_left, exists_and_left, exists_eq_right, exists_eq, exists_eq', exists_const, true_and, and_true, and_self, Bool.not_true, Bool.not_false, if_true, if_false, Bool.false_eq_true, reduceIte, reduceCtorEq, List.nodup_nil, decide_eq_true_eq, atI_0, atI_1, atI_2, atI_3, atI_4, atI_5, atI_6, atI_7, atI_8, atI_9, atI_10, atI_11, ixN_3_0, ixN_3_1, ixN_3_2, sh_int, sh_bool, sh_non, and_assoc, nd1, nd_true, eq_self, decide_true, decide_false, Int.cast_ofNat_Int, not_true_eq_false, not_false_eq_true, eqv_ii, eqv_bb, wRaise0, e_raiseG, grK_i, e_raise1, onK_i, e_callX, xa_1, xa_2, xa_3, xa_4, xa_5, xa_6, xa_7, e_many, e_most, e_number, e_row, isLst_l, lsK_l, e_rd, e_br, brS_o, brS_v, arS_o, arS_v, avbK_n, avbK_f, avbK_l, scK_b, scK_i, scK_n, scK_s, e_callS, tmK_t, e_rep, enK_l, e_ienum, wTry, eqv_ss, tpK_v, txK_1, tutK_t, e_repT, e_callT, enTK_t, e_ienumT, r3K_i, e_rng3, e_newD, e_putD, e_lenD, e_listD, dcS_d, dcB_d, pvK_b, pvK_i, tkK_m, tkK_2, e_ssetI, oMinL_c, e_lset, e_lstZ, zlK_c, e_ins, e_callF, $xs,*] $[$l]?)
/-- a comprehension that changes nothing -/
theorem lc_fm {β : Type} {vs : List Nat} {g : WG} {ct : WT} {we : WE} {K : Ev → List PyData → Prop} {env : Ev} (en : β → PyData) (f : β → Option PyData) : ∀ (xs : List β) (acc : List PyData),
    (∀ x ∈ xs, ∀ (A : PyData → Ev → Prop) (N : Ev → Prop), (match f x with | some y => A y env | none => N env) → g (en x) env (fun e1 => ct e1 (fun e2 b => if b = true then wFz we e2 (fun e3 y => A y (wipeE e3 vs)) NoX else N (wipeE e2 vs)) NoX)) →
    acc.length + xs.length ≤ sizeLine → K env (acc ++ xs.filterMap f) → wLcE vs g ct we (xs.map en) acc env K
  | [], acc, h, hl, hK => by
    rw [List.filterMap_nil, List.append_nil] at hK
    exact hK
  | x :: xs, acc, h, hl, hK => by
    show g (en x) env (fun e1 => ct e1 (fun e2 b => if b = true then wFz we e2 (fun e3 y => acc.length < sizeLine ∧ wLcE vs g ct we (xs.map en) (acc ++ [y]) (wipeE e3 vs) K) NoX else wLcE vs g ct we (xs.map en) acc (wipeE e2 vs) K) NoX)
    refine h x List.mem_cons_self (fun y e => acc.length < sizeLine ∧ wLcE vs g ct we (xs.map en) (acc ++ [y]) e K) (fun e => wLcE vs g ct we (xs.map en) acc e K) ?_
    simp only [List.length_cons] at hl
    cases e : f x with
    | some y =>
      refine ⟨by omega, lc_fm en f xs _ (fun x hx => h x (List.mem_cons_of_mem _ hx)) (by simp only [List.length_append, List.length_cons, List.length_nil]; omega) ?_⟩
      rw [List.filterMap_cons_some e] at hK
      rw [List.append_assoc]
      exact hK
    | none =>
      rw [List.filterMap_cons_none e] at hK
      exact lc_fm en f xs _ (fun x hx => h x (List.mem_cons_of_mem _ hx)) (by omega) hK
/-- without an if -/
theorem lc_map {β : Type} {vs : List Nat} {g : WG} {we : WE} {K : Ev → List PyData → Prop} {env : Ev} (en : β → PyData) (f : β → PyData) (xs : List β)
    (h : ∀ x ∈ xs, ∀ (A : PyData → Ev → Prop), A (f x) env → g (en x) env (fun e1 => wFz we e1 (fun e3 y => A y (wipeE e3 vs)) NoX))
    (hl : xs.length ≤ sizeLine) (hK : K env (xs.map f)) : wLcE vs g wYes we (xs.map en) [] env K := by
  refine lc_fm en (fun x => some (f x)) xs [] (fun x hx A N hA => ?_) (by simpa using hl) ?_
  · refine h x hx A hA
  · rw [List.nil_append, List.filterMap_eq_map']
    exact hK

/-! ### rounds -/
def prodS : List (Int × Int) → Int
  | [] => 1
  | c :: cs => c.1 * prodS cs
/-- the round, by the loop -/
def rnd (f : Int) : List (Int × Int) → Int
  | [] => f
  | c :: cs => rnd (f * c.1 / (Int.gcd f c.1 : Nat)) cs
theorem lcm_eq {f s : Int} (hf : 0 < f) (hs : 0 < s) : f * s / (Int.gcd f s : Nat) = (Int.lcm f s : Nat) := by
  have h := Int.gcd_mul_lcm f s
  have hg : 0 < Int.gcd f s := Int.gcd_pos_of_ne_zero_left s (Int.ne_of_gt hf)
  refine Int.ediv_eq_of_eq_mul_right (by omega) ?_
  have h2 : (Int.gcd f s : Int) * (Int.lcm f s : Int) = (f.natAbs : Int) * (s.natAbs : Int) := by exact_mod_cast h
  rw [Int.natAbs_of_nonneg (by omega), Int.natAbs_of_nonneg (by omega)] at h2
  exact h2.symm
theorem prodS_pos : ∀ {cs : List (Int × Int)}, (∀ c ∈ cs, 1 ≤ c.1) → 1 ≤ prodS cs
  | [], _ => by decide
  | c :: cs, h => by
    have h1 := h c List.mem_cons_self
    have h2 := prodS_pos fun c hc => h c (List.mem_cons_of_mem _ hc)
    have := Int.mul_pos (show 0 < c.1 by omega) (show 0 < prodS cs by omega)
    show 1 ≤ c.1 * prodS cs
    omega
theorem prodS_dvd : ∀ {cs : List (Int × Int)}, ∀ c ∈ cs, c.1 ∣ prodS cs
  | c :: cs, d, h => by
    rcases List.mem_cons.mp h with z | z
    · subst z; exact Int.dvd_mul_right _ _
    · exact Int.dvd_trans (prodS_dvd d z) (Int.dvd_mul_left _ _)
theorem rnd_spec : ∀ (cs : List (Int × Int)) (f : Int), 0 < f → (∀ c ∈ cs, 1 ≤ c.1) → 0 < rnd f cs ∧ f ∣ rnd f cs ∧ (∀ c ∈ cs, c.1 ∣ rnd f cs) ∧ ∀ m, f ∣ m → (∀ c ∈ cs, c.1 ∣ m) → rnd f cs ∣ m
  | [], f, hf, _ => ⟨hf, Int.dvd_refl _, fun _ h => (by cases h), fun m h _ => h⟩
  | c :: cs, f, hf, hc => by
    have hc1 := hc c List.mem_cons_self
    have e := lcm_eq hf (show 0 < c.1 by omega)
    show 0 < rnd (f * c.1 / (Int.gcd f c.1 : Nat)) cs ∧ f ∣ rnd (f * c.1 / (Int.gcd f c.1 : Nat)) cs ∧ _ ∧ ∀ m, f ∣ m → _ → rnd (f * c.1 / (Int.gcd f c.1 : Nat)) cs ∣ m
    rw [e]
    have hp : 0 < Int.lcm f c.1 := Int.lcm_pos (by omega) (by omega)
    obtain ⟨h1, h2, h3, h4⟩ := rnd_spec cs (Int.lcm f c.1 : Nat) (by omega) fun d hd => hc d (List.mem_cons_of_mem _ hd)
    refine ⟨h1, Int.dvd_trans (Int.dvd_lcm_left _ _) h2, fun d hd => ?_, fun m hm1 hm2 => ?_⟩
    · show d.1 ∣ rnd (f * c.1 / (Int.gcd f c.1 : Nat)) cs
      rw [e]
      rcases List.mem_cons.mp hd with z | z
      · subst z; exact Int.dvd_trans (Int.dvd_lcm_right _ _) h2
      · exact h3 d z
    · refine h4 m ?_ fun d hd => hm2 d (List.mem_cons_of_mem _ hd)
      have q : (Int.lcm f c.1 : Int) ∣ m := by
        have a1 : f ∣ ((m.natAbs : Nat) : Int) := Int.dvd_natAbs.mpr hm1
        have a2 : c.1 ∣ ((m.natAbs : Nat) : Int) := Int.dvd_natAbs.mpr (hm2 c List.mem_cons_self)
        exact Int.dvd_natAbs.mp (Int.natCast_dvd_natCast.mpr (Int.lcm_dvd a1 a2))
      exact q
theorem rnd_le {cs : List (Int × Int)} {f : Int} (hf : 0 < f) (hc : ∀ c ∈ cs, 1 ≤ c.1) : rnd f cs ≤ f * prodS cs := by
  have hp := prodS_pos hc
  refine Int.le_of_dvd (Int.mul_pos hf (by omega)) ((rnd_spec cs f hf hc).2.2.2 _ (Int.dvd_mul_right _ _) fun c h => Int.dvd_trans (prodS_dvd c h) (Int.dvd_mul_left _ _))
theorem nab_lt {x y : Int} {b : Nat} (h0 : 0 ≤ x) (h : x ≤ y) (hy : y.natAbs < b) : x.natAbs < b := by omega
theorem log_of {x : Int} (h0 : 0 < x) (h : x.natAbs < 2 ^ 8000) : x.natAbs.log2 < 9000 :=
  Nat.lt_trans ((Nat.log2_lt (by omega)).mpr h) (by decide)
/-- clocks in a list or a tuple, of steps from 1 on, of no overgreat product -/
def RndOk (ds : List PyData) (Q : List (Int × Int) → Prop) : Prop := ∃ cs, ds = cks cs ∧ (∀ c ∈ cs, 1 ≤ c.1) ∧ (prodS cs).natAbs < 2 ^ 8000 ∧ Q cs
def sp_round_of : Spc := fun avs Kr _ => match avs with
  | [.val (.tuple ds)] => RndOk ds fun cs => Kr [] (.val (.int (rnd 1 cs)))
  | [.val (.list ds)] => RndOk ds fun cs => Kr [] (.val (.int (rnd 1 cs)))
  | _ => False
def w_round_of_B1 : WS :=
  (wSet 1 (wBin oFdiv (wBin oMul (wVar 1) (wVar 2)) (wCall 2 sp_divisor_of (wMCons (wVar 1) (wMCons (wVar 2) wMNil)))))
def w_round_of_L1 : WS :=
  wFor (wISeq (wVar 0)) (gT 2 (gCons' (gN 2) (gCons' (gN 3) gNil'))) w_round_of_B1
def w_round_of_R1 : WS :=
  (wRet (wVar 1))
/-- round_of: 0 clocks, 1 found, 2 step, 3 rest -/
def w_round_of : WS :=
  (wSeq (wSet 1 (wC (.int 1)))
    (wSeq w_round_of_L1
    w_round_of_R1))

theorem l_round_of {d : PyData} {x2 x3 : Sl} {cs : List (Int × Int)} {k : Ken} (hd : d = .tuple (cks cs) ∨ d = .list (cks cs)) (hc : ∀ c ∈ cs, 1 ≤ c.1) (hb : (prodS cs).natAbs < 2 ^ 8000) (hk : ∀ x2 x3, k.nx [.val d, .val (.int (rnd 1 cs)), x2, x3]) : w_round_of_L1 [.val d, .val (.int 1), x2, x3] k := by
  have main : wEach (gT 2 (gCons' (gN 2) (gCons' (gN 3) gNil'))) w_round_of_B1 (cks cs) [.val d, .val (.int 1), x2, x3] k := by
    refine wEach_ind (fun ds e => ∃ (f : Int) (r : List (Int × Int)) (x2 x3 : Sl), ds = cks r ∧ e = [.val d, .val (.int f), x2, x3] ∧ 0 < f ∧ (∀ c ∈ r, 1 ≤ c.1) ∧ f * prodS r ≤ prodS cs ∧ rnd f r = rnd 1 cs) ?_ ?_ _ _ ⟨1, cs, x2, x3, rfl, rfl, by decide, hc, by omega, rfl⟩
    · rintro e ⟨f, r, x2, x3, h1, rfl, h3, h4, h5, h6⟩
      cases r with
      | cons _ _ => cases h1
      | nil =>
        have e : f = rnd 1 cs := h6
        rw [e]
        exact hk _ _
    · rintro d0 r0 e ⟨f, r, x2, x3, h1, rfl, h3, h4, h5, h6⟩ ih
      cases r with
      | nil => cases h1
      | cons c r =>
        cases h1
        have c1 := h4 c List.mem_cons_self
        have hr : ∀ c ∈ r, 1 ≤ c.1 := fun c hc => h4 c (List.mem_cons_of_mem _ hc)
        have hp := prodS_pos hr
        have e1 : f * prodS (c :: r) = f * c.1 * prodS r := (Int.mul_assoc _ _ _).symm
        have hfc : 0 < f * c.1 := Int.mul_pos h3 (by omega)
        have q1 : f * c.1 ≤ f * c.1 * prodS r := by
          have := Int.mul_le_mul_of_nonneg_left hp (show 0 ≤ f * c.1 by omega)
          rwa [Int.mul_one] at this
        have q2 : f ≤ f * c.1 := by
          have := Int.mul_le_mul_of_nonneg_left c1 (show 0 ≤ f by omega)
          rwa [Int.mul_one] at this
        have q3 : c.1 ≤ f * c.1 := by
          have := Int.mul_le_mul_of_nonneg_right (show 1 ≤ f by omega) (show 0 ≤ c.1 by omega)
          rwa [Int.one_mul] at this
        rw [e1] at h5
        have bf : f.natAbs < 2 ^ 8000 := nab_lt (by omega) (by omega) hb
        have bc : c.1.natAbs < 2 ^ 8000 := nab_lt (by omega) (by omega) hb
        have hg : 0 < Int.gcd f c.1 := Int.gcd_pos_of_ne_zero_left _ (by omega)
        have hgl : (Int.gcd f c.1 : Int) ≤ f := Int.gcd_le_left _ h3
        dsimp? [w_round_of_B1, ck, sp_divisor_of]
        refine ⟨mulx_ok bf bc (by decide), by omega, by omega, by omega, log_of (by omega) (nab_lt (by omega) hgl bf), ih _ ⟨_, r, _, _, rfl, rfl, ?_, hr, ?_, h6⟩⟩
        · rw [lcm_eq h3 (by omega)]
          have := Int.lcm_pos (show f ≠ 0 by omega) (show c.1 ≠ 0 by omega)
          omega
        · have d1 : f * c.1 / (Int.gcd f c.1 : Nat) ≤ f * c.1 := by
            rw [lcm_eq h3 (by omega)]
            exact Int.le_of_dvd hfc (by
              have a1 : f ∣ (((f * c.1).natAbs : Nat) : Int) := Int.dvd_natAbs.mpr (Int.dvd_mul_right _ _)
              have a2 : c.1 ∣ (((f * c.1).natAbs : Nat) : Int) := Int.dvd_natAbs.mpr (Int.dvd_mul_left _ _)
              exact Int.dvd_natAbs.mp (Int.natCast_dvd_natCast.mpr (Int.lcm_dvd a1 a2)))
          exact Int.le_trans (Int.mul_le_mul_of_nonneg_right d1 (by omega)) h5
  rcases hd with rfl | rfl
  · dsimp? [w_round_of_L1, wFor]
    exact main
  · dsimp? [w_round_of_L1, wFor]
    exact main
theorem vc_round_of : ∀ avs Kr Kx, avs.length = 1 → sp_round_of avs Kr Kx → lsFrom 0 avs = [] ∧ w_round_of (startEv 4 avs) (kenD [] Kr Kx) := by
  intro avs Kr Kx hl h
  unfold sp_round_of at h
  split at h
  · obtain ⟨cs, rfl, h1, h2, q⟩ := h
    refine ⟨rfl, ?_⟩
    dsimp? [w_round_of]
    refine l_round_of (.inl rfl) h1 h2 fun x2 x3 => ?_
    dsimp? [w_round_of_R1]
    exact q
  · obtain ⟨cs, rfl, h1, h2, q⟩ := h
    refine ⟨rfl, ?_⟩
    dsimp? [w_round_of]
    refine l_round_of (.inr rfl) h1 h2 fun x2 x3 => ?_
    dsimp? [w_round_of_R1]
    exact q
  · exact h.elim
end Dl
end L2

/-! The plain half, 5: shares. -/
namespace L2
namespace Dl
open PySem PySem.Spec PyProof.Rows
theorem small100000 {n : Nat} (h : n ≤ 100000) : n ≤ sizeLine := Nat.le_trans h (by decide)
theorem prodS_le {m : Int} (hm : 1 ≤ m) : ∀ {cs : List (Int × Int)}, (∀ c ∈ cs, 1 ≤ c.1 ∧ c.1 ≤ m) → prodS cs ≤ m ^ cs.length
  | [], _ => by
    show (1 : Int) ≤ m ^ 0
    rw [Int.pow_zero]
    exact Int.le_refl _
  | c :: cs, h => by
    have h1 := h c List.mem_cons_self
    have h2 := prodS_le hm fun d hd => h d (List.mem_cons_of_mem _ hd)
    have h3 := prodS_pos fun d hd => (h d (List.mem_cons_of_mem _ hd)).1
    show c.1 * prodS cs ≤ m ^ (cs.length + 1)
    rw [Int.pow_succ, Int.mul_comm]
    exact Int.mul_le_mul h2 h1.2 (by omega) (Int.le_trans (by omega) h2)
theorem prodS_b {cs : List (Int × Int)} (h : ∀ c ∈ cs, CkOk 1000 c) (hl : cs.length ≤ 100) : (prodS cs).natAbs < 2 ^ 8000 := by
  have h1 := prodS_le (m := 1000) (by decide) fun c hc => ⟨(h c hc).1, (h c hc).2.1⟩
  have h0 := prodS_pos fun c hc => (h c hc).1
  have h2 : (1000 : Int) ^ cs.length ≤ 1000 ^ 100 := by
    have : (1000 : Nat) ^ cs.length ≤ 1000 ^ 100 := Nat.pow_le_pow_right (by decide) hl
    exact_mod_cast this
  have h3 : ((1000 : Int) ^ 100).natAbs < 2 ^ 8000 := by decide +kernel
  exact nab_lt (by omega) (Int.le_trans h1 h2) h3
/-- for x in .. of ints -/
theorem each_ints {i : Nat} {t : WS} {k : Ken} (J : Ev → Prop) (fin : ∀ e, J e → k.nx e) (step : ∀ (n : Int) e (R : Ev → Prop), J e → (∀ e2, J e2 → R e2) → t (e.set i (.val (.int n))) { k with nx := R, ct := R, bk := k.nx }) :
    ∀ (ds : List PyData) e, (∀ d ∈ ds, ∃ n : Int, d = .int n) → J e → wEach (gN i) t ds e k
  | [], e, _, h => fin e h
  | d :: ds, e, hd, h => by
    obtain ⟨n, rfl⟩ := hd d List.mem_cons_self
    exact step n e _ h fun e2 h2 => each_ints J fin step ds e2 (fun d q => hd d (List.mem_cons_of_mem _ q)) h2
theorem take_ints {ns : List Int} (lo hi : Option Int) : cutD (ns.map PyData.int) lo hi = (cutD ns lo hi).map .int := by
  unfold cutD
  rw [List.length_map, List.map_take, List.map_drop]
theorem cut_len {α : Type} {xs : List α} (lo hi : Option Int) : (cutD xs lo hi).length ≤ xs.length := by
  unfold cutD
  rw [List.length_take, List.length_drop]
  omega
/-- [cell] + script[a:b] -/
theorem cells_ints {ns : List Int} {n : Int} {lo hi : Option Int} : ∀ d ∈ PyData.int n :: cutD (ns.map PyData.int) lo hi, ∃ n : Int, d = .int n := by
  intro d hd
  rcases List.mem_cons.mp hd with z | z
  · exact ⟨_, z⟩
  · rw [take_ints] at z
    obtain ⟨m, _, rfl⟩ := List.mem_map.mp z
    exact ⟨_, rfl⟩
theorem cells_len {ns : List Int} {lo hi : Option Int} (h : ns.length ≤ 63) : 1 + (cutD (ns.map PyData.int) lo hi).length ≤ sizeLine := by
  have := cut_len (xs := ns.map PyData.int) lo hi
  rw [List.length_map] at this
  rw [sizeLine_eq]
  omega
end Dl
end L2

/-! The plain half, 6: two clocks' meeting. -/
namespace L2
namespace Dl
open PySem PySem.Spec PyProof.Rows
local macro_rules | `(tactic| dsimp? [$xs,*] $[$l]?) => `(tactic| simp only [wSeq, wNext, wBreak, wCont, wDrop, wRet, wRetN, wIfS, wSet, wAsgT, e_aug, e_setIx, e_par, e_gN, getS_0, getS_s, setS_0, setS_s, e_var, varK_v, varK_o, varK_u, wC, wBin, rdK_v, rdK_t, rdK_s, rdS_v, rdS_o, rdS_u, fzK_v, fzK_t, fzK_s, fzS_v, fzS_o, fzS_l, fzS_u, e_fz, asg_v, asg_t, asg_s, e_tb, tbK_b, wAnd, wOr, wNot, e_notV, e_andV, e_orV, wBV, wIf, e_neg, intK_i, e_oso, wONo, e_rng1, e_rng2, wFNil, wFCons, wANil, wACons, wTup, wLst, e_callB, rdAllK_n, rdAllK_c, wIsi, e_call, wMNil, wMCons, e_ld, lnsOf, avsK_n, avsK_f, avsK_l, lnS_o, lnS_v, lnS_u, poK_n, poK_c, poS_o, inS_0, inS_s, rsK_v, rsK_o, wSl, e_ownF, e_own0, ownB_o, oS_o, oS_v, oS_u, agS_i, muApp, oAdd_i, oAdd_l, oAdd_t, oAdd_s, oSub_i, oMul_i, oFdiv_i, oMod_i, oPow_i, oShl_i, oShr_i, oOr_i, oAndB_i, oLt_i, oLe_i, oGt_i, oGe_i, oEq_i, oNe_i, oEq, oNe, oIx_l, oIx_t, oLen_l, oLen_t, oInt_i, oInt_b, oMax_i, oMin_i, oList_l, oList_t, oTuple_l, oTuple_t, oSorted_l, oSorted_t, oIs_n, oIsN_n, oIs_b, oIsN_b, isNone_n, isNone_t, isNone_l, isNone_i, isNone_s, isNone_b, oSl_l, oSl_t, oIn, gT_t, gC_c, gNil', e_iseq, sqK_l, sqK_t, e_isq, sq2K_l, sq2K_t, e_sset, ssK_l, ssK_t, e_chain, e_lr1, e_lr2, wRev, rvD_l, rvD_t, e_in1, e_in2, negB_f, negB_t, wIZip, zpK_l, zpK_t, zpK_m, e_extend, extR_t, wYes, startEv, kenD_nx, kenD_rt, kenD_bk, kenD_ct, kenD_ex, outK_n, outK_c, otS_o, rvK_v, rvK_t, rvK_s, rvS_v, rvS_o, slOf, lsFrom, wipeE, restE, List.map_cons, List.map_nil, List.length_cons, List.length_nil, List.replicate, List.append_nil, List.cons_append, List.nil_append, List.getElem?_cons_zero, List.getElem?_cons_succ, List.getElem?_nil, List.set_cons_zero, List.set_cons_succ, List.set_nil, Option.getD_some, Option.getD_none, Option.map_some, Option.map_none, Option.some.injEq, Rs.val.injEq, Rs.tmp.injEq, Rs.slot.injEq, Sl.own.injEq, Sl.val.injEq, PyData.int.injEq, PyData.bool.injEq, PyData.str.injEq, PyData.list.injEq, PyData.tuple.injEq, Prod.mk.injEq, Nat.sub_self, Nat.zero_add, Nat.reduceAdd, Nat.reduceSub, Nat.add_zero, isTy_int_int, isTy_bool_int, isTy_int_bool, isTy_bool_bool, isTy_int_tup, isTy_int_lst, isTy_int_non, isTy_int_str, isTy_tup_tup, isTy_tup_lst, isTy_tup_int, isTy_tup_bool, isTy_tup_non, isTy_tup_str, isTy_lst_lst, isTy_lst_tup, isTy_lst_int, exists_eq_left', exists_eq_left, exists_and_left, exists_eq_right, exists_eq, exists_eq', exists_const, true_and, and_true, and_self, Bool.not_true, Bool.not_false, if_true, if_false, Bool.false_eq_true, reduceIte, reduceCtorEq, List.nodup_nil, decide_eq_true_eq, atI_0, atI_1, atI_2, atI_3, atI_4, atI_5, atI_6, atI_7, atI_8, atI_9, atI_10, atI_11, ixN_3_0, ixN_3_1, ixN_3_2, sh_int, sh_bool, sh_non, and_assoc, nd1, nd_true, eq_self, decide_true, decide_false, Int.cast_ofNat_Int, not_true_eq_false, not_false_eq_true, eqv_ii, eqv_bb, wRaise0, e_raiseG, grK_i, e_raise1, onK_i, e_callX, xa_1, xa_2, xa_3, xa_4, xa_5, xa_6, xa_7, e_many, e_most, e_number, e_row, isLst_l, lsK_l, e_rd, e_br, brS_o, brS_v, arS_o, arS_v, avbK_n, avbK_f, avbK_l, scK_b, scK_i, scK_n, scK_s, e_callS, tmK_t, e_rep, enK_l, e_ienum, wTry, eqv_ss, tpK_v, txK_1, tutK_t, e_repT, e_callT, enTK_t, e_ienumT, r3K_i, e_rng3, e_newD, e_putD, e_lenD, e_listD, dcS_d, dcB_d, pvK_b, pvK_i, tkK_m, tkK_2, e_ssetI, oMinL_c, e_lset, e_lstZ, zlK_c, e_ins, e_callF, $xs,*] $[$l]?)
def sp_back_of : Spc := fun avs Kr _ => match avs with
  | [.val (.int a), .val (.int m)] => 1 ≤ m ∧ m.natAbs < 2 ^ 8000 ∧ ∀ b, 0 ≤ b → b < m → m ∣ a * b - (Int.gcd a m : Nat) → Kr [] (.val (.int b))
  | _ => False
def w_back_of_T1 : WT :=
  (wTB (wBin oGt (wVar 5) (wC (.int 0))))
def w_back_of_B1 : WS :=
  (wSeq (wSet 6 (wBin oFdiv (wVar 4) (wVar 5)))
    (wSeq (wPar 2 3 (wFCons (wVar 3) (wFCons (wBin oSub (wVar 2) (wBin oMul (wVar 6) (wVar 3))) wFNil)))
    (wPar 4 5 (wFCons (wVar 5) (wFCons (wBin oSub (wVar 4) (wBin oMul (wVar 6) (wVar 5))) wFNil)))))
def w_back_of_L1 : WS :=
  wWhile w_back_of_T1 w_back_of_B1
def w_back_of_R1 : WS :=
  (wRet (wBin oMod (wVar 2) (wVar 1)))
/-- back_of: 0 one, 1 other, 2 before, 3 now, 4 left, 5 right, 6 often -/
def w_back_of : WS :=
  (wSeq (wAsgT (wTup (wFCons (wC (.int 0)) (wFCons (wC (.int 1)) wFNil))) (gT 2 (gCons' (gN 2) (gCons' (gN 3) gNil'))))
    (wSeq (wPar 4 5 (wFCons (wVar 1) (wFCons (wBin oMod (wVar 0) (wVar 1)) wFNil)))
    (wSeq w_back_of_L1
    w_back_of_R1)))

theorem vc_back_of : ∀ avs Kr Kx, avs.length = 2 → sp_back_of avs Kr Kx → lsFrom 0 avs = [] ∧ w_back_of (startEv 7 avs) (kenD [] Kr Kx) := by
  intro avs Kr Kx hl h
  unfold sp_back_of at h
  split at h
  · rename_i a m
    obtain ⟨hm, hb, q⟩ := h
    refine ⟨rfl, ?_⟩
    dsimp? [w_back_of]
    have e0 := Int.emod_nonneg a (show m ≠ 0 by omega)
    have e1 := Int.emod_lt_of_pos a (show 0 < m by omega)
    refine ⟨by decide, by omega, ?_⟩
    refine ⟨fun n e => ∃ (p q l r P Q : Int) (x6 : Sl), e = [.val (.int a), .val (.int m), .val (.int p), .val (.int q), .val (.int l), .val (.int r), x6] ∧ 0 < l ∧ l ≤ m ∧ 0 ≤ r ∧ r < l ∧ m ∣ l - p * a ∧ m ∣ r - q * a ∧ Int.gcd l r = Int.gcd a m ∧
      0 ≤ P ∧ -P ≤ p ∧ p ≤ P ∧ 0 ≤ Q ∧ -Q ≤ q ∧ q ≤ Q ∧ P * r + Q * l ≤ m ∧ n = r.toNat,
      ⟨_, 0, 1, m, a % m, 0, 1, _, rfl, by omega, by omega, e0, e1, ?_, ?_, gcd_mod a m, by omega, by omega, by omega, by omega, by omega, by omega, by omega, rfl⟩, ?_⟩
    · rw [Int.zero_mul, Int.sub_zero]
      exact Int.dvd_refl _
    · rw [Int.one_mul, Int.emod_def, show a - m * (a / m) - a = m * (-(a / m)) by grind]
      exact Int.dvd_mul_right _ _
    rintro n e ⟨p, q0, l, r, P, Q, x6, rfl, l0, lm, r0, rl, d1, d2, hg, P0, p1, p2, Q0, q1, q2, hS, rfl⟩
    dsimp? [w_back_of_T1, w_back_of_B1]
    have Pr : 0 ≤ P * r := Int.mul_nonneg P0 r0
    have Ql : Q ≤ Q * l := by
      have := Int.mul_le_mul_of_nonneg_left (show 1 ≤ l by omega) Q0
      rwa [Int.mul_one] at this
    split
    · rename_i hr
      have o0 : 0 ≤ l / r := Int.ediv_nonneg (by omega) r0
      have o1 : l / r ≤ l := Int.ediv_le_self _ (by omega)
      have em : l - l / r * r = l % r := by rw [Int.emod_def, Int.mul_comm]
      have m0 := Int.emod_nonneg l (show r ≠ 0 by omega)
      have m1 := Int.emod_lt_of_pos l hr
      have bo : (l / r).natAbs < 2 ^ 8000 := nab_lt o0 (show l / r ≤ m by omega) hb
      have bq : q0.natAbs < 2 ^ 8000 := by
        have h1 : q0.natAbs ≤ Q.natAbs := by omega
        exact Nat.lt_of_le_of_lt h1 (nab_lt Q0 (show Q ≤ m by omega) hb)
      have br : r.natAbs < 2 ^ 8000 := nab_lt r0 (show r ≤ m by omega) hb
      have a1 : l / r * q0 ≤ l / r * Q := Int.mul_le_mul_of_nonneg_left q2 o0
      have a2 : l / r * (-Q) ≤ l / r * q0 := Int.mul_le_mul_of_nonneg_left q1 o0
      have a3 : 0 ≤ l / r * Q := Int.mul_nonneg o0 Q0
      have a4 : l / r * (-Q) = -(l / r * Q) := Int.mul_neg _ _
      refine ⟨hr, log_of hr br, mulx_ok bo bq (by decide), mulx_ok bo br (by decide), (l - l / r * r).toNat, by omega, _, _, _, _, Q, P + l / r * Q, _, rfl, hr, by omega, by omega, by omega, d2, ?_, ?_, Q0, q1, q2, by omega, by omega, by omega, ?_, rfl⟩
      · have : l - l / r * r - (p - l / r * q0) * a = (l - p * a) - l / r * (r - q0 * a) := by grind
        rw [this]
        exact Int.dvd_sub d1 (Int.dvd_mul_of_dvd_right d2)
      · rw [em, gcd_mod]
        exact hg
      · have : Q * (l - l / r * r) + (P + l / r * Q) * r = P * r + Q * l := by grind
        rw [this]
        exact hS
    · have : r = 0 := by omega
      subst this
      dsimp? [w_back_of_R1]
      refine ⟨by omega, q _ (Int.emod_nonneg _ (by omega)) (Int.emod_lt_of_pos _ (by omega)) ?_⟩
      rw [Int.gcd_zero_right] at hg
      have hl : l = (Int.gcd a m : Nat) := by omega
      rw [← hl, Int.emod_def, show a * (p - m * (p / m)) - l = -(l - p * a) - m * (a * (p / m)) by grind]
      exact Int.dvd_sub (Int.dvd_neg.mpr d1) (Int.dvd_mul_right _ _)
  · exact h.elim
end Dl
end L2

/-! The plain half, 7: two clocks' meeting, told. -/
namespace L2
namespace Dl
open PySem PySem.Spec PyProof.Rows
local macro_rules | `(tactic| dsimp? [$xs,*] $[$l]?) => `(tactic| simp only [wSeq, wNext, wBreak, wCont, wDrop, wRet, wRetN, wIfS, wSet, wAsgT, e_aug, e_setIx, e_par, e_gN, getS_0, getS_s, setS_0, setS_s, e_var, varK_v, varK_o, varK_u, wC, wBin, rdK_v, rdK_t, rdK_s, rdS_v, rdS_o, rdS_u, fzK_v, fzK_t, fzK_s, fzS_v, fzS_o, fzS_l, fzS_u, e_fz, asg_v, asg_t, asg_s, e_tb, tbK_b, wAnd, wOr, wNot, e_notV, e_andV, e_orV, wBV, wIf, e_neg, intK_i, e_oso, wONo, e_rng1, e_rng2, wFNil, wFCons, wANil, wACons, wTup, wLst, e_callB, rdAllK_n, rdAllK_c, wIsi, e_call, wMNil, wMCons, e_ld, lnsOf, avsK_n, avsK_f, avsK_l, lnS_o, lnS_v, lnS_u, poK_n, poK_c, poS_o, inS_0, inS_s, rsK_v, rsK_o, wSl, e_ownF, e_own0, ownB_o, oS_o, oS_v, oS_u, agS_i, muApp, oAdd_i, oAdd_l, oAdd_t, oAdd_s, oSub_i, oMul_i, oFdiv_i, oMod_i, oPow_i, oShl_i, oShr_i, oOr_i, oAndB_i, oLt_i, oLe_i, oGt_i, oGe_i, oEq_i, oNe_i, oEq, oNe, oIx_l, oIx_t, oLen_l, oLen_t, oInt_i, oInt_b, oMax_i, oMin_i, oList_l, oList_t, oTuple_l, oTuple_t, oSorted_l, oSorted_t, oIs_n, oIsN_n, oIs_b, oIsN_b, isNone_n, isNone_t, isNone_l, isNone_i, isNone_s, isNone_b, oSl_l, oSl_t, oIn, gT_t, gC_c, gNil', e_iseq, sqK_l, sqK_t, e_isq, sq2K_l, sq2K_t, e_sset, ssK_l, ssK_t, e_chain, e_lr1, e_lr2, wRev, rvD_l, rvD_t, e_in1, e_in2, negB_f, negB_t, wIZip, zpK_l, zpK_t, zpK_m, e_extend, extR_t, wYes, startEv, kenD_nx, kenD_rt, kenD_bk, kenD_ct, kenD_ex, outK_n, outK_c, otS_o, rvK_v, rvK_t, rvK_s, rvS_v, rvS_o, slOf, lsFrom, wipeE, restE, List.map_cons, List.map_nil, List.length_cons, List.length_nil, List.replicate, List.append_nil, List.cons_append, List.nil_append, List.getElem?_cons_zero, List.getElem?_cons_succ, List.getElem?_nil, List.set_cons_zero, List.set_cons_succ, List.set_nil, Option.getD_some, Option.getD_none, Option.map_some, Option.map_none, Option.some.injEq, Rs.val.injEq, Rs.tmp.injEq, Rs.slot.injEq, Sl.own.injEq, Sl.val.injEq, PyData.int.injEq, PyData.bool.injEq, PyData.str.injEq, PyData.list.injEq, PyData.tuple.injEq, Prod.mk.injEq, Nat.sub_self, Nat.zero_add, Nat.reduceAdd, Nat.reduceSub, Nat.add_zero, isTy_int_int, isTy_bool_int, isTy_int_bool, isTy_bool_bool, isTy_int_tup, isTy_int_lst, isTy_int_non, isTy_int_str, isTy_tup_tup, isTy_tup_lst, isTy_tup_int, isTy_tup_bool, isTy_tup_non, isTy_tup_str, isTy_lst_lst, isTy_lst_tup, isTy_lst_int, exists_eq_left', exists_eq_left, exists_and_left, exists_eq_right, exists_eq, exists_eq', exists_const, true_and, and_true, and_self, Bool.not_true, Bool.not_false, if_true, if_false, Bool.false_eq_true, reduceIte, reduceCtorEq, List.nodup_nil, decide_eq_true_eq, atI_0, atI_1, atI_2, atI_3, atI_4, atI_5, atI_6, atI_7, atI_8, atI_9, atI_10, atI_11, ixN_3_0, ixN_3_1, ixN_3_2, sh_int, sh_bool, sh_non, and_assoc, nd1, nd_true, eq_self, decide_true, decide_false, Int.cast_ofNat_Int, not_true_eq_false, not_false_eq_true, eqv_ii, eqv_bb, wRaise0, e_raiseG, grK_i, e_raise1, onK_i, e_callX, xa_1, xa_2, xa_3, xa_4, xa_5, xa_6, xa_7, e_many, e_most, e_number, e_row, isLst_l, lsK_l, e_rd, e_br, brS_o, brS_v, arS_o, arS_v, avbK_n, avbK_f, avbK_l, scK_b, scK_i, scK_n, scK_s, e_callS, tmK_t, e_rep, enK_l, e_ienum, wTry, eqv_ss, tpK_v, txK_1, tutK_t, e_repT, e_callT, enTK_t, e_ienumT, r3K_i, e_rng3, e_newD, e_putD, e_lenD, e_listD, dcS_d, dcB_d, pvK_b, pvK_i, tkK_m, tkK_2, e_ssetI, oMinL_c, e_lset, e_lstZ, zlK_c, e_ins, e_callF, $xs,*] $[$l]?)
/-- x is a ring of c -/
def Rg (c : Int × Int) (x : Int) : Prop := c.1 ∣ x - c.2
def Meets (c d : Int × Int) (x : Int) : Prop := Rg c x ∧ Rg d x
def lcm2 (c d : Int × Int) : Int := (Int.lcm c.1 d.1 : Nat)
def CkB (c : Int × Int) : Prop := 1 ≤ c.1 ∧ c.1.natAbs < 2 ^ 3000 ∧ c.2.natAbs < 2 ^ 3000
theorem CkOk.b {m : Int} {c : Int × Int} (h : CkOk m c) (hm : m ≤ 2 ^ 60) : CkB c := by
  obtain ⟨h1, h2, h3, h4⟩ := h
  have e : (2 : Nat) ^ 60 < 2 ^ 3000 := by decide +kernel
  exact ⟨h1, Nat.lt_of_le_of_lt (show c.1.natAbs ≤ 2 ^ 60 by omega) e, Nat.lt_of_le_of_lt (show c.2.natAbs ≤ 2 ^ 60 by omega) e⟩
theorem lcm2_pos {c d : Int × Int} (hc : 1 ≤ c.1) (hd : 1 ≤ d.1) : 0 < lcm2 c d := by
  have := Int.lcm_pos (show c.1 ≠ 0 by omega) (show d.1 ≠ 0 by omega)
  unfold lcm2
  omega
theorem dvd_lcm2 {c d : Int × Int} {x : Int} (h1 : c.1 ∣ x) (h2 : d.1 ∣ x) : lcm2 c d ∣ x := by
  have a1 : c.1 ∣ ((x.natAbs : Nat) : Int) := Int.dvd_natAbs.mpr h1
  have a2 : d.1 ∣ ((x.natAbs : Nat) : Int) := Int.dvd_natAbs.mpr h2
  exact Int.dvd_natAbs.mp (Int.natCast_dvd_natCast.mpr (Int.lcm_dvd a1 a2))
theorem lcm2_l (c d : Int × Int) : c.1 ∣ lcm2 c d := Int.dvd_lcm_left _ _
theorem lcm2_r (c d : Int × Int) : d.1 ∣ lcm2 c d := Int.dvd_lcm_right _ _
/-- two numbers below a round that leave alike are one -/
theorem dvd_small {m x y : Int} (h : m ∣ x - y) (x0 : 0 ≤ x) (x1 : x < m) (y0 : 0 ≤ y) (y1 : y < m) : x = y := by
  have h1 : m ∣ y - x := by
    have := Int.dvd_neg.mpr h
    rwa [Int.neg_sub] at this
  by_cases c : x - y = 0
  · omega
  · by_cases c2 : 0 < x - y
    · have := Int.le_of_dvd c2 h
      omega
    · have := Int.le_of_dvd (show 0 < y - x by omega) h1
      omega
theorem Meets.one {c d : Int × Int} {x y : Int} (hx : Meets c d x) (hy : Meets c d y) (x0 : 0 ≤ x) (x1 : x < lcm2 c d) (y0 : 0 ≤ y) (y1 : y < lcm2 c d) : x = y := by
  refine dvd_small (dvd_lcm2 ?_ ?_) x0 x1 y0 y1
  · have := Int.dvd_sub hx.1 hy.1
    rwa [show x - c.2 - (y - c.2) = x - y by omega] at this
  · have := Int.dvd_sub hx.2 hy.2
    rwa [show x - d.2 - (y - d.2) = x - y by omega] at this
theorem Rg.mod {c : Int × Int} {x m : Int} (h : c.1 ∣ m) : Rg c (x % m) ↔ Rg c x := by
  unfold Rg
  have h2 : c.1 ∣ m * (x / m) := Int.dvd_trans h (Int.dvd_mul_right _ _)
  have e : x % m - c.2 = (x - c.2) - m * (x / m) := by rw [Int.emod_def]; omega
  rw [e]
  constructor
  · intro z
    have := Int.dvd_add z h2
    rwa [Int.sub_add_cancel] at this
  · intro z
    exact Int.dvd_sub z h2
/-- what meet_of tells, into K -/
def MeetK (c d : Int × Int) (K : PyData → Prop) : Prop := ((∀ x, ¬ Meets c d x) → K .none) ∧ ∀ x, Meets c d x → 0 ≤ x → x < lcm2 c d → K (ck (lcm2 c d, x))
def sp_meet_of : Spc := fun avs Kr _ => match avs with
  | [.val (.tuple [.int s1, .int r1]), .val (.tuple [.int s2, .int r2])] => CkB (s1, r1) ∧ CkB (s2, r2) ∧ MeetK (s1, r1) (s2, r2) fun d => Kr [] (.val d)
  | _ => False
/-- meet_of: 0 one, 1 other, 2 share, 3 step, 4 turns -/
def w_meet_of : WS :=
  (wSeq (wSet 2 (wCall 2 sp_divisor_of (wMCons (wBin oIx (wVar 0) (wC (.int 0))) (wMCons (wBin oIx (wVar 1) (wC (.int 0))) wMNil))))
    (wSeq (wIfS (wTB (wBin oNe (wBin oMod (wBin oSub (wBin oIx (wVar 1) (wC (.int 1))) (wBin oIx (wVar 0) (wC (.int 1)))) (wVar 2)) (wC (.int 0)))) (wRet (wC .none)) wNext)
    (wSeq (wSet 3 (wBin oMul (wBin oFdiv (wBin oIx (wVar 0) (wC (.int 0))) (wVar 2)) (wBin oIx (wVar 1) (wC (.int 0)))))
    (wSeq (wSet 4 (wBin oMul (wBin oFdiv (wBin oSub (wBin oIx (wVar 1) (wC (.int 1))) (wBin oIx (wVar 0) (wC (.int 1)))) (wVar 2)) (wCall 2 sp_back_of (wMCons (wBin oFdiv (wBin oIx (wVar 0) (wC (.int 0))) (wVar 2)) (wMCons (wBin oFdiv (wBin oIx (wVar 1) (wC (.int 0))) (wVar 2)) wMNil)))))
    (wRet (wTup (wFCons (wVar 3) (wFCons (wBin oMod (wBin oAdd (wBin oIx (wVar 0) (wC (.int 1))) (wBin oMul (wBin oIx (wVar 0) (wC (.int 0))) (wVar 4))) (wVar 3)) wFNil))))))))

theorem vc_meet_of : ∀ avs Kr Kx, avs.length = 2 → sp_meet_of avs Kr Kx → lsFrom 0 avs = [] ∧ w_meet_of (startEv 5 avs) (kenD [] Kr Kx) := by
  intro avs Kr Kx hl h
  unfold sp_meet_of at h
  split at h
  · rename_i s1 r1 s2 r2
    obtain ⟨⟨a1, a2, a3⟩, ⟨b1, b2, b3⟩, q1, q2⟩ := h
    have a1 : 1 ≤ s1 := a1
    have b1 : 1 ≤ s2 := b1
    have a2 : s1.natAbs < 2 ^ 3000 := a2
    have b2 : s2.natAbs < 2 ^ 3000 := b2
    have a3 : r1.natAbs < 2 ^ 3000 := a3
    have b3 : r2.natAbs < 2 ^ 3000 := b3
    have up : (2 : Nat) ^ 3000 < 2 ^ 8000 := by decide +kernel
    refine ⟨rfl, ?_⟩
    unfold w_meet_of
    refine seq_cut fun R hR => ?_
    dsimp? [sp_divisor_of]
    refine ⟨by omega, by omega, hR _ ?_⟩
    have hg : 0 < Int.gcd s1 s2 := Int.gcd_pos_of_ne_zero_left _ (by omega)
    have hgl : (Int.gcd s1 s2 : Int) ≤ s1 := Int.gcd_le_left _ (by omega)
    obtain ⟨a, ea⟩ : (Int.gcd s1 s2 : Int) ∣ s1 := Int.gcd_dvd_left _ _
    obtain ⟨b, eb⟩ : (Int.gcd s1 s2 : Int) ∣ s2 := Int.gcd_dvd_right _ _
    have hgm := Int.gcd_mul_left (Int.gcd s1 s2 : Nat) a b
    rw [← ea, ← eb] at hgm
    have hle := lcm_eq (show 0 < s1 by omega) (show 0 < s2 by omega)
    have hlc : lcm2 (s1, r1) (s2, r2) = (Int.lcm s1 s2 : Nat) := rfl
    generalize hG : Int.gcd s1 s2 = g at *
    have g1 : ((g : Int)).natAbs = g := Int.natAbs_natCast g
    rw [g1] at hgm
    have hab : Int.gcd a b = 1 := by
      have : g * Int.gcd a b = g * 1 := by rw [← hgm, Nat.mul_one]
      exact Nat.eq_of_mul_eq_mul_left hg this
    have ea2 : s1 / (g : Int) = a := by rw [ea]; exact Int.mul_ediv_cancel_left _ (by omega)
    have eb2 : s2 / (g : Int) = b := by rw [eb]; exact Int.mul_ediv_cancel_left _ (by omega)
    have hL : a * s2 = lcm2 (s1, r1) (s2, r2) := by
      rw [hlc, ← hle, show s1 * s2 = (g : Int) * (a * s2) by rw [← Int.mul_assoc, ← ea]]
      exact (Int.mul_ediv_cancel_left _ (by omega)).symm
    have ha0 : 0 < a := by
      rw [ea] at a1
      exact Int.pos_of_mul_pos_right (show 0 < (g : Int) * a by omega) (by omega)
    have hb0 : 0 < b := by
      rw [eb] at b1
      exact Int.pos_of_mul_pos_right (show 0 < (g : Int) * b by omega) (by omega)
    have hL0 := lcm2_pos (c := (s1, r1)) (d := (s2, r2)) a1 b1
    have gb : ((g : Int)).natAbs < 2 ^ 8000 := nab_lt (by omega) hgl (by omega)
    have ba : a.natAbs < 2 ^ 3000 := nab_lt (y := s1) (by omega) (by
      have := Int.mul_le_mul_of_nonneg_right (show 1 ≤ (g : Int) by omega) (show 0 ≤ a by omega)
      rw [← ea, Int.one_mul] at this
      exact this) a2
    have bb : b.natAbs < 2 ^ 3000 := nab_lt (y := s2) (by omega) (by
      have := Int.mul_le_mul_of_nonneg_right (show 1 ≤ (g : Int) by omega) (show 0 ≤ b by omega)
      rw [← eb, Int.one_mul] at this
      exact this) b2
    refine seq_cut fun R hR => ?_
    dsimp? []
    refine ⟨by omega, ?_⟩
    split
    · rename_i hne
      refine q1 fun x ⟨h1, h2⟩ => hne ?_
      have h1 : s1 ∣ x - r1 := h1
      have h2 : s2 ∣ x - r2 := h2
      have d1 : (g : Int) ∣ x - r1 := Int.dvd_trans ⟨a, ea⟩ h1
      have d2 : (g : Int) ∣ x - r2 := Int.dvd_trans ⟨b, eb⟩ h2
      have := Int.dvd_sub d1 d2
      rw [show x - r1 - (x - r2) = r2 - r1 by omega] at this
      exact Int.emod_eq_zero_of_dvd this
    · rename_i heq
      have heq : (r2 - r1) % (g : Int) = 0 := Decidable.not_not.mp heq
      obtain ⟨t, et⟩ := Int.dvd_of_emod_eq_zero heq
      have et2 : (r2 - r1) / (g : Int) = t := by rw [et]; exact Int.mul_ediv_cancel_left _ (by omega)
      refine hR _ ?_
      refine seq_cut fun R hR => ?_
      dsimp? []
      rw [ea2]
      have bL := wide_lt ba b2
      refine ⟨by omega, log_of (by omega) gb, mulx_ok ba b2 (by decide), hR _ ?_⟩
      rw [hL]
      refine seq_cut fun R hR => ?_
      dsimp? [sp_back_of]
      rw [ea2, eb2, et2]
      have tb : t.natAbs < 2 ^ 3001 := by
        have h1 : t.natAbs ≤ (r2 - r1).natAbs := by
          rw [et, Int.natAbs_mul, g1]
          have := Nat.mul_le_mul_right t.natAbs hg
          simpa using this
        have h2 : (2 : Nat) ^ 3001 = 2 ^ 3000 + 2 ^ 3000 := by decide +kernel
        rw [h2]
        omega
      refine ⟨by omega, log_of (by omega) gb, by omega, log_of (by omega) gb, by omega, log_of (by omega) gb, by omega, by omega, fun k k0 k1 kd => ?_⟩
      rw [hab] at kd
      have kb : k.natAbs < 2 ^ 3000 := nab_lt k0 (show k ≤ b by omega) bb
      have tkb := wide_lt tb kb
      refine ⟨mulx_ok tb kb (by decide), hR _ ?_⟩
      rw [← hL] at hL0
      dsimp? []
      refine ⟨mulx_ok (a := 3000) (b := 3001 + 3000) a2 tkb (by decide), by rw [← hL]; exact hL0, by decide, ?_⟩
      refine q2 _ ⟨?_, ?_⟩ (Int.emod_nonneg _ (by omega)) (Int.emod_lt_of_pos _ (by omega))
      · refine (Rg.mod (lcm2_l (s1, r1) (s2, r2))).mpr ?_
        show s1 ∣ r1 + s1 * (t * k) - r1
        rw [show r1 + s1 * (t * k) - r1 = s1 * (t * k) by omega]
        exact Int.dvd_mul_right _ _
      · refine (Rg.mod (c := (s2, r2)) (lcm2_r (s1, r1) (s2, r2))).mpr ?_
        show s2 ∣ r1 + s1 * (t * k) - r2
        obtain ⟨u, eu⟩ := kd
        have eu : a * k - 1 = b * u := eu
        have : r1 + s1 * (t * k) - r2 = s2 * (t * u) := by
          have h2 : r1 = r2 - (g : Int) * t := by omega
          have h3 : a * k = b * u + 1 := by omega
          calc r1 + s1 * (t * k) - r2 = (g : Int) * t * (a * k) - (g : Int) * t := by rw [h2]; conv => lhs; rw [ea]
                                                                                      grind
            _ = (g : Int) * t * (b * u + 1) - (g : Int) * t := by rw [h3]
            _ = s2 * (t * u) := by conv => rhs; rw [eb]
                                   grind
        rw [this]
        exact Int.dvd_mul_right _ _
  · exact h.elim
end Dl
end L2

/-! The plain half, 8: loops over ranges; clash_of; the laws' own rounds. -/
namespace L2
namespace Dl
open PySem PySem.Spec PyProof.Rows
theorem each_rng {sl : Nat} {t : WS} {k : Ken} {n : Nat} (f : Nat → PyData) (J : Nat → Ev → Prop) (fin : ∀ e, J n e → k.nx e)
    (step : ∀ (i : Nat) e (R : Ev → Prop), i < n → J i e → (∀ e2, J (i + 1) e2 → R e2) → t (e.set sl (.val (f i))) { k with nx := R, ct := R, bk := k.nx }) :
    ∀ (c a : Nat) e, a + c = n → J a e → wEach (gN sl) t ((List.range' a c).map f) e k
  | 0, a, e, h, hJ => by
    have : a = n := by omega
    subst this
    exact fin e hJ
  | c + 1, a, e, h, hJ => by
    rw [List.range'_succ]
    exact step a e _ (by omega) hJ fun e2 h2 => each_rng f J fin step c (a + 1) e2 (by omega) h2
/-- for x in range(n) -/
theorem each_range1 {sl : Nat} {t : WS} {k : Ken} {env : Ev} {n : Nat} (J : Nat → Ev → Prop) (h0 : J 0 env) (fin : ∀ e, J n e → k.nx e)
    (step : ∀ (i : Nat) e (R : Ev → Prop), i < n → J i e → (∀ e2, J (i + 1) e2 → R e2) → t (e.set sl (.val (.int (i : Int)))) { k with nx := R, ct := R, bk := k.nx }) :
    wEach (gN sl) t ((List.range n).map fun (i : Nat) => PyData.int (i : Int)) env k := by
  rw [List.range_eq_range']
  exact each_rng (fun i => .int (i : Int)) J fin step n 0 env (by omega) h0
/-- for x in range(lo, ..) -/
theorem each_range2 {sl : Nat} {t : WS} {k : Ken} {env : Ev} {lo : Int} {n : Nat} (J : Nat → Ev → Prop) (h0 : J 0 env) (fin : ∀ e, J n e → k.nx e)
    (step : ∀ (i : Nat) e (R : Ev → Prop), i < n → J i e → (∀ e2, J (i + 1) e2 → R e2) → t (e.set sl (.val (.int (lo + i)))) { k with nx := R, ct := R, bk := k.nx }) :
    wEach (gN sl) t ((List.range n).map fun (i : Nat) => PyData.int (lo + i)) env k := by
  rw [List.range_eq_range']
  exact each_rng (fun i => .int (lo + i)) J fin step n 0 env (by omega) h0
end Dl
end L2

/-! The plain half, 9: the laws' own gcd, round, rings. -/
namespace L2
namespace Dl
open PySem PySem.Spec PyProof.Rows
local macro_rules | `(tactic| dsimp? [$xs,*] $[$l]?) => `(tactic| simp only [wSeq, wNext, wBreak, wCont, wDrop, wRet, wRetN, wIfS, wSet, wAsgT, e_aug, e_setIx, e_par, e_gN, getS_0, getS_s, setS_0, setS_s, e_var, varK_v, varK_o, varK_u, wC, wBin, rdK_v, rdK_t, rdK_s, rdS_v, rdS_o, rdS_u, fzK_v, fzK_t, fzK_s, fzS_v, fzS_o, fzS_l, fzS_u, e_fz, asg_v, asg_t, asg_s, e_tb, tbK_b, wAnd, wOr, wNot, e_notV, e_andV, e_orV, wBV, wIf, e_neg, intK_i, e_oso, wONo, e_rng1, e_rng2, wFNil, wFCons, wANil, wACons, wTup, wLst, e_callB, rdAllK_n, rdAllK_c, wIsi, e_call, wMNil, wMCons, e_ld, lnsOf, avsK_n, avsK_f, avsK_l, lnS_o, lnS_v, lnS_u, poK_n, poK_c, poS_o, inS_0, inS_s, rsK_v, rsK_o, wSl, e_ownF, e_own0, ownB_o, oS_o, oS_v, oS_u, agS_i, muApp, oAdd_i, oAdd_l, oAdd_t, oAdd_s, oSub_i, oMul_i, oFdiv_i, oMod_i, oPow_i, oShl_i, oShr_i, oOr_i, oAndB_i, oLt_i, oLe_i, oGt_i, oGe_i, oEq_i, oNe_i, oEq, oNe, oIx_l, oIx_t, oLen_l, oLen_t, oInt_i, oInt_b, oMax_i, oMin_i, oList_l, oList_t, oTuple_l, oTuple_t, oSorted_l, oSorted_t, oIs_n, oIsN_n, oIs_b, oIsN_b, isNone_n, isNone_t, isNone_l, isNone_i, isNone_s, isNone_b, oSl_l, oSl_t, oIn, gT_t, gC_c, gNil', e_iseq, sqK_l, sqK_t, e_isq, sq2K_l, sq2K_t, e_sset, ssK_l, ssK_t, e_chain, e_lr1, e_lr2, wRev, rvD_l, rvD_t, e_in1, e_in2, negB_f, negB_t, wIZip, zpK_l, zpK_t, zpK_m, e_extend, extR_t, wYes, startEv, kenD_nx, kenD_rt, kenD_bk, kenD_ct, kenD_ex, outK_n, outK_c, otS_o, rvK_v, rvK_t, rvK_s, rvS_v, rvS_o, slOf, lsFrom, wipeE, restE, List.map_cons, List.map_nil, List.length_cons, List.length_nil, List.replicate, List.append_nil, List.cons_append, List.nil_append, List.getElem?_cons_zero, List.getElem?_cons_succ, List.getElem?_nil, List.set_cons_zero, List.set_cons_succ, List.set_nil, Option.getD_some, Option.getD_none, Option.map_some, Option.map_none, Option.some.injEq, Rs.val.injEq, Rs.tmp.injEq, Rs.slot.injEq, Sl.own.injEq, Sl.val.injEq, PyData.int.injEq, PyData.bool.injEq, PyData.str.injEq, PyData.list.injEq, PyData.tuple.injEq, Prod.mk.injEq, Nat.sub_self, Nat.zero_add, Nat.reduceAdd, Nat.reduceSub, Nat.add_zero, isTy_int_int, isTy_bool_int, isTy_int_bool, isTy_bool_bool, isTy_int_tup, isTy_int_lst, isTy_int_non, isTy_int_str, isTy_tup_tup, isTy_tup_lst, isTy_tup_int, isTy_tup_bool, isTy_tup_non, isTy_tup_str, isTy_lst_lst, isTy_lst_tup, isTy_lst_int, exists_eq_left', exists_eq_left, exists_and_left, exists_eq_right, exists_eq, exists_eq', exists_const, true_and, and_true, and_self, Bool.not_true, Bool.not_false, if_true, if_false, Bool.false_eq_true, reduceIte, reduceCtorEq, List.nodup_nil, decide_eq_true_eq, atI_0, atI_1, atI_2, atI_3, atI_4, atI_5, atI_6, atI_7, atI_8, atI_9, atI_10, atI_11, ixN_3_0, ixN_3_1, ixN_3_2, sh_int, sh_bool, sh_non, and_assoc, nd1, nd_true, eq_self, decide_true, decide_false, Int.cast_ofNat_Int, not_true_eq_false, not_false_eq_true, eqv_ii, eqv_bb, wRaise0, e_raiseG, grK_i, e_raise1, onK_i, e_callX, xa_1, xa_2, xa_3, xa_4, xa_5, xa_6, xa_7, e_many, e_most, e_number, e_row, isLst_l, lsK_l, e_rd, e_br, brS_o, brS_v, arS_o, arS_v, avbK_n, avbK_f, avbK_l, scK_b, scK_i, scK_n, scK_s, e_callS, tmK_t, e_rep, enK_l, e_ienum, wTry, eqv_ss, tpK_v, txK_1, tutK_t, e_repT, e_callT, enTK_t, e_ienumT, r3K_i, e_rng3, e_newD, e_putD, e_lenD, e_listD, dcS_d, dcB_d, pvK_b, pvK_i, tkK_m, tkK_2, e_ssetI, oMinL_c, e_lset, e_lstZ, zlK_c, e_ins, e_callF, $xs,*] $[$l]?)
def sp__law_common : Spc := fun avs Kr _ => match avs with
  | [.val (.int a), .val (.int b)] => 0 ≤ a ∧ 0 ≤ b ∧ Kr [] (.val (.int (Int.gcd a b : Nat)))
  | _ => False
def w__law_common_T1 : WT :=
  (wTB (wBin oGt (wVar 1) (wC (.int 0))))
def w__law_common_B1 : WS :=
  (wPar 0 1 (wFCons (wVar 1) (wFCons (wBin oMod (wVar 0) (wVar 1)) wFNil)))
def w__law_common_L1 : WS :=
  wWhile w__law_common_T1 w__law_common_B1
def w__law_common_R1 : WS :=
  (wRet (wVar 0))
/-- _law_common: 0 one, 1 other -/
def w__law_common : WS :=
  (wSeq w__law_common_L1
    w__law_common_R1)

theorem vc__law_common : ∀ avs Kr Kx, avs.length = 2 → sp__law_common avs Kr Kx → lsFrom 0 avs = [] ∧ w__law_common (startEv 2 avs) (kenD [] Kr Kx) := by
  intro avs Kr Kx hl h
  unfold sp__law_common at h
  split at h
  · rename_i a b
    obtain ⟨ha, hb, k⟩ := h
    refine ⟨rfl, ?_⟩
    dsimp? [w__law_common]
    refine ⟨fun m e => ∃ x y : Int, e = [.val (.int x), .val (.int y)] ∧ 0 ≤ x ∧ 0 ≤ y ∧ m = y.toNat ∧ Int.gcd x y = Int.gcd a b, ⟨_, a, b, rfl, ha, hb, rfl, rfl⟩, ?_⟩
    rintro m e ⟨x, y, rfl, hx, hy, rfl, hg⟩
    dsimp? [w__law_common_T1, w__law_common_B1]
    split
    · rename_i hp
      have h1 := Int.emod_nonneg x (Int.ne_of_gt hp)
      have h2 := Int.emod_lt_of_pos x hp
      exact ⟨hp, _, by omega, _, _, rfl, hy, h1, rfl, by rw [gcd_mod]; exact hg⟩
    · have : y = 0 := by omega
      subst this
      have e : (x : Int) = (Int.gcd x 0 : Nat) := by rw [Int.gcd_zero_right]; omega
      dsimp? [w__law_common_R1]
      rw [e, hg]
      exact k
  · exact h.elim
def sp__law_round_k03 : Spc := fun avs Kr _ => match avs with
  | [.val (.tuple ds)] => RndOk ds fun cs => Kr [] (.val (.int (rnd 1 cs)))
  | [.val (.list ds)] => RndOk ds fun cs => Kr [] (.val (.int (rnd 1 cs)))
  | _ => False
def w__law_round_k03_B1 : WS :=
  (wSet 1 (wBin oMul (wBin oFdiv (wVar 1) (wCall 2 sp__law_common (wMCons (wVar 1) (wMCons (wVar 2) wMNil)))) (wVar 2)))
def w__law_round_k03_L1 : WS :=
  wFor (wISeq (wVar 0)) (gT 2 (gCons' (gN 2) (gCons' (gN 3) gNil'))) w__law_round_k03_B1
def w__law_round_k03_R1 : WS :=
  (wRet (wVar 1))
/-- _law_round: 0 clocks, 1 found, 2 step, 3 rest -/
def w__law_round_k03 : WS :=
  (wSeq (wSet 1 (wC (.int 1)))
    (wSeq w__law_round_k03_L1
    w__law_round_k03_R1))

theorem div_mul_eq {f s : Int} (hf : 0 < f) : f / (Int.gcd f s : Nat) * s = f * s / (Int.gcd f s : Nat) := by
  have hg : 0 < Int.gcd f s := Int.gcd_pos_of_ne_zero_left s (Int.ne_of_gt hf)
  obtain ⟨a, ea⟩ : (Int.gcd f s : Int) ∣ f := Int.gcd_dvd_left _ _
  generalize Int.gcd f s = g at *
  have h1 : f / (g : Int) = a := by rw [ea]; exact Int.mul_ediv_cancel_left _ (by omega)
  have h2 : f * s / (g : Int) = a * s := by
    rw [ea, Int.mul_assoc]
    exact Int.mul_ediv_cancel_left _ (by omega)
  rw [h1, h2]
theorem l__law_round {d : PyData} {x2 x3 : Sl} {cs : List (Int × Int)} {k : Ken} (hd : d = .tuple (cks cs) ∨ d = .list (cks cs)) (hc : ∀ c ∈ cs, 1 ≤ c.1) (hb : (prodS cs).natAbs < 2 ^ 8000) (hk : ∀ x2 x3, k.nx [.val d, .val (.int (rnd 1 cs)), x2, x3]) : w__law_round_k03_L1 [.val d, .val (.int 1), x2, x3] k := by
  have main : wEach (gT 2 (gCons' (gN 2) (gCons' (gN 3) gNil'))) w__law_round_k03_B1 (cks cs) [.val d, .val (.int 1), x2, x3] k := by
    refine wEach_ind (fun ds e => ∃ (f : Int) (r : List (Int × Int)) (x2 x3 : Sl), ds = cks r ∧ e = [.val d, .val (.int f), x2, x3] ∧ 0 < f ∧ (∀ c ∈ r, 1 ≤ c.1) ∧ f * prodS r ≤ prodS cs ∧ rnd f r = rnd 1 cs) ?_ ?_ _ _ ⟨1, cs, x2, x3, rfl, rfl, by decide, hc, by omega, rfl⟩
    · rintro e ⟨f, r, x2, x3, h1, rfl, h3, h4, h5, h6⟩
      cases r with
      | cons _ _ => cases h1
      | nil =>
        have e : f = rnd 1 cs := h6
        rw [e]
        exact hk _ _
    · rintro d0 r0 e ⟨f, r, x2, x3, h1, rfl, h3, h4, h5, h6⟩ ih
      cases r with
      | nil => cases h1
      | cons c r =>
        cases h1
        have c1 := h4 c List.mem_cons_self
        have hr : ∀ c ∈ r, 1 ≤ c.1 := fun c hc => h4 c (List.mem_cons_of_mem _ hc)
        have hp := prodS_pos hr
        have e1 : f * prodS (c :: r) = f * c.1 * prodS r := (Int.mul_assoc _ _ _).symm
        have hfc : 0 < f * c.1 := Int.mul_pos h3 (by omega)
        have q1 : f * c.1 ≤ f * c.1 * prodS r := by
          have := Int.mul_le_mul_of_nonneg_left hp (show 0 ≤ f * c.1 by omega)
          rwa [Int.mul_one] at this
        have q2 : f ≤ f * c.1 := by
          have := Int.mul_le_mul_of_nonneg_left c1 (show 0 ≤ f by omega)
          rwa [Int.mul_one] at this
        have q3 : c.1 ≤ f * c.1 := by
          have := Int.mul_le_mul_of_nonneg_right (show 1 ≤ f by omega) (show 0 ≤ c.1 by omega)
          rwa [Int.one_mul] at this
        rw [e1] at h5
        have bf : f.natAbs < 2 ^ 8000 := nab_lt (by omega) (by omega) hb
        have bc : c.1.natAbs < 2 ^ 8000 := nab_lt (by omega) (by omega) hb
        have hg : 0 < Int.gcd f c.1 := Int.gcd_pos_of_ne_zero_left _ (by omega)
        have hgl : (Int.gcd f c.1 : Int) ≤ f := Int.gcd_le_left _ h3
        have hq0 : 0 ≤ f / (Int.gcd f c.1 : Nat) := Int.ediv_nonneg (by omega) (by omega)
        have hq1 : f / (Int.gcd f c.1 : Nat) ≤ f := Int.ediv_le_self _ (by omega)
        dsimp? [w__law_round_k03_B1, ck, sp__law_common]
        refine ⟨by omega, by omega, by omega, log_of (by omega) (nab_lt (by omega) hgl bf), mulx_ok (nab_lt hq0 hq1 bf) bc (by decide), ih _ ⟨_, r, _, _, rfl, rfl, ?_, hr, ?_, ?_⟩⟩
        · rw [div_mul_eq h3, lcm_eq h3 (by omega)]
          have := Int.lcm_pos (show f ≠ 0 by omega) (show c.1 ≠ 0 by omega)
          omega
        · have d1 : f / (Int.gcd f c.1 : Nat) * c.1 ≤ f * c.1 := Int.mul_le_mul_of_nonneg_right hq1 (by omega)
          exact Int.le_trans (Int.mul_le_mul_of_nonneg_right d1 (by omega)) h5
        · rw [div_mul_eq h3]
          exact h6
  rcases hd with rfl | rfl
  · dsimp? [w__law_round_k03_L1, wFor]
    exact main
  · dsimp? [w__law_round_k03_L1, wFor]
    exact main
theorem vc__law_round_k03 : ∀ avs Kr Kx, avs.length = 1 → sp__law_round_k03 avs Kr Kx → lsFrom 0 avs = [] ∧ w__law_round_k03 (startEv 4 avs) (kenD [] Kr Kx) := by
  intro avs Kr Kx hl h
  unfold sp__law_round_k03 at h
  split at h
  · obtain ⟨cs, rfl, h1, h2, q⟩ := h
    refine ⟨rfl, ?_⟩
    dsimp? [w__law_round_k03]
    refine l__law_round (.inl rfl) h1 h2 fun x2 x3 => ?_
    dsimp? [w__law_round_k03_R1]
    exact q
  · obtain ⟨cs, rfl, h1, h2, q⟩ := h
    refine ⟨rfl, ?_⟩
    dsimp? [w__law_round_k03]
    refine l__law_round (.inr rfl) h1 h2 fun x2 x3 => ?_
    dsimp? [w__law_round_k03_R1]
    exact q
  · exact h.elim
end Dl
end L2

/-! The plain half, 10: shapes and likeness of data; loops over clocks. -/
namespace L2
namespace Dl
open PySem PySem.Spec PyProof.Rows
/-- layable, of depth at most n -/
def ShN (n : Nat) (d : PyData) : Prop := d.canLay0 = true ∧ d.depth ≤ n
theorem shAll {n : Nat} : ∀ {ds : List PyData}, (∀ d ∈ ds, ShN n d) → PyData.canLayAll0 ds = true ∧ PyData.depthAll ds ≤ n
  | [], _ => ⟨rfl, Nat.zero_le _⟩
  | d :: ds, h => by
    obtain ⟨h1, h2⟩ := h d List.mem_cons_self
    obtain ⟨h3, h4⟩ := shAll fun e he => h e (List.mem_cons_of_mem _ he)
    refine ⟨?_, ?_⟩
    · show (d.canLay0 && PyData.canLayAll0 ds) = true
      rw [h1, h3]; rfl
    · show max d.depth (PyData.depthAll ds) ≤ n
      omega
theorem ShN.lst {n : Nat} {ds : List PyData} (h : ∀ d ∈ ds, ShN n d) : ShN (n + 1) (.list ds) := by
  obtain ⟨h1, h2⟩ := shAll h
  exact ⟨h1, Nat.succ_le_succ h2⟩
theorem ShN.tup {n : Nat} {ds : List PyData} (h : ∀ d ∈ ds, ShN n d) : ShN (n + 1) (.tuple ds) := by
  obtain ⟨h1, h2⟩ := shAll h
  exact ⟨h1, Nat.succ_le_succ h2⟩
theorem ShN.mono {m n : Nat} {d : PyData} (h : ShN m d) (hm : m ≤ n) : ShN n d := ⟨h.1, Nat.le_trans h.2 hm⟩
theorem ShN.int (i : Int) : ShN 0 (.int i) := ⟨rfl, Nat.le_refl _⟩
theorem ShN.bool (i : Bool) : ShN 0 (.bool i) := ⟨rfl, Nat.le_refl _⟩
theorem ShN.none : ShN 0 .none := ⟨rfl, Nat.le_refl _⟩
theorem ShN.ck (c : Int × Int) : ShN 1 (ck c) := ⟨rfl, Nat.le_refl _⟩
theorem ShN.sh {n : Nat} {d : PyData} (h : ShN n d) (hn : n ≤ 64) : SeqAt.shaped d = true := by
  unfold SeqAt.shaped
  rw [h.1]
  have := h.2
  simp only [Bool.true_and, decide_eq_true_eq]
  omega
theorem ShN.cks (cs : List (Int × Int)) : ∀ d ∈ cks cs, ShN 1 d := fun d h => by
  obtain ⟨c, _, rfl⟩ := List.mem_map.mp h
  exact ShN.ck c
theorem ShN.ints (ns : List Int) : ∀ d ∈ ns.map PyData.int, ShN 0 d := fun d h => by
  obtain ⟨c, _, rfl⟩ := List.mem_map.mp h
  exact ShN.int c
theorem sh_lck (cs : List (Int × Int)) : SeqAt.shaped (.list (cks cs)) = true := (ShN.lst (ShN.cks cs)).sh (by decide)
theorem sh_lin (ns : List Int) : SeqAt.shaped (.list (ns.map .int)) = true := (ShN.lst (ShN.ints ns)).sh (by decide)
/-- no bool within -/
def io : PyData → Bool
  | .none | .int _ | .str _ => true
  | .list xs | .tuple xs => ioAll xs
  | _ => false
where ioAll : List PyData → Bool
  | [] => true
  | x :: xs => io x && ioAll xs
theorem io_all {ds : List PyData} (h : ∀ d ∈ ds, io d = true) : io.ioAll ds = true := by
  induction ds with
  | nil => rfl
  | cons d ds ih =>
    show (io d && io.ioAll ds) = true
    rw [h d List.mem_cons_self, ih fun e he => h e (List.mem_cons_of_mem _ he)]
    rfl
mutual
theorem eqv_io : ∀ d e : PyData, io d = true → io e = true → (PyData.eqv d e = true ↔ d = e)
  | .none, e, _, h => by cases e <;> simp [PyData.eqv]
  | .bool _, e, h, _ => by simp [io] at h
  | .int i, e, _, h => by cases e <;> first | (simp [PyData.eqv]; done) | (simp [io] at h)
  | .str i, e, _, h => by cases e <;> first | (simp [PyData.eqv]; done) | (simp [io] at h)
  | .list xs, e, h1, h => by
    cases e with
    | list ys =>
      rw [PyData.eqv, eqv_ioAll xs ys h1 h]
      simp
    | _ => simp [PyData.eqv]
  | .tuple xs, e, h1, h => by
    cases e with
    | tuple ys =>
      rw [PyData.eqv, eqv_ioAll xs ys h1 h]
      simp
    | _ => simp [PyData.eqv]
  | .dict _, e, h, _ => by simp [io] at h
theorem eqv_ioAll : ∀ xs ys : List PyData, io.ioAll xs = true → io.ioAll ys = true → (PyData.eqvAll xs ys = true ↔ xs = ys)
  | [], [], _, _ => by simp [PyData.eqvAll]
  | [], _ :: _, _, _ => by simp [PyData.eqvAll]
  | _ :: _, [], _, _ => by simp [PyData.eqvAll]
  | x :: xs, y :: ys, h1, h2 => by
    have a1 : io x = true ∧ io.ioAll xs = true := by
      have : (io x && io.ioAll xs) = true := h1
      simpa using this
    have a2 : io y = true ∧ io.ioAll ys = true := by
      have : (io y && io.ioAll ys) = true := h2
      simpa using this
    rw [PyData.eqvAll, Bool.and_eq_true, eqv_io x y a1.1 a2.1, eqv_ioAll xs ys a1.2 a2.2]
    simp
end
theorem io_cks (cs : List (Int × Int)) : io.ioAll (cks cs) = true := io_all fun d h => by
  obtain ⟨c, _, rfl⟩ := List.mem_map.mp h
  rfl
theorem ck_inj {c d : Int × Int} (h : ck c = ck d) : c = d := by
  unfold ck at h
  simp only [PyData.tuple.injEq, List.cons.injEq, PyData.int.injEq, and_true] at h
  exact Prod.ext h.1 h.2
theorem cks_inj : ∀ {cs ds : List (Int × Int)}, cks cs = cks ds → cs = ds
  | [], [], _ => rfl
  | [], _ :: _, h => by cases h
  | _ :: _, [], h => by cases h
  | c :: cs, d :: ds, h => by
    simp only [cks, List.map_cons, List.cons.injEq] at h
    rw [ck_inj h.1, cks_inj h.2]
theorem eqv_lcks (cs ds : List (Int × Int)) : PyData.eqv (.list (cks cs)) (.list (cks ds)) = decide (cs = ds) := by
  have q := eqv_io (.list (cks cs)) (.list (cks ds)) (io_cks cs) (io_cks ds)
  by_cases h : cs = ds
  · subst h
    rw [decide_eq_true rfl]
    exact q.mpr rfl
  · rw [decide_eq_false h]
    cases e : PyData.eqv (.list (cks cs)) (.list (cks ds)) with
    | false => rfl
    | true => exact absurd (cks_inj (by simpa using q.mp e)) h
theorem fm_filter (cs : List (Int × Int)) (p : Int × Int → Bool) : (cs.filterMap fun c => if p c = true then some (ck c) else none) = cks (cs.filter p) := by
  induction cs with
  | nil => rfl
  | cons c cs ih =>
    cases h : p c with
    | true =>
      rw [List.filterMap_cons_some (b := ck c) (by simp [h]), List.filter_cons_of_pos h, ih]
      rfl
    | false =>
      rw [List.filterMap_cons_none (by simp [h]), List.filter_cons_of_neg (by simp [h]), ih]
end Dl
end L2

/-! The plain half, 11: rings. -/
namespace L2
namespace Dl
open PySem PySem.Spec PyProof.Rows
local macro_rules | `(tactic| dsimp? [$xs,*] $[$l]?) => `(tactic| simp only [wSeq, wNext, wBreak, wCont, wDrop, wRet, wRetN, wIfS, wSet, wAsgT, e_aug, e_setIx, e_par, e_gN, getS_0, getS_s, setS_0, setS_s, e_var, varK_v, varK_o, varK_u, wC, wBin, rdK_v, rdK_t, rdK_s, rdS_v, rdS_o, rdS_u, fzK_v, fzK_t, fzK_s, fzS_v, fzS_o, fzS_l, fzS_u, e_fz, asg_v, asg_t, asg_s, e_tb, tbK_b, wAnd, wOr, wNot, e_notV, e_andV, e_orV, wBV, wIf, e_neg, intK_i, e_oso, wONo, e_rng1, e_rng2, wFNil, wFCons, wANil, wACons, wTup, wLst, e_callB, rdAllK_n, rdAllK_c, wIsi, e_call, wMNil, wMCons, e_ld, lnsOf, avsK_n, avsK_f, avsK_l, lnS_o, lnS_v, lnS_u, poK_n, poK_c, poS_o, inS_0, inS_s, rsK_v, rsK_o, wSl, e_ownF, e_own0, ownB_o, oS_o, oS_v, oS_u, agS_i, muApp, oAdd_i, oAdd_l, oAdd_t, oAdd_s, oSub_i, oMul_i, oFdiv_i, oMod_i, oPow_i, oShl_i, oShr_i, oOr_i, oAndB_i, oLt_i, oLe_i, oGt_i, oGe_i, oEq_i, oNe_i, oEq, oNe, oIx_l, oIx_t, oLen_l, oLen_t, oInt_i, oInt_b, oMax_i, oMin_i, oList_l, oList_t, oTuple_l, oTuple_t, oSorted_l, oSorted_t, oIs_n, oIsN_n, oIs_b, oIsN_b, isNone_n, isNone_t, isNone_l, isNone_i, isNone_s, isNone_b, oSl_l, oSl_t, oIn, gT_t, gC_c, gNil', e_iseq, sqK_l, sqK_t, e_isq, sq2K_l, sq2K_t, e_sset, ssK_l, ssK_t, e_chain, e_lr1, e_lr2, wRev, rvD_l, rvD_t, e_in1, e_in2, negB_f, negB_t, wIZip, zpK_l, zpK_t, zpK_m, e_extend, extR_t, wYes, startEv, kenD_nx, kenD_rt, kenD_bk, kenD_ct, kenD_ex, outK_n, outK_c, otS_o, rvK_v, rvK_t, rvK_s, rvS_v, rvS_o, slOf, lsFrom, wipeE, restE, List.map_cons, List.map_nil, List.length_cons, List.length_nil, List.replicate, List.append_nil, List.cons_append, List.nil_append, List.getElem?_cons_zero, List.getElem?_cons_succ, List.getElem?_nil, List.set_cons_zero, List.set_cons_succ, List.set_nil, Option.getD_some, Option.getD_none, Option.map_some, Option.map_none, Option.some.injEq, Rs.val.injEq, Rs.tmp.injEq, Rs.slot.injEq, Sl.own.injEq, Sl.val.injEq, PyData.int.injEq, PyData.bool.injEq, PyData.str.injEq, PyData.list.injEq, PyData.tuple.injEq, Prod.mk.injEq, Nat.sub_self, Nat.zero_add, Nat.reduceAdd, Nat.reduceSub, Nat.add_zero, isTy_int_int, isTy_bool_int, isTy_int_bool, isTy_bool_bool, isTy_int_tup, isTy_int_lst, isTy_int_non, isTy_int_str, isTy_tup_tup, isTy_tup_lst, isTy_tup_int, isTy_tup_bool, isTy_tup_non, isTy_tup_str, isTy_lst_lst, isTy_lst_tup, isTy_lst_int, exists_eq_left', exists_eq_left, exists_and_left, exists_eq_right, exists_eq, exists_eq', exists_const, true_and, and_true, and_self, Bool.not_true, Bool.not_false, if_true, if_false, Bool.false_eq_true, reduceIte, reduceCtorEq, List.nodup_nil, decide_eq_true_eq, atI_0, atI_1, atI_2, atI_3, atI_4, atI_5, atI_6, atI_7, atI_8, atI_9, atI_10, atI_11, ixN_3_0, ixN_3_1, ixN_3_2, sh_int, sh_bool, sh_non, and_assoc, nd1, nd_true, eq_self, decide_true, decide_false, Int.cast_ofNat_Int, not_true_eq_false, not_false_eq_true, eqv_ii, eqv_bb, wRaise0, e_raiseG, grK_i, e_raise1, onK_i, e_callX, xa_1, xa_2, xa_3, xa_4, xa_5, xa_6, xa_7, e_many, e_most, e_number, e_row, isLst_l, lsK_l, e_rd, e_br, brS_o, brS_v, arS_o, arS_v, avbK_n, avbK_f, avbK_l, scK_b, scK_i, scK_n, scK_s, e_callS, tmK_t, e_rep, enK_l, e_ienum, wTry, eqv_ss, tpK_v, txK_1, tutK_t, e_repT, e_callT, enTK_t, e_ienumT, r3K_i, e_rng3, e_newD, e_putD, e_lenD, e_listD, dcS_d, dcB_d, pvK_b, pvK_i, tkK_m, tkK_2, e_ssetI, oMinL_c, e_lset, e_lstZ, zlK_c, e_ins, e_callF, $xs,*] $[$l]?)
def sp_rings : Spc := fun avs Kr _ => match avs with
  | [.val (.tuple [.int s, .int r]), .val (.int n)] => 0 < s ∧ Kr [] (.val (.bool (decide (n % s = r))))
  | _ => False
/-- rings: 0 clock, 1 number -/
def w_rings : WS :=
  (wRet (wBin oEq (wBin oMod (wVar 1) (wBin oIx (wVar 0) (wC (.int 0)))) (wBin oIx (wVar 0) (wC (.int 1)))))

theorem vc_rings : ∀ avs Kr Kx, avs.length = 2 → sp_rings avs Kr Kx → lsFrom 0 avs = [] ∧ w_rings (startEv 2 avs) (kenD [] Kr Kx) := by
  intro avs Kr Kx hl h
  unfold sp_rings at h
  split at h
  · obtain ⟨hs, q⟩ := h
    refine ⟨rfl, ?_⟩
    dsimp? [w_rings]
    exact ⟨hs, q⟩
  · exact h.elim
/-- the clocks that ring -/
def rgF (cs : List (Int × Int)) (n : Int) : List (Int × Int) := cs.filter fun c => decide (n % c.1 = c.2)
def sp_rings_at : Spc := fun avs Kr _ => match avs with
  | [.val (.tuple ds), .val (.int n)] => ∃ cs, ds = cks cs ∧ (∀ c ∈ cs, 1 ≤ c.1) ∧ cs.length ≤ 100000 ∧ Kr [] (.own (cks (rgF cs n)))
  | [.val (.list ds), .val (.int n)] => ∃ cs, ds = cks cs ∧ (∀ c ∈ cs, 1 ≤ c.1) ∧ cs.length ≤ 100000 ∧ Kr [] (.own (cks (rgF cs n)))
  | _ => False
def w_rings_at_C1 : WE :=
  wLc [2] (wISeq (wVar 0)) (gN 2) (wTB (wCall 2 sp_rings (wMCons (wVar 2) (wMCons (wVar 1) wMNil)))) (wVar 2)
/-- rings_at: 0 clocks, 1 number, 2 clock -/
def w_rings_at : WS :=
  (wRet w_rings_at_C1)

theorem vc_rings_at : ∀ avs Kr Kx, avs.length = 2 → sp_rings_at avs Kr Kx → lsFrom 0 avs = [] ∧ w_rings_at (startEv 3 avs) (kenD [] Kr Kx) := by
  intro avs Kr Kx hl h
  unfold sp_rings_at at h
  split at h
  · rename_i ds n
    obtain ⟨cs, rfl, hc, hl, q⟩ := h
    refine ⟨rfl, ?_⟩
    dsimp? [w_rings_at, w_rings_at_C1, wLc]
    refine lc_fm ck (fun c => if decide (n % c.1 = c.2) = true then some (ck c) else none) cs [] (fun c h A N hA => ?_) (by simpa using small100000 hl) ?_
    · have c1 := hc c h
      dsimp? [ck, sp_rings]
      refine ⟨by omega, ?_⟩
      split
      · rename_i z
        simp only [z, decide_true, if_true] at hA
        exact hA
      · rename_i z
        simp only [z, decide_false, Bool.false_eq_true, if_false] at hA
        exact hA
    · rw [List.nil_append, fm_filter]
      exact q
  · rename_i ds n
    obtain ⟨cs, rfl, hc, hl, q⟩ := h
    refine ⟨rfl, ?_⟩
    dsimp? [w_rings_at, w_rings_at_C1, wLc]
    refine lc_fm ck (fun c => if decide (n % c.1 = c.2) = true then some (ck c) else none) cs [] (fun c h A N hA => ?_) (by simpa using small100000 hl) ?_
    · have c1 := hc c h
      dsimp? [ck, sp_rings]
      refine ⟨by omega, ?_⟩
      split
      · rename_i z
        simp only [z, decide_true, if_true] at hA
        exact hA
      · rename_i z
        simp only [z, decide_false, Bool.false_eq_true, if_false] at hA
        exact hA
    · rw [List.nil_append, fm_filter]
      exact q
  · exact h.elim
/-- of a clock with its rest in place: the two ways to ask -/
theorem Rg_mod {c : Int × Int} {n : Int} (h0 : 0 ≤ c.2) (h1 : c.2 < c.1) : Rg c n ↔ n % c.1 = c.2 := by
  constructor
  · intro h
    have a0 := Int.emod_nonneg n (show c.1 ≠ 0 by omega)
    have a1 := Int.emod_lt_of_pos n (show 0 < c.1 by omega)
    refine dvd_small (m := c.1) ?_ a0 a1 h0 h1
    have : n % c.1 - c.2 = (n - c.2) - c.1 * (n / c.1) := by rw [Int.emod_def]; omega
    rw [this]
    exact Int.dvd_sub h (Int.dvd_mul_right _ _)
  · intro h
    have : n - c.2 = c.1 * (n / c.1) := by rw [← h, Int.emod_def]; omega
    exact ⟨_, this⟩
end Dl
end L2

/-! The plain half, 12: all clocks' meeting, a clock inside another. -/
namespace L2
namespace Dl
open PySem PySem.Spec PyProof.Rows
theorem prodS_b3 {cs : List (Int × Int)} (h : ∀ c ∈ cs, CkOk 1000 c) (hl : cs.length ≤ 100) : (prodS cs).natAbs < 2 ^ 3000 := by
  have h1 := prodS_le (m := 1000) (by decide) fun c hc => ⟨(h c hc).1, (h c hc).2.1⟩
  have h0 := prodS_pos fun c hc => (h c hc).1
  have h2 : (1000 : Int) ^ cs.length ≤ 1000 ^ 100 := by
    have : (1000 : Nat) ^ cs.length ≤ 1000 ^ 100 := Nat.pow_le_pow_right (by decide) hl
    exact_mod_cast this
  have h3 : ((1000 : Int) ^ 100).natAbs < 2 ^ 3000 := by decide +kernel
  exact nab_lt (by omega) (Int.le_trans h1 h2) h3
end Dl
end L2

/-! The plain half, 13: times; whole numbers; things of any kind. -/
namespace L2
namespace Dl
open PySem PySem.Spec PyProof.Rows
local macro_rules | `(tactic| dsimp? [$xs,*] $[$l]?) => `(tactic| simp only [wSeq, wNext, wBreak, wCont, wDrop, wRet, wRetN, wIfS, wSet, wAsgT, e_aug, e_setIx, e_par, e_gN, getS_0, getS_s, setS_0, setS_s, e_var, varK_v, varK_o, varK_u, wC, wBin, rdK_v, rdK_t, rdK_s, rdS_v, rdS_o, rdS_u, fzK_v, fzK_t, fzK_s, fzS_v, fzS_o, fzS_l, fzS_u, e_fz, asg_v, asg_t, asg_s, e_tb, tbK_b, wAnd, wOr, wNot, e_notV, e_andV, e_orV, wBV, wIf, e_neg, intK_i, e_oso, wONo, e_rng1, e_rng2, wFNil, wFCons, wANil, wACons, wTup, wLst, e_callB, rdAllK_n, rdAllK_c, wIsi, e_call, wMNil, wMCons, e_ld, lnsOf, avsK_n, avsK_f, avsK_l, lnS_o, lnS_v, lnS_u, poK_n, poK_c, poS_o, inS_0, inS_s, rsK_v, rsK_o, wSl, e_ownF, e_own0, ownB_o, oS_o, oS_v, oS_u, agS_i, muApp, oAdd_i, oAdd_l, oAdd_t, oAdd_s, oSub_i, oMul_i, oFdiv_i, oMod_i, oPow_i, oShl_i, oShr_i, oOr_i, oAndB_i, oLt_i, oLe_i, oGt_i, oGe_i, oEq_i, oNe_i, oEq, oNe, oIx_l, oIx_t, oLen_l, oLen_t, oInt_i, oInt_b, oMax_i, oMin_i, oList_l, oList_t, oTuple_l, oTuple_t, oSorted_l, oSorted_t, oIs_n, oIsN_n, oIs_b, oIsN_b, isNone_n, isNone_t, isNone_l, isNone_i, isNone_s, isNone_b, oSl_l, oSl_t, oIn, gT_t, gC_c, gNil', e_iseq, sqK_l, sqK_t, e_isq, sq2K_l, sq2K_t, e_sset, ssK_l, ssK_t, e_chain, e_lr1, e_lr2, wRev, rvD_l, rvD_t, e_in1, e_in2, negB_f, negB_t, wIZip, zpK_l, zpK_t, zpK_m, e_extend, extR_t, wYes, startEv, kenD_nx, kenD_rt, kenD_bk, kenD_ct, kenD_ex, outK_n, outK_c, otS_o, rvK_v, rvK_t, rvK_s, rvS_v, rvS_o, slOf, lsFrom, wipeE, restE, List.map_cons, List.map_nil, List.length_cons, List.length_nil, List.replicate, List.append_nil, List.cons_append, List.nil_append, List.getElem?_cons_zero, List.getElem?_cons_succ, List.getElem?_nil, List.set_cons_zero, List.set_cons_succ, List.set_nil, Option.getD_some, Option.getD_none, Option.map_some, Option.map_none, Option.some.injEq, Rs.val.injEq, Rs.tmp.injEq, Rs.slot.injEq, Sl.own.injEq, Sl.val.injEq, PyData.int.injEq, PyData.bool.injEq, PyData.str.injEq, PyData.list.injEq, PyData.tuple.injEq, Prod.mk.injEq, Nat.sub_self, Nat.zero_add, Nat.reduceAdd, Nat.reduceSub, Nat.add_zero, isTy_int_int, isTy_bool_int, isTy_int_bool, isTy_bool_bool, isTy_int_tup, isTy_int_lst, isTy_int_non, isTy_int_str, isTy_tup_tup, isTy_tup_lst, isTy_tup_int, isTy_tup_bool, isTy_tup_non, isTy_tup_str, isTy_lst_lst, isTy_lst_tup, isTy_lst_int, exists_eq_left', exists_eq_left, exists_and_left, exists_eq_right, exists_eq, exists_eq', exists_const, true_and, and_true, and_self, Bool.not_true, Bool.not_false, if_true, if_false, Bool.false_eq_true, reduceIte, reduceCtorEq, List.nodup_nil, decide_eq_true_eq, atI_0, atI_1, atI_2, atI_3, atI_4, atI_5, atI_6, atI_7, atI_8, atI_9, atI_10, atI_11, ixN_3_0, ixN_3_1, ixN_3_2, sh_int, sh_bool, sh_non, and_assoc, nd1, nd_true, eq_self, decide_true, decide_false, Int.cast_ofNat_Int, not_true_eq_false, not_false_eq_true, eqv_ii, eqv_bb, wRaise0, e_raiseG, grK_i, e_raise1, onK_i, e_callX, xa_1, xa_2, xa_3, xa_4, xa_5, xa_6, xa_7, e_many, e_most, e_number, e_row, isLst_l, lsK_l, e_rd, e_br, brS_o, brS_v, arS_o, arS_v, avbK_n, avbK_f, avbK_l, scK_b, scK_i, scK_n, scK_s, e_callS, tmK_t, e_rep, enK_l, e_ienum, wTry, eqv_ss, tpK_v, txK_1, tutK_t, e_repT, e_callT, enTK_t, e_ienumT, r3K_i, e_rng3, e_newD, e_putD, e_lenD, e_listD, dcS_d, dcB_d, pvK_b, pvK_i, tkK_m, tkK_2, e_ssetI, oMinL_c, e_lset, e_lstZ, zlK_c, e_ins, e_callF, $xs,*] $[$l]?)
/-- a whole number that is no bool -/
def isI : PyData → Bool
  | .int _ => true
  | _ => false
def sp_is_whole : Spc := fun avs Kr _ => match avs with
  | [.val d] => Kr [] (.val (.bool (isI d)))
  | _ => False
/-- is_whole: 0 thing -/
def w_is_whole : WS :=
  (wRet ((wAndV (wIsi "int" (wVar 0)) (wNotV (wIsi "bool" (wVar 0))))))

theorem vc_is_whole : ∀ avs Kr Kx, avs.length = 1 → sp_is_whole avs Kr Kx → lsFrom 0 avs = [] ∧ w_is_whole (startEv 1 avs) (kenD [] Kr Kx) := by
  intro avs Kr Kx hl h
  unfold sp_is_whole at h
  split at h
  · rename_i d
    refine ⟨rfl, ?_⟩
    dsimp? [w_is_whole]
    cases d <;> dsimp? [isTy, tyN] <;> exact h
  · exact h.elim
theorem isI_int {d : PyData} (h : isI d = true) : ∃ i, d = .int i := by
  cases d <;> first | exact ⟨_, rfl⟩ | cases h
def sp_times_at : Spc := fun avs Kr _ => match avs with
  | [.val (.tuple ds), .val (.int n)] => ∃ cs, ds = cks cs ∧ (∀ c ∈ cs, 1 ≤ c.1) ∧ cs.length ≤ 100000 ∧ Kr [] (.val (.int (rgF cs n).length))
  | _ => False
/-- times_at: 0 clocks, 1 number -/
def w_times_at : WS :=
  (wRet (wCallB oLen (wACons (wCall 2 sp_rings_at (wMCons (wVar 0) (wMCons (wVar 1) wMNil))) wANil)))

theorem vc_times_at : ∀ avs Kr Kx, avs.length = 2 → sp_times_at avs Kr Kx → lsFrom 0 avs = [] ∧ w_times_at (startEv 2 avs) (kenD [] Kr Kx) := by
  intro avs Kr Kx hl h
  unfold sp_times_at at h
  split at h
  · rename_i ds n
    obtain ⟨cs, rfl, hc, hl, q⟩ := h
    refine ⟨rfl, ?_⟩
    dsimp? [w_times_at, sp_rings_at]
    refine ⟨cs, rfl, hc, hl, ?_⟩
    rw [List.length_map]
    exact q
  · exact h.elim
/-- tuples are of no overgreat length -/
def TL (d : PyData) : Prop := ∀ xs, d = .tuple xs → xs.length ≤ 1000
theorem TL.no {d : PyData} (h : ∀ xs, d ≠ .tuple xs) : TL d := fun xs e => absurd e (h xs)
theorem TL.tup {xs : List PyData} (h : xs.length ≤ 1000) : TL (.tuple xs) := fun ys e => by
  cases e
  exact h
end Dl
end L2

/-! The plain half, 14: clocks of splits, of ways, wide ones. -/
namespace L2
namespace Dl
open PySem PySem.Spec PyProof.Rows
local macro_rules | `(tactic| dsimp? [$xs,*] $[$l]?) => `(tactic| simp only [wSeq, wNext, wBreak, wCont, wDrop, wRet, wRetN, wIfS, wSet, wAsgT, e_aug, e_setIx, e_par, e_gN, getS_0, getS_s, setS_0, setS_s, e_var, varK_v, varK_o, varK_u, wC, wBin, rdK_v, rdK_t, rdK_s, rdS_v, rdS_o, rdS_u, fzK_v, fzK_t, fzK_s, fzS_v, fzS_o, fzS_l, fzS_u, e_fz, asg_v, asg_t, asg_s, e_tb, tbK_b, wAnd, wOr, wNot, e_notV, e_andV, e_orV, wBV, wIf, e_neg, intK_i, e_oso, wONo, e_rng1, e_rng2, wFNil, wFCons, wANil, wACons, wTup, wLst, e_callB, rdAllK_n, rdAllK_c, wIsi, e_call, wMNil, wMCons, e_ld, lnsOf, avsK_n, avsK_f, avsK_l, lnS_o, lnS_v, lnS_u, poK_n, poK_c, poS_o, inS_0, inS_s, rsK_v, rsK_o, wSl, e_ownF, e_own0, ownB_o, oS_o, oS_v, oS_u, agS_i, muApp, oAdd_i, oAdd_l, oAdd_t, oAdd_s, oSub_i, oMul_i, oFdiv_i, oMod_i, oPow_i, oShl_i, oShr_i, oOr_i, oAndB_i, oLt_i, oLe_i, oGt_i, oGe_i, oEq_i, oNe_i, oEq, oNe, oIx_l, oIx_t, oLen_l, oLen_t, oInt_i, oInt_b, oMax_i, oMin_i, oList_l, oList_t, oTuple_l, oTuple_t, oSorted_l, oSorted_t, oIs_n, oIsN_n, oIs_b, oIsN_b, isNone_n, isNone_t, isNone_l, isNone_i, isNone_s, isNone_b, oSl_l, oSl_t, oIn, gT_t, gC_c, gNil', e_iseq, sqK_l, sqK_t, e_isq, sq2K_l, sq2K_t, e_sset, ssK_l, ssK_t, e_chain, e_lr1, e_lr2, wRev, rvD_l, rvD_t, e_in1, e_in2, negB_f, negB_t, wIZip, zpK_l, zpK_t, zpK_m, e_extend, extR_t, wYes, startEv, kenD_nx, kenD_rt, kenD_bk, kenD_ct, kenD_ex, outK_n, outK_c, otS_o, rvK_v, rvK_t, rvK_s, rvS_v, rvS_o, slOf, lsFrom, wipeE, restE, List.map_cons, List.map_nil, List.length_cons, List.length_nil, List.replicate, List.append_nil, List.cons_append, List.nil_append, List.getElem?_cons_zero, List.getElem?_cons_succ, List.getElem?_nil, List.set_cons_zero, List.set_cons_succ, List.set_nil, Option.getD_some, Option.getD_none, Option.map_some, Option.map_none, Option.some.injEq, Rs.val.injEq, Rs.tmp.injEq, Rs.slot.injEq, Sl.own.injEq, Sl.val.injEq, PyData.int.injEq, PyData.bool.injEq, PyData.str.injEq, PyData.list.injEq, PyData.tuple.injEq, Prod.mk.injEq, Nat.sub_self, Nat.zero_add, Nat.reduceAdd, Nat.reduceSub, Nat.add_zero, isTy_int_int, isTy_bool_int, isTy_int_bool, isTy_bool_bool, isTy_int_tup, isTy_int_lst, isTy_int_non, isTy_int_str, isTy_tup_tup, isTy_tup_lst, isTy_tup_int, isTy_tup_bool, isTy_tup_non, isTy_tup_str, isTy_lst_lst, isTy_lst_tup, isTy_lst_int, exists_eq_left', exists_eq_left, exists_and_left, exists_eq_right, exists_eq, exists_eq', exists_const, true_and, and_true, and_self, Bool.not_true, Bool.not_false, if_true, if_false, Bool.false_eq_true, reduceIte, reduceCtorEq, List.nodup_nil, decide_eq_true_eq, atI_0, atI_1, atI_2, atI_3, atI_4, atI_5, atI_6, atI_7, atI_8, atI_9, atI_10, atI_11, ixN_3_0, ixN_3_1, ixN_3_2, sh_int, sh_bool, sh_non, and_assoc, nd1, nd_true, eq_self, decide_true, decide_false, Int.cast_ofNat_Int, not_true_eq_false, not_false_eq_true, eqv_ii, eqv_bb, wRaise0, e_raiseG, grK_i, e_raise1, onK_i, e_callX, xa_1, xa_2, xa_3, xa_4, xa_5, xa_6, xa_7, e_many, e_most, e_number, e_row, isLst_l, lsK_l, e_rd, e_br, brS_o, brS_v, arS_o, arS_v, avbK_n, avbK_f, avbK_l, scK_b, scK_i, scK_n, scK_s, e_callS, tmK_t, e_rep, enK_l, e_ienum, wTry, eqv_ss, tpK_v, txK_1, tutK_t, e_repT, e_callT, enTK_t, e_ienumT, r3K_i, e_rng3, e_newD, e_putD, e_lenD, e_listD, dcS_d, dcB_d, pvK_b, pvK_i, tkK_m, tkK_2, e_ssetI, oMinL_c, e_lset, e_lstZ, zlK_c, e_ins, e_callF, $xs,*] $[$l]?)
/-- as drawn clocks are: their round is at most 720 -/
def Ck7 (c : Int × Int) : Prop := CkOk 24 c ∧ c.1 ∣ 720
theorem Ck7.all {cs : List (Int × Int)} (h : ∀ c ∈ cs, Ck7 c) : ∀ c ∈ cs, CkOk 24 c := fun c hc => (h c hc).1
theorem em_mul {n st k : Int} (h : 1 ≤ st) : n % (st * k) = n % st + st * (n / st % k) := by
  have e : n / (st * k) = n / st / k := by
    rw [Int.ediv_ediv, if_neg (fun h => by have := h.1; omega), Int.sub_zero]
  rw [Int.emod_def, Int.emod_def n st, Int.emod_def (n / st) k, Int.mul_sub, e, Int.mul_assoc]
  omega
/-- just one rings, always; short ones have small steps -/
def SpW (cs : List (Int × Int)) : Prop := (∀ n, (rgF cs n).length = 1) ∧ ∀ c ∈ cs, 2 * c.1 ≤ 2 ^ cs.length
theorem SpW.one : SpW [(1, 0)] := ⟨fun n => by
  have : n % 1 = 0 := Int.emod_one n
  simp [rgF, this], fun c h => by
  rw [List.mem_singleton] at h
  subst h
  decide⟩
theorem rg_aux {N st re k r v : Int} (e : N = r + st * v) (h2 : 0 ≤ re) (h3 : re < st) (r0 : 0 ≤ r) (r1 : r < st) (v0 : 0 ≤ v) (v1 : v < k) (hk : 2 ≤ k ∧ k ≤ 3) :
    ((List.range k.toNat).filter fun (i : Nat) => decide (N = re + st * (i : Int))).length = if r = re then 1 else 0 := by
  subst e
  obtain rfl | rfl : k = 2 ∨ k = 3 := by omega
  · rw [show (List.range (2 : Int).toNat) = [0, 1] from rfl]
    simp only [List.filter_cons, List.filter_nil, decide_eq_true_eq]
    rw [show st * ((0 : Nat) : Int) = 0 from Int.mul_zero st, show st * ((1 : Nat) : Int) = st from Int.mul_one st]
    obtain rfl | rfl : v = 0 ∨ v = 1 := by omega
    · rw [Int.mul_zero]
      repeat' split
      all_goals (try simp only [List.length_cons, List.length_nil]) <;> omega
    · rw [Int.mul_one]
      repeat' split
      all_goals (try simp only [List.length_cons, List.length_nil]) <;> omega
  · rw [show (List.range (3 : Int).toNat) = [0, 1, 2] from rfl]
    simp only [List.filter_cons, List.filter_nil, decide_eq_true_eq]
    rw [show st * ((0 : Nat) : Int) = 0 from Int.mul_zero st, show st * ((1 : Nat) : Int) = st from Int.mul_one st, show st * ((2 : Nat) : Int) = st + st by rw [show ((2 : Nat) : Int) = 1 + 1 from rfl, Int.mul_add, Int.mul_one]]
    obtain rfl | rfl | rfl : v = 0 ∨ v = 1 ∨ v = 2 := by omega
    · rw [Int.mul_zero]
      repeat' split
      all_goals (try simp only [List.length_cons, List.length_nil]) <;> omega
    · rw [Int.mul_one]
      repeat' split
      all_goals (try simp only [List.length_cons, List.length_nil]) <;> omega
    · rw [show st * (2 : Int) = st + st by omega]
      repeat' split
      all_goals (try simp only [List.length_cons, List.length_nil]) <;> omega
theorem rg_parts {n st re k : Int} (h1 : 1 ≤ st) (h2 : 0 ≤ re) (h3 : re < st) (hk : 2 ≤ k ∧ k ≤ 3) : (rgF ((List.range k.toNat).map fun (i : Nat) => (st * k, re + st * (i : Int))) n).length = (rgF [(st, re)] n).length := by
  have e := rg_aux (em_mul (n := n) (k := k) h1) h2 h3 (Int.emod_nonneg n (show st ≠ 0 by omega)) (Int.emod_lt_of_pos n (show 0 < st by omega)) (Int.emod_nonneg (n / st) (show k ≠ 0 by omega)) (Int.emod_lt_of_pos (n / st) (show 0 < k by omega)) hk
  unfold rgF
  rw [List.filter_map, List.length_map]
  refine Eq.trans e ?_
  rw [List.filter_cons, List.filter_nil]
  by_cases z : n % st = re
  · rw [if_pos z, if_pos (decide_eq_true z)]
    rfl
  · rw [if_neg z, if_neg (by rw [decide_eq_false z]; decide)]
    rfl
theorem SpW.put {cs : List (Int × Int)} {j : Nat} {k : Int} (h : SpW cs) (hj : j < cs.length) (h1 : 1 ≤ cs[j].1) (h2 : 0 ≤ cs[j].2) (h3 : cs[j].2 < cs[j].1) (hk : 2 ≤ k ∧ k ≤ 3) :
    SpW (cs.take j ++ ((List.range k.toNat).map fun (i : Nat) => (cs[j].1 * k, cs[j].2 + cs[j].1 * (i : Int))) ++ cs.drop (j + 1)) := by
  have sp : cs = cs.take j ++ cs[j] :: cs.drop (j + 1) := by rw [← List.drop_eq_getElem_cons hj, List.take_append_drop]
  have hl : (cs.take j ++ ((List.range k.toNat).map fun (i : Nat) => (cs[j].1 * k, cs[j].2 + cs[j].1 * (i : Int))) ++ cs.drop (j + 1)).length = cs.length + k.toNat - 1 := by
    simp only [List.length_append, List.length_map, List.length_range, List.length_take, List.length_drop]
    omega
  refine ⟨fun n => ?_, fun c hc => ?_⟩
  · have e := h.1 n
    rw [sp] at e
    have e2 := rg_parts (n := n) (k := k) h1 h2 h3 hk
    unfold rgF at *
    rw [List.filter_append, List.length_append, List.filter_cons] at e
    rw [List.filter_append, List.filter_append, List.length_append, List.length_append, e2, List.filter_cons, List.filter_nil]
    by_cases z : n % cs[j].1 = cs[j].2
    · rw [if_pos (decide_eq_true z)] at e ⊢
      simp only [List.length_cons, List.length_nil] at e ⊢
      omega
    · rw [if_neg (by rw [decide_eq_false z]; decide)] at e ⊢
      simp only [List.length_nil] at e ⊢
      omega
  · rw [hl]
    have up : (2 : Int) ^ (cs.length + k.toNat - 1) = 2 ^ cs.length * 2 ^ (k.toNat - 1) := by rw [← Int.pow_add]; congr 1; omega
    have p0 : (0 : Int) < 2 ^ cs.length := Int.pow_pos (by decide)
    have old : ∀ d ∈ cs, 2 * d.1 ≤ 2 ^ (cs.length + k.toNat - 1) := fun d hd => by
      have := h.2 d hd
      rw [up]
      obtain rfl | rfl : k = 2 ∨ k = 3 := by omega
      · rw [show (2 : Int) ^ ((2 : Int).toNat - 1) = 2 from rfl]; omega
      · rw [show (2 : Int) ^ ((3 : Int).toNat - 1) = 4 from rfl]; omega
    rcases List.mem_append.mp hc with hc | hc
    · rcases List.mem_append.mp hc with hc | hc
      · exact old c (List.mem_of_mem_take hc)
      · obtain ⟨i, _, rfl⟩ := List.mem_map.mp hc
        have := h.2 _ (List.getElem_mem hj)
        show 2 * (cs[j].1 * k) ≤ _
        rw [up]
        generalize cs[j].1 = s at *
        obtain rfl | rfl : k = 2 ∨ k = 3 := by omega
        · rw [show (2 : Int) ^ ((2 : Int).toNat - 1) = 2 from rfl]; omega
        · rw [show (2 : Int) ^ ((3 : Int).toNat - 1) = 4 from rfl]; omega
    · exact old c (List.mem_of_mem_drop hc)
theorem cut_from {α : Type} (xs : List α) {j : Nat} (h : j ≤ xs.length) : cutD xs (some (j : Int)) none = xs.drop j := by
  unfold cutD
  rw [HT.sIx_none, HT.sIx_nat, Nat.min_eq_left h, List.take_of_length_le (by rw [List.length_drop]; exact Nat.le_refl _)]
end Dl
end L2

/-! The plain half, 15: small helpers. -/
namespace L2
namespace Dl
open PySem PySem.Spec PyProof.Rows
def iv : PyData → Int
  | .int n => n
  | _ => 0
end Dl
end L2

/-! The plain half, 16: refusals; rounds gone through. -/
namespace L2
namespace Dl
open PySem PySem.Spec PyProof.Rows
/-- clocks as all are -/
structure GC (cs : List (Int × Int)) : Prop where
  ok : ∀ c ∈ cs, CkOk 1000 c
  len : cs.length ≤ 100
theorem GC.one {cs : List (Int × Int)} (h : GC cs) : ∀ c ∈ cs, 1 ≤ c.1 := fun c z => (h.ok c z).1
theorem GC.pb3 {cs : List (Int × Int)} (h : GC cs) : (prodS cs).natAbs < 2 ^ 3000 := prodS_b3 h.ok h.len
theorem GC.pb {cs : List (Int × Int)} (h : GC cs) : (prodS cs).natAbs < 2 ^ 8000 := prodS_b h.ok h.len
theorem GC.rp {cs : List (Int × Int)} (h : GC cs) : 0 < rnd 1 cs := (rnd_spec cs 1 (by decide) h.one).1
theorem GC.rb {cs : List (Int × Int)} (h : GC cs) : (rnd 1 cs).natAbs < 2 ^ 3000 := nab_lt (by have := h.rp; omega) (by have := rnd_le (f := 1) (by decide) h.one; omega) h.pb3
theorem GC.rok {cs : List (Int × Int)} (h : GC cs) {Q : List (Int × Int) → Prop} (q : Q cs) : RndOk (cks cs) Q := ⟨cs, rfl, h.one, h.pb, q⟩
theorem GC.nil : GC [] := ⟨fun _ z => (by cases z), by decide⟩
theorem GC.of {m : Int} {cs : List (Int × Int)} (hm : m ≤ 1000) (h : ∀ c ∈ cs, CkOk m c) (hl : cs.length ≤ 100) : GC cs := ⟨ck_mono hm h, hl⟩
/-- 0, 1, .. below n -/
def rgI (n : Int) : List Int := (List.range n.toNat).map fun (i : Nat) => (i : Int)
theorem rgI_d (n : Int) : ((List.range n.toNat).map fun (i : Nat) => PyData.int (i : Int)) = (rgI n).map .int := by
  unfold rgI
  rw [List.map_map]
  rfl
theorem rgI_len (n : Int) : (rgI n).length = n.toNat := by unfold rgI; rw [List.length_map, List.length_range]
theorem rgI_mem {n m : Int} : m ∈ rgI n ↔ 0 ≤ m ∧ m < n := by
  unfold rgI
  constructor
  · intro h
    obtain ⟨i, hi, rfl⟩ := List.mem_map.mp h
    have := List.mem_range.mp hi
    omega
  · intro ⟨h1, h2⟩
    exact List.mem_map.mpr ⟨m.toNat, List.mem_range.mpr (by omega), by omega⟩
/-- a for that returns the first that is so -/
theorem each_find {β : Type} {g : WG} {t : WS} {k : Ken} (en : β → PyData) (xs : List β) (p : β → Bool) (J : Ev → Prop) (fin : ∀ e, J e → xs.find? p = none → k.nx e)
    (step : ∀ n ∈ xs, ∀ e (R : Ev → Prop), J e → (p n = true → xs.find? p = some n) → (p n = false → ∀ e2, J e2 → R e2) → g (en n) e (fun e1 => t e1 { k with nx := R, ct := R, bk := k.nx })) :
    ∀ e, J e → wEach g t (xs.map en) e k := by
  have gen : ∀ (l : List β) e, (∀ n ∈ l, n ∈ xs) → xs.find? p = l.find? p → J e → wEach g t (l.map en) e k := by
    intro l
    induction l with
    | nil => intro e _ hf h; exact fin e h (by rw [hf]; rfl)
    | cons n l ih =>
      intro e hs hf h
      refine step n (hs n List.mem_cons_self) e _ h (fun hp => by rw [hf, List.find?_cons_of_pos hp]) fun hp e2 h2 => ?_
      exact ih e2 (fun m hm => hs m (List.mem_cons_of_mem _ hm)) (by rw [hf, List.find?_cons_of_neg (by rw [hp]; decide)]) h2
  exact fun e h => gen xs e (fun _ z => z) rfl h
/-! ### what an exception is called -/
end Dl
end L2

/-! The plain half, 17: what goes round: missed numbers. -/
namespace L2
namespace Dl
open PySem PySem.Spec PyProof.Rows
local macro_rules | `(tactic| dsimp? [$xs,*] $[$l]?) => `(tactic| simp only [wSeq, wNext, wBreak, wCont, wDrop, wRet, wRetN, wIfS, wSet, wAsgT, e_aug, e_setIx, e_par, e_gN, getS_0, getS_s, setS_0, setS_s, e_var, varK_v, varK_o, varK_u, wC, wBin, rdK_v, rdK_t, rdK_s, rdS_v, rdS_o, rdS_u, fzK_v, fzK_t, fzK_s, fzS_v, fzS_o, fzS_l, fzS_u, e_fz, asg_v, asg_t, asg_s, e_tb, tbK_b, wAnd, wOr, wNot, e_notV, e_andV, e_orV, wBV, wIf, e_neg, intK_i, e_oso, wONo, e_rng1, e_rng2, wFNil, wFCons, wANil, wACons, wTup, wLst, e_callB, rdAllK_n, rdAllK_c, wIsi, e_call, wMNil, wMCons, e_ld, lnsOf, avsK_n, avsK_f, avsK_l, lnS_o, lnS_v, lnS_u, poK_n, poK_c, poS_o, inS_0, inS_s, rsK_v, rsK_o, wSl, e_ownF, e_own0, ownB_o, oS_o, oS_v, oS_u, agS_i, muApp, oAdd_i, oAdd_l, oAdd_t, oAdd_s, oSub_i, oMul_i, oFdiv_i, oMod_i, oPow_i, oShl_i, oShr_i, oOr_i, oAndB_i, oLt_i, oLe_i, oGt_i, oGe_i, oEq_i, oNe_i, oEq, oNe, oIx_l, oIx_t, oLen_l, oLen_t, oInt_i, oInt_b, oMax_i, oMin_i, oList_l, oList_t, oTuple_l, oTuple_t, oSorted_l, oSorted_t, oIs_n, oIsN_n, oIs_b, oIsN_b, isNone_n, isNone_t, isNone_l, isNone_i, isNone_s, isNone_b, oSl_l, oSl_t, oIn, gT_t, gC_c, gNil', e_iseq, sqK_l, sqK_t, e_isq, sq2K_l, sq2K_t, e_sset, ssK_l, ssK_t, e_chain, e_lr1, e_lr2, wRev, rvD_l, rvD_t, e_in1, e_in2, negB_f, negB_t, wIZip, zpK_l, zpK_t, zpK_m, e_extend, extR_t, wYes, startEv, kenD_nx, kenD_rt, kenD_bk, kenD_ct, kenD_ex, outK_n, outK_c, otS_o, rvK_v, rvK_t, rvK_s, rvS_v, rvS_o, slOf, lsFrom, wipeE, restE, List.map_cons, List.map_nil, List.length_cons, List.length_nil, List.replicate, List.append_nil, List.cons_append, List.nil_append, List.getElem?_cons_zero, List.getElem?_cons_succ, List.getElem?_nil, List.set_cons_zero, List.set_cons_succ, List.set_nil, Option.getD_some, Option.getD_none, Option.map_some, Option.map_none, Option.some.injEq, Rs.val.injEq, Rs.tmp.injEq, Rs.slot.injEq, Sl.own.injEq, Sl.val.injEq, PyData.int.injEq, PyData.bool.injEq, PyData.str.injEq, PyData.list.injEq, PyData.tuple.injEq, Prod.mk.injEq, Nat.sub_self, Nat.zero_add, Nat.reduceAdd, Nat.reduceSub, Nat.add_zero, isTy_int_int, isTy_bool_int, isTy_int_bool, isTy_bool_bool, isTy_int_tup, isTy_int_lst, isTy_int_non, isTy_int_str, isTy_tup_tup, isTy_tup_lst, isTy_tup_int, isTy_tup_bool, isTy_tup_non, isTy_tup_str, isTy_lst_lst, isTy_lst_tup, isTy_lst_int, exists_eq_left', exists_eq_left, exists_and_left, exists_eq_right, exists_eq, exists_eq', exists_const, true_and, and_true, and_self, Bool.not_true, Bool.not_false, if_true, if_false, Bool.false_eq_true, reduceIte, reduceCtorEq, List.nodup_nil, decide_eq_true_eq, atI_0, atI_1, atI_2, atI_3, atI_4, atI_5, atI_6, atI_7, atI_8, atI_9, atI_10, atI_11, ixN_3_0, ixN_3_1, ixN_3_2, sh_int, sh_bool, sh_non, and_assoc, nd1, nd_true, eq_self, decide_true, decide_false, Int.cast_ofNat_Int, not_true_eq_false, not_false_eq_true, eqv_ii, eqv_bb, wRaise0, e_raiseG, grK_i, e_raise1, onK_i, e_callX, xa_1, xa_2, xa_3, xa_4, xa_5, xa_6, xa_7, e_many, e_most, e_number, e_row, isLst_l, lsK_l, e_rd, e_br, brS_o, brS_v, arS_o, arS_v, avbK_n, avbK_f, avbK_l, scK_b, scK_i, scK_n, scK_s, e_callS, tmK_t, e_rep, enK_l, e_ienum, wTry, eqv_ss, tpK_v, txK_1, tutK_t, e_repT, e_callT, enTK_t, e_ienumT, r3K_i, e_rng3, e_newD, e_putD, e_lenD, e_listD, dcS_d, dcB_d, pvK_b, pvK_i, tkK_m, tkK_2, e_ssetI, oMinL_c, e_lset, e_lstZ, zlK_c, e_ins, e_callF, $xs,*] $[$l]?)
def sp_check_round : Spc := fun avs Kr Kx => match avs with
  | [.val (.tuple ds)] => ∃ cs, ds = cks cs ∧ GC cs ∧ (rnd 1 cs ≤ 10000 → Kr [] (.val .none)) ∧ (10000 < rnd 1 cs → False)
  | _ => False
/-- check_round: 0 clocks -/
def w_check_round : WS :=
  (wIfS (wTB (wBin oGt (wCall 1 sp_round_of (wMCons (wVar 0) wMNil)) (wC (.int 10000)))) wNever wNext)

theorem vc_check_round : ∀ avs Kr Kx, avs.length = 1 → sp_check_round avs Kr Kx → lsFrom 0 avs = [] ∧ w_check_round (startEv 1 avs) (kenD [] Kr Kx) := by
  intro avs Kr Kx hl h
  unfold sp_check_round at h
  split at h
  · rename_i ds
    obtain ⟨cs, rfl, hc, q1, q2⟩ := h
    refine ⟨rfl, ?_⟩
    dsimp? [w_check_round, sp_round_of]
    refine hc.rok ?_
    split
    · rename_i h
      first | exact q2 h | (refine hc.rok ?_; exact q2 h)
    · rename_i h
      exact q1 (by omega)
  · exact h.elim
/-! a list that is as it is due, of whole numbers -/
theorem ints_inj : ∀ {a b : List Int}, a.map PyData.int = b.map PyData.int → a = b
  | [], [], _ => rfl
  | [], _ :: _, h => by cases h
  | _ :: _, [], h => by cases h
  | x :: a, y :: b, h => by
    simp only [List.map_cons, List.cons.injEq, PyData.int.injEq] at h
    rw [h.1, ints_inj h.2]
theorem io_ints (ns : List Int) : io.ioAll (ns.map .int) = true := io_all fun d h => by
  obtain ⟨c, _, rfl⟩ := List.mem_map.mp h
  rfl
theorem eqv_lin (a b : List Int) : PyData.eqv (.list (a.map .int)) (.list (b.map .int)) = decide (a = b) := by
  have q := eqv_io (.list (a.map .int)) (.list (b.map .int)) (io_ints a) (io_ints b)
  by_cases h : a = b
  · subst h
    rw [decide_eq_true rfl]
    exact q.mpr rfl
  · rw [decide_eq_false h]
    cases e : PyData.eqv (.list (a.map .int)) (.list (b.map .int)) with
    | false => rfl
    | true => exact absurd (ints_inj (by simpa using q.mp e)) h
end Dl
end L2

/-! The plain half, 18: clocks in order, stretched, put in. -/
namespace L2
namespace Dl
open PySem PySem.Spec PyProof.Rows
/-! clocks rising, each once -/
/-- each once, rising -/
def ordC (cs : List (Int × Int)) : List (Int × Int) := cs.eraseDups.mergeSort cle
def InO (ds : List PyData) (K : List (Int × Int) → Prop) : Prop := ∃ (m : Int) (cs : List (Int × Int)), ds = cks cs ∧ m ≤ 2 ^ 60 ∧ (∀ c ∈ cs, CkOk m c) ∧ cs.length < 64 ∧ K (ordC cs)
theorem InO.mk {m : Int} {cs : List (Int × Int)} {K : List (Int × Int) → Prop} (hm : m ≤ 2 ^ 60) (h : ∀ c ∈ cs, CkOk m c) (hl : cs.length < 64) (k : K (ordC cs)) : InO (cks cs) K := ⟨m, cs, rfl, hm, h, hl, k⟩
/-! what is told of a refusal -/
end Dl
end L2

/-! The plain half, 19: clocks that ring alone; no places. -/
namespace L2
namespace Dl
open PySem PySem.Spec PyProof.Rows

def optI : Option Int → PyData
  | some n => .int n
  | none => .none
theorem each_all {β : Type} {g : WG} {t : WS} {k : Ken} (en : β → PyData) (xs : List β) (J : Ev → Prop) (fin : ∀ e, J e → k.nx e)
    (step : ∀ n ∈ xs, ∀ e (R : Ev → Prop), J e → (∀ e2, J e2 → R e2) → g (en n) e (fun e1 => t e1 { k with nx := R, ct := R, bk := k.nx })) :
    ∀ e, J e → wEach g t (xs.map en) e k :=
  each_find en xs (fun _ => false) J (fun e h _ => fin e h) fun n hn e R h _ ih => step n hn e R h (ih rfl)
end Dl
end L2

/-! The plain half, 20: clocks mirrored, stretched; numbers; what rings. -/
namespace L2
namespace Dl
open PySem PySem.Spec PyProof.Rows
end Dl
end L2

/-! The plain half, 21: what is a clock; where two meet, by looking. -/
namespace L2
namespace Dl
open PySem PySem.Spec PyProof.Rows
/-- where two meet -/
def metO (c d : Int × Int) : Option Int := (rgI (lcm2 c d)).find? fun x => decide ((x - c.2) % c.1 = 0) && decide ((x - d.2) % d.1 = 0)
def metD (c d : Int × Int) : PyData := match metO c d with
  | some x => ck (lcm2 c d, x)
  | none => .none
theorem Rg_dec {c : Int × Int} {x : Int} : decide ((x - c.2) % c.1 = 0) = true ↔ Rg c x := by
  rw [decide_eq_true_iff]
  exact (Int.dvd_iff_emod_eq_zero).symm
theorem metO_some {c d : Int × Int} {x : Int} (h : metO c d = some x) : Meets c d x ∧ 0 ≤ x ∧ x < lcm2 c d := by
  have h1 := List.find?_some h
  have h2 := List.mem_of_find?_eq_some h
  rw [Bool.and_eq_true] at h1
  exact ⟨⟨Rg_dec.mp h1.1, Rg_dec.mp h1.2⟩, rgI_mem.mp h2⟩
theorem metO_at {c d : Int × Int} {x : Int} (h : Meets c d x) (x0 : 0 ≤ x) (x1 : x < lcm2 c d) : metO c d = some x := by
  cases e : metO c d with
  | none =>
    have h1 := List.find?_eq_none.mp e x (rgI_mem.mpr ⟨x0, x1⟩)
    rw [Bool.and_eq_true] at h1
    exact (h1 ⟨Rg_dec.mpr h.1, Rg_dec.mpr h.2⟩).elim
  | some y =>
    obtain ⟨m, y0, y1⟩ := metO_some e
    rw [Meets.one m h y0 y1 x0 x1]
theorem Meets.mod {c d : Int × Int} {x : Int} : Meets c d (x % lcm2 c d) ↔ Meets c d x := by
  unfold Meets
  rw [Rg.mod (lcm2_l c d), Rg.mod (lcm2_r c d)]
theorem metO_none {c d : Int × Int} (hc : 1 ≤ c.1) (hd : 1 ≤ d.1) (h : metO c d = none) (x : Int) : ¬ Meets c d x := fun m => by
  have hp := lcm2_pos hc hd
  have := metO_at (Meets.mod.mpr m) (Int.emod_nonneg x (by omega)) (Int.emod_lt_of_pos x hp)
  rw [h] at this
  cases this
theorem metO_no {c d : Int × Int} (h : ∀ x, ¬ Meets c d x) : metO c d = none := by
  cases e : metO c d with
  | none => rfl
  | some y => exact (h y (metO_some e).1).elim
theorem meet_mk {c d : Int × Int} {K : PyData → Prop} (k : K (metD c d)) : MeetK c d K := by
  unfold metD at k
  refine ⟨fun h => ?_, fun x h x0 x1 => ?_⟩
  · rw [metO_no h] at k
    exact k
  · rw [metO_at h x0 x1] at k
    exact k
end Dl
end L2

/-! The plain half, 22: clocks good or not, told by anybody. -/
namespace L2
namespace Dl
open PySem PySem.Spec PyProof.Rows
theorem all_map_id {α : Type} (p : α → Bool) (xs : List α) : (xs.map p).all id = xs.all p := by
  rw [List.all_map]
  rfl


end Dl
end L2

/-! The plain half, 23: papers of cases. -/
namespace L2
namespace Dl
open PySem PySem.Spec PyProof.Rows
/-- set rests, None where none is -/
abbrev kps (ks : List (Option Int)) : List PyData := ks.map optI
def fr (ks : List (Option Int)) (i : Nat) : Bool := match ks[i]? with
  | some none => true
  | _ => false
/-- the places of those not set, below m -/
def freeU (ks : List (Option Int)) (m : Nat) : List Nat := (List.range m).filter (fr ks)
abbrev freeI (ks : List (Option Int)) : List Nat := freeU ks ks.length
theorem cut_toN {α : Type} (xs : List α) (m : Nat) : cutD xs none (some (m : Int)) = xs.take m := by
  unfold cutD
  rw [HT.sIx_none, HT.sIx_nat, List.drop_zero, Nat.sub_zero, List.take_eq_take_iff]
  omega
end Dl
end L2

/-! The plain half, 24: comprehensions that draw. -/
namespace L2
namespace Dl
open PySem PySem.Spec PyProof.Rows
end Dl
end L2

/-! The plain half, 25: steps, and rests that cover. -/
namespace L2
namespace Dl
open PySem PySem.Spec PyProof.Rows
def stp : PyData → Bool
  | .int s => decide (2 ≤ s) && decide (s ≤ 24)
  | _ => false
def stB : PyData → Bool
  | .list xs => decide (1 ≤ xs.length) && (decide (xs.length ≤ 6) && xs.all stp)
  | _ => false
theorem stB_at (xs : List PyData) : stB (.list xs) = (decide (1 ≤ xs.length) && (decide (xs.length ≤ 6) && xs.all stp)) := rfl
theorem stB_ints {ns : List Int} (h1 : 1 ≤ ns.length) (h6 : ns.length ≤ 6) (hs : ∀ s ∈ ns, 2 ≤ s ∧ s ≤ 24) : stB (.list (ns.map .int)) = true := by
  rw [stB_at, List.length_map, decide_eq_true h1, decide_eq_true h6, Bool.true_and, Bool.true_and, List.all_map, List.all_eq_true]
  intro s h
  have := hs s h
  show (decide (2 ≤ s) && decide (s ≤ 24)) = true
  rw [decide_eq_true this.1, decide_eq_true this.2]
  rfl
/-- what steps are refused, and what is told of the others -/
def StK (d : PyData) (X : Prop) (K : List Int → Prop) : Prop := (stB d = false → X) ∧ ∀ ns : List Int, d = .list (ns.map .int) → 1 ≤ ns.length → ns.length ≤ 6 → (∀ s ∈ ns, 2 ≤ s ∧ s ≤ 24) → K ns
end Dl
end L2

/-! The plain half, 26: rests found and not found; papers of cases. -/
namespace L2
namespace Dl
open PySem PySem.Spec PyProof.Rows
/-! ### papers of cases -/
theorem enD_rg (xs : List PyData) (d : PyData) : enD xs = (List.range xs.length).map fun (i : Nat) => PyData.tuple [.int (i : Int), xs.getD i d] := by
  refine List.ext_getElem (by rw [enD_len, List.length_map, List.length_range]) fun i h1 h2 => ?_
  rw [enD_len] at h1
  have := enD_at (List.getElem?_eq_getElem h1)
  rw [List.getElem_map, List.getElem_range, List.getD_eq_getElem?_getD, List.getElem?_eq_getElem h1]
  rw [List.getElem?_eq_getElem (by rw [enD_len]; exact h1)] at this
  exact Option.some.inj this
end Dl
end L2

/-! The plain half, 27: marks. -/
namespace L2
namespace Dl
open PySem PySem.Spec PyProof.Rows
theorem cshl_one {k : Int} (h0 : 0 ≤ k) (h1 : k ≤ 100000) : CShl 1 k := by
  have := shl_ok (i := 1) (j := k.toNat) (n := 1) (by decide) (by omega)
  rwa [Int.toNat_of_nonneg h0] at this

def rp : Int × PyData → Bool
  | (s, .int r) => decide (0 ≤ r) && decide (r < s)
  | _ => false
end Dl
end L2

/-! The plain half, 28: all rests, counted. -/
namespace L2
namespace Dl
open PySem PySem.Spec PyProof.Rows
abbrev nats (ms : List Nat) : List PyData := ms.map fun (m : Nat) => PyData.int (m : Int)
theorem StK.good {ns : List Int} {X : Prop} {K : List Int → Prop} (h1 : 1 ≤ ns.length) (h6 : ns.length ≤ 6) (hs : ∀ s ∈ ns, 2 ≤ s ∧ s ≤ 24) (k : K ns) : StK (.list (ns.map .int)) X K := by
  refine ⟨fun h => ?_, fun ms e _ _ _ => ?_⟩
  · rw [stB_ints h1 h6 hs] at h
    cases h
  · have e2 : ns = ms := ints_inj (PyData.list.inj e)
    rw [← e2]
    exact k
end Dl
end L2

/-! The plain half, 29: the law's own look at rests. -/
namespace L2
namespace Dl
open PySem PySem.Spec PyProof.Rows

end Dl
end L2

/-! The plain half, 30: clocks split; split papers. -/
namespace L2
namespace Dl
open PySem PySem.Spec PyProof.Rows
/-- no deeper than n, no wider than 8 -/
def SpN : Nat → PyData → Prop
  | 0, _ => False
  | n + 1, d => ∀ k ps, d = .tuple [k, .tuple ps] → ps.length ≤ 8 ∧ ∀ p ∈ ps, SpN n p
def pgB : Nat → PyData → Bool
  | 0, _ => false
  | _ + 1, .none => true
  | n + 1, .tuple [.int k, .tuple ps] => decide (2 ≤ k) && (decide ((ps.length : Int) = k) && ps.all (pgB n))
  | _ + 1, _ => false
theorem pgB_at (n : Nat) (k : Int) (ps : List PyData) : pgB (n + 1) (.tuple [.int k, .tuple ps]) = (decide (2 ≤ k) && (decide ((ps.length : Int) = k) && ps.all (pgB n))) := rfl
theorem SpN.up : ∀ {n : Nat} {d : PyData}, SpN n d → SpN (n + 1) d
  | 0, _, h => h.elim
  | n + 1, d, h => fun k ps e => ⟨(h k ps e).1, fun p hp => ((h k ps e).2 p hp).up⟩
theorem SpN.mono {m n : Nat} {d : PyData} (h : SpN m d) (hm : m ≤ n) : SpN n d := by
  induction n with
  | zero =>
    have : m = 0 := by omega
    subst this
    exact h
  | succ n ih =>
    by_cases e : m = n + 1
    · subst e
      exact h
    · exact (ih (by omega)).up
def PpN : Nat → PyData → Prop
  | 0, d => d = .none
  | n + 1, d => d = .none ∨ ∃ ps : List PyData, d = .tuple [.int (ps.length : Int), .tuple ps] ∧ 2 ≤ ps.length ∧ ps.length ≤ 7 ∧ ∀ p ∈ ps, PpN n p
theorem PpN.sp : ∀ {n : Nat} {d : PyData}, PpN n d → SpN (n + 1) d
  | 0, d, h => fun k ps e => by
    have h : d = .none := h
    subst h
    cases e
  | n + 1, d, h => fun k ps e => by
    rcases h with rfl | ⟨qs, rfl, h2, h7, hq⟩
    · cases e
    · cases e
      exact ⟨by omega, fun p hp => (hq p hp).sp⟩
theorem PpN.pg : ∀ {n : Nat} {d : PyData}, PpN n d → pgB (n + 1) d = true
  | 0, d, h => by
    have h : d = .none := h
    subst h
    rfl
  | n + 1, d, h => by
    rcases h with rfl | ⟨qs, rfl, h2, h7, hq⟩
    · rfl
    · rw [pgB_at, decide_eq_true (show (2 : Int) ≤ (qs.length : Int) by omega), decide_eq_true rfl, Bool.true_and, Bool.true_and, List.all_eq_true]
      exact fun p hp => (hq p hp).pg
end Dl
end L2

/-! The plain half, 31: split papers by least primes. -/
namespace L2
namespace Dl
open PySem PySem.Spec PyProof.Rows
end Dl
end L2

/-! The plain half, 33: cover papers looked at by anybody. -/
namespace L2
namespace Dl
open PySem PySem.Spec PyProof.Rows
end Dl
end L2

/-! The plain half, 34: cover papers found. -/
namespace L2
namespace Dl
open PySem PySem.Spec PyProof.Rows

end Dl
end L2

/-! The plain half, 35: misses, tallies, exactness, splits. -/
namespace L2
namespace Dl
open PySem PySem.Spec PyProof.Rows
local macro_rules | `(tactic| dsimp? [$xs,*] $[$l]?) => `(tactic| simp only [wSeq, wNext, wBreak, wCont, wDrop, wRet, wRetN, wIfS, wSet, wAsgT, e_aug, e_setIx, e_par, e_gN, getS_0, getS_s, setS_0, setS_s, e_var, varK_v, varK_o, varK_u, wC, wBin, rdK_v, rdK_t, rdK_s, rdS_v, rdS_o, rdS_u, fzK_v, fzK_t, fzK_s, fzS_v, fzS_o, fzS_l, fzS_u, e_fz, asg_v, asg_t, asg_s, e_tb, tbK_b, wAnd, wOr, wNot, e_notV, e_andV, e_orV, wBV, wIf, e_neg, intK_i, e_oso, wONo, e_rng1, e_rng2, wFNil, wFCons, wANil, wACons, wTup, wLst, e_callB, rdAllK_n, rdAllK_c, wIsi, e_call, wMNil, wMCons, e_ld, lnsOf, avsK_n, avsK_f, avsK_l, lnS_o, lnS_v, lnS_u, poK_n, poK_c, poS_o, inS_0, inS_s, rsK_v, rsK_o, wSl, e_ownF, e_own0, ownB_o, oS_o, oS_v, oS_u, agS_i, muApp, oAdd_i, oAdd_l, oAdd_t, oAdd_s, oSub_i, oMul_i, oFdiv_i, oMod_i, oPow_i, oShl_i, oShr_i, oOr_i, oAndB_i, oLt_i, oLe_i, oGt_i, oGe_i, oEq_i, oNe_i, oEq, oNe, oIx_l, oIx_t, oLen_l, oLen_t, oInt_i, oInt_b, oMax_i, oMin_i, oList_l, oList_t, oTuple_l, oTuple_t, oSorted_l, oSorted_t, oIs_n, oIsN_n, oIs_b, oIsN_b, isNone_n, isNone_t, isNone_l, isNone_i, isNone_s, isNone_b, oSl_l, oSl_t, oIn, gT_t, gC_c, gNil', e_iseq, sqK_l, sqK_t, e_isq, sq2K_l, sq2K_t, e_sset, ssK_l, ssK_t, e_chain, e_lr1, e_lr2, wRev, rvD_l, rvD_t, e_in1, e_in2, negB_f, negB_t, wIZip, zpK_l, zpK_t, zpK_m, e_extend, extR_t, wYes, startEv, kenD_nx, kenD_rt, kenD_bk, kenD_ct, kenD_ex, outK_n, outK_c, otS_o, rvK_v, rvK_t, rvK_s, rvS_v, rvS_o, slOf, lsFrom, wipeE, restE, List.map_cons, List.map_nil, List.length_cons, List.length_nil, List.replicate, List.append_nil, List.cons_append, List.nil_append, List.getElem?_cons_zero, List.getElem?_cons_succ, List.getElem?_nil, List.set_cons_zero, List.set_cons_succ, List.set_nil, Option.getD_some, Option.getD_none, Option.map_some, Option.map_none, Option.some.injEq, Rs.val.injEq, Rs.tmp.injEq, Rs.slot.injEq, Sl.own.injEq, Sl.val.injEq, PyData.int.injEq, PyData.bool.injEq, PyData.str.injEq, PyData.list.injEq, PyData.tuple.injEq, Prod.mk.injEq, Nat.sub_self, Nat.zero_add, Nat.reduceAdd, Nat.reduceSub, Nat.add_zero, isTy_int_int, isTy_bool_int, isTy_int_bool, isTy_bool_bool, isTy_int_tup, isTy_int_lst, isTy_int_non, isTy_int_str, isTy_tup_tup, isTy_tup_lst, isTy_tup_int, isTy_tup_bool, isTy_tup_non, isTy_tup_str, isTy_lst_lst, isTy_lst_tup, isTy_lst_int, exists_eq_left', exists_eq_left, exists_and_left, exists_eq_right, exists_eq, exists_eq', exists_const, true_and, and_true, and_self, Bool.not_true, Bool.not_false, if_true, if_false, Bool.false_eq_true, reduceIte, reduceCtorEq, List.nodup_nil, decide_eq_true_eq, atI_0, atI_1, atI_2, atI_3, atI_4, atI_5, atI_6, atI_7, atI_8, atI_9, atI_10, atI_11, ixN_3_0, ixN_3_1, ixN_3_2, sh_int, sh_bool, sh_non, and_assoc, nd1, nd_true, eq_self, decide_true, decide_false, Int.cast_ofNat_Int, not_true_eq_false, not_false_eq_true, eqv_ii, eqv_bb, wRaise0, e_raiseG, grK_i, e_raise1, onK_i, e_callX, xa_1, xa_2, xa_3, xa_4, xa_5, xa_6, xa_7, e_many, e_most, e_number, e_row, isLst_l, lsK_l, e_rd, e_br, brS_o, brS_v, arS_o, arS_v, avbK_n, avbK_f, avbK_l, scK_b, scK_i, scK_n, scK_s, e_callS, tmK_t, e_rep, enK_l, e_ienum, wTry, eqv_ss, tpK_v, txK_1, tutK_t, e_repT, e_callT, enTK_t, e_ienumT, r3K_i, e_rng3, e_newD, e_putD, e_lenD, e_listD, dcS_d, dcB_d, pvK_b, pvK_i, tkK_m, tkK_2, e_ssetI, oMinL_c, e_lset, e_lstZ, zlK_c, e_ins, e_callF, $xs,*] $[$l]?)
theorem GC.put {cs : List (Int × Int)} {c : Int × Int} (h : GC cs) (hl : cs.length ≤ 90) (hc : CkOk 1000 c) : GC (cs ++ [c]) := ⟨fun d hd => by
  rcases List.mem_append.mp hd with z | z
  · exact h.ok d z
  · simp only [List.mem_singleton] at z
    rw [z]
    exact hc, by rw [List.length_append, List.length_singleton]; omega⟩
/-- one number more, rung so often -/
def talS (cs : List (Int × Int)) (t : List Int) (n : Int) : List Int := t.set (rgF cs n).length (t.getD (rgF cs n).length 0 + 1)
def talF (cs : List (Int × Int)) (ms : List Int) (t : List Int) : List Int := ms.foldl (talS cs) t
def tal0 (cs : List (Int × Int)) : List Int := talF cs (rgI (rnd 1 cs)) (List.replicate (cs.length + 1) 0)
theorem talS_len (cs : List (Int × Int)) (t : List Int) (n : Int) : (talS cs t n).length = t.length := List.length_set
theorem rg_le (cs : List (Int × Int)) (n : Int) : (rgF cs n).length ≤ cs.length := List.length_filter_le _ _
theorem tal_get {cs : List (Int × Int)} {t : List Int} {n : Int} (ht : t.length = cs.length + 1) : (t.map PyData.int)[(rgF cs n).length]? = some (.int (t.getD (rgF cs n).length 0)) := by
  have h := rg_le cs n
  have hi : (rgF cs n).length < t.length := by omega
  rw [List.getElem?_map, List.getElem?_eq_getElem hi, List.getD_eq_getElem?_getD, List.getElem?_eq_getElem hi]
  rfl
theorem tal_set (cs : List (Int × Int)) (t : List Int) (n : Int) : (t.map PyData.int).set (rgF cs n).length (.int (t.getD (rgF cs n).length 0 + 1)) = (talS cs t n).map .int := by
  unfold talS
  rw [List.map_set]
theorem rep0 (k : Nat) : (List.replicate k [PyData.int 0]).flatten = (List.replicate k (0 : Int)).map .int := by
  induction k with
  | zero => rfl
  | succ k ih =>
    rw [List.replicate_succ, List.replicate_succ, List.flatten_cons, ih]
    rfl
def sp_tally_of : Spc := fun avs Kr Kx => match avs with
  | [.val (.tuple ds)] => ∃ cs, ds = cks cs ∧ GC cs ∧ (rnd 1 cs ≤ 10000 → Kr [] (.own ((tal0 cs).map .int))) ∧ (10000 < rnd 1 cs → False)
  | _ => False
def w_tally_of_B1 : WS :=
  (wSeq (wSet 3 (wCall 2 sp_times_at (wMCons (wVar 0) (wMCons (wVar 2) wMNil))))
    (wSetIx 1 (wVar 3) (wBin oAdd (wBin oIx (wVar 1) (wVar 3)) (wC (.int 1)))))
def w_tally_of_L1 : WS :=
  wFor (wIRng1 (wCall 1 sp_round_of (wMCons (wVar 0) wMNil))) (gN 2) w_tally_of_B1
def w_tally_of_R1 : WS :=
  (wRet (wVar 1))
/-- tally_of: 0 clocks, 1 found, 2 number, 3 times -/
def w_tally_of : WS :=
  (wSeq (wDrop (wCall 1 sp_check_round (wMCons (wVar 0) wMNil)))
    (wSeq (wSet 1 (wRep (wLst (wFCons (wC (.int 0)) wFNil)) (wBin oAdd (wCallB oLen (wACons (wVar 0) wANil)) (wC (.int 1)))))
    (wSeq w_tally_of_L1
    w_tally_of_R1)))

theorem vc_tally_of : ∀ avs Kr Kx, avs.length = 1 → sp_tally_of avs Kr Kx → lsFrom 0 avs = [] ∧ w_tally_of (startEv 4 avs) (kenD [] Kr Kx) := by
  intro avs Kr Kx hl h
  unfold sp_tally_of at h
  split at h
  · rename_i ds
    obtain ⟨cs, rfl, hc, q1, q2⟩ := h
    refine ⟨rfl, ?_⟩
    have rp := hc.rp
    have hl := hc.len
    have lc : (cks cs).length = cs.length := List.length_map _
    unfold w_tally_of
    refine seq_cut fun R hR => ?_
    dsimp? [sp_check_round]
    refine ⟨cs, rfl, hc, fun hr => hR _ ?_, q2⟩
    have q := q1 hr
    refine seq_cut fun R2 hR2 => ?_
    dsimp? [lc]
    rw [show ((cs.length : Int) + 1).toNat = cs.length + 1 by omega, rep0]
    refine ⟨by decide, by rw [sizeLine_eq]; omega, by omega, by omega, hR2 _ ?_⟩
    dsimp? [w_tally_of_L1, wFor, sp_round_of]
    refine hc.rok ?_
    dsimp? [rgI_d]
    refine ⟨by omega, by omega, ?_⟩
    refine wEach_ind (fun es e => ∃ (ms t : List Int) (x2 x3 : Sl), es = ms.map .int ∧ e = [.val (.tuple (cks cs)), .own false (t.map .int), x2, x3] ∧ t.length = cs.length + 1 ∧ talF cs ms t = tal0 cs) ?_ ?_ _ _ ⟨rgI (rnd 1 cs), List.replicate (cs.length + 1) 0, _, _, rfl, rfl, List.length_replicate, rfl⟩
    · rintro e ⟨ms, t, x2, x3, h1, rfl, h3, h4⟩
      cases ms with
      | cons _ _ => cases h1
      | nil =>
        have h4 : t = tal0 cs := h4
        subst h4
        dsimp? [w_tally_of_R1]
        exact q
    · rintro d es e ⟨ms, t, x2, x3, h1, rfl, h3, h4⟩ ih
      cases ms with
      | nil => cases h1
      | cons n ms =>
        cases h1
        have hle := rg_le cs n
        unfold w_tally_of_B1
        refine seq_cut fun R3 hR3 => ?_
        dsimp? [sp_times_at]
        refine ⟨cs, rfl, hc.one, by omega, hR3 _ ?_⟩
        dsimp? []
        refine ⟨_, atI_nat (tal_get h3), ?_⟩
        dsimp? [List.length_map]
        refine ⟨(rgF cs n).length, ?_, ?_⟩
        · unfold ixN
          rw [if_pos (by omega), if_pos (by omega), Int.toNat_natCast]
        · rw [tal_set]
          exact ih _ ⟨ms, talS cs t n, _, _, rfl, rfl, (talS_len cs t n).trans h3, h4⟩
  · exact h.elim
end Dl
end L2

/-! The plain half, 36: exact clocks cover; sums over a round. -/
namespace L2
namespace Dl
open PySem PySem.Spec PyProof.Rows
def sumN (f : Nat → Int) : Nat → Int
  | 0 => 0
  | n + 1 => sumN f n + f n
theorem sumN_add (f : Nat → Int) (a : Nat) : ∀ b, sumN f (a + b) = sumN f a + sumN (fun n => f (a + n)) b
  | 0 => by show sumN f a = sumN f a + 0; omega
  | b + 1 => by
    show sumN f (a + b) + f (a + b) = sumN f a + (sumN (fun n => f (a + n)) b + f (a + b))
    rw [sumN_add f a b]
    omega
theorem sumN_congr {f g : Nat → Int} : ∀ {n : Nat}, (∀ i < n, f i = g i) → sumN f n = sumN g n
  | 0, _ => rfl
  | n + 1, h => by
    show sumN f n + f n = sumN g n + g n
    rw [sumN_congr fun i hi => h i (by omega), h n (by omega)]
theorem sumN_plus (f g : Nat → Int) : ∀ n, sumN (fun i => f i + g i) n = sumN f n + sumN g n
  | 0 => rfl
  | n + 1 => by
    show sumN (fun i => f i + g i) n + (f n + g n) = sumN f n + f n + (sumN g n + g n)
    rw [sumN_plus f g n]
    omega
theorem sumN_zero : ∀ n, sumN (fun _ => 0) n = 0
  | 0 => rfl
  | n + 1 => by
    show sumN (fun _ => 0) n + 0 = 0
    rw [sumN_zero n]
    rfl
end Dl
end L2

/-! The plain half, 37: tuples of places, sorted. -/
namespace L2
namespace Dl
open PySem PySem.Spec PyProof.Rows
end Dl
end L2

/-! The plain half, 38: marks of clocks; least covers. -/
namespace L2
namespace Dl
open PySem PySem.Spec PyProof.Rows
/-! the law's own way -/
def kc (c : Int × Int) : List Int := [c.1, c.2]
theorem keys_put (kvs : List (List Int × PyData)) (k : List Int) (d : PyData) : (putD kvs k d).map (·.1) = if k ∈ kvs.map (·.1) then kvs.map (·.1) else kvs.map (·.1) ++ [k] := by
  unfold putD
  by_cases h : (kvs.any fun p => decide (p.1 = k)) = true
  · have hm : k ∈ kvs.map (·.1) := by
      obtain ⟨p, hp, e⟩ := List.any_eq_true.mp h
      exact List.mem_map.mpr ⟨p, hp, of_decide_eq_true e⟩
    rw [if_pos h, if_pos hm, List.map_map]
    refine List.map_congr_left fun p _ => ?_
    show ((if p.1 = k then (p.1, d) else p) : List Int × PyData).1 = p.1
    split <;> rfl
  · have hm : ¬ k ∈ kvs.map (·.1) := fun z => by
      obtain ⟨p, hp, e⟩ := List.mem_map.mp z
      exact h (List.any_eq_true.mpr ⟨p, hp, decide_eq_true e⟩)
    rw [if_neg h, if_neg hm, List.map_append]
    rfl
theorem nd_len {α : Type} [DecidableEq α] : ∀ {L M : List α}, L.Nodup → (∀ x ∈ L, x ∈ M) → L.length ≤ M.length
  | [], _, _, _ => Nat.zero_le _
  | x :: L, M, nd, h => by
    rw [List.nodup_cons] at nd
    have hx := h x List.mem_cons_self
    have := nd_len (L := L) (M := M.erase x) nd.2 fun y hy => (List.mem_erase_of_ne (fun e => nd.1 (by subst e; exact hy))).mpr (h y (List.mem_cons_of_mem _ hy))
    rw [List.length_erase_of_mem hx] at this
    have := List.length_pos_of_mem hx
    rw [List.length_cons]
    omega
/-- those that rang alone up to here -/
def AlI (sm : List (Int × Int)) (pre : List Int) (kvs : List (List Int × PyData)) : Prop := (kvs.map (·.1)).Nodup ∧ ∀ k, k ∈ kvs.map (·.1) ↔ ∃ n ∈ pre, ∃ c, rgF sm n = [c] ∧ k = kc c
theorem AlI.put {sm : List (Int × Int)} {pre : List Int} {kvs : List (List Int × PyData)} {n : Int} {c : Int × Int} {d : PyData} (h : AlI sm pre kvs) (hc : rgF sm n = [c]) : AlI sm (pre ++ [n]) (putD kvs (kc c) d) := by
  obtain ⟨nd, mem⟩ := h
  unfold AlI
  rw [keys_put]
  by_cases hm : kc c ∈ kvs.map (·.1)
  · rw [if_pos hm]
    refine ⟨nd, fun k => ?_⟩
    rw [mem k]
    constructor
    · rintro ⟨m, hm, z⟩
      exact ⟨m, List.mem_append_left _ hm, z⟩
    · rintro ⟨m, hmm, e, h1, h2⟩
      rcases List.mem_append.mp hmm with z | z
      · exact ⟨m, z, e, h1, h2⟩
      · rw [List.mem_singleton] at z
        subst z
        rw [hc] at h1
        cases h1
        subst h2
        exact (mem _).mp hm
  · rw [if_neg hm]
    refine ⟨?_, fun k => ?_⟩
    · rw [List.nodup_append]
      refine ⟨nd, by simp, fun a ha b hb e => ?_⟩
      rw [List.mem_singleton] at hb
      subst hb e
      exact hm ha
    · rw [List.mem_append, mem k, List.mem_singleton]
      constructor
      · rintro (⟨m, hm, z⟩ | rfl)
        · exact ⟨m, List.mem_append_left _ hm, z⟩
        · exact ⟨n, List.mem_append_right _ List.mem_cons_self, c, hc, rfl⟩
      · rintro ⟨m, hmm, e, h1, h2⟩
        rcases List.mem_append.mp hmm with z | z
        · exact .inl ⟨m, z, e, h1, h2⟩
        · rw [List.mem_singleton] at z
          subst z
          rw [hc] at h1
          cases h1
          exact .inr h2
theorem AlI.len {sm : List (Int × Int)} {pre : List Int} {kvs : List (List Int × PyData)} (h : AlI sm pre kvs) : kvs.length ≤ sm.length := by
  have := nd_len (M := sm.map kc) h.1 fun k hk => by
    obtain ⟨n, _, c, h1, rfl⟩ := (h.2 k).mp hk
    have : c ∈ rgF sm n := by rw [h1]; exact List.mem_cons_self
    exact List.mem_map_of_mem (List.mem_filter.mp this).1
  rwa [List.length_map, List.length_map] at this
end Dl
end L2

/-! The plain half, 39: least covers: what they are, drawn clocks. -/
namespace L2
namespace Dl
open PySem PySem.Spec PyProof.Rows

/-! rising tuples of places -/
end Dl
end L2

/-! The plain half, 40: all sets of places; least covers in order. -/
namespace L2
namespace Dl
open PySem PySem.Spec PyProof.Rows

end Dl
end L2

/-! The plain half, 41: clocks seen within a clock. -/
namespace L2
namespace Dl
open PySem PySem.Spec PyProof.Rows
end Dl
end L2

/-! The plain half, 42: exact clocks are those of which just one rings; changed clocks. -/
namespace L2
namespace Dl
open PySem PySem.Spec PyProof.Rows
/-- just one rings -/
def One (cs : List (Int × Int)) : Prop := ∀ n, (rgF cs n).length = 1
theorem One.perm {cs ds : List (Int × Int)} (h : One cs) (p : cs.Perm ds) : One ds := fun n => by
  rw [← h n]
  exact (p.filter _).length_eq.symm
/-! mirrored -/
/-! stretched, and seen -/
/-! put in -/
/-- short covers by splits -/
theorem SpW.ok {cs : List (Int × Int)} (h : SpW cs) (hl : cs.length ≤ 3) (hc : ∀ c ∈ cs, CkOk 1000 c) : ∀ c ∈ cs, CkOk 4 c ∧ c.1 ∣ 12 := fun c hcm => by
  have h1 := h.2 c hcm
  obtain ⟨a1, a2, a3, a4⟩ := hc c hcm
  have h4 : c.1 ≤ 4 := by
    have : cs.length = 0 ∨ cs.length = 1 ∨ cs.length = 2 ∨ cs.length = 3 := by omega
    rcases this with e | e | e | e <;> rw [e] at h1
    · have : (2 : Int) ^ 0 = 1 := rfl
      omega
    · have : (2 : Int) ^ 1 = 2 := rfl
      omega
    · have : (2 : Int) ^ 2 = 4 := rfl
      omega
    · have : (2 : Int) ^ 3 = 8 := rfl
      omega
  refine ⟨⟨a1, h4, a3, a4⟩, ?_⟩
  have : c.1 = 1 ∨ c.1 = 2 ∨ c.1 = 3 ∨ c.1 = 4 := by omega
  rcases this with e | e | e | e <;> rw [e] <;> decide
end Dl
end L2

/-! The plain half, 43: papers of needs; least covers: there are some, none is part of another, the fewest. -/
namespace L2
namespace Dl
open PySem PySem.Spec PyProof.Rows
theorem rgF_mod {cs : List (Int × Int)} {M n : Int} (h : ∀ c ∈ cs, c.1 ∣ M) : rgF cs (n % M) = rgF cs n := by
  unfold rgF
  refine List.filter_congr fun c hc => ?_
  rw [Int.emod_emod_of_dvd n (h c hc)]
end Dl
end L2

/-! The plain half, 44: rests that cover, going round; all rests; the share. -/
namespace L2
namespace Dl
open PySem PySem.Spec PyProof.Rows
end Dl
end L2

/-! The plain half, 45: rests that cover: as many in another order; steps put in their stead; shares. -/
namespace L2
namespace Dl
open PySem PySem.Spec PyProof.Rows

/-! shares -/
/-! steps in the stead of others -/
end Dl
end L2

/-! The plain half, 46: tallies summed, clashes and unlike counts told. -/
namespace L2
namespace Dl
open PySem PySem.Spec PyProof.Rows
theorem set_sum : ∀ {t : List Int} {i : Nat} {v : Int}, i < t.length → (t.set i v).sum = t.sum - t.getD i 0 + v
  | [], _, _, h => by cases h
  | x :: t, 0, v, _ => by
    rw [List.set_cons_zero, List.sum_cons, List.sum_cons]
    show v + t.sum = x + t.sum - x + v
    omega
  | x :: t, i + 1, v, h => by
    rw [List.set_cons_succ, List.sum_cons, List.sum_cons, set_sum (by simpa using h)]
    show x + (t.sum - t.getD i 0 + v) = x + t.sum - t.getD i 0 + v
    omega
/-- each times its place -/
def wgS : Nat → List Int → Int
  | _, [] => 0
  | k, x :: t => (k : Int) * x + wgS (k + 1) t
theorem set_wgS : ∀ {t : List Int} {i k : Nat} {v : Int}, i < t.length → wgS k (t.set i v) = wgS k t + ((k + i : Nat) : Int) * (v - t.getD i 0)
  | [], _, _, _, h => by cases h
  | x :: t, 0, k, v, _ => by
    rw [List.set_cons_zero]
    show (k : Int) * v + wgS (k + 1) t = (k : Int) * x + wgS (k + 1) t + (k : Int) * (v - x)
    rw [Int.mul_sub]
    omega
  | x :: t, i + 1, k, v, h => by
    rw [List.set_cons_succ]
    show (k : Int) * x + wgS (k + 1) (t.set i v) = (k : Int) * x + wgS (k + 1) t + ((k + (i + 1) : Nat) : Int) * (v - t.getD i 0)
    rw [set_wgS (by simpa using h), show k + 1 + i = k + (i + 1) by omega]
    omega
theorem talS_sum {cs : List (Int × Int)} {t : List Int} {n : Int} (h : t.length = cs.length + 1) : (talS cs t n).sum = t.sum + 1 ∧ wgS 0 (talS cs t n) = wgS 0 t + (rgF cs n).length := by
  have hl : (rgF cs n).length < t.length := by have := rg_le cs n; omega
  unfold talS
  constructor
  · rw [set_sum hl]
    omega
  · rw [set_wgS hl, show t.getD (rgF cs n).length 0 + 1 - t.getD (rgF cs n).length 0 = 1 by omega, Int.mul_one, Nat.zero_add]
theorem talF_sum (cs : List (Int × Int)) : ∀ (ms t : List Int), t.length = cs.length + 1 → (talF cs ms t).sum = t.sum + ms.length ∧ wgS 0 (talF cs ms t) = wgS 0 t + (ms.map fun n => ((rgF cs n).length : Int)).sum
  | [], t, h => by simp [talF]
  | n :: ms, t, h => by
    obtain ⟨a, b⟩ := talF_sum cs ms (talS cs t n) ((talS_len cs t n).trans h)
    obtain ⟨c, d⟩ := talS_sum (n := n) h
    show (talF cs ms (talS cs t n)).sum = _ ∧ wgS 0 (talF cs ms (talS cs t n)) = _
    rw [a, b, c, d, List.map_cons, List.sum_cons, List.length_cons]
    constructor <;> omega
theorem rep_sum0 : ∀ k j : Nat, (List.replicate k (0 : Int)).sum = 0 ∧ wgS j (List.replicate k 0) = 0
  | 0, j => ⟨rfl, rfl⟩
  | k + 1, j => by
    obtain ⟨a, b⟩ := rep_sum0 k (j + 1)
    rw [List.replicate_succ, List.sum_cons, a]
    refine ⟨rfl, ?_⟩
    show (j : Int) * 0 + wgS (j + 1) (List.replicate k 0) = 0
    rw [b, Int.mul_zero]
    rfl
end Dl
end L2

/-! The plain half, 47: tuples of clocks, sorted. -/
namespace L2
namespace Dl
open PySem PySem.Spec PyProof.Rows
end Dl
end L2

/-! The plain half, 48: exact clocks of a round, filled. -/
namespace L2
namespace Dl
open PySem PySem.Spec PyProof.Rows
end Dl
end L2

/-! The plain half, 49: clocks met of all choices. -/
namespace L2
namespace Dl
open PySem PySem.Spec PyProof.Rows
local macro_rules | `(tactic| dsimp? [$xs,*] $[$l]?) => `(tactic| simp only [wSeq, wNext, wBreak, wCont, wDrop, wRet, wRetN, wIfS, wSet, wAsgT, e_aug, e_setIx, e_par, e_gN, getS_0, getS_s, setS_0, setS_s, e_var, varK_v, varK_o, varK_u, wC, wBin, rdK_v, rdK_t, rdK_s, rdS_v, rdS_o, rdS_u, fzK_v, fzK_t, fzK_s, fzS_v, fzS_o, fzS_l, fzS_u, e_fz, asg_v, asg_t, asg_s, e_tb, tbK_b, wAnd, wOr, wNot, e_notV, e_andV, e_orV, wBV, wIf, e_neg, intK_i, e_oso, wONo, e_rng1, e_rng2, wFNil, wFCons, wANil, wACons, wTup, wLst, e_callB, rdAllK_n, rdAllK_c, wIsi, e_call, wMNil, wMCons, e_ld, lnsOf, avsK_n, avsK_f, avsK_l, lnS_o, lnS_v, lnS_u, poK_n, poK_c, poS_o, inS_0, inS_s, rsK_v, rsK_o, wSl, e_ownF, e_own0, ownB_o, oS_o, oS_v, oS_u, agS_i, muApp, oAdd_i, oAdd_l, oAdd_t, oAdd_s, oSub_i, oMul_i, oFdiv_i, oMod_i, oPow_i, oShl_i, oShr_i, oOr_i, oAndB_i, oLt_i, oLe_i, oGt_i, oGe_i, oEq_i, oNe_i, oEq, oNe, oIx_l, oIx_t, oLen_l, oLen_t, oInt_i, oInt_b, oMax_i, oMin_i, oList_l, oList_t, oTuple_l, oTuple_t, oSorted_l, oSorted_t, oIs_n, oIsN_n, oIs_b, oIsN_b, isNone_n, isNone_t, isNone_l, isNone_i, isNone_s, isNone_b, oSl_l, oSl_t, oIn, gT_t, gC_c, gNil', e_iseq, sqK_l, sqK_t, e_isq, sq2K_l, sq2K_t, e_sset, ssK_l, ssK_t, e_chain, e_lr1, e_lr2, wRev, rvD_l, rvD_t, e_in1, e_in2, negB_f, negB_t, wIZip, zpK_l, zpK_t, zpK_m, e_extend, extR_t, wYes, startEv, kenD_nx, kenD_rt, kenD_bk, kenD_ct, kenD_ex, outK_n, outK_c, otS_o, rvK_v, rvK_t, rvK_s, rvS_v, rvS_o, slOf, lsFrom, wipeE, restE, List.map_cons, List.map_nil, List.length_cons, List.length_nil, List.replicate, List.append_nil, List.cons_append, List.nil_append, List.getElem?_cons_zero, List.getElem?_cons_succ, List.getElem?_nil, List.set_cons_zero, List.set_cons_succ, List.set_nil, Option.getD_some, Option.getD_none, Option.map_some, Option.map_none, Option.some.injEq, Rs.val.injEq, Rs.tmp.injEq, Rs.slot.injEq, Sl.own.injEq, Sl.val.injEq, PyData.int.injEq, PyData.bool.injEq, PyData.str.injEq, PyData.list.injEq, PyData.tuple.injEq, Prod.mk.injEq, Nat.sub_self, Nat.zero_add, Nat.reduceAdd, Nat.reduceSub, Nat.add_zero, isTy_int_int, isTy_bool_int, isTy_int_bool, isTy_bool_bool, isTy_int_tup, isTy_int_lst, isTy_int_non, isTy_int_str, isTy_tup_tup, isTy_tup_lst, isTy_tup_int, isTy_tup_bool, isTy_tup_non, isTy_tup_str, isTy_lst_lst, isTy_lst_tup, isTy_lst_int, exists_eq_left', exists_eq_left, exists_and_left, exists_eq_right, exists_eq, exists_eq', exists_const, true_and, and_true, and_self, Bool.not_true, Bool.not_false, if_true, if_false, Bool.false_eq_true, reduceIte, reduceCtorEq, List.nodup_nil, decide_eq_true_eq, atI_0, atI_1, atI_2, atI_3, atI_4, atI_5, atI_6, atI_7, atI_8, atI_9, atI_10, atI_11, ixN_3_0, ixN_3_1, ixN_3_2, sh_int, sh_bool, sh_non, and_assoc, nd1, nd_true, eq_self, decide_true, decide_false, Int.cast_ofNat_Int, not_true_eq_false, not_false_eq_true, eqv_ii, eqv_bb, wRaise0, e_raiseG, grK_i, e_raise1, onK_i, e_callX, xa_1, xa_2, xa_3, xa_4, xa_5, xa_6, xa_7, e_many, e_most, e_number, e_row, isLst_l, lsK_l, e_rd, e_br, brS_o, brS_v, arS_o, arS_v, avbK_n, avbK_f, avbK_l, scK_b, scK_i, scK_n, scK_s, e_callS, tmK_t, e_rep, enK_l, e_ienum, wTry, eqv_ss, tpK_v, txK_1, tutK_t, e_repT, e_callT, enTK_t, e_ienumT, r3K_i, e_rng3, e_newD, e_putD, e_lenD, e_listD, dcS_d, dcB_d, pvK_b, pvK_i, tkK_m, tkK_2, e_ssetI, oMinL_c, e_lset, e_lstZ, zlK_c, e_ins, e_callF, $xs,*] $[$l]?)
/-- in how many ways so few are chosen -/
def bin : Nat → Nat → Nat
  | _, 0 => 1
  | 0, _ + 1 => 0
  | n + 1, k + 1 => bin n k + bin n (k + 1)
theorem bin_0 (n : Nat) : bin n 0 = 1 := by cases n <;> rfl
theorem bin_s (n k : Nat) : bin (n + 1) (k + 1) = bin n k + bin n (k + 1) := rfl
theorem bin_le : ∀ n k : Nat, bin n k ≤ 2 ^ n
  | 0, 0 => by decide
  | 0, k + 1 => by show 0 ≤ _; exact Nat.zero_le _
  | n + 1, 0 => by rw [bin_0]; exact Nat.one_le_two_pow
  | n + 1, k + 1 => by
    have := bin_le n k
    have := bin_le n (k + 1)
    rw [bin_s, Nat.pow_succ]
    omega
def MetOk (R : Int) (m : Int × Int) : Prop := 1 ≤ m.1 ∧ 0 ≤ m.2 ∧ m.2 < m.1 ∧ m.1 ∣ R
theorem MetOk.rg {R : Int} {m : Int × Int} (h : MetOk R m) (x : Int) : Rg m x ↔ x % m.1 = m.2 := Rg_mod h.2.1 h.2.2.1
/-- those met of a list's and one more -/
def esF (l : List (Int × Int)) (c : Int × Int) : List (Int × Int) := l.filterMap fun m => (metO m c).map fun x => (lcm2 m c, x)
theorem es_ok {R : Int} {c : Int × Int} (hc : MetOk R c) {l : List (Int × Int)} (hl : ∀ m ∈ l, MetOk R m) : ∀ m ∈ esF l c, MetOk R m := fun m h => by
  obtain ⟨d, hd, e⟩ := List.mem_filterMap.mp h
  cases e2 : metO d c with
  | none => rw [e2] at e; cases e
  | some x =>
    rw [e2] at e
    cases e
    obtain ⟨_, h0, h1⟩ := metO_some e2
    have := lcm2_pos (hl d hd).1 hc.1
    exact ⟨by show 1 ≤ lcm2 d c; omega, h0, h1, dvd_lcm2 (hl d hd).2.2.2 hc.2.2.2⟩
theorem es_len (l : List (Int × Int)) (c : Int × Int) : (esF l c).length ≤ l.length := List.length_filterMap_le _ _
theorem rg_cons (m : Int × Int) (l : List (Int × Int)) (x : Int) : (rgF (m :: l) x).length = (if x % m.1 = m.2 then 1 else 0) + (rgF l x).length := by
  unfold rgF
  rw [List.filter_cons]
  by_cases h : x % m.1 = m.2
  · rw [if_pos (by rw [decide_eq_true h]), if_pos h, List.length_cons, Nat.add_comm]
  · rw [if_neg (by rw [decide_eq_false h]; decide), if_neg h, Nat.zero_add]
theorem rg_app (l k : List (Int × Int)) (x : Int) : (rgF (l ++ k) x).length = (rgF l x).length + (rgF k x).length := by
  unfold rgF
  rw [List.filter_append, List.length_append]
theorem met_ring {R : Int} {m c : Int × Int} (hm : MetOk R m) (hc : MetOk R c) {y : Int} (h : metO m c = some y) (x : Int) : x % lcm2 m c = y ↔ x % m.1 = m.2 ∧ x % c.1 = c.2 := by
  obtain ⟨h1, h0, h2⟩ := metO_some h
  have hp := lcm2_pos hm.1 hc.1
  rw [← hm.rg, ← hc.rg]
  constructor
  · intro e
    subst e
    exact Meets.mod.mp h1
  · intro k
    exact Meets.one (Meets.mod.mpr k) h1 (Int.emod_nonneg x (by omega)) (Int.emod_lt_of_pos x hp) h0 h2
theorem es_ring {R : Int} {c : Int × Int} (hc : MetOk R c) (x : Int) : ∀ {l : List (Int × Int)}, (∀ m ∈ l, MetOk R m) → (rgF (esF l c) x).length = if x % c.1 = c.2 then (rgF l x).length else 0
  | [], _ => by split <;> rfl
  | m :: l, hl => by
    have hm := hl m List.mem_cons_self
    have ih := es_ring hc x (l := l) fun d h => hl d (List.mem_cons_of_mem _ h)
    unfold esF at ih ⊢
    rw [List.filterMap_cons]
    cases e : metO m c with
    | none =>
      show (rgF (l.filterMap _) x).length = _
      rw [ih]
      by_cases h : x % c.1 = c.2
      · rw [if_pos h, if_pos h, rg_cons, if_neg fun z => metO_none hm.1 hc.1 e x ⟨(hm.rg x).mpr z, (hc.rg x).mpr h⟩, Nat.zero_add]
      · rw [if_neg h, if_neg h]
    | some y =>
      show (rgF ((lcm2 m c, y) :: l.filterMap _) x).length = _
      rw [rg_cons, ih]
      have k := met_ring hm hc e x
      by_cases h : x % c.1 = c.2
      · rw [if_pos h, if_pos h, rg_cons]
        by_cases z : x % m.1 = m.2
        · rw [if_pos z, if_pos (k.mpr ⟨z, h⟩)]
        · rw [if_neg z, if_neg fun w => z (k.mp w).1]
      · rw [if_neg h, if_neg h, if_neg fun w => h (k.mp w).2]
/-- the lists, the ones beyond j with c -/
def dnC (dn : List (Int × Int)) (c : Int × Int) (j k : Nat) : List (Int × Int) := if j < k then dn ++ [c] else dn
def LsOk (R : Int) (n : Nat) (f : Nat → List (Int × Int)) (L : List (List (Int × Int))) : Prop := L.length = n + 1 ∧ ∀ k l, L[k]? = some l → l.length ≤ bin (f k).length k ∧ (∀ m ∈ l, MetOk R m) ∧ ∀ x, (rgF l x).length = bin (rgF (f k) x).length k
theorem ls_step {R : Int} {n j : Nat} {dn : List (Int × Int)} {c : Int × Int} {L : List (List (Int × Int))} (hc : MetOk R c) (h : LsOk R n (dnC dn c (j + 1)) L) (hj : j < n) :
    LsOk R n (dnC dn c j) (L.set (j + 1) (L.getD (j + 1) [] ++ esF (L.getD j []) c)) := by
  obtain ⟨hl, h⟩ := h
  have e1 : L[j + 1]? = some (L.getD (j + 1) []) := by rw [List.getD_eq_getElem?_getD, List.getElem?_eq_getElem (by omega)]; rfl
  have e0 : L[j]? = some (L.getD j []) := by rw [List.getD_eq_getElem?_getD, List.getElem?_eq_getElem (by omega)]; rfl
  obtain ⟨a1, a2, a3⟩ := h _ _ e1
  obtain ⟨b1, b2, b3⟩ := h _ _ e0
  have d1 : dnC dn c (j + 1) (j + 1) = dn := if_neg (by omega)
  have d0 : dnC dn c (j + 1) j = dn := if_neg (by omega)
  have d2 : dnC dn c j (j + 1) = dn ++ [c] := if_pos (by omega)
  rw [d1] at a1 a3
  rw [d0] at b1 b3
  refine ⟨by rw [List.length_set]; exact hl, fun k l e => ?_⟩
  by_cases z : j + 1 = k
  · subst z
    rw [List.getElem?_set_self (by omega)] at e
    cases e
    rw [d2]
    refine ⟨?_, fun m hm => ?_, fun x => ?_⟩
    · have := es_len (L.getD j []) c
      rw [List.length_append, List.length_append, List.length_singleton, bin_s]
      omega
    · rcases List.mem_append.mp hm with w | w
      · exact a2 m w
      · exact es_ok hc b2 m w
    · rw [rg_app, rg_app, es_ring hc x b2, a3 x, b3 x, rg_cons]
      by_cases w : x % c.1 = c.2
      · rw [if_pos w, if_pos w]
        show _ = bin ((rgF dn x).length + (1 + 0)) (j + 1)
        rw [Nat.add_zero, bin_s, Nat.add_comm]
      · rw [if_neg w, if_neg w]
        rfl
  · rw [List.getElem?_set_ne z] at e
    have ed : dnC dn c j k = dnC dn c (j + 1) k := by
      unfold dnC
      by_cases w : j < k
      · rw [if_pos w, if_pos (by omega)]
      · rw [if_neg w, if_neg (by omega)]
    rw [ed]
    exact h k l e
theorem ls_in {R : Int} {n : Nat} {dn : List (Int × Int)} {c : Int × Int} {L : List (List (Int × Int))} (h : LsOk R n (fun _ => dn) L) : LsOk R n (dnC dn c n) L := by
  refine ⟨h.1, fun k l e => ?_⟩
  have hk := (List.getElem?_eq_some_iff.mp e).1
  have ed : dnC dn c n k = dn := if_neg (by have := h.1; omega)
  rw [ed]
  exact h.2 k l e
theorem ls_out {R : Int} {n : Nat} {dn : List (Int × Int)} {c : Int × Int} {L : List (List (Int × Int))} (h : LsOk R n (dnC dn c 0) L) : LsOk R n (fun _ => dn ++ [c]) L := by
  refine ⟨h.1, fun k l e => ?_⟩
  obtain ⟨h1, h2, h3⟩ := h.2 k l e
  cases k with
  | zero =>
    rw [bin_0] at h1
    exact ⟨by rw [bin_0]; exact h1, h2, fun x => by have := h3 x; rw [bin_0] at this ⊢; exact this⟩
  | succ k =>
    have ed : dnC dn c 0 (k + 1) = dn ++ [c] := if_pos (by omega)
    rw [ed] at h1 h3
    exact ⟨h1, h2, h3⟩
theorem ls_start (R : Int) (n : Nat) : LsOk R n (fun _ => []) ([(1, 0)] :: List.replicate n []) := by
  refine ⟨by rw [List.length_cons, List.length_replicate], fun k l e => ?_⟩
  cases k with
  | zero =>
    cases e
    refine ⟨by decide, fun m hm => ?_, fun x => ?_⟩
    · rw [List.mem_singleton] at hm
      subst hm
      exact ⟨by decide, by decide, by decide, Int.one_dvd _⟩
    · rw [rg_cons, if_pos (Int.emod_one x)]
      rfl
  | succ k =>
    have e : (List.replicate n ([] : List (Int × Int)))[k]? = some l := e
    rw [List.getElem?_replicate] at e
    split at e
    · cases e
      exact ⟨Nat.zero_le _, fun m h => (by cases h), fun x => rfl⟩
    · cases e
theorem tupDs_cks : ∀ cs : List (Int × Int), tupDs (cks cs) = true
  | [] => rfl
  | c :: cs => by
    show (tupD (ck c) && tupDs (cks cs)) = true
    rw [tupDs_cks cs]
    rfl
abbrev lsD (L : List (List (Int × Int))) : List (List PyData) := L.map cks
theorem lsD_getD (L : List (List (Int × Int))) (j : Nat) : (lsD L).getD j [] = cks (L.getD j []) := by
  unfold lsD
  rw [List.getD_eq_getElem?_getD, List.getD_eq_getElem?_getD, List.getElem?_map]
  cases L[j]? <;> rfl
theorem lsD_set (L : List (List (Int × Int))) (j : Nat) (l : List (Int × Int)) : (lsD L).set j (cks l) = lsD (L.set j l) := by
  unfold lsD
  rw [List.map_set]
theorem es_d (l : List (Int × Int)) (c : Int × Int) : (l.filterMap fun m => if isNone (metD m c) = true then none else some (metD m c)) = cks (esF l c) := by
  induction l with
  | nil => rfl
  | cons m l ih =>
    unfold esF at ih ⊢
    rw [List.filterMap_cons, List.filterMap_cons]
    unfold metD at ih ⊢
    cases e : metO m c with
    | none => exact ih
    | some x =>
      show ck (lcm2 m c, x) :: l.filterMap _ = cks ((lcm2 m c, x) :: l.filterMap _)
      rw [ih]
      rfl
def sp_met_lists : Spc := fun avs Kr Kx => match avs with
  | [.val (.tuple ds)] => ∃ cs, ds = cks cs ∧ GC cs ∧ cs.length ≤ 12 ∧ ∀ L, LsOk (rnd 1 cs) cs.length (fun _ => cs) L → Kr [] (.own (L.map fun l => .list (cks l)))
  | _ => False
def w_met_lists_C1 : WE :=
  wLc [5] (wISeq (wBin oIx (wVar 1) (wVar 3))) (gN 5) wYes (wCall 2 sp_meet_of (wMCons (wVar 5) (wMCons (wVar 2) wMNil)))
def w_met_lists_C2 : WE :=
  wLc [5] (wISeq (wVar 4)) (gN 5) (wTB (wBin oIsNot (wVar 5) (wC .none))) (wVar 5)
/-- met_lists: 0 clocks, 1 found, 2 clock, 3 size, 4 mets, 5 met -/
def w_met_lists : WS :=
  (wNest (wTup (wFCons (wC (.int 1)) (wFCons (wC (.int 0)) wFNil))) (wISeq (wVar 0)) (wISeq (wVar 0)) (wIRng3 (wFCons (wBin oSub (wCallB oLen (wACons (wVar 0) wANil)) (wC (.int 1))) (wFCons (wNeg (wC (.int 1))) (wFCons (wNeg (wC (.int 1))) wFNil)))) (wSet 4 w_met_lists_C1) w_met_lists_C2 (wRet (wVar 1)))

theorem vc_met_lists : ∀ avs Kr Kx, avs.length = 1 → sp_met_lists avs Kr Kx → lsFrom 0 avs = [] ∧ w_met_lists (startEv 6 avs) (kenD [] Kr Kx) := by
  intro avs Kr Kx hl h
  unfold sp_met_lists at h
  split at h
  · rename_i ds
    obtain ⟨cs, rfl, hc, hl, q⟩ := h
    refine ⟨rfl, ?_⟩
    have rp := hc.rp
    have rs := rnd_spec cs 1 (by decide) hc.one
    have rb : (rnd 1 cs).natAbs < 2 ^ 3000 := by
      have p := hc.pb3
      have := rnd_le (cs := cs) (f := 1) (by decide) hc.one
      omega
    have lc : (cks cs).length = cs.length := List.length_map _
    unfold w_met_lists wNest
    refine ⟨.tuple (cks cs), .tuple [.int 1, .int 0], cks cs, rfl, tupDs_cks cs, by omega, ?_, ?_, ?_, fun c x3 tc t3 => ?_, ?_⟩
    · dsimp? []
      exact by decide
    · dsimp? []
    · dsimp? []
    · dsimp? []
      refine ⟨_, RgC.neg (by omega) (by omega) (by decide) (by decide), ?_⟩
      rw [show ((((cks cs).length : Nat) : Int) - 1 - -1).toNat = (cks cs).length by omega]
    have inner : ∀ (done : List (Int × Int)) (c : Int × Int) (KN : List (List PyData) → Prop), CkOk 1000 c → c.1 ∣ rnd 1 cs → (∀ L, LsOk (rnd 1 cs) cs.length (fun _ => done ++ [c]) L → KN (lsD L)) → (done.length ≤ 12) → ∀ (j : Nat) L, j ≤ cs.length → LsOk (rnd 1 cs) cs.length (dnC done c j) L →
        wIn (wSet 4 w_met_lists_C1) w_met_lists_C2 (.tuple (cks cs)) (ck c) KN j (lsD L) := by
      intro done c KN oc dc hK hd j
      have mc : MetOk (rnd 1 cs) c := ⟨oc.1, oc.2.2.1, oc.2.2.2, dc⟩
      induction j with
      | zero => exact fun L _ h => hK L (ls_out h)
      | succ j ih =>
        intro L hj h
        have hll : L.length = cs.length + 1 := h.1
        have e0 : L[j]? = some (L.getD j []) := by rw [List.getD_eq_getElem?_getD, List.getElem?_eq_getElem (by omega)]; rfl
        have e1 : L[j + 1]? = some (L.getD (j + 1) []) := by rw [List.getD_eq_getElem?_getD, List.getElem?_eq_getElem (by omega)]; rfl
        obtain ⟨b1, b2, b3⟩ := h.2 _ _ e0
        obtain ⟨a1, _, _⟩ := h.2 _ _ e1
        have ll : ∀ {k : Nat} {l : List (Int × Int)}, l.length ≤ bin (dnC done c (j + 1) k).length k → l.length ≤ 2 ^ 13 := fun {k l} z => by
          have b := bin_le (dnC done c (j + 1) k).length k
          have z2 : (dnC done c (j + 1) k).length ≤ 13 := by
            unfold dnC
            split
            · rw [List.length_append, List.length_singleton]; omega
            · omega
          have := Nat.pow_le_pow_right (show 0 < 2 by decide) z2
          omega
        have z0 : (L.getD j []).length ≤ 8192 := ll b1
        have z1 : (L.getD (j + 1) []).length ≤ 8192 := ll a1
        have ea : atI ((lsD L).map PyData.list) ((j : Nat) : Int) = some (.list (cks (L.getD j []))) := atI_nat (by rw [List.getElem?_map, List.getElem?_map, e0]; rfl)
        show wSet 4 w_met_lists_C1 _ _
        dsimp? [w_met_lists_C1, wLc, lls]
        refine ⟨_, ea, ?_⟩
        dsimp? []
        refine lc_map ck (fun m => metD m c) (L.getD j []) (fun m hm A hA => ?_) (small100000 (by omega)) ?_
        · have om := b2 m hm
          have hb : CkB m := by
            have d1 := Int.le_of_dvd rp om.2.2.2
            have d2 := om.1
            have d3 := om.2.1
            have d4 := om.2.2.1
            refine ⟨d2, ?_, ?_⟩
            · exact Nat.lt_of_le_of_lt (show m.1.natAbs ≤ (rnd 1 cs).natAbs by omega) rb
            · exact Nat.lt_of_le_of_lt (show m.2.natAbs ≤ (rnd 1 cs).natAbs by omega) rb
          dsimp? [ck, sp_meet_of]
          refine ⟨hb, oc.b (by decide), meet_mk ?_⟩
          exact hA
        refine ⟨_, rfl, ?_⟩
        dsimp? [w_met_lists_C2, wLc]
        rw [lsD_getD]
        refine lc_fm (fun m => metD m c) (fun m => if isNone (metD m c) = true then none else some (metD m c)) (L.getD j []) [] (fun m hm A N hA => ?_) (small100000 (by rw [List.length_nil]; omega)) ?_
        · dsimp? []
          cases z : isNone (metD m c) with
          | true =>
            rw [z, if_pos rfl] at hA
            rw [if_neg (by decide)]
            exact hA
          | false =>
            rw [z, if_neg (by decide)] at hA
            rw [if_pos (by decide)]
            exact hA
        rw [es_d, List.nil_append]
        refine ⟨_, _, rfl, rfl, tupDs_cks _, ?_, ?_⟩
        · have := es_len (L.getD j []) c
          rw [List.length_map, List.length_map]
          exact small100000 (by omega)
        · rw [show cks (L.getD (j + 1) []) ++ cks (esF (L.getD j []) c) = cks (L.getD (j + 1) [] ++ esF (L.getD j []) c) from (List.map_append ..).symm, lsD_set]
          exact ih _ (by omega) (ls_step mc h (by omega))
    have outer : ∀ (rest done : List (Int × Int)) L, cs = done ++ rest → LsOk (rnd 1 cs) cs.length (fun _ => done) L →
        wOut (wSet 4 w_met_lists_C1) w_met_lists_C2 (.tuple (cks cs)) (cks cs).length (fun dss => wRet (wVar 1) [.val (.tuple (cks cs)), .own false (dss.map .list), .un, .un, .un, .un] (kenD [] Kr Kx)) (cks rest) (lsD L) := by
      intro rest
      induction rest with
      | nil =>
        intro done L e h
        rw [List.append_nil] at e
        subst e
        show wRet (wVar 1) _ _
        dsimp? []
        have := q L h
        unfold lsD
        rw [List.map_map]
        exact this
      | cons c rest ih =>
        intro done L e h
        have hm : c ∈ cs := by rw [e]; exact List.mem_append_right _ List.mem_cons_self
        refine ⟨rfl, ?_⟩
        rw [lc]
        refine inner done c _ (hc.ok c hm) (rs.2.2.1 c hm) (fun L' h' => ?_) (by have := congrArg List.length e; rw [List.length_append] at this; omega) cs.length L (Nat.le_refl _) (ls_in h)
        have := ih (done ++ [c]) L' (by rw [e, List.append_assoc]; rfl) h'
        rw [lc] at this
        exact this
    have := outer cs [] ([(1, 0)] :: List.replicate cs.length []) rfl (ls_start _ _)
    rw [show lsD ([(1, 0)] :: List.replicate cs.length []) = [PyData.tuple [.int 1, .int 0]] :: List.replicate (cks cs).length [] by
      unfold lsD
      rw [List.map_cons, List.map_replicate, lc]
      rfl] at this
    exact this
  · exact h.elim
end Dl
end L2

/-! The plain half, 50: numbers counted below a bound. -/
namespace L2
namespace Dl
open PySem PySem.Spec PyProof.Rows
local macro_rules | `(tactic| dsimp? [$xs,*] $[$l]?) => `(tactic| simp only [wSeq, wNext, wBreak, wCont, wDrop, wRet, wRetN, wIfS, wSet, wAsgT, e_aug, e_setIx, e_par, e_gN, getS_0, getS_s, setS_0, setS_s, e_var, varK_v, varK_o, varK_u, wC, wBin, rdK_v, rdK_t, rdK_s, rdS_v, rdS_o, rdS_u, fzK_v, fzK_t, fzK_s, fzS_v, fzS_o, fzS_l, fzS_u, e_fz, asg_v, asg_t, asg_s, e_tb, tbK_b, wAnd, wOr, wNot, e_notV, e_andV, e_orV, wBV, wIf, e_neg, intK_i, e_oso, wONo, e_rng1, e_rng2, wFNil, wFCons, wANil, wACons, wTup, wLst, e_callB, rdAllK_n, rdAllK_c, wIsi, e_call, wMNil, wMCons, e_ld, lnsOf, avsK_n, avsK_f, avsK_l, lnS_o, lnS_v, lnS_u, poK_n, poK_c, poS_o, inS_0, inS_s, rsK_v, rsK_o, wSl, e_ownF, e_own0, ownB_o, oS_o, oS_v, oS_u, agS_i, muApp, oAdd_i, oAdd_l, oAdd_t, oAdd_s, oSub_i, oMul_i, oFdiv_i, oMod_i, oPow_i, oShl_i, oShr_i, oOr_i, oAndB_i, oLt_i, oLe_i, oGt_i, oGe_i, oEq_i, oNe_i, oEq, oNe, oIx_l, oIx_t, oLen_l, oLen_t, oInt_i, oInt_b, oMax_i, oMin_i, oList_l, oList_t, oTuple_l, oTuple_t, oSorted_l, oSorted_t, oIs_n, oIsN_n, oIs_b, oIsN_b, isNone_n, isNone_t, isNone_l, isNone_i, isNone_s, isNone_b, oSl_l, oSl_t, oIn, gT_t, gC_c, gNil', e_iseq, sqK_l, sqK_t, e_isq, sq2K_l, sq2K_t, e_sset, ssK_l, ssK_t, e_chain, e_lr1, e_lr2, wRev, rvD_l, rvD_t, e_in1, e_in2, negB_f, negB_t, wIZip, zpK_l, zpK_t, zpK_m, e_extend, extR_t, wYes, startEv, kenD_nx, kenD_rt, kenD_bk, kenD_ct, kenD_ex, outK_n, outK_c, otS_o, rvK_v, rvK_t, rvK_s, rvS_v, rvS_o, slOf, lsFrom, wipeE, restE, List.map_cons, List.map_nil, List.length_cons, List.length_nil, List.replicate, List.append_nil, List.cons_append, List.nil_append, List.getElem?_cons_zero, List.getElem?_cons_succ, List.getElem?_nil, List.set_cons_zero, List.set_cons_succ, List.set_nil, Option.getD_some, Option.getD_none, Option.map_some, Option.map_none, Option.some.injEq, Rs.val.injEq, Rs.tmp.injEq, Rs.slot.injEq, Sl.own.injEq, Sl.val.injEq, PyData.int.injEq, PyData.bool.injEq, PyData.str.injEq, PyData.list.injEq, PyData.tuple.injEq, Prod.mk.injEq, Nat.sub_self, Nat.zero_add, Nat.reduceAdd, Nat.reduceSub, Nat.add_zero, isTy_int_int, isTy_bool_int, isTy_int_bool, isTy_bool_bool, isTy_int_tup, isTy_int_lst, isTy_int_non, isTy_int_str, isTy_tup_tup, isTy_tup_lst, isTy_tup_int, isTy_tup_bool, isTy_tup_non, isTy_tup_str, isTy_lst_lst, isTy_lst_tup, isTy_lst_int, exists_eq_left', exists_eq_left, exists_and_left, exists_eq_right, exists_eq, exists_eq', exists_const, true_and, and_true, and_self, Bool.not_true, Bool.not_false, if_true, if_false, Bool.false_eq_true, reduceIte, reduceCtorEq, List.nodup_nil, decide_eq_true_eq, atI_0, atI_1, atI_2, atI_3, atI_4, atI_5, atI_6, atI_7, atI_8, atI_9, atI_10, atI_11, ixN_3_0, ixN_3_1, ixN_3_2, sh_int, sh_bool, sh_non, and_assoc, nd1, nd_true, eq_self, decide_true, decide_false, Int.cast_ofNat_Int, not_true_eq_false, not_false_eq_true, eqv_ii, eqv_bb, wRaise0, e_raiseG, grK_i, e_raise1, onK_i, e_callX, xa_1, xa_2, xa_3, xa_4, xa_5, xa_6, xa_7, e_many, e_most, e_number, e_row, isLst_l, lsK_l, e_rd, e_br, brS_o, brS_v, arS_o, arS_v, avbK_n, avbK_f, avbK_l, scK_b, scK_i, scK_n, scK_s, e_callS, tmK_t, e_rep, enK_l, e_ienum, wTry, eqv_ss, tpK_v, txK_1, tutK_t, e_repT, e_callT, enTK_t, e_ienumT, r3K_i, e_rng3, e_newD, e_putD, e_lenD, e_listD, dcS_d, dcB_d, pvK_b, pvK_i, tkK_m, tkK_2, e_ssetI, oMinL_c, e_lset, e_lstZ, zlK_c, e_ins, e_callF, $xs,*] $[$l]?)
/-- at how many numbers below b -/
def rtI (m : Int × Int) (b : Int) : Int := if b ≤ m.2 then 0 else (b - 1 - m.2) / m.1 + 1
theorem div_pred {d s : Int} (hs : 1 ≤ s) : d / s = (d - 1) / s + if s ∣ d then 1 else 0 := by
  have h1 := Int.mul_ediv_add_emod d s
  have h2 := Int.emod_nonneg d (show s ≠ 0 by omega)
  have h3 := Int.emod_lt_of_pos d (show 0 < s by omega)
  by_cases e : d % s = 0
  · rw [if_pos (Int.dvd_of_emod_eq_zero e)]
    have := (Int.ediv_emod_unique (a := d - 1) (r := s - 1) (q := d / s - 1) (show 0 < s by omega)).mpr ⟨by rw [Int.mul_sub]; omega, by omega, by omega⟩
    omega
  · rw [if_neg fun z => e (Int.emod_eq_zero_of_dvd z)]
    have := (Int.ediv_emod_unique (a := d - 1) (r := d % s - 1) (q := d / s) (show 0 < s by omega)).mpr ⟨by omega, by omega, by omega⟩
    omega
theorem rt_0 {R : Int} {m : Int × Int} (h : MetOk R m) : rtI m 0 = 0 := if_pos h.2.1
theorem rt_s {R : Int} {m : Int × Int} (h : MetOk R m) (b : Nat) : rtI m ((b + 1 : Nat) : Int) = rtI m (b : Int) + if (b : Int) % m.1 = m.2 then 1 else 0 := by
  obtain ⟨h1, h2, h3, h4⟩ := h
  unfold rtI
  by_cases c1 : (b : Int) < m.2
  · rw [if_pos (by omega), if_pos (by omega), if_neg (by rw [Int.emod_eq_of_lt (by omega) (by omega)]; omega)]
    rfl
  · rw [if_neg (by omega)]
    have e : ((b + 1 : Nat) : Int) - 1 - m.2 = (b : Int) - m.2 := by omega
    rw [e]
    by_cases c2 : (b : Int) = m.2
    · rw [if_pos (by omega), if_pos (by rw [c2, Int.emod_eq_of_lt (by omega) (by omega)]), c2, Int.sub_self, Int.zero_ediv, Int.zero_add]
    · rw [if_neg (by omega), div_pred (d := (b : Int) - m.2) h1, show (b : Int) - m.2 - 1 = (b : Int) - 1 - m.2 by omega]
      have k : m.1 ∣ (b : Int) - m.2 ↔ (b : Int) % m.1 = m.2 := Rg_mod h2 h3
      by_cases c3 : (b : Int) % m.1 = m.2
      · rw [if_pos c3, if_pos (k.mpr c3)]
      · rw [if_neg c3, if_neg fun z => c3 (k.mp z)]
        omega
theorem sum_rt {R : Int} {l : List (Int × Int)} (hl : ∀ m ∈ l, MetOk R m) : ∀ b : Nat, (l.map fun m => rtI m (b : Int)).sum = sumN (fun n => ((rgF l (n : Int)).length : Int)) b
  | 0 => by
    show _ = (0 : Int)
    clear sum_rt
    induction l with
    | nil => rfl
    | cons m l ih =>
      rw [List.map_cons, List.sum_cons, ih fun d h => hl d (List.mem_cons_of_mem _ h)]
      show rtI m 0 + 0 = 0
      rw [rt_0 (hl m List.mem_cons_self)]
      rfl
  | b + 1 => by
    show _ = sumN (fun n => ((rgF l (n : Int)).length : Int)) b + ((rgF l (b : Int)).length : Int)
    rw [← sum_rt hl b]
    clear sum_rt
    induction l with
    | nil => rfl
    | cons m l ih =>
      have := ih fun d h => hl d (List.mem_cons_of_mem _ h)
      rw [List.map_cons, List.sum_cons, this, List.map_cons, List.sum_cons, rt_s (hl m List.mem_cons_self), rg_cons]
      split <;> omega
/-- in turn more and less, each so often -/
def altN (f : Nat → Int) (k : Nat) : Nat → Int
  | 0 => 0
  | i + 1 => altN f k i + (1 - 2 * ((i : Int) % 2)) * (bin (k + i) k : Int) * f (k + i)
theorem altN_congr {f g : Nat → Int} {k : Nat} : ∀ {i : Nat}, (∀ j, k ≤ j → j < k + i → f j = g j) → altN f k i = altN g k i
  | 0, _ => rfl
  | i + 1, h => by
    show altN f k i + _ * f (k + i) = altN g k i + _ * g (k + i)
    rw [altN_congr fun j h1 h2 => h j h1 (by omega), h (k + i) (by omega) (by omega)]
theorem sumN_mul (c : Int) (f : Nat → Int) : ∀ n, sumN (fun i => c * f i) n = c * sumN f n
  | 0 => (Int.mul_zero c).symm
  | n + 1 => by
    show sumN (fun i => c * f i) n + c * f n = c * (sumN f n + f n)
    rw [sumN_mul c f n, Int.mul_add]
theorem altN_sum (f : Nat → Nat → Int) (k b : Nat) : ∀ i, altN (fun j => sumN (fun x => f j x) b) k i = sumN (fun x => altN (fun j => f j x) k i) b
  | 0 => (sumN_zero b).symm
  | i + 1 => by
    show altN (fun j => sumN (fun x => f j x) b) k i + _ = sumN (fun x => altN (fun j => f j x) k i + _ * f (k + i) x) b
    rw [altN_sum f k b i, sumN_plus, sumN_mul]
theorem alt_tab : ∀ n < 11, ∀ k < 11, ∀ r < 11, k ≤ n → r ≤ n → altN (fun j => (bin r j : Int)) k (n + 1 - k) = if r = k then 1 else 0 := by decide +kernel
theorem bin_tab : ∀ n < 11, ∀ t < 11, t < n → (bin n t : Int) * ((n : Int) - t) / ((t : Int) + 1) = bin n (t + 1) := by decide +kernel
/-- a number of which all that is reckoned is small -/
def Far (b : Int) : Prop := 0 ≤ b ∧ b < 2 ^ 200
def sp_rung_times : Spc := fun avs Kr Kx => match avs with
  | [.val (.tuple [.int s, .int r]), .val (.int b)] => 1 ≤ s ∧ s.natAbs.log2 < 9000 ∧ Kr [] (.val (.int (rtI (s, r) b)))
  | _ => False
/-- rung_times: 0 clock, 1 bound -/
def w_rung_times : WS :=
  (wSeq (wIfS (wTB (wBin oLe (wVar 1) (wBin oIx (wVar 0) (wC (.int 1))))) (wRet (wC (.int 0))) wNext)
    (wRet (wBin oAdd (wBin oFdiv (wBin oSub (wBin oSub (wVar 1) (wC (.int 1))) (wBin oIx (wVar 0) (wC (.int 1)))) (wBin oIx (wVar 0) (wC (.int 0)))) (wC (.int 1)))))

theorem vc_rung_times : ∀ avs Kr Kx, avs.length = 2 → sp_rung_times avs Kr Kx → lsFrom 0 avs = [] ∧ w_rung_times (startEv 2 avs) (kenD [] Kr Kx) := by
  intro avs Kr Kx hl h
  unfold sp_rung_times at h
  split at h
  · rename_i s r b
    obtain ⟨h1, h2, q⟩ := h
    refine ⟨rfl, ?_⟩
    unfold rtI at q
    dsimp? [w_rung_times]
    split
    · rename_i h
      rw [if_pos h] at q
      exact q
    · rename_i h
      rw [if_neg h] at q
      exact ⟨by omega, h2, q⟩
  · exact h.elim
def sp_choose : Spc := fun avs Kr Kx => match avs with
  | [.val (.int n), .val (.int k)] => ∃ (n' k' : Nat), n = n' ∧ k = k' ∧ k' ≤ n' ∧ n' ≤ 10 ∧ Kr [] (.val (.int (bin n' k' : Nat)))
  | _ => False
def w_choose_B1 : WS :=
  (wSet 2 (wBin oFdiv (wBin oMul (wVar 2) (wBin oSub (wVar 0) (wVar 3))) (wBin oAdd (wVar 3) (wC (.int 1)))))
def w_choose_L1 : WS :=
  wFor (wIRng1 (wVar 1)) (gN 3) w_choose_B1
def w_choose_R1 : WS :=
  (wRet (wVar 2))
/-- choose: 0 many, 1 few, 2 found, 3 turn -/
def w_choose : WS :=
  (wSeq (wSet 2 (wC (.int 1)))
    (wSeq w_choose_L1
    w_choose_R1))

theorem vc_choose : ∀ avs Kr Kx, avs.length = 2 → sp_choose avs Kr Kx → lsFrom 0 avs = [] ∧ w_choose (startEv 4 avs) (kenD [] Kr Kx) := by
  intro avs Kr Kx hl h
  unfold sp_choose at h
  split at h
  · rename_i n k
    obtain ⟨n', k', rfl, rfl, h1, h2, q⟩ := h
    refine ⟨rfl, ?_⟩
    unfold w_choose
    refine seq_cut fun R hR => ?_
    dsimp? []
    refine hR _ ?_
    dsimp? [w_choose_L1, wFor]
    rw [Int.toNat_natCast]
    refine ⟨by omega, by omega, ?_⟩
    refine each_range1 (fun i e => ∃ x3, e = [.val (.int (n' : Nat)), .val (.int (k' : Nat)), .val (.int (bin n' i : Nat)), x3]) ⟨_, by rw [bin_0]; rfl⟩ ?_ ?_
    · rintro e ⟨x3, rfl⟩
      dsimp? [w_choose_R1]
      exact q
    · rintro i e R hi ⟨x3, rfl⟩ ih
      have hb := bin_le n' i
      have hb2 : bin n' i ≤ 2 ^ 10 := Nat.le_trans hb (Nat.pow_le_pow_right (by decide) h2)
      have tb := bin_tab n' (by omega) i (by omega) (by omega)
      dsimp? [w_choose_B1]
      refine ⟨mulx_ok (a := 30) (b := 30) (by omega) (by omega) (by decide), by omega, log_small (by omega) (by omega), ?_⟩
      rw [tb]
      exact ih _ ⟨_, rfl⟩
  · exact h.elim
/-- how many below b are rung by just k -/
def cnt (cs : List (Int × Int)) (k : Nat) (b : Nat) : Int := sumN (fun x => if (rgF cs (x : Int)).length = k then 1 else 0) b
def cntF (cs : List (Int × Int)) (b : Int) : List Int := (List.range (cs.length + 1)).map fun k => cnt cs k b.toNat
/-- the sums over the lists -/
def smF (L : List (List (Int × Int))) (b : Int) (j : Nat) : Int := ((L.getD j []).map fun m => rtI m b).sum
theorem smF_eq {R : Int} {cs : List (Int × Int)} {n : Nat} {L : List (List (Int × Int))} (h : LsOk R n (fun _ => cs) L) (b : Nat) {j : Nat} (hj : j ≤ n) : smF L (b : Int) j = sumN (fun x => (bin (rgF cs (x : Int)).length j : Int)) b := by
  have e : L[j]? = some (L.getD j []) := by rw [List.getD_eq_getElem?_getD, List.getElem?_eq_getElem (by have := h.1; omega)]; rfl
  obtain ⟨_, h2, h3⟩ := h.2 _ _ e
  unfold smF
  rw [sum_rt h2]
  exact sumN_congr fun i _ => by rw [h3]
theorem alt_cnt {R : Int} {cs : List (Int × Int)} {n : Nat} {L : List (List (Int × Int))} (h : LsOk R n (fun _ => cs) L) (hn : cs.length ≤ n) (h10 : n ≤ 10) (b : Nat) {k : Nat} (hk : k ≤ n) : altN (smF L (b : Int)) k (n + 1 - k) = cnt cs k b := by
  rw [altN_congr (g := fun j => sumN (fun x => (bin (rgF cs (x : Int)).length j : Int)) b) fun j h1 h2 => smF_eq h b (by omega), altN_sum]
  unfold cnt
  refine sumN_congr fun i _ => ?_
  have := rg_le cs (i : Int)
  exact alt_tab n (by omega) k (by omega) _ (by omega) hk (by omega)
theorem sumN_bd {f : Nat → Int} {M : Int} : ∀ {n : Nat}, (∀ i < n, 0 ≤ f i ∧ f i ≤ M) → 0 ≤ sumN f n ∧ sumN f n ≤ M * n
  | 0, _ => ⟨Int.le_refl _, by show (0 : Int) ≤ M * ((0 : Nat) : Int); rw [show ((0 : Nat) : Int) = 0 from rfl, Int.mul_zero]; exact Int.le_refl _⟩
  | n + 1, h => by
    have a := sumN_bd (f := f) (M := M) (n := n) fun i hi => h i (by omega)
    have c := h n (by omega)
    show 0 ≤ sumN f n + f n ∧ sumN f n + f n ≤ M * ((n + 1 : Nat) : Int)
    rw [show ((n + 1 : Nat) : Int) = (n : Int) + 1 from rfl, Int.mul_add, Int.mul_one]
    omega
theorem smF_bd {R : Int} {cs : List (Int × Int)} {n : Nat} {L : List (List (Int × Int))} (h : LsOk R n (fun _ => cs) L) (hn : cs.length ≤ n) (h10 : n ≤ 10) {b : Int} (hb : Far b) {j : Nat} (hj : j ≤ n) : 0 ≤ smF L b j ∧ smF L b j ≤ 1024 * b := by
  obtain ⟨b, rfl⟩ := Int.eq_ofNat_of_zero_le hb.1
  rw [smF_eq h b hj]
  refine sumN_bd fun i _ => ⟨Int.natCast_nonneg _, ?_⟩
  have h1 := bin_le (rgF cs (i : Int)).length j
  have h2 := Nat.pow_le_pow_right (show 0 < 2 by decide) (show (rgF cs (i : Int)).length ≤ 10 by have := rg_le cs (i : Int); omega)
  omega
theorem met_log {cs : List (Int × Int)} (hc : GC cs) {m : Int × Int} (h : MetOk (rnd 1 cs) m) : m.1.natAbs.log2 < 9000 := by
  have p := hc.pb
  have r := rnd_le (cs := cs) (f := 1) (by decide) hc.one
  have rp := hc.rp
  have d1 := Int.le_of_dvd rp h.2.2.2
  have d2 := h.1
  refine log_of (by omega) (Nat.lt_of_le_of_lt (show m.1.natAbs ≤ (prodS cs).natAbs by omega) p)
theorem sm_at {R : Int} {cs : List (Int × Int)} {n : Nat} {L : List (List (Int × Int))} (h : LsOk R n (fun _ => cs) L) (b : Int) {j : Nat} (hj : j ≤ n) : atI (L.map fun l => PyData.int (l.map fun m => rtI m b).sum) (j : Int) = some (.int (smF L b j)) := by
  have e : L[j]? = some (L.getD j []) := by rw [List.getD_eq_getElem?_getD, List.getElem?_eq_getElem (by have := h.1; omega)]; rfl
  refine atI_nat ?_
  rw [List.getElem?_map, e]
  rfl
def sp_counts_below : Spc := fun avs Kr Kx => match avs with
  | [.val (.list ls), .val (.int b)] => ∃ cs L, ls = L.map (fun l => .list (cks l)) ∧ GC cs ∧ cs.length ≤ 10 ∧ LsOk (rnd 1 cs) cs.length (fun _ => cs) L ∧ Far b ∧ Kr [] (.own ((cntF cs b).map .int))
  | _ => False
def w_counts_below_C1 : WE :=
  wLc [8] (wISeq (wVar 7)) (gN 8) wYes (wCall 2 sp_rung_times (wMCons (wVar 8) (wMCons (wVar 1) wMNil)))
def w_counts_below_C2 : WE :=
  wLc [7] (wISeq (wVar 0)) (gN 7) wYes (wCallB oSum (wACons w_counts_below_C1 wANil))
def w_counts_below_B1 : WS :=
  (wAug 5 (fun a b => a + b) (wBin oMul (wBin oMul (wBin oSub (wC (.int 1)) (wBin oMul (wC (.int 2)) (wBin oMod (wBin oSub (wVar 6) (wVar 4)) (wC (.int 2))))) (wCall 2 sp_choose (wMCons (wVar 6) (wMCons (wVar 4) wMNil)))) (wBin oIx (wVar 2) (wVar 6))))
def w_counts_below_L1 : WS :=
  wFor (wIRng2 (wVar 4) (wCallB oLen (wACons (wVar 2) wANil))) (gN 6) w_counts_below_B1
def w_counts_below_R1 : WS :=
  (wDrop (wOwnF 3 (wVar 5) muApp))
def w_counts_below_B2 : WS :=
  (wSeq (wSet 5 (wC (.int 0)))
    (wSeq w_counts_below_L1
    w_counts_below_R1))
def w_counts_below_L2 : WS :=
  wFor (wIRng1 (wCallB oLen (wACons (wVar 2) wANil))) (gN 4) w_counts_below_B2
def w_counts_below_R2 : WS :=
  (wRet (wVar 3))
/-- counts_below: 0 lists, 1 bound, 2 sums, 3 found, 4 k, 5 total, 6 j, 7 mets, 8 met -/
def w_counts_below : WS :=
  (wSeq (wSet 2 w_counts_below_C2)
    (wSeq (wSet 3 (wLst wFNil))
    (wSeq w_counts_below_L2
    w_counts_below_R2)))

theorem vc_counts_below : ∀ avs Kr Kx, avs.length = 2 → sp_counts_below avs Kr Kx → lsFrom 0 avs = [] ∧ w_counts_below (startEv 9 avs) (kenD [] Kr Kx) := by
  intro avs Kr Kx hl h
  unfold sp_counts_below at h
  split at h
  · rename_i ls b
    obtain ⟨cs, L, rfl, hc, hl, hL, hb, q⟩ := h
    refine ⟨rfl, ?_⟩
    have ll : L.length = cs.length + 1 := hL.1
    have hz : ∀ l ∈ L, l.length ≤ 1024 := fun l h => by
      obtain ⟨k, hk, rfl⟩ := List.mem_iff_getElem.mp h
      have h1 : L[k].length ≤ bin cs.length k := (hL.2 k _ (List.getElem?_eq_getElem hk)).1
      have h2 := bin_le cs.length k
      have h3 := Nat.pow_le_pow_right (show 0 < 2 by decide) hl
      omega
    have hm : ∀ l ∈ L, ∀ m ∈ l, MetOk (rnd 1 cs) m := fun l h => by
      obtain ⟨k, hk, rfl⟩ := List.mem_iff_getElem.mp h
      exact (hL.2 k _ (List.getElem?_eq_getElem hk)).2.1
    unfold w_counts_below
    refine seq_cut fun R hR => ?_
    dsimp? [w_counts_below_C2, wLc]
    refine lc_map (fun l => .list (cks l)) (fun l => .int (l.map fun m => rtI m b).sum) L (fun l hl2 A hA => ?_) (small100000 (by omega)) ?_
    · dsimp? [w_counts_below_C1, wLc]
      refine lc_map ck (fun m => .int (rtI m b)) l (fun m hm2 A2 hA2 => ?_) (small100000 (by have := hz l hl2; omega)) ?_
      · dsimp? [ck, sp_rung_times]
        exact ⟨(hm l hl2 m hm2).1, met_log hc (hm l hl2 m hm2), hA2⟩
      dsimp? [oSum]
      refine ⟨l.map fun m => rtI m b, by rw [List.map_map]; rfl, ?_⟩
      exact hA
    dsimp? []
    refine hR _ ?_
    refine seq_cut fun R hR => ?_
    dsimp? []
    refine ⟨by decide, hR _ ?_⟩
    refine seq_cut fun R hR => ?_
    dsimp? [w_counts_below_L2, wFor, List.length_map]
    rw [Int.toNat_natCast]
    refine ⟨by omega, by omega, ?_⟩
    generalize eS : (L.map fun l => PyData.int (l.map fun m => rtI m b).sum) = S
    have eSl : S.length = cs.length + 1 := by rw [← eS, List.length_map]; exact ll
    refine each_range1 (fun k e => ∃ x4 x5 x6 x7 x8, e = [.val (.list (L.map fun l => .list (cks l))), .val (.int b), .own false S, .own false (((List.range k).map fun k => cnt cs k b.toNat).map .int), x4, x5, x6, x7, x8]) ⟨_, _, _, _, _, rfl⟩ ?_ ?_
    · rintro e ⟨x4, x5, x6, x7, x8, rfl⟩
      refine hR _ ?_
      dsimp? [w_counts_below_R2]
      rw [ll]
      exact q
    rintro k e R hk ⟨x4, x5, x6, x7, x8, rfl⟩ ih
    unfold w_counts_below_B2
    refine seq_cut fun R2 hR2 => ?_
    dsimp? []
    refine hR2 _ ?_
    refine seq_cut fun R2 hR2 => ?_
    dsimp? [w_counts_below_L1, wFor]
    rw [eSl]
    refine ⟨by omega, by omega, by omega, by omega, ?_⟩
    refine each_range2 (fun i e => ∃ x6 x7 x8, e = [.val (.list (L.map fun l => .list (cks l))), .val (.int b), .own false S, .own false (((List.range k).map fun k => cnt cs k b.toNat).map .int), .val (.int (k : Nat)), .val (.int (altN (smF L b) k i)), x6, x7, x8]) ⟨_, _, _, rfl⟩ ?_ ?_
    · rintro e ⟨x6, x7, x8, rfl⟩
      refine hR2 _ ?_
      dsimp? [w_counts_below_R1]
      have hb0 := hb.1
      have ea := alt_cnt hL (Nat.le_refl _) hl b.toNat (k := k) (by omega)
      rw [Int.toNat_of_nonneg hb0] at ea
      rw [show (((cs.length + 1 : Nat) : Int) - (k : Int)).toNat = cs.length + 1 - k by omega, ea]
      rw [show ((List.range k).map fun k => cnt cs k b.toNat).map PyData.int ++ [PyData.int (cnt cs k b.toNat)] = ((List.range (k + 1)).map fun k => cnt cs k b.toNat).map .int by
        rw [List.range_succ, List.map_append, List.map_append]
        rfl]
      exact ⟨by rw [List.length_map, List.length_map, List.length_range, sizeLine_eq]; omega, ih _ ⟨_, _, _, _, _, rfl⟩⟩
    · rintro i e R3 hi ⟨x6, x7, x8, rfl⟩ ih3
      unfold w_counts_below_B1
      have hb0 := hb.1
      have hb1 := hb.2
      have hi : i < cs.length + 1 - k := by omega
      have sb := smF_bd hL (Nat.le_refl _) hl hb (j := k + i) (by omega)
      have at1 := sm_at hL b (j := k + i) (by omega)
      rw [eS, show ((k + i : Nat) : Int) = (k : Int) + (i : Int) from rfl] at at1
      have bb := bin_le (k + i) k
      have bb2 := Nat.pow_le_pow_right (show 0 < 2 by decide) (show k + i ≤ 10 by omega)
      have m2 : 0 ≤ (i : Int) % 2 ∧ (i : Int) % 2 < 2 := ⟨Int.emod_nonneg _ (by decide), Int.emod_lt_of_pos _ (by decide)⟩
      have pb : ((1 - 2 * ((i : Int) % 2)) * ((bin (k + i) k : Nat) : Int)).natAbs < 2 ^ 30 := by
        rcases (show (i : Int) % 2 = 0 ∨ (i : Int) % 2 = 1 by omega) with z | z <;> rw [z] <;> omega
      dsimp? [sp_choose]
      rw [show (k : Int) + (i : Int) - (k : Int) = i by omega]
      refine ⟨by decide, mulx_ok (a := 30) (b := 30) (by decide) (by omega) (by decide), k + i, rfl, k, rfl, by omega, by omega, mulx_ok (a := 30) (b := 30) (by omega) (by omega) (by decide), _, at1, ?_⟩
      dsimp? []
      exact ⟨mulx_ok (a := 30) (b := 240) pb (by omega) (by decide), ih3 _ ⟨_, _, _, rfl⟩⟩
  · exact h.elim
def sp_check_few : Spc := fun avs Kr Kx => match avs with
  | [.val (.tuple ds)] => (ds.length ≤ 10 → Kr [] (.val .none)) ∧ (10 < ds.length → False)
  | _ => False
/-- check_few: 0 clocks -/
def w_check_few : WS :=
  (wIfS (wTB (wBin oGt (wCallB oLen (wACons (wVar 0) wANil)) (wC (.int 10)))) wNever wNext)

theorem vc_check_few : ∀ avs Kr Kx, avs.length = 1 → sp_check_few avs Kr Kx → lsFrom 0 avs = [] ∧ w_check_few (startEv 1 avs) (kenD [] Kr Kx) := by
  intro avs Kr Kx hl h
  unfold sp_check_few at h
  split at h
  · rename_i ds
    obtain ⟨q1, q2⟩ := h
    refine ⟨rfl, ?_⟩
    dsimp? [w_check_few]
    split
    · rename_i h
      exact q2 (by omega)
    · rename_i h
      exact q1 (by omega)
  · exact h.elim
def sp_rung_below : Spc := fun avs Kr Kx => match avs with
  | [.val (.tuple ds), .val (.int b)] => ∃ cs, ds = cks cs ∧ GC cs ∧ Far b ∧ (cs.length ≤ 10 → Kr [] (.own ((cntF cs b).map .int))) ∧ (10 < cs.length → False)
  | _ => False
/-- rung_below: 0 clocks, 1 bound -/
def w_rung_below : WS :=
  (wSeq (wDrop (wCall 1 sp_check_few (wMCons (wVar 0) wMNil)))
    (wRet (wCall 2 sp_counts_below (wMCons (wCall 1 sp_met_lists (wMCons (wVar 0) wMNil)) (wMCons (wVar 1) wMNil)))))

theorem vc_rung_below : ∀ avs Kr Kx, avs.length = 2 → sp_rung_below avs Kr Kx → lsFrom 0 avs = [] ∧ w_rung_below (startEv 2 avs) (kenD [] Kr Kx) := by
  intro avs Kr Kx hl h
  unfold sp_rung_below at h
  split at h
  · rename_i ds b
    obtain ⟨cs, rfl, hc, hb, q1, q2⟩ := h
    refine ⟨rfl, ?_⟩
    have lc : (cks cs).length = cs.length := List.length_map _
    unfold w_rung_below
    refine seq_cut fun R hR => ?_
    dsimp? [sp_check_few]
    rw [lc]
    refine ⟨fun h => hR _ ?_, q2⟩
    dsimp? [sp_met_lists, sp_counts_below]
    refine ⟨cs, rfl, hc, by omega, fun L hL => ⟨cs, L, rfl, hc, h, hL, hb, ?_⟩⟩
    exact q1 h
  · exact h.elim
def sp_missed_below : Spc := fun avs Kr Kx => match avs with
  | [.val (.list ls), .val (.int b)] => ∃ cs L, ls = L.map (fun l => .list (cks l)) ∧ GC cs ∧ cs.length ≤ 10 ∧ LsOk (rnd 1 cs) cs.length (fun _ => cs) L ∧ Far b ∧ Kr [] (.val (.int (cnt cs 0 b.toNat)))
  | _ => False
def w_missed_below_C1 : WE :=
  wLc [5] (wISeq (wVar 4)) (gN 5) wYes (wCall 2 sp_rung_times (wMCons (wVar 5) (wMCons (wVar 1) wMNil)))
def w_missed_below_B1 : WS :=
  (wAug 2 (fun a b => a + b) (wBin oMul (wBin oSub (wC (.int 1)) (wBin oMul (wC (.int 2)) (wBin oMod (wVar 3) (wC (.int 2))))) (wCallB oSum (wACons w_missed_below_C1 wANil))))
def w_missed_below_L1 : WS :=
  wFor (wIEnum (wFCons (wVar 0) wFNil)) (gT 2 (gCons' (gN 3) (gCons' (gN 4) gNil'))) w_missed_below_B1
def w_missed_below_R1 : WS :=
  (wRet (wVar 2))
/-- missed_below: 0 lists, 1 bound, 2 total, 3 size, 4 mets, 5 met -/
def w_missed_below : WS :=
  (wSeq (wSet 2 (wC (.int 0)))
    (wSeq w_missed_below_L1
    w_missed_below_R1))

theorem vc_missed_below : ∀ avs Kr Kx, avs.length = 2 → sp_missed_below avs Kr Kx → lsFrom 0 avs = [] ∧ w_missed_below (startEv 6 avs) (kenD [] Kr Kx) := by
  intro avs Kr Kx hl h
  unfold sp_missed_below at h
  split at h
  · rename_i ls b
    obtain ⟨cs, L, rfl, hc, hl, hL, hb, q⟩ := h
    refine ⟨rfl, ?_⟩
    have ll : L.length = cs.length + 1 := hL.1
    have hz : ∀ l ∈ L, l.length ≤ 1024 := fun l h => by
      obtain ⟨k, hk, rfl⟩ := List.mem_iff_getElem.mp h
      have h1 : L[k].length ≤ bin cs.length k := (hL.2 k _ (List.getElem?_eq_getElem hk)).1
      have h2 := bin_le cs.length k
      have h3 := Nat.pow_le_pow_right (show 0 < 2 by decide) hl
      omega
    have hm : ∀ l ∈ L, ∀ m ∈ l, MetOk (rnd 1 cs) m := fun l h => by
      obtain ⟨k, hk, rfl⟩ := List.mem_iff_getElem.mp h
      exact (hL.2 k _ (List.getElem?_eq_getElem hk)).2.1
    unfold w_missed_below
    refine seq_cut fun R hR => ?_
    dsimp? []
    refine hR _ ?_
    dsimp? [w_missed_below_L1, wFor]
    rw [enD_rg _ .none, List.length_map, ll]
    refine wEach_ind (fun ds e => ∃ (i : Nat) (x3 x4 : Sl), i ≤ cs.length + 1 ∧ ds = (List.range' i (cs.length + 1 - i)).map (fun (i : Nat) => PyData.tuple [.int (i : Int), (L.map fun l => PyData.list (cks l)).getD i .none]) ∧ e = [.val (.list (L.map fun l => .list (cks l))), .val (.int b), .val (.int (altN (smF L b) 0 i)), x3, x4, .un]) ?_ ?_ _ _ ⟨0, _, _, by omega, by rw [List.range_eq_range']; rfl, rfl⟩
    · rintro e ⟨i, x3, x4, hi, h1, rfl⟩
      have ei : i = cs.length + 1 := by
        have := congrArg List.length h1
        rw [List.length_map, List.length_range'] at this
        have : 0 = cs.length + 1 - i := this
        omega
      subst ei
      dsimp? [w_missed_below_R1]
      have hb0 := hb.1
      have ea := alt_cnt hL (Nat.le_refl _) hl b.toNat (k := 0) (by omega)
      rw [Int.toNat_of_nonneg hb0, Nat.sub_zero] at ea
      rw [ea]
      exact q
    · rintro d ds e ⟨i, x3, x4, hi, h1, rfl⟩ ih
      have hlt : i < cs.length + 1 := by
        have := congrArg List.length h1
        rw [List.length_map, List.length_range', List.length_cons] at this
        omega
      rw [show cs.length + 1 - i = (cs.length + 1 - (i + 1)) + 1 by omega, List.range'_succ, List.map_cons] at h1
      injection h1 with h1 h2
      subst h1 h2
      have hL0 : L[i]? = some (L.getD i []) := by rw [List.getD_eq_getElem?_getD, List.getElem?_eq_getElem (by omega)]; rfl
      have eg : (L.map fun l => PyData.list (cks l)).getD i .none = .list (cks (L.getD i [])) := by
        rw [List.getD_eq_getElem?_getD, List.getElem?_map, hL0]
        rfl
      have hin := List.mem_of_getElem? hL0
      have hz0 := hz _ hin
      have hm0 := hm _ hin
      rw [eg]
      have sb := smF_bd hL (Nat.le_refl _) hl hb (j := i) (by omega)
      have hb1 := hb.2
      have m2 : 0 ≤ (i : Int) % 2 ∧ (i : Int) % 2 < 2 := ⟨Int.emod_nonneg _ (by decide), Int.emod_lt_of_pos _ (by decide)⟩
      have pb : (1 - 2 * ((i : Int) % 2)).natAbs < 2 ^ 30 := by omega
      have nx := ih [.val (.list (L.map fun l => .list (cks l))), .val (.int b), .val (.int (altN (smF L b) 0 i + (1 - 2 * ((i : Int) % 2)) * smF L b i)), .val (.int (i : Nat)), .val (.list (cks (L.getD i []))), .un] ⟨i + 1, _, _, by omega, rfl, by
        show _ = [_, _, Sl.val (.int (altN (smF L b) 0 i + (1 - 2 * ((i : Int) % 2)) * (bin (0 + i) 0 : Int) * smF L b (0 + i))), _, _, _]
        rw [bin_0, Nat.zero_add, show ((1 : Nat) : Int) = 1 from rfl, Int.mul_one]⟩
      dsimp? [w_missed_below_B1]
      refine ⟨by decide, mulx_ok (a := 30) (b := 30) (by decide) (by omega) (by decide), ?_⟩
      dsimp? [w_missed_below_C1, wLc]
      refine lc_map ck (fun m => .int (rtI m b)) (L.getD i []) (fun m hm2 A2 hA2 => ?_) (small100000 (by omega)) ?_
      · dsimp? [ck, sp_rung_times]
        exact ⟨(hm0 m hm2).1, met_log hc (hm0 m hm2), hA2⟩
      dsimp? [oSum]
      refine ⟨(L.getD i []).map fun m => rtI m b, by rw [List.map_map]; rfl, mulx_ok (a := 30) (b := 240) pb (show (smF L b i).natAbs < 2 ^ 240 by omega) (by decide), ?_⟩
      exact nx
  · exact h.elim
end Dl
end L2

/-! The plain half, 51: counts over rounds. -/
namespace L2
namespace Dl
open PySem PySem.Spec PyProof.Rows
theorem cntF_len (cs : List (Int × Int)) (b : Int) : (cntF cs b).length = cs.length + 1 := by unfold cntF; rw [List.length_map, List.length_range]
theorem cntF_at {cs : List (Int × Int)} {b : Int} {k : Nat} (h : k < cs.length + 1) : (cntF cs b)[k]? = some (cnt cs k b.toNat) := by
  unfold cntF
  rw [List.getElem?_map, List.getElem?_range h]
  rfl
theorem cntF_getD {cs : List (Int × Int)} {b : Int} {k : Nat} (h : k < cs.length + 1) : (cntF cs b).getD k 0 = cnt cs k b.toNat := by
  rw [List.getD_eq_getElem?_getD, cntF_at h]
  rfl
theorem tal_step (cs : List (Int × Int)) (b : Nat) : talS cs (cntF cs (b : Int)) (b : Int) = cntF cs ((b + 1 : Nat) : Int) := by
  have hr := rg_le cs (b : Int)
  refine List.ext_getElem? fun i => ?_
  unfold talS
  by_cases hi : i < cs.length + 1
  · rw [cntF_at hi]
    show _ = some (cnt cs i b + if (rgF cs (b : Int)).length = i then 1 else 0)
    by_cases e : (rgF cs (b : Int)).length = i
    · rw [e, List.getElem?_set_self (by rw [cntF_len]; exact hi), cntF_getD hi, if_pos rfl]
      rfl
    · rw [List.getElem?_set_ne e, cntF_at hi, if_neg e, Int.add_zero]
      rfl
  · rw [List.getElem?_eq_none (by rw [List.length_set, cntF_len]; omega), List.getElem?_eq_none (by rw [cntF_len]; omega)]
theorem cntF_0 (cs : List (Int × Int)) : cntF cs 0 = List.replicate (cs.length + 1) 0 := by
  rw [List.eq_replicate_iff]
  refine ⟨cntF_len cs 0, fun x hx => ?_⟩
  obtain ⟨k, _, rfl⟩ := List.mem_map.mp hx
  rfl
theorem tal_cnt (cs : List (Int × Int)) : ∀ b : Nat, talF cs (rgI (b : Int)) (List.replicate (cs.length + 1) 0) = cntF cs (b : Int)
  | 0 => (cntF_0 cs).symm
  | b + 1 => by
    have e : rgI ((b + 1 : Nat) : Int) = rgI (b : Int) ++ [(b : Int)] := by
      unfold rgI
      rw [Int.toNat_natCast, Int.toNat_natCast, List.range_succ, List.map_append]
      rfl
    rw [e]
    unfold talF
    rw [List.foldl_append]
    have ih := tal_cnt cs b
    unfold talF at ih
    rw [ih]
    exact tal_step cs b
theorem sumN_per {f : Nat → Int} {M : Nat} (h : ∀ x, f (M + x) = f x) : ∀ q r : Nat, sumN f (q * M + r) = (q : Int) * sumN f M + sumN f r
  | 0, r => by rw [Nat.zero_mul, Nat.zero_add]; show _ = (0 : Int) * _ + _; rw [Int.zero_mul, Int.zero_add]
  | q + 1, r => by
    rw [show (q + 1) * M + r = M + (q * M + r) by rw [Nat.add_mul, Nat.one_mul]; omega, sumN_add, sumN_congr (g := f) fun i _ => h i, sumN_per h q r]
    rw [show ((q + 1 : Nat) : Int) = (q : Int) + 1 from rfl, Int.add_mul, Int.one_mul]
    omega
theorem rgF_per {cs : List (Int × Int)} {M : Nat} (h : ∀ c ∈ cs, c.1 ∣ (M : Int)) (x : Nat) : rgF cs ((M + x : Nat) : Int) = rgF cs (x : Int) := by
  rw [← rgF_mod h, show ((M + x : Nat) : Int) = (M : Int) + (x : Int) from rfl, Int.add_emod_left, rgF_mod h]
theorem cnt_per {cs : List (Int × Int)} {M : Nat} (h : ∀ c ∈ cs, c.1 ∣ (M : Int)) (k q r : Nat) : cnt cs k (q * M + r) = (q : Int) * cnt cs k M + cnt cs k r :=
  sumN_per (fun x => by simp only [rgF_per h]) q r
theorem cnt_bd (cs : List (Int × Int)) (k b : Nat) : 0 ≤ cnt cs k b ∧ cnt cs k b ≤ b := by
  have := sumN_bd (f := fun x => if (rgF cs (x : Int)).length = k then 1 else 0) (M := 1) (n := b) fun i _ => by split <;> omega
  unfold cnt
  omega
/-- counted, over so many rounds and a rest -/
theorem cntF_per {cs : List (Int × Int)} {M b : Int} (hM : 0 < M) (h : ∀ c ∈ cs, c.1 ∣ M) (hb : 0 ≤ b) {k : Nat} : cnt cs k b.toNat = b / M * cnt cs k M.toNat + cnt cs k (b % M).toNat := by
  obtain ⟨M, rfl⟩ := Int.eq_ofNat_of_zero_le (Int.le_of_lt hM)
  obtain ⟨b, rfl⟩ := Int.eq_ofNat_of_zero_le hb
  have := cnt_per h k (b / M) (b % M)
  rw [Nat.mul_comm, Nat.div_add_mod] at this
  exact this
end Dl
end L2

/-! The plain half, 52: the missed ones numbered. -/
namespace L2
namespace Dl
open PySem PySem.Spec PyProof.Rows
local macro_rules | `(tactic| dsimp? [$xs,*] $[$l]?) => `(tactic| simp only [wSeq, wNext, wBreak, wCont, wDrop, wRet, wRetN, wIfS, wSet, wAsgT, e_aug, e_setIx, e_par, e_gN, getS_0, getS_s, setS_0, setS_s, e_var, varK_v, varK_o, varK_u, wC, wBin, rdK_v, rdK_t, rdK_s, rdS_v, rdS_o, rdS_u, fzK_v, fzK_t, fzK_s, fzS_v, fzS_o, fzS_l, fzS_u, e_fz, asg_v, asg_t, asg_s, e_tb, tbK_b, wAnd, wOr, wNot, e_notV, e_andV, e_orV, wBV, wIf, e_neg, intK_i, e_oso, wONo, e_rng1, e_rng2, wFNil, wFCons, wANil, wACons, wTup, wLst, e_callB, rdAllK_n, rdAllK_c, wIsi, e_call, wMNil, wMCons, e_ld, lnsOf, avsK_n, avsK_f, avsK_l, lnS_o, lnS_v, lnS_u, poK_n, poK_c, poS_o, inS_0, inS_s, rsK_v, rsK_o, wSl, e_ownF, e_own0, ownB_o, oS_o, oS_v, oS_u, agS_i, muApp, oAdd_i, oAdd_l, oAdd_t, oAdd_s, oSub_i, oMul_i, oFdiv_i, oMod_i, oPow_i, oShl_i, oShr_i, oOr_i, oAndB_i, oLt_i, oLe_i, oGt_i, oGe_i, oEq_i, oNe_i, oEq, oNe, oIx_l, oIx_t, oLen_l, oLen_t, oInt_i, oInt_b, oMax_i, oMin_i, oList_l, oList_t, oTuple_l, oTuple_t, oSorted_l, oSorted_t, oIs_n, oIsN_n, oIs_b, oIsN_b, isNone_n, isNone_t, isNone_l, isNone_i, isNone_s, isNone_b, oSl_l, oSl_t, oIn, gT_t, gC_c, gNil', e_iseq, sqK_l, sqK_t, e_isq, sq2K_l, sq2K_t, e_sset, ssK_l, ssK_t, e_chain, e_lr1, e_lr2, wRev, rvD_l, rvD_t, e_in1, e_in2, negB_f, negB_t, wIZip, zpK_l, zpK_t, zpK_m, e_extend, extR_t, wYes, startEv, kenD_nx, kenD_rt, kenD_bk, kenD_ct, kenD_ex, outK_n, outK_c, otS_o, rvK_v, rvK_t, rvK_s, rvS_v, rvS_o, slOf, lsFrom, wipeE, restE, List.map_cons, List.map_nil, List.length_cons, List.length_nil, List.replicate, List.append_nil, List.cons_append, List.nil_append, List.getElem?_cons_zero, List.getElem?_cons_succ, List.getElem?_nil, List.set_cons_zero, List.set_cons_succ, List.set_nil, Option.getD_some, Option.getD_none, Option.map_some, Option.map_none, Option.some.injEq, Rs.val.injEq, Rs.tmp.injEq, Rs.slot.injEq, Sl.own.injEq, Sl.val.injEq, PyData.int.injEq, PyData.bool.injEq, PyData.str.injEq, PyData.list.injEq, PyData.tuple.injEq, Prod.mk.injEq, Nat.sub_self, Nat.zero_add, Nat.reduceAdd, Nat.reduceSub, Nat.add_zero, isTy_int_int, isTy_bool_int, isTy_int_bool, isTy_bool_bool, isTy_int_tup, isTy_int_lst, isTy_int_non, isTy_int_str, isTy_tup_tup, isTy_tup_lst, isTy_tup_int, isTy_tup_bool, isTy_tup_non, isTy_tup_str, isTy_lst_lst, isTy_lst_tup, isTy_lst_int, exists_eq_left', exists_eq_left, exists_and_left, exists_eq_right, exists_eq, exists_eq', exists_const, true_and, and_true, and_self, Bool.not_true, Bool.not_false, if_true, if_false, Bool.false_eq_true, reduceIte, reduceCtorEq, List.nodup_nil, decide_eq_true_eq, atI_0, atI_1, atI_2, atI_3, atI_4, atI_5, atI_6, atI_7, atI_8, atI_9, atI_10, atI_11, ixN_3_0, ixN_3_1, ixN_3_2, sh_int, sh_bool, sh_non, and_assoc, nd1, nd_true, eq_self, decide_true, decide_false, Int.cast_ofNat_Int, not_true_eq_false, not_false_eq_true, eqv_ii, eqv_bb, wRaise0, e_raiseG, grK_i, e_raise1, onK_i, e_callX, xa_1, xa_2, xa_3, xa_4, xa_5, xa_6, xa_7, e_many, e_most, e_number, e_row, isLst_l, lsK_l, e_rd, e_br, brS_o, brS_v, arS_o, arS_v, avbK_n, avbK_f, avbK_l, scK_b, scK_i, scK_n, scK_s, e_callS, tmK_t, e_rep, enK_l, e_ienum, wTry, eqv_ss, tpK_v, txK_1, tutK_t, e_repT, e_callT, enTK_t, e_ienumT, r3K_i, e_rng3, e_newD, e_putD, e_lenD, e_listD, dcS_d, dcB_d, pvK_b, pvK_i, tkK_m, tkK_2, e_ssetI, oMinL_c, e_lset, e_lstZ, zlK_c, e_ins, e_callF, $xs,*] $[$l]?)
/-- how many are missed below b -/
abbrev msd (cs : List (Int × Int)) (b : Nat) : Int := cnt cs 0 b
theorem msd_s (cs : List (Int × Int)) (b : Nat) : msd cs (b + 1) = msd cs b + if rgF cs (b : Int) = [] then 1 else 0 := by
  show cnt cs 0 b + (if (rgF cs (b : Int)).length = 0 then 1 else 0) = _
  by_cases h : rgF cs (b : Int) = []
  · rw [if_pos (by rw [h]; rfl), if_pos h]
  · rw [if_neg (fun z => h (List.length_eq_zero_iff.mp z)), if_neg h]
theorem msd_mono (cs : List (Int × Int)) {a b : Nat} (h : a ≤ b) : msd cs a ≤ msd cs b := by
  induction h with
  | refl => exact Int.le_refl _
  | step _ ih =>
    rw [msd_s]
    split <;> omega
theorem msd_lt {cs : List (Int × Int)} {a b : Nat} (ha : rgF cs (a : Int) = []) (h : a < b) : msd cs a < msd cs b := by
  have := msd_mono cs (show a + 1 ≤ b by omega)
  rw [msd_s, if_pos ha] at this
  omega
theorem msd_uniq {cs : List (Int × Int)} {a b : Nat} (ha : rgF cs (a : Int) = []) (hb : rgF cs (b : Int) = []) (h : msd cs a = msd cs b) : a = b := by
  rcases Nat.lt_trichotomy a b with z | z | z
  · have := msd_lt ha z; omega
  · exact z
  · have := msd_lt hb z; omega
theorem msd_per {cs : List (Int × Int)} {M : Nat} (h : ∀ c ∈ cs, c.1 ∣ (M : Int)) (q r : Nat) : msd cs (q * M + r) = (q : Int) * msd cs M + msd cs r := cnt_per h 0 q r
theorem rgF_perq {cs : List (Int × Int)} {M : Nat} (h : ∀ c ∈ cs, c.1 ∣ (M : Int)) (q r : Nat) : rgF cs ((q * M + r : Nat) : Int) = rgF cs (r : Int) := by
  induction q with
  | zero => rw [Nat.zero_mul, Nat.zero_add]
  | succ q ih => rw [show (q + 1) * M + r = M + (q * M + r) by rw [Nat.add_mul, Nat.one_mul]; omega, rgF_per h, ih]
/-- all that is asked of clocks with a round that is not too great -/
structure FarOk (cs : List (Int × Int)) : Prop where
  gc : GC cs
  rb : rnd 1 cs < 2 ^ 40
def sp_nth_of : Spc := fun avs Kr Kx => match avs with
  | [.val (.tuple ds), .val (.list ls), .val (.int n)] => ∃ cs L, ds = cks cs ∧ ls = L.map (fun l => .list (cks l)) ∧ FarOk cs ∧ cs.length ≤ 10 ∧ LsOk (rnd 1 cs) cs.length (fun _ => cs) L ∧ 0 ≤ n ∧ n < 2 ^ 150 ∧ 0 < msd cs (rnd 1 cs).toNat ∧ ∀ p : Nat, rgF cs (p : Int) = [] → msd cs p = n → Kr [] (.val (.int (p : Nat)))
  | _ => False
def w_nth_of_T1 : WT :=
  (wTB (wBin oGt (wBin oSub (wVar 8) (wVar 7)) (wC (.int 1))))
def w_nth_of_B1 : WS :=
  (wSeq (wSet 9 (wBin oFdiv (wBin oAdd (wVar 7) (wVar 8)) (wC (.int 2))))
    (wIfS (wTB (wBin oGt (wCall 2 sp_missed_below (wMCons (wVar 1) (wMCons (wVar 9) wMNil))) (wVar 6))) (wSet 8 (wVar 9)) (wSet 7 (wVar 9))))
def w_nth_of_L1 : WS :=
  wWhile w_nth_of_T1 w_nth_of_B1
def w_nth_of_R1 : WS :=
  (wRet (wBin oAdd (wBin oMul (wVar 5) (wVar 3)) (wVar 7)))
/-- nth_of: 0 clocks, 1 lists, 2 n, 3 size, 4 each, 5 turns, 6 left, 7 low, 8 high, 9 middle -/
def w_nth_of : WS :=
  (wSeq (wSet 3 (wCall 1 sp_round_of (wMCons (wVar 0) wMNil)))
    (wSeq (wSet 4 (wCall 2 sp_missed_below (wMCons (wVar 1) (wMCons (wVar 3) wMNil))))
    (wSeq (wSet 5 (wBin oFdiv (wVar 2) (wVar 4)))
    (wSeq (wSet 6 (wBin oMod (wVar 2) (wVar 4)))
    (wSeq (wSet 7 (wC (.int 0)))
    (wSeq (wSet 8 (wVar 3))
    (wSeq w_nth_of_L1
    w_nth_of_R1)))))))

theorem vc_nth_of : ∀ avs Kr Kx, avs.length = 3 → sp_nth_of avs Kr Kx → lsFrom 0 avs = [] ∧ w_nth_of (startEv 10 avs) (kenD [] Kr Kx) := by
  intro avs Kr Kx hl h
  unfold sp_nth_of at h
  split at h
  · rename_i ds ls n
    obtain ⟨cs, L, rfl, rfl, hf, hl, hL, n0, n1, hpos, q⟩ := h
    refine ⟨rfl, ?_⟩
    have hc := hf.gc
    have rb := hf.rb
    have rp := hc.rp
    have dv := (rnd_spec cs 1 (by decide) hc.one).2.2.1
    unfold w_nth_of
    refine seq_cut fun R hR => ?_
    dsimp? [sp_round_of]
    refine hc.rok (hR _ ?_)
    generalize eM : rnd 1 cs = Mi at *
    obtain ⟨M, rfl⟩ := Int.eq_ofNat_of_zero_le (Int.le_of_lt rp)
    rw [Int.toNat_natCast] at hpos
    have hpos : 0 < cnt cs 0 M := hpos
    have mb := cnt_bd cs 0 M
    refine seq_cut fun R hR => ?_
    dsimp? [sp_missed_below]
    refine ⟨cs, L, rfl, hc, hl, by rw [eM]; exact hL, ⟨by omega, by omega⟩, ?_⟩
    rw [Int.toNat_natCast]
    refine hR _ ?_
    generalize eE : cnt cs 0 M = each at *
    refine seq_cut fun R hR => ?_
    dsimp? []
    refine ⟨hpos, log_small hpos (by omega), hR _ ?_⟩
    refine seq_cut fun R hR => ?_
    dsimp? []
    refine ⟨hpos, hR _ ?_⟩
    have d0 : 0 ≤ n / each := Int.ediv_nonneg n0 (by omega)
    have d1 : n / each ≤ n := Int.ediv_le_self _ n0
    have m0 := Int.emod_nonneg n (show each ≠ 0 by omega)
    have m1 := Int.emod_lt_of_pos n hpos
    have em := Int.mul_ediv_add_emod n each
    generalize eq1 : n / each = turns at *
    generalize eq2 : n % each = left at *
    refine seq_cut fun R hR => ?_
    dsimp? []
    refine hR _ ?_
    refine seq_cut fun R hR => ?_
    dsimp? []
    refine hR _ ?_
    refine seq_cut fun R hR => ?_
    unfold w_nth_of_L1
    refine ⟨fun m e => ∃ (low high : Nat) (x9 : Sl), e = [.val (.tuple (cks cs)), .val (.list (L.map fun l => .list (cks l))), .val (.int n), .val (.int (M : Nat)), .val (.int each), .val (.int turns), .val (.int left), .val (.int (low : Nat)), .val (.int (high : Nat)), x9] ∧ m = high - low ∧ low < high ∧ msd cs low ≤ left ∧ left < msd cs high ∧ high ≤ M, ⟨M, 0, M, _, rfl, by omega, by omega, m0, by show left < cnt cs 0 M; rw [eE]; exact m1, Nat.le_refl _⟩, ?_⟩
    rintro m e ⟨low, high, x9, rfl, rfl, h1, h2, h3, h4⟩
    unfold w_nth_of_T1
    dsimp? []
    split
    · rename_i hgt
      unfold w_nth_of_B1
      refine seq_cut fun R2 hR2 => ?_
      dsimp? []
      refine ⟨by decide, log_small (by decide) (by decide), hR2 _ ?_⟩
      have em2 : ((low : Nat) + (high : Nat) : Int) / 2 = (((low + high) / 2 : Nat) : Int) := by omega
      rw [em2]
      generalize eqm : (low + high) / 2 = mid at *
      have k1 : low < mid := by omega
      have k2 : mid < high := by omega
      dsimp? [sp_missed_below]
      refine ⟨cs, L, rfl, hc, hl, by rw [eM]; exact hL, ⟨by omega, by omega⟩, ?_⟩
      rw [Int.toNat_natCast]
      split
      · rename_i hm
        exact ⟨mid - low, by omega, low, mid, _, rfl, rfl, k1, h2, hm, by omega⟩
      · rename_i hm
        exact ⟨high - mid, by omega, mid, high, _, rfl, rfl, k2, by show cnt cs 0 mid ≤ left; omega, h3, h4⟩
    · rename_i hgt
      refine hR _ ?_
      have eh : high = low + 1 := by omega
      subst eh
      rw [msd_s] at h3
      have hlow : rgF cs (low : Int) = [] := Decidable.byContradiction fun z => by rw [if_neg z] at h3; omega
      rw [if_pos hlow] at h3
      have e1 : msd cs low = left := by omega
      obtain ⟨t, rfl⟩ := Int.eq_ofNat_of_zero_le d0
      dsimp? [w_nth_of_R1]
      refine ⟨mulx_ok (a := 150) (b := 60) (by omega) (by omega) (by decide), ?_⟩
      have hp := msd_per dv t low
      have := q (t * M + low) (by rw [rgF_perq dv]; exact hlow) (by rw [hp, e1]; show (t : Int) * cnt cs 0 M + left = n; rw [eE, Int.mul_comm]; exact em)
      rw [show ((t * M + low : Nat) : Int) = (t : Int) * (M : Int) + (low : Int) by rw [Int.natCast_add, Int.natCast_mul]] at this
      exact this
  · exact h.elim
def sp_nth_missed : Spc := fun avs Kr Kx => match avs with
  | [.val (.tuple ds), .val (.int n)] => ∃ cs, ds = cks cs ∧ GC cs ∧ 0 ≤ n ∧ n < 2 ^ 150 ∧ (10 < cs.length → False) ∧ (cs.length ≤ 10 → rnd 1 cs < 2 ^ 40 ∧ (msd cs (rnd 1 cs).toNat = 0 → False) ∧ (0 < msd cs (rnd 1 cs).toNat → ∀ p : Nat, rgF cs (p : Int) = [] → msd cs p = n → Kr [] (.val (.int (p : Nat)))))
  | _ => False
/-- nth_missed: 0 clocks, 1 n, 2 lists -/
def w_nth_missed : WS :=
  (wSeq (wDrop (wCall 1 sp_check_few (wMCons (wVar 0) wMNil)))
    (wSeq (wSet 2 (wCall 1 sp_met_lists (wMCons (wVar 0) wMNil)))
    (wSeq (wIfS (wTB (wBin oEq (wCall 2 sp_missed_below (wMCons (wVar 2) (wMCons (wCall 1 sp_round_of (wMCons (wVar 0) wMNil)) wMNil))) (wC (.int 0)))) wNever wNext)
    (wRet (wCall 3 sp_nth_of (wMCons (wVar 0) (wMCons (wVar 2) (wMCons (wVar 1) wMNil))))))))

theorem vc_nth_missed : ∀ avs Kr Kx, avs.length = 2 → sp_nth_missed avs Kr Kx → lsFrom 0 avs = [] ∧ w_nth_missed (startEv 3 avs) (kenD [] Kr Kx) := by
  intro avs Kr Kx hl h
  unfold sp_nth_missed at h
  split at h
  · rename_i ds n
    obtain ⟨cs, rfl, hc, n0, n1, q1, q2⟩ := h
    refine ⟨rfl, ?_⟩
    have lc : (cks cs).length = cs.length := List.length_map _
    have rp := hc.rp
    unfold w_nth_missed
    refine seq_cut fun R hR => ?_
    dsimp? [sp_check_few]
    rw [lc]
    refine ⟨fun h => hR _ ?_, q1⟩
    obtain ⟨rb, q2, q3⟩ := q2 h
    have mb := cnt_bd cs 0 (rnd 1 cs).toNat
    refine seq_cut fun R hR => ?_
    dsimp? [sp_met_lists]
    refine ⟨cs, rfl, hc, by omega, fun L hL => hR _ ?_⟩
    refine seq_cut fun R hR => ?_
    dsimp? [sp_missed_below, sp_round_of]
    refine hc.rok ⟨cs, L, rfl, hc, h, hL, ⟨by omega, by omega⟩, ?_⟩
    split
    · rename_i h0
      exact q2 h0
    · rename_i h0
      refine hR _ ?_
      dsimp? [sp_nth_of]
      have h0 : ¬ cnt cs 0 (rnd 1 cs).toNat = 0 := h0
      refine ⟨cs, rfl, L, rfl, ⟨hc, rb⟩, h, hL, n0, n1, by show 0 < cnt cs 0 _; omega, fun p hp e => ?_⟩
      exact q3 (by show 0 < cnt cs 0 _; omega) p hp e
  · exact h.elim
def sp_missed_ahead : Spc := fun avs Kr Kx => match avs with
  | [.val (.tuple ds), .val d] => ∃ cs, ds = cks cs ∧ GC cs ∧ (10 < cs.length → False) ∧ (cs.length ≤ 10 → (isI d = false → False) ∧ (∀ n, d = .int n → (n < 0 ∨ rgF cs n ≠ [] → False) ∧ (0 ≤ n → rgF cs n = [] → n < 2 ^ 200 ∧ Kr [] (.val (.int (msd cs n.toNat))))))
  | _ => False
/-- missed_ahead: 0 clocks, 1 number -/
def w_missed_ahead : WS :=
  (wSeq (wDrop (wCall 1 sp_check_few (wMCons (wVar 0) wMNil)))
    (wSeq (wIfS (wOr (wNot (wTB (wCall 1 sp_is_whole (wMCons (wVar 1) wMNil)))) (wOr (wTB (wBin oLt (wVar 1) (wC (.int 0)))) (wTB (wBin oNe (wCall 2 sp_rings_at (wMCons (wVar 0) (wMCons (wVar 1) wMNil))) (wLst wFNil))))) wNever wNext)
    (wRet (wCall 2 sp_missed_below (wMCons (wCall 1 sp_met_lists (wMCons (wVar 0) wMNil)) (wMCons (wVar 1) wMNil))))))

theorem vc_missed_ahead : ∀ avs Kr Kx, avs.length = 2 → sp_missed_ahead avs Kr Kx → lsFrom 0 avs = [] ∧ w_missed_ahead (startEv 2 avs) (kenD [] Kr Kx) := by
  intro avs Kr Kx hl h
  unfold sp_missed_ahead at h
  split at h
  · rename_i ds d
    obtain ⟨cs, rfl, hc, q1, q2⟩ := h
    refine ⟨rfl, ?_⟩
    have lc : (cks cs).length = cs.length := List.length_map _
    unfold w_missed_ahead
    refine seq_cut fun R hR => ?_
    dsimp? [sp_check_few]
    rw [lc]
    refine ⟨fun h => hR _ ?_, q1⟩
    obtain ⟨q2, q3⟩ := q2 h
    refine seq_cut fun R hR => ?_
    dsimp? [sp_is_whole]
    cases hi : isI d with
    | false =>
      rw [if_pos (by decide)]
      exact q2 hi
    | true =>
      obtain ⟨n, rfl⟩ := isI_int hi
      obtain ⟨q4, q5⟩ := q3 n rfl
      rw [if_neg (by decide)]
      dsimp? [sp_rings_at]
      split
      · rename_i hn
        exact q4 (.inl hn)
      rename_i hn
      refine ⟨cs, rfl, hc.one, by have := hc.len; omega, by decide, sh_lck _, sh_lck [], ?_⟩
      rw [show PyData.eqv (.list (cks (rgF cs n))) (.list []) = decide (rgF cs n = []) from eqv_lcks (rgF cs n) []]
      by_cases hr : rgF cs n = []
      · rw [decide_eq_true hr, if_neg (by decide)]
        obtain ⟨n1, q⟩ := q5 (by omega) hr
        refine hR _ ?_
        dsimp? [sp_met_lists, sp_missed_below]
        exact ⟨cs, rfl, hc, by omega, fun L hL => ⟨cs, L, rfl, hc, h, hL, ⟨by omega, n1⟩, q⟩⟩
      · rw [decide_eq_false hr, if_pos (by decide)]
        exact q4 (.inr hr)
  · exact h.elim
/-- from place on, less than p, none is missed -/
theorem nx_place {cs : List (Int × Int)} {a p : Nat} (hp : rgF cs (p : Int) = []) (e : msd cs p = msd cs a) : a ≤ p ∧ ∀ x : Nat, a ≤ x → x < p → rgF cs (x : Int) ≠ [] := by
  refine ⟨Nat.not_lt.mp fun z => ?_, fun x h1 h2 h => ?_⟩
  · have := msd_lt hp z
    omega
  · have a1 := msd_lt h h2
    have a2 := msd_mono cs h1
    omega
/-- the last ahead of a -/
theorem lst_place {cs : List (Int × Int)} {a p : Nat} (hp : rgF cs (p : Int) = []) (e : msd cs p + 1 = msd cs a) : p < a ∧ ∀ x : Nat, p < x → x < a → rgF cs (x : Int) ≠ [] := by
  refine ⟨Nat.not_le.mp fun z => ?_, fun x h1 h2 h => ?_⟩
  · have := msd_mono cs z
    omega
  · have a1 := msd_lt h h2
    have a2 := msd_lt hp h1
    omega
theorem rgF_add {cs : List (Int × Int)} {M : Int} (h : ∀ c ∈ cs, c.1 ∣ M) (t x : Int) : rgF cs (t * M + x) = rgF cs x := by
  rw [← rgF_mod h, Int.add_emod, Int.mul_emod_left, Int.zero_add, Int.emod_emod_of_dvd _ (Int.dvd_refl _), rgF_mod h]
def sp_next_missed : Spc := fun avs Kr Kx => match avs with
  | [.val (.tuple ds), .val (.int n)] => ∃ cs, ds = cks cs ∧ GC cs ∧ n.natAbs < 2 ^ 170 ∧ (10 < cs.length → False) ∧ (cs.length ≤ 10 → rnd 1 cs < 2 ^ 40 ∧ (msd cs (rnd 1 cs).toNat = 0 → Kr [] (.val .none)) ∧ (0 < msd cs (rnd 1 cs).toNat → ∀ p : Int, n ≤ p → rgF cs p = [] → (∀ x, n ≤ x → x < p → rgF cs x ≠ []) → Kr [] (.val (.int p))))
  | _ => False
/-- next_missed: 0 clocks, 1 number, 2 lists, 3 size, 4 turns, 5 place -/
def w_next_missed : WS :=
  (wSeq (wDrop (wCall 1 sp_check_few (wMCons (wVar 0) wMNil)))
    (wSeq (wSet 2 (wCall 1 sp_met_lists (wMCons (wVar 0) wMNil)))
    (wSeq (wSet 3 (wCall 1 sp_round_of (wMCons (wVar 0) wMNil)))
    (wSeq (wIfS (wTB (wBin oEq (wCall 2 sp_missed_below (wMCons (wVar 2) (wMCons (wVar 3) wMNil))) (wC (.int 0)))) (wRet (wC .none)) wNext)
    (wSeq (wSet 4 (wBin oFdiv (wVar 1) (wVar 3)))
    (wSeq (wSet 5 (wBin oSub (wVar 1) (wBin oMul (wVar 4) (wVar 3))))
    (wRet (wBin oAdd (wBin oMul (wVar 4) (wVar 3)) (wCall 3 sp_nth_of (wMCons (wVar 0) (wMCons (wVar 2) (wMCons (wCall 2 sp_missed_below (wMCons (wVar 2) (wMCons (wVar 5) wMNil))) wMNil))))))))))))

theorem vc_next_missed : ∀ avs Kr Kx, avs.length = 2 → sp_next_missed avs Kr Kx → lsFrom 0 avs = [] ∧ w_next_missed (startEv 6 avs) (kenD [] Kr Kx) := by
  intro avs Kr Kx hl h
  unfold sp_next_missed at h
  split at h
  · rename_i ds n
    obtain ⟨cs, rfl, hc, n1, q1, q2⟩ := h
    refine ⟨rfl, ?_⟩
    have lc : (cks cs).length = cs.length := List.length_map _
    have rp := hc.rp
    have dv := (rnd_spec cs 1 (by decide) hc.one).2.2.1
    unfold w_next_missed
    refine seq_cut fun R hR => ?_
    dsimp? [sp_check_few]
    rw [lc]
    refine ⟨fun h => hR _ ?_, q1⟩
    obtain ⟨rb, q2, q3⟩ := q2 h
    have mb := cnt_bd cs 0 (rnd 1 cs).toNat
    refine seq_cut fun R hR => ?_
    dsimp? [sp_met_lists]
    refine ⟨cs, rfl, hc, by omega, fun L hL => hR _ ?_⟩
    refine seq_cut fun R hR => ?_
    dsimp? [sp_round_of]
    refine hc.rok (hR _ ?_)
    refine seq_cut fun R hR => ?_
    dsimp? [sp_missed_below]
    refine ⟨cs, L, rfl, hc, h, hL, ⟨by omega, by omega⟩, ?_⟩
    split
    · rename_i h0
      exact q2 h0
    rename_i h0
    have h0 : ¬ cnt cs 0 (rnd 1 cs).toNat = 0 := h0
    have q3 := q3 (show 0 < cnt cs 0 _ by omega)
    refine hR _ ?_
    have em := Int.mul_ediv_add_emod n (rnd 1 cs)
    have m0 := Int.emod_nonneg n (show rnd 1 cs ≠ 0 by omega)
    have m1 := Int.emod_lt_of_pos n rp
    refine seq_cut fun R hR => ?_
    dsimp? []
    refine ⟨rp, log_small rp (by omega), hR _ ?_⟩
    have db : (n / rnd 1 cs).natAbs < 2 ^ 180 := by
      have := Int.natAbs_ediv_le_natAbs n (rnd 1 cs)
      omega
    have er : n - n / rnd 1 cs * rnd 1 cs = n % rnd 1 cs := by rw [Int.mul_comm]; omega
    refine seq_cut fun R hR => ?_
    dsimp? []
    rw [er]
    refine ⟨mulx_ok (a := 180) (b := 60) db (by omega) (by decide), hR _ ?_⟩
    dsimp? [sp_missed_below, sp_nth_of]
    have mb2 := cnt_bd cs 0 (n % rnd 1 cs).toNat
    refine ⟨mulx_ok (a := 180) (b := 60) db (by omega) (by decide), cs, L, rfl, hc, h, hL, ⟨m0, by omega⟩, cs, rfl, L, rfl, ⟨hc, rb⟩, h, hL, by omega, by omega, by show 0 < cnt cs 0 _; omega, fun p hp e => ?_⟩
    obtain ⟨l1, l2⟩ := nx_place (a := (n % rnd 1 cs).toNat) hp e
    have et : n / rnd 1 cs * rnd 1 cs + n % rnd 1 cs = n := by rw [Int.mul_comm]; exact em
    refine q3 _ (by omega) (by rw [rgF_add dv]; exact hp) fun x h1 h2 => ?_
    have := l2 (x - n / rnd 1 cs * rnd 1 cs).toNat (by omega) (by omega)
    rw [Int.toNat_of_nonneg (by omega)] at this
    intro hx
    refine this ?_
    rw [← rgF_add dv (n / rnd 1 cs), show n / rnd 1 cs * rnd 1 cs + (x - n / rnd 1 cs * rnd 1 cs) = x by omega]
    exact hx
  · exact h.elim
def sp_last_missed : Spc := fun avs Kr Kx => match avs with
  | [.val (.tuple ds), .val (.int n)] => ∃ cs, ds = cks cs ∧ GC cs ∧ n.natAbs < 2 ^ 170 ∧ (10 < cs.length → False) ∧ (cs.length ≤ 10 → rnd 1 cs < 2 ^ 40 ∧ (msd cs (rnd 1 cs).toNat = 0 → Kr [] (.val .none)) ∧ (0 < msd cs (rnd 1 cs).toNat → ∀ p : Int, p ≤ n → rgF cs p = [] → (∀ x, p < x → x ≤ n → rgF cs x ≠ []) → Kr [] (.val (.int p))))
  | _ => False
/-- last_missed: 0 clocks, 1 number, 2 lists, 3 size, 4 each, 5 turns, 6 ahead -/
def w_last_missed : WS :=
  (wSeq (wDrop (wCall 1 sp_check_few (wMCons (wVar 0) wMNil)))
    (wSeq (wSet 2 (wCall 1 sp_met_lists (wMCons (wVar 0) wMNil)))
    (wSeq (wSet 3 (wCall 1 sp_round_of (wMCons (wVar 0) wMNil)))
    (wSeq (wSet 4 (wCall 2 sp_missed_below (wMCons (wVar 2) (wMCons (wVar 3) wMNil))))
    (wSeq (wIfS (wTB (wBin oEq (wVar 4) (wC (.int 0)))) (wRet (wC .none)) wNext)
    (wSeq (wSet 5 (wBin oFdiv (wVar 1) (wVar 3)))
    (wSeq (wSet 6 (wCall 2 sp_missed_below (wMCons (wVar 2) (wMCons (wBin oAdd (wBin oSub (wVar 1) (wBin oMul (wVar 5) (wVar 3))) (wC (.int 1))) wMNil))))
    (wSeq (wIfS (wTB (wBin oEq (wVar 6) (wC (.int 0)))) (wRet (wBin oAdd (wBin oMul (wBin oSub (wVar 5) (wC (.int 1))) (wVar 3)) (wCall 3 sp_nth_of (wMCons (wVar 0) (wMCons (wVar 2) (wMCons (wBin oSub (wVar 4) (wC (.int 1))) wMNil)))))) wNext)
    (wRet (wBin oAdd (wBin oMul (wVar 5) (wVar 3)) (wCall 3 sp_nth_of (wMCons (wVar 0) (wMCons (wVar 2) (wMCons (wBin oSub (wVar 6) (wC (.int 1))) wMNil))))))))))))))

theorem vc_last_missed : ∀ avs Kr Kx, avs.length = 2 → sp_last_missed avs Kr Kx → lsFrom 0 avs = [] ∧ w_last_missed (startEv 7 avs) (kenD [] Kr Kx) := by
  intro avs Kr Kx hl h
  unfold sp_last_missed at h
  split at h
  · rename_i ds n
    obtain ⟨cs, rfl, hc, n1, q1, q2⟩ := h
    refine ⟨rfl, ?_⟩
    have lc : (cks cs).length = cs.length := List.length_map _
    have rp := hc.rp
    have dv := (rnd_spec cs 1 (by decide) hc.one).2.2.1
    unfold w_last_missed
    refine seq_cut fun R hR => ?_
    dsimp? [sp_check_few]
    rw [lc]
    refine ⟨fun h => hR _ ?_, q1⟩
    obtain ⟨rb, q2, q3⟩ := q2 h
    have mb := cnt_bd cs 0 (rnd 1 cs).toNat
    refine seq_cut fun R hR => ?_
    dsimp? [sp_met_lists]
    refine ⟨cs, rfl, hc, by omega, fun L hL => hR _ ?_⟩
    refine seq_cut fun R hR => ?_
    dsimp? [sp_round_of]
    refine hc.rok (hR _ ?_)
    refine seq_cut fun R hR => ?_
    dsimp? [sp_missed_below]
    refine ⟨cs, L, rfl, hc, h, hL, ⟨by omega, by omega⟩, hR _ ?_⟩
    refine seq_cut fun R hR => ?_
    dsimp? []
    split
    · rename_i h0
      exact q2 h0
    rename_i h0
    have q3 := q3 (show 0 < cnt cs 0 _ by omega)
    refine hR _ ?_
    have em := Int.mul_ediv_add_emod n (rnd 1 cs)
    have m0 := Int.emod_nonneg n (show rnd 1 cs ≠ 0 by omega)
    have m1 := Int.emod_lt_of_pos n rp
    refine seq_cut fun R hR => ?_
    dsimp? []
    refine ⟨rp, log_small rp (by omega), hR _ ?_⟩
    have db : (n / rnd 1 cs).natAbs < 2 ^ 180 := by
      have := Int.natAbs_ediv_le_natAbs n (rnd 1 cs)
      omega
    have et : n / rnd 1 cs * rnd 1 cs + n % rnd 1 cs = n := by rw [Int.mul_comm]; exact em
    have er : n - n / rnd 1 cs * rnd 1 cs = n % rnd 1 cs := by omega
    refine seq_cut fun R hR => ?_
    dsimp? [sp_missed_below]
    rw [er]
    have tn : (n % rnd 1 cs + 1).toNat = (n % rnd 1 cs).toNat + 1 := by omega
    have mb2 := cnt_bd cs 0 ((n % rnd 1 cs).toNat + 1)
    refine ⟨mulx_ok (a := 180) (b := 60) db (by omega) (by decide), cs, L, rfl, hc, h, hL, ⟨by omega, by omega⟩, hR _ ?_⟩
    rw [tn]
    refine seq_cut fun R hR => ?_
    dsimp? []
    have sub : ∀ x : Int, rgF cs (x - n / rnd 1 cs * rnd 1 cs) = rgF cs x := fun x => by
      have := rgF_add dv (n / rnd 1 cs) (x - n / rnd 1 cs * rnd 1 cs)
      rw [show n / rnd 1 cs * rnd 1 cs + (x - n / rnd 1 cs * rnd 1 cs) = x by omega] at this
      exact this.symm
    split
    · rename_i hz
      dsimp? [sp_nth_of]
      have db2 : (n / rnd 1 cs - 1).natAbs < 2 ^ 181 := by omega
      refine ⟨mulx_ok (a := 181) (b := 60) db2 (by omega) (by decide), cs, rfl, L, rfl, ⟨hc, rb⟩, h, hL, by omega, by omega, by show 0 < cnt cs 0 _; omega, fun p hp e => ?_⟩
      obtain ⟨l1, l2⟩ := lst_place (a := (rnd 1 cs).toNat) hp (by rw [e]; show cnt cs 0 _ - 1 + 1 = cnt cs 0 _; omega)
      have e3 : (n / rnd 1 cs - 1) * rnd 1 cs = n / rnd 1 cs * rnd 1 cs - rnd 1 cs := by rw [Int.sub_mul, Int.one_mul]
      refine q3 _ (by omega) (by rw [rgF_add dv]; exact hp) fun x h1 h2 => ?_
      intro hx
      by_cases c : x < n / rnd 1 cs * rnd 1 cs
      · have := l2 (x - (n / rnd 1 cs - 1) * rnd 1 cs).toNat (by omega) (by omega)
        rw [Int.toNat_of_nonneg (by omega)] at this
        refine this ?_
        have k := rgF_add dv (n / rnd 1 cs - 1) (x - (n / rnd 1 cs - 1) * rnd 1 cs)
        rw [show (n / rnd 1 cs - 1) * rnd 1 cs + (x - (n / rnd 1 cs - 1) * rnd 1 cs) = x by omega] at k
        rw [← k]
        exact hx
      · have k : rgF cs (((x - n / rnd 1 cs * rnd 1 cs).toNat : Nat) : Int) = [] := by
          rw [Int.toNat_of_nonneg (by omega), sub]
          exact hx
        have := msd_lt k (show (x - n / rnd 1 cs * rnd 1 cs).toNat < (n % rnd 1 cs).toNat + 1 by omega)
        have b0 := cnt_bd cs 0 (x - n / rnd 1 cs * rnd 1 cs).toNat
        have : cnt cs 0 (x - n / rnd 1 cs * rnd 1 cs).toNat < cnt cs 0 ((n % rnd 1 cs).toNat + 1) := this
        omega
    · rename_i hz
      refine hR _ ?_
      dsimp? [sp_nth_of]
      refine ⟨mulx_ok (a := 180) (b := 60) db (by omega) (by decide), cs, rfl, L, rfl, ⟨hc, rb⟩, h, hL, by omega, by omega, by show 0 < cnt cs 0 _; omega, fun p hp e => ?_⟩
      obtain ⟨l1, l2⟩ := lst_place (a := (n % rnd 1 cs).toNat + 1) hp (by rw [e]; show cnt cs 0 _ - 1 + 1 = cnt cs 0 _; omega)
      refine q3 _ (by omega) (by rw [rgF_add dv]; exact hp) fun x h1 h2 => ?_
      have := l2 (x - n / rnd 1 cs * rnd 1 cs).toNat (by omega) (by omega)
      rw [Int.toNat_of_nonneg (by omega), sub] at this
      exact this
  · exact h.elim
end Dl
end L2

/-! The plain half, 53: so many clocks that ring at 2 ^ n numbers, one behind the other, ring at all. -/
namespace L2
namespace Dl
open PySem PySem.Spec PyProof.Rows
/-- (E - z) for all z -/
def anh : List Int → (Nat → Int) → Nat → Int
  | [], f => f
  | z :: zs, f => anh zs fun t => f (t + 1) - z * f t
theorem anh_congr : ∀ {zs : List Int} {f g : Nat → Int}, (∀ t, f t = g t) → ∀ t, anh zs f t = anh zs g t
  | [], _, _, h => h
  | z :: zs, f, g, h => anh_congr (zs := zs) fun t => by rw [h t, h (t + 1)]
theorem anh_zero : ∀ (zs : List Int) (t : Nat), anh zs (fun _ => 0) t = 0
  | [], _ => rfl
  | z :: zs, t => (anh_congr (zs := zs) (g := fun _ => 0) (fun t => by rw [Int.mul_zero]; rfl) t).trans (anh_zero zs t)
theorem anh_sub : ∀ (zs : List Int) (f g : Nat → Int) (t : Nat), anh zs (fun t => f t - g t) t = anh zs f t - anh zs g t
  | [], _, _, _ => rfl
  | z :: zs, f, g, t => by
    show anh zs (fun t => f (t + 1) - g (t + 1) - z * (f t - g t)) t = anh zs (fun t => f (t + 1) - z * f t) t - anh zs (fun t => g (t + 1) - z * g t) t
    rw [← anh_sub zs]
    exact anh_congr (fun t => by rw [Int.mul_sub]; omega) t
theorem anh_mul : ∀ (zs : List Int) (c : Int) (f : Nat → Int) (t : Nat), anh zs (fun t => c * f t) t = c * anh zs f t
  | [], _, _, _ => rfl
  | z :: zs, c, f, t => by
    show anh zs (fun t => c * f (t + 1) - z * (c * f t)) t = c * anh zs (fun t => f (t + 1) - z * f t) t
    rw [← anh_mul zs]
    exact anh_congr (fun t => by rw [Int.mul_sub, ← Int.mul_assoc, ← Int.mul_assoc, Int.mul_comm z c]) t
theorem anh_shift : ∀ (zs : List Int) (f : Nat → Int) (t : Nat), anh zs (fun t => f (t + 1)) t = anh zs f (t + 1)
  | [], _, _ => rfl
  | z :: zs, f, t => anh_shift zs (fun t => f (t + 1) - z * f t) t
theorem anh_app : ∀ (zs ws : List Int) (f : Nat → Int) (t : Nat), anh (zs ++ ws) f t = anh ws (fun t => anh zs f t) t
  | [], _, _, _ => rfl
  | z :: zs, ws, f, t => anh_app zs ws _ t
theorem anh_comm : ∀ (zs ws : List Int) (f : Nat → Int) (t : Nat), anh zs (fun t => anh ws f t) t = anh ws (fun t => anh zs f t) t
  | [], _, _, _ => rfl
  | z :: zs, ws, f, t => by
    show anh zs (fun t => anh ws f (t + 1) - z * anh ws f t) t = anh ws (fun t => anh zs (fun t => f (t + 1) - z * f t) t) t
    rw [← anh_comm zs ws]
    exact anh_congr (fun t => by rw [anh_sub, anh_mul, anh_shift]) t
/-- times a power -/
theorem anh_pow (w : Int) : ∀ (zs : List Int) (f : Nat → Int) (t : Nat), anh (zs.map fun z => w * z) (fun t => w ^ t * f t) t = w ^ (zs.length + t) * anh zs f t
  | [], f, t => by rw [List.length_nil, Nat.zero_add]; rfl
  | z :: zs, f, t => by
    show anh (zs.map fun z => w * z) (fun t => w ^ (t + 1) * f (t + 1) - w * z * (w ^ t * f t)) t = w ^ (zs.length + 1 + t) * anh zs (fun t => f (t + 1) - z * f t) t
    have e : ∀ t, w ^ (t + 1) * f (t + 1) - w * z * (w ^ t * f t) = w * (w ^ t * (f (t + 1) - z * f t)) := fun t => by
      rw [Int.pow_succ, Int.mul_sub, Int.mul_sub]
      congr 1
      · rw [Int.mul_comm (w ^ t) w, Int.mul_assoc]
      · rw [Int.mul_assoc]
        congr 1
        rw [← Int.mul_assoc, ← Int.mul_assoc, Int.mul_comm z]
    rw [anh_congr e, anh_mul, anh_pow w zs, show zs.length + 1 + t = (zs.length + t) + 1 by omega, Int.pow_succ, Int.mul_comm (w ^ (zs.length + t)) w, Int.mul_assoc]
/-- nought so often, nought always -/
theorem anh_nought {N : Int} : ∀ {zs : List Int} {f : Nat → Int}, (∀ t, N ∣ anh zs f t) → (∀ t < zs.length, N ∣ f t) → ∀ t, N ∣ f t
  | [], f, h, _ => h
  | z :: zs, f, h, h0 => by
    have g := anh_nought (zs := zs) (f := fun t => f (t + 1) - z * f t) h fun t ht => Int.dvd_sub (h0 (t + 1) (by simpa using ht)) (Int.dvd_trans (h0 t (by rw [List.length_cons]; omega)) (Int.dvd_mul_left _ _))
    intro t
    induction t with
    | zero => exact h0 0 (by rw [List.length_cons]; omega)
    | succ t ih =>
      have := Int.dvd_add (g t) (Int.dvd_trans ih (Int.dvd_mul_left z (f t)))
      rwa [Int.sub_add_cancel] at this
/-- the product of 1 - c w^t -/
def fpr : List (Int × Int) → Nat → Int
  | [], _ => 1
  | p :: l, t => (1 - p.1 * p.2 ^ t) * fpr l t
def zpr : List (Int × Int) → List Int
  | [] => [1]
  | p :: l => zpr l ++ (zpr l).map fun z => p.2 * z
theorem zpr_len : ∀ l : List (Int × Int), (zpr l).length = 2 ^ l.length
  | [] => rfl
  | p :: l => by
    show (zpr l ++ (zpr l).map fun z => p.2 * z).length = _
    rw [List.length_append, List.length_map, zpr_len l, List.length_cons, Nat.pow_succ]
    omega
theorem anh_fpr : ∀ (l : List (Int × Int)) (t : Nat), anh (zpr l) (fpr l) t = 0
  | [], t => by show (1 : Int) - 1 * 1 = 0; rfl
  | p :: l, t => by
    have ih := anh_fpr l
    have e : ∀ t, fpr (p :: l) t = fpr l t - p.1 * (p.2 ^ t * fpr l t) := fun t => by
      show (1 - p.1 * p.2 ^ t) * fpr l t = _
      rw [Int.sub_mul, Int.one_mul, Int.mul_assoc]
    show anh (zpr l ++ (zpr l).map fun z => p.2 * z) (fpr (p :: l)) t = 0
    rw [anh_congr e, anh_sub, anh_mul, anh_app, anh_congr ih, anh_zero, anh_app, ← anh_comm, anh_congr (g := fun _ => 0) (fun t => by rw [anh_pow, ih, Int.mul_zero]), anh_zero, Int.mul_zero]
    rfl
def ordGo (p g : Nat) : Nat → Nat → Bool
  | 0, x => x == 1
  | k + 1, x => (Nat.gcd (x + (p - 1)) p == 1) && ordGo p g k (x * g % p)
def ordOk (p g T : Nat) : Bool := decide (1 < p) && (decide (g < p) && ordGo p g (T - 1) g)
theorem ordGo_spec {p g : Nat} (hp : 1 < p) : ∀ (k x : Nat), x < p → ordGo p g k x = true → (∀ e < k, Nat.gcd ((x * g ^ e) % p + (p - 1)) p = 1) ∧ x * g ^ k % p = 1
  | 0, x, hx, h => by
    have h : x = 1 := eq_of_beq h
    subst h
    exact ⟨fun e he => by omega, by rw [Nat.pow_zero]; exact Nat.mod_eq_of_lt hp⟩
  | k + 1, x, hx, h => by
    have h : ((Nat.gcd (x + (p - 1)) p == 1) && ordGo p g k (x * g % p)) = true := h
    rw [Bool.and_eq_true] at h
    obtain ⟨h1, h2⟩ := ordGo_spec hp k (x * g % p) (Nat.mod_lt _ (by omega)) h.2
    have e : ∀ e, x * g % p * g ^ e % p = x * g ^ (e + 1) % p := fun e => by
      rw [Nat.mod_mul_mod, Nat.mul_assoc, Nat.pow_succ, Nat.mul_comm g]
    refine ⟨fun i hi => ?_, by rw [← e]; exact h2⟩
    cases i with
    | zero =>
      rw [Nat.pow_zero, Nat.mul_one, Nat.mod_eq_of_lt hx]
      exact eq_of_beq h.1
    | succ i =>
      rw [← e]
      exact h1 i (by omega)
theorem ordOk_spec {p g T : Nat} (hT : 1 ≤ T) (h : ordOk p g T = true) : 1 < p ∧ g ^ T % p = 1 ∧ ∀ e, e % T ≠ 0 → Nat.gcd (g ^ e % p + (p - 1)) p = 1 := by
  unfold ordOk at h
  rw [Bool.and_eq_true, Bool.and_eq_true, decide_eq_true_iff, decide_eq_true_iff] at h
  obtain ⟨hp, hg, h⟩ := h
  obtain ⟨h1, h2⟩ := ordGo_spec hp _ _ hg h
  have e1 : g * g ^ (T - 1) = g ^ T := by rw [Nat.mul_comm, ← Nat.pow_succ, show (T - 1).succ = T by omega]
  rw [e1] at h2
  refine ⟨hp, h2, fun e he => ?_⟩
  have red : g ^ e % p = g ^ (e % T) % p := by
    have hq : ∀ q r, g ^ (T * q + r) % p = g ^ r % p := fun q r => by
      induction q with
      | zero => rw [Nat.mul_zero, Nat.zero_add]
      | succ q ih =>
        rw [show T * (q + 1) + r = T + (T * q + r) by rw [Nat.mul_succ]; omega, Nat.pow_add, Nat.mul_mod, h2, Nat.one_mul, Nat.mod_mod, ih]
    have := hq (e / T) (e % T)
    rw [Nat.div_add_mod] at this
    exact this
  rw [red]
  have hl := Nat.mod_lt e (show 0 < T by omega)
  have := h1 (e % T - 1) (by omega)
  rw [show g * g ^ (e % T - 1) = g ^ (e % T) by rw [Nat.mul_comm, ← Nat.pow_succ, show (e % T - 1).succ = e % T by omega]] at this
  exact this
/-- a unit: what it divides times it, it divides -/
theorem cop_of {p g e : Nat} (hp : 1 < p) (h : Nat.gcd (g ^ e % p + (p - 1)) p = 1) {y : Int} (hd : (p : Int) ∣ (1 - ((g ^ e : Nat) : Int)) * y) : (p : Int) ∣ y := by
  have h2 : (p : Int) ∣ ((g ^ e % p + (p - 1) : Nat) : Int) * y := by
    have e1 : ((g ^ e % p + (p - 1) : Nat) : Int) = (p : Int) * (1 - ((g ^ e / p : Nat) : Int)) - (1 - ((g ^ e : Nat) : Int)) := by
      have := Nat.div_add_mod (g ^ e) p
      have : ((p * (g ^ e / p) + g ^ e % p : Nat) : Int) = ((g ^ e : Nat) : Int) := by rw [this]
      rw [Int.natCast_add, Int.natCast_mul] at this
      rw [Int.mul_sub, Int.mul_one]
      omega
    rw [e1, Int.sub_mul]
    exact Int.dvd_sub (Int.dvd_trans (Int.dvd_mul_right _ _) (Int.dvd_mul_right _ _)) hd
  have h3 : p ∣ (g ^ e % p + (p - 1)) * y.natAbs := by
    have := Int.natAbs_dvd_natAbs.mpr h2
    rw [Int.natAbs_mul, Int.natAbs_natCast, Int.natAbs_natCast] at this
    exact this
  have h4 : p ∣ y.natAbs := Nat.Coprime.dvd_of_dvd_mul_left (by rw [Nat.Coprime, Nat.gcd_comm]; exact h) h3
  exact Int.ofNat_dvd_left.mpr h4
def cvChk (k : Nat) (l : List (Nat × Nat)) : Bool := (l.zipIdx k).all fun q => ordOk q.1.1 q.1.2 (q.2 + 1)
theorem cvChk_at {k : Nat} {l : List (Nat × Nat)} (h : cvChk k l = true) {j : Nat} (hj : j < l.length) : ∃ p g, ordOk p g (k + j + 1) = true := by
  have hm : (l[j], k + j) ∈ l.zipIdx k := List.mk_mem_zipIdx_iff_le_and_getElem?_sub.mpr ⟨Nat.le_add_right _ _, by rw [Nat.add_sub_cancel_left]; exact List.getElem?_eq_getElem hj⟩
  exact ⟨_, _, List.all_eq_true.mp h _ hm⟩
def cvC0 : List (Nat × Nat) := [(2, 1), (3, 2), (7, 4), (5, 2), (11, 4), (7, 3), (29, 16), (17, 9), (19, 4), (11, 2),
  (23, 4), (13, 2), (53, 16), (29, 4), (31, 9), (17, 3), (103, 64), (19, 2), (191, 69), (41, 36),
  (43, 9), (23, 5), (47, 4), (73, 52), (101, 16), (53, 4), (109, 81), (29, 2), (59, 4), (31, 3),
  (311, 91), (97, 28), (67, 4), (103, 27), (71, 4), (37, 2), (149, 16), (191, 38), (79, 4), (41, 6)]
theorem cvK0 : cvChk 0 cvC0 = true := by decide +kernel
def cvC1 : List (Nat × Nat) := [(83, 4), (43, 3), (173, 16), (89, 9), (181, 16), (47, 5), (283, 64), (97, 25), (197, 16), (101, 4),
  (103, 4), (53, 2), (107, 4), (109, 36), (331, 67), (113, 9), (229, 81), (59, 2), (709, 551), (61, 2),
  (367, 64), (311, 264), (127, 9), (193, 125), (131, 4), (67, 2), (269, 16), (137, 9), (139, 4), (71, 7),
  (569, 256), (73, 5), (293, 16), (149, 4), (151, 25), (229, 8), (463, 64), (79, 3), (317, 16), (241, 102)]
theorem cvK1 : cvChk 40 cvC1 = true := by decide +kernel
def cvC2 : List (Nat × Nat) := [(163, 4), (83, 2), (167, 4), (337, 227), (1021, 12), (173, 4), (349, 16), (89, 3), (179, 4), (181, 4),
  (547, 64), (277, 8), (373, 16), (283, 8), (191, 4), (97, 5), (389, 16), (197, 4), (199, 4), (101, 2),
  (607, 64), (103, 5), (619, 64), (313, 30), (211, 4), (107, 2), (643, 64), (109, 6), (1091, 1024), (331, 27),
  (223, 9), (113, 3), (227, 4), (229, 36), (461, 16), (233, 9), (937, 256), (709, 64), (239, 4), (241, 49)]
theorem cvK2 : cvChk 80 cvC2 = true := by decide +kernel
def cvC3 : List (Nat × Nat) := [(727, 64), (367, 27), (739, 729), (373, 8), (251, 9), (127, 3), (509, 16), (257, 9), (1033, 256), (131, 2),
  (263, 4), (397, 125), (1597, 902), (269, 4), (271, 4), (137, 3), (823, 64), (139, 2), (557, 16), (281, 9),
  (283, 9), (569, 81), (859, 64), (433, 125), (1451, 1024), (293, 4), (883, 64), (149, 2), (1193, 256), (151, 6),
  (907, 64), (457, 125), (307, 25), (463, 27), (311, 4), (157, 5), (1571, 1024), (317, 4), (3181, 2025), (641, 81)]
theorem cvK3 : cvChk 120 cvC3 = true := by decide +kernel
def cvC4 : List (Nat × Nat) := [(967, 64), (163, 2), (653, 16), (821, 32), (331, 9), (167, 5), (2339, 11), (337, 100), (677, 16), (1021, 64),
  (2053, 2043), (173, 2), (347, 4), (349, 4), (701, 16), (353, 9), (709, 16), (179, 2), (359, 4), (181, 2),
  (1087, 64), (547, 8), (367, 4), (1289, 898), (1481, 256), (373, 4), (1123, 64), (941, 32), (379, 4), (191, 19),
  (383, 4), (193, 5), (773, 16), (389, 4), (1171, 64), (197, 2), (3547, 3213), (199, 3), (797, 16), (401, 9)]
theorem cvK4 : cvChk 160 cvC4 = true := by decide +kernel
def cvC5 : List (Nat × Nat) := [(1609, 256), (607, 27), (2437, 1659), (409, 32), (821, 16), (619, 8), (829, 16), (1249, 243), (419, 4), (211, 2),
  (2111, 1024), (1061, 32), (853, 16), (643, 8), (431, 25), (433, 25), (1303, 64), (1091, 32), (439, 25), (661, 8),
  (443, 4), (223, 3), (2677, 1419), (449, 9), (1801, 1158), (227, 2), (5449, 5194), (229, 6), (2749, 1347), (461, 4),
  (463, 4), (233, 3), (467, 4), (937, 625), (941, 16), (709, 8), (1423, 729), (239, 7), (479, 4), (241, 7)]
theorem cvK5 : cvChk 200 cvC5 = true := by decide +kernel
def cvC6 : List (Nat × Nat) := [(1447, 64), (727, 27), (487, 4), (733, 8), (491, 4), (739, 27), (1483, 64), (1489, 18), (499, 25), (251, 6),
  (503, 4), (757, 8), (1013, 81), (509, 4), (1021, 625), (257, 3), (1543, 64), (1033, 625), (2591, 1024), (521, 9),
  (523, 4), (263, 5), (1579, 64), (1321, 955), (1061, 16), (1597, 64), (1069, 81), (269, 2), (2153, 256), (271, 6),
  (1627, 64), (1361, 243), (547, 4), (823, 27), (3301, 3281), (277, 5), (1109, 16), (557, 4), (1117, 16), (281, 3)]
theorem cvK6 : cvChk 240 cvC6 = true := by decide +kernel
def cvC7 : List (Nat × Nat) := [(563, 4), (283, 3), (1699, 64), (569, 9), (571, 9), (859, 8), (1723, 64), (577, 25), (3469, 627), (1451, 32),
  (1747, 64), (293, 2), (587, 4), (883, 8), (1181, 625), (593, 9), (1783, 64), (1193, 81), (599, 4), (601, 49),
  (3011, 1024), (907, 8), (607, 4), (1217, 81), (1831, 64), (307, 5), (1229, 16), (617, 9), (619, 4), (311, 17),
  (1867, 64), (313, 10), (1879, 64), (1571, 32), (631, 9), (317, 2), (8243, 2601), (3181, 2449), (1277, 16), (641, 9)]
theorem cvK7 : cvChk 280 cvC7 = true := by decide +kernel
def cvC8 : List (Nat × Nat) := [(643, 49), (967, 27), (647, 4), (1297, 921), (1301, 16), (653, 4), (2617, 256), (2297, 2187), (659, 4), (331, 3),
  (1987, 64), (997, 8), (1999, 729), (2339, 128), (2011, 729), (337, 10), (3371, 1024), (677, 4), (2713, 256), (1021, 8),
  (683, 25), (2053, 64), (1373, 16), (1033, 125), (691, 9), (347, 2), (2083, 64), (349, 2), (3491, 1024), (701, 4),
  (3511, 1024), (353, 3), (4943, 1555), (709, 4), (2131, 64), (1069, 8), (1429, 81), (359, 7), (719, 4), (1801, 762)]
theorem cvK8 : cvChk 320 cvC8 = true := by decide +kernel
def cvC9 : List (Nat × Nat) := [(10831, 10639), (1087, 27), (727, 25), (1093, 8), (6571, 900), (367, 6), (2203, 64), (3313, 1768), (739, 9), (1481, 81),
  (743, 4), (373, 2), (1493, 16), (1123, 8), (751, 4), (1129, 202), (5279, 547), (379, 2), (4549, 4096), (761, 36),
  (2287, 1012), (383, 5), (4597, 4096), (769, 121), (2311, 64), (773, 4), (1549, 16), (389, 2), (9337, 7964), (1171, 8),
  (2347, 64), (3137, 287), (787, 4), (3547, 512), (2371, 64), (397, 5), (2383, 64), (797, 4), (1597, 804), (401, 3)]
theorem cvK9 : cvChk 360 cvC9 = true := by decide +kernel
def cvC10 : List (Nat × Nat) := [(3209, 256), (1609, 792), (1613, 81), (809, 9), (811, 9), (2437, 64), (3257, 256), (409, 21), (1637, 16), (821, 4),
  (823, 4), (1237, 8), (827, 4), (829, 4), (11621, 1977), (1249, 343), (1669, 16), (419, 2), (839, 4), (421, 2),
  (4211, 1024), (2111, 2030), (1693, 16), (1697, 81), (2551, 64), (853, 4), (1709, 81), (857, 9), (859, 4), (431, 7),
  (863, 4), (433, 5), (1733, 16), (1303, 27), (1741, 16), (2617, 2540), (7867, 2533), (439, 15), (4391, 1024), (881, 9)]
theorem cvK10 : cvChk 400 cvC10 = true := by decide +kernel
def cvC11 : List (Nat × Nat) := [(883, 4), (443, 2), (887, 4), (1777, 625), (2671, 64), (2677, 64), (1789, 81), (449, 3), (3593, 256), (1801, 233),
  (2707, 64), (2713, 2060), (907, 4), (5449, 4402), (911, 9), (457, 13), (13711, 5992), (2749, 64), (919, 25), (461, 2),
  (2767, 64), (463, 3), (5557, 4096), (929, 9), (1861, 16), (467, 2), (2803, 64), (937, 25), (1877, 16), (941, 4),
  (3769, 256), (1889, 81), (947, 4), (1423, 27), (1901, 16), (953, 9), (6679, 805), (479, 13), (3833, 256), (3361, 93)]
theorem cvK11 : cvChk 440 cvC11 = true := by decide +kernel
def cvC12 : List (Nat × Nat) := [(2887, 64), (1447, 27), (967, 4), (1453, 8), (971, 9), (487, 3), (1949, 16), (977, 9), (5869, 4096), (491, 2),
  (983, 4), (2953, 1607), (1973, 16), (1483, 8), (991, 4), (1489, 343), (6959, 2136), (499, 7), (1997, 16), (3001, 610),
  (5011, 1024), (503, 5), (3019, 64), (1009, 121), (5051, 1024), (1013, 9), (2029, 16), (509, 2), (1019, 4), (1021, 100),
  (3067, 64), (7681, 4055), (2053, 16), (1543, 27), (1031, 4), (1033, 25), (2069, 16), (2591, 1261), (1039, 4), (521, 3)]
theorem cvK12 : cvChk 480 cvC12 = true := by decide +kernel
def cvC13 : List (Nat × Nat) := [(16673, 2496), (523, 2), (5231, 1024), (1049, 9), (1051, 25), (1579, 8), (3163, 64), (2113, 625), (12697, 4479), (1061, 4),
  (1063, 4), (1597, 8), (6397, 4096), (1069, 36), (2141, 16), (1609, 343), (4297, 256), (2153, 81), (6469, 4096), (541, 2),
  (9739, 8930), (1627, 8), (1087, 4), (5441, 4639), (1091, 4), (547, 2), (5471, 1024), (1097, 9), (7687, 1010), (3301, 442),
  (1103, 9), (1657, 1331), (2213, 16), (1109, 4), (2221, 16), (557, 2), (3343, 64), (1117, 4), (2237, 16), (2801, 243)]
theorem cvK13 : cvChk 520 cvC13 = true := by decide +kernel
def cvC14 : List (Nat × Nat) := [(1123, 4), (563, 2), (7883, 618), (1129, 121), (3391, 729), (1699, 8), (2269, 16), (569, 3), (6829, 4096), (571, 3),
  (5711, 1024), (2861, 32), (2293, 16), (1723, 8), (1151, 4), (577, 5), (2309, 16), (3469, 64), (5791, 1024), (1741, 8),
  (1163, 9), (1747, 8), (2333, 16), (1753, 125), (1171, 4), (587, 2), (8219, 8165), (3529, 2738), (2357, 16), (1181, 49),
  (3547, 64), (593, 3), (1187, 4), (1783, 1000), (2381, 81), (1193, 9), (2389, 16), (599, 7), (4793, 256), (601, 7)]
theorem cvK14 : cvChk 560 cvC14 = true := by decide +kernel
def cvC15 : List (Nat × Nat) := [(3607, 64), (3011, 32), (7237, 4096), (2417, 81), (3631, 64), (607, 3), (3643, 64), (1217, 9), (2437, 16), (1831, 27),
  (1223, 4), (613, 2), (6131, 1024), (1229, 4), (1231, 4), (617, 3), (4937, 256), (619, 2), (2477, 16), (1861, 8),
  (3727, 64), (1867, 8), (3739, 729), (1249, 49), (11251, 6664), (1879, 27), (6271, 4211), (3769, 810), (1259, 4), (631, 3),
  (6311, 1024), (3793, 453), (8863, 5812), (8243, 8192), (5081, 256), (3181, 902), (2549, 16), (1277, 4), (1279, 4), (641, 3)]
theorem cvK15 : cvChk 600 cvC15 = true := by decide +kernel
def cvC16 : List (Nat × Nat) := [(1283, 4), (643, 11), (7717, 4096), (1289, 36), (1291, 4), (647, 5), (9059, 7325), (1297, 100), (6491, 1024), (1301, 4),
  (1303, 4), (653, 2), (1307, 4), (2617, 625), (2621, 16), (7873, 6768), (3943, 729), (659, 2), (1319, 4), (661, 2),
  (3967, 64), (1987, 8), (1327, 9), (1993, 125), (9311, 7073), (1999, 27), (4003, 64), (7349, 2048), (2677, 16), (2011, 27),
  (4027, 64), (673, 5), (2693, 16), (3371, 32), (4051, 3472), (677, 2), (5417, 256), (2713, 625), (6791, 1024), (1361, 9)]
theorem cvK16 : cvChk 640 cvC16 = true := by decide +kernel
def cvC17 : List (Nat × Nat) := [(5449, 1112), (683, 5), (1367, 4), (2053, 8), (2741, 16), (1373, 4), (2749, 81), (2753, 81), (8269, 4096), (691, 3),
  (6911, 1024), (3461, 32), (4159, 64), (2083, 8), (12511, 11924), (2089, 343), (2789, 16), (3491, 32), (1399, 25), (701, 2),
  (12619, 9764), (3511, 2763), (4219, 64), (1409, 9), (4231, 64), (4943, 3980), (4243, 64), (709, 2), (2837, 16), (2131, 8),
  (1423, 9), (2137, 125), (1427, 4), (1429, 36), (2861, 16), (1433, 9), (5737, 509), (719, 11), (1439, 4), (2161, 1362)]
theorem cvK17 : cvChk 680 cvC17 = true := by decide +kernel
def cvC18 : List (Nat × Nat) := [(4327, 64), (10831, 8663), (1447, 4), (2897, 81), (1451, 4), (727, 5), (2909, 16), (6553, 5647), (1459, 9), (6571, 6541),
  (5849, 256), (733, 6), (7331, 1024), (2203, 8), (1471, 25), (5153, 2187), (4423, 64), (739, 3), (2957, 16), (1481, 9),
  (1483, 4), (743, 5), (1487, 4), (1489, 196), (7451, 1024), (1493, 4), (4483, 64), (5237, 128), (1499, 4), (751, 3),
  (4507, 64), (3761, 243), (4519, 729), (5279, 19), (1511, 4), (757, 2), (12113, 4971), (4549, 64), (3037, 16), (761, 6)]
theorem cvK18 : cvChk 720 cvC18 = true := by decide +kernel
def cvC19 : List (Nat × Nat) := [(1523, 4), (2287, 2285), (9157, 335), (2293, 8), (1531, 4), (4597, 64), (4603, 64), (769, 11), (7691, 1024), (2311, 27),
  (1543, 4), (773, 2), (4639, 64), (1549, 4), (4651, 64), (1553, 9), (3109, 1296), (9337, 6086), (1559, 4), (2341, 343),
  (12497, 3051), (2347, 8), (1567, 4), (3137, 81), (1571, 4), (787, 2), (4723, 64), (4729, 2915), (1579, 9), (2371, 8),
  (1583, 4), (2377, 125), (4759, 64), (2383, 27), (3181, 625), (797, 2), (4783, 64), (1597, 121), (17579, 10502), (1601, 9)]
theorem cvK19 : cvChk 760 cvC19 = true := by decide +kernel
def cvC20 : List (Nat × Nat) := [(8011, 7389), (3209, 81), (1607, 4), (1609, 49), (3221, 625), (1613, 9), (3229, 81), (809, 3), (1619, 4), (811, 3),
  (8111, 1024), (2437, 8), (1627, 9), (3257, 81), (6521, 256), (6529, 6223), (4903, 64), (1637, 4), (6553, 4714), (821, 2),
  (6569, 256), (823, 3), (8231, 1024), (2473, 125), (3301, 81), (827, 2), (11579, 4805), (829, 2), (8291, 1024), (11621, 4763),
  (1663, 4), (3329, 81), (1667, 4), (1669, 4), (5011, 64), (6689, 6561), (5023, 64), (839, 11), (10069, 4096), (2521, 2392)]
theorem cvK20 : cvChk 800 cvC20 = true := by decide +kernel
def cvC21 : List (Nat × Nat) := [(10093, 4096), (4211, 32), (3373, 625), (10973, 8192), (6761, 256), (1693, 4), (3389, 81), (1697, 9), (1699, 9), (2551, 216),
  (5107, 64), (853, 2), (3413, 16), (1709, 9), (6841, 256), (857, 3), (6857, 256), (859, 2), (18899, 17625), (1721, 9),
  (1723, 9), (863, 5), (5179, 64), (2593, 343), (3461, 16), (1733, 4), (3469, 16), (5209, 4272), (10429, 4096), (1741, 4),
  (5227, 64), (2617, 125), (1747, 4), (7867, 512), (7001, 6561), (877, 2), (14033, 9404), (4391, 3634), (1759, 4), (881, 3)]
theorem cvK21 : cvChk 840 cvC21 = true := by decide +kernel
def cvC22 : List (Nat × Nat) := [(15859, 8400), (883, 2), (3533, 16), (4421, 243), (3541, 81), (887, 5), (5323, 64), (1777, 25), (3557, 16), (2671, 27),
  (1783, 4), (2677, 8), (1787, 4), (1789, 36), (3581, 16), (2689, 2197), (7177, 256), (3593, 81), (7193, 256), (1801, 121),
  (5407, 64), (2707, 8), (3613, 16), (2713, 125), (1811, 9), (907, 2), (5443, 64), (5449, 3220), (3637, 16), (911, 17),
  (1823, 4), (4561, 1416), (5479, 64), (13711, 7201), (1831, 9), (2749, 8), (5503, 64), (919, 7), (3677, 16), (5521, 1708)]
theorem cvK22 : cvChk 880 cvC22 = true := by decide +kernel
def cvC23 : List (Nat × Nat) := [(5527, 64), (2767, 27), (1847, 4), (3697, 625), (3701, 16), (5557, 64), (3709, 16), (929, 3), (7433, 256), (1861, 4),
  (9311, 1024), (2797, 8), (1867, 4), (2803, 8), (1871, 4), (937, 5), (5623, 64), (1877, 4), (1879, 4), (941, 2),
  (5647, 64), (3769, 2401), (5659, 64), (1889, 9), (7561, 256), (947, 2), (5683, 64), (3793, 625), (3797, 16), (1901, 4),
  (9511, 1983), (953, 3), (1907, 4), (6679, 2187), (3821, 81), (1913, 9), (5743, 64), (3833, 81), (7673, 256), (4801, 2404)]
theorem cvK23 : cvChk 920 cvC23 = true := by decide +kernel
def cvC24 : List (Nat × Nat) := [(15377, 4028), (2887, 125), (3853, 16), (8677, 512), (1931, 4), (967, 5), (15473, 3644), (8713, 1413), (3877, 16), (971, 6),
  (5827, 64), (2917, 125), (5839, 64), (1949, 4), (1951, 4), (977, 3), (7817, 256), (5869, 64), (3917, 16), (5881, 1380),
  (9811, 183), (983, 5), (13763, 2621), (2953, 2197), (9851, 1024), (1973, 4), (5923, 64), (6917, 128), (1979, 4), (991, 6),
  (17839, 12398), (5953, 3719), (1987, 4), (6959, 2381), (11941, 6880), (997, 7), (3989, 16), (1997, 4), (1999, 9), (3001, 343)]
theorem cvK24 : cvChk 960 cvC24 = true := by decide +kernel
theorem cv_at {P : Nat} (h1 : 1 ≤ P) (h2 : P ≤ 1000) : ∃ p g, ordOk p g P = true := by
  by_cases h10 : P ≤ 40
  · obtain ⟨p, g, e⟩ := cvChk_at cvK0 (j := P - 1) (by show P - 1 < 40; omega)
    rw [show 0 + (P - 1) + 1 = P by omega] at e
    exact ⟨p, g, e⟩
  by_cases h11 : P ≤ 80
  · obtain ⟨p, g, e⟩ := cvChk_at cvK1 (j := P - 41) (by show P - 41 < 40; omega)
    rw [show 40 + (P - 41) + 1 = P by omega] at e
    exact ⟨p, g, e⟩
  by_cases h12 : P ≤ 120
  · obtain ⟨p, g, e⟩ := cvChk_at cvK2 (j := P - 81) (by show P - 81 < 40; omega)
    rw [show 80 + (P - 81) + 1 = P by omega] at e
    exact ⟨p, g, e⟩
  by_cases h13 : P ≤ 160
  · obtain ⟨p, g, e⟩ := cvChk_at cvK3 (j := P - 121) (by show P - 121 < 40; omega)
    rw [show 120 + (P - 121) + 1 = P by omega] at e
    exact ⟨p, g, e⟩
  by_cases h14 : P ≤ 200
  · obtain ⟨p, g, e⟩ := cvChk_at cvK4 (j := P - 161) (by show P - 161 < 40; omega)
    rw [show 160 + (P - 161) + 1 = P by omega] at e
    exact ⟨p, g, e⟩
  by_cases h15 : P ≤ 240
  · obtain ⟨p, g, e⟩ := cvChk_at cvK5 (j := P - 201) (by show P - 201 < 40; omega)
    rw [show 200 + (P - 201) + 1 = P by omega] at e
    exact ⟨p, g, e⟩
  by_cases h16 : P ≤ 280
  · obtain ⟨p, g, e⟩ := cvChk_at cvK6 (j := P - 241) (by show P - 241 < 40; omega)
    rw [show 240 + (P - 241) + 1 = P by omega] at e
    exact ⟨p, g, e⟩
  by_cases h17 : P ≤ 320
  · obtain ⟨p, g, e⟩ := cvChk_at cvK7 (j := P - 281) (by show P - 281 < 40; omega)
    rw [show 280 + (P - 281) + 1 = P by omega] at e
    exact ⟨p, g, e⟩
  by_cases h18 : P ≤ 360
  · obtain ⟨p, g, e⟩ := cvChk_at cvK8 (j := P - 321) (by show P - 321 < 40; omega)
    rw [show 320 + (P - 321) + 1 = P by omega] at e
    exact ⟨p, g, e⟩
  by_cases h19 : P ≤ 400
  · obtain ⟨p, g, e⟩ := cvChk_at cvK9 (j := P - 361) (by show P - 361 < 40; omega)
    rw [show 360 + (P - 361) + 1 = P by omega] at e
    exact ⟨p, g, e⟩
  by_cases h20 : P ≤ 440
  · obtain ⟨p, g, e⟩ := cvChk_at cvK10 (j := P - 401) (by show P - 401 < 40; omega)
    rw [show 400 + (P - 401) + 1 = P by omega] at e
    exact ⟨p, g, e⟩
  by_cases h21 : P ≤ 480
  · obtain ⟨p, g, e⟩ := cvChk_at cvK11 (j := P - 441) (by show P - 441 < 40; omega)
    rw [show 440 + (P - 441) + 1 = P by omega] at e
    exact ⟨p, g, e⟩
  by_cases h22 : P ≤ 520
  · obtain ⟨p, g, e⟩ := cvChk_at cvK12 (j := P - 481) (by show P - 481 < 40; omega)
    rw [show 480 + (P - 481) + 1 = P by omega] at e
    exact ⟨p, g, e⟩
  by_cases h23 : P ≤ 560
  · obtain ⟨p, g, e⟩ := cvChk_at cvK13 (j := P - 521) (by show P - 521 < 40; omega)
    rw [show 520 + (P - 521) + 1 = P by omega] at e
    exact ⟨p, g, e⟩
  by_cases h24 : P ≤ 600
  · obtain ⟨p, g, e⟩ := cvChk_at cvK14 (j := P - 561) (by show P - 561 < 40; omega)
    rw [show 560 + (P - 561) + 1 = P by omega] at e
    exact ⟨p, g, e⟩
  by_cases h25 : P ≤ 640
  · obtain ⟨p, g, e⟩ := cvChk_at cvK15 (j := P - 601) (by show P - 601 < 40; omega)
    rw [show 600 + (P - 601) + 1 = P by omega] at e
    exact ⟨p, g, e⟩
  by_cases h26 : P ≤ 680
  · obtain ⟨p, g, e⟩ := cvChk_at cvK16 (j := P - 641) (by show P - 641 < 40; omega)
    rw [show 640 + (P - 641) + 1 = P by omega] at e
    exact ⟨p, g, e⟩
  by_cases h27 : P ≤ 720
  · obtain ⟨p, g, e⟩ := cvChk_at cvK17 (j := P - 681) (by show P - 681 < 40; omega)
    rw [show 680 + (P - 681) + 1 = P by omega] at e
    exact ⟨p, g, e⟩
  by_cases h28 : P ≤ 760
  · obtain ⟨p, g, e⟩ := cvChk_at cvK18 (j := P - 721) (by show P - 721 < 40; omega)
    rw [show 720 + (P - 721) + 1 = P by omega] at e
    exact ⟨p, g, e⟩
  by_cases h29 : P ≤ 800
  · obtain ⟨p, g, e⟩ := cvChk_at cvK19 (j := P - 761) (by show P - 761 < 40; omega)
    rw [show 760 + (P - 761) + 1 = P by omega] at e
    exact ⟨p, g, e⟩
  by_cases h30 : P ≤ 840
  · obtain ⟨p, g, e⟩ := cvChk_at cvK20 (j := P - 801) (by show P - 801 < 40; omega)
    rw [show 800 + (P - 801) + 1 = P by omega] at e
    exact ⟨p, g, e⟩
  by_cases h31 : P ≤ 880
  · obtain ⟨p, g, e⟩ := cvChk_at cvK21 (j := P - 841) (by show P - 841 < 40; omega)
    rw [show 840 + (P - 841) + 1 = P by omega] at e
    exact ⟨p, g, e⟩
  by_cases h32 : P ≤ 920
  · obtain ⟨p, g, e⟩ := cvChk_at cvK22 (j := P - 881) (by show P - 881 < 40; omega)
    rw [show 880 + (P - 881) + 1 = P by omega] at e
    exact ⟨p, g, e⟩
  by_cases h33 : P ≤ 960
  · obtain ⟨p, g, e⟩ := cvChk_at cvK23 (j := P - 921) (by show P - 921 < 40; omega)
    rw [show 920 + (P - 921) + 1 = P by omega] at e
    exact ⟨p, g, e⟩
  by_cases h34 : P ≤ 1000
  · obtain ⟨p, g, e⟩ := cvChk_at cvK24 (j := P - 961) (by show P - 961 < 40; omega)
    rw [show 960 + (P - 961) + 1 = P by omega] at e
    exact ⟨p, g, e⟩
  omega
theorem cv_27720 : ordOk 55441 1444 27720 = true := by decide +kernel
end Dl
end L2

/-! The plain half, 54: so many, one behind the other, are all. -/
namespace L2
namespace Dl
open PySem PySem.Spec PyProof.Rows
theorem cv_fac (g m e t : Nat) : ((g ^ (m * e) : Nat) : Int) * ((g ^ m : Nat) : Int) ^ t = ((g ^ (m * (e + t)) : Nat) : Int) := by
  rw [← Int.natCast_pow, ← Int.natCast_mul, ← Nat.pow_mul, ← Nat.pow_add, Nat.mul_add]
theorem cv_ring {c : Int × Int} (oc : CkOk 1000 c) {T : Nat} (hT : 1 ≤ T) (hd : c.1 ∣ (T : Int)) (z : Int) (t : Nat) : (T / c.1.toNat * (((z - c.2) % c.1).toNat + t)) % T = 0 ↔ (z + t) % c.1 = c.2 := by
  obtain ⟨s, r⟩ := c
  obtain ⟨h1, h2, h3, h4⟩ := oc
  have h1 : 1 ≤ s := h1
  have h3 : 0 ≤ r := h3
  have h4 : r < s := h4
  have hd : s ∣ (T : Int) := hd
  rw [← Rg_mod (c := (s, r)) h3 h4]
  show (T / s.toNat * (((z - r) % s).toNat + t)) % T = 0 ↔ s ∣ z + t - r
  obtain ⟨s, rfl⟩ := Int.eq_ofNat_of_zero_le (show 0 ≤ s by omega)
  rw [Int.toNat_natCast]
  obtain ⟨m, rfl⟩ := Int.natCast_dvd_natCast.mp hd
  have hs : 0 < s := by omega
  have hm : 0 < m := Nat.pos_of_ne_zero fun e => by subst e; omega
  rw [Nat.mul_div_cancel_left _ hs, Nat.mul_comm s m, Nat.mul_mod_mul_left]
  have e0 := Int.emod_nonneg (z - r) (show (s : Int) ≠ 0 by omega)
  have e1 : s ∣ (((z - r) % (s : Int)).toNat + t) ↔ (s : Int) ∣ z + t - r := by
    rw [← Int.natCast_dvd_natCast, Int.natCast_add, Int.toNat_of_nonneg e0]
    have e2 : z + (t : Int) - r = ((z - r) % (s : Int) + t) + (s : Int) * ((z - r) / (s : Int)) := by
      have := Int.mul_ediv_add_emod (z - r) (s : Int)
      omega
    rw [e2]
    exact (Int.dvd_add_left (Int.dvd_mul_right _ _)).symm
  rw [← e1]
  constructor
  · intro h
    rcases Nat.mul_eq_zero.mp h with w | w
    · omega
    · exact Nat.dvd_of_mod_eq_zero w
  · intro h
    rw [Nat.mod_eq_zero_of_dvd h, Nat.mul_zero]
def cvl (g T : Nat) (z : Int) (cs : List (Int × Int)) : List (Int × Int) := cs.map fun c => (((g ^ (T / c.1.toNat * ((z - c.2) % c.1).toNat) : Nat) : Int), ((g ^ (T / c.1.toNat) : Nat) : Int))
theorem fpr_cons (g T : Nat) (z : Int) (c : Int × Int) (cs : List (Int × Int)) (t : Nat) : fpr (cvl g T z (c :: cs)) t = (1 - ((g ^ (T / c.1.toNat * (((z - c.2) % c.1).toNat + t)) : Nat) : Int)) * fpr (cvl g T z cs) t := by
  rw [← cv_fac]
  rfl
theorem fpr_z {p g T : Nat} (hT : 1 ≤ T) (ho : ordOk p g T = true) (z : Int) (t : Nat) : ∀ {cs : List (Int × Int)}, (∀ c ∈ cs, CkOk 1000 c ∧ c.1 ∣ (T : Int)) → rgF cs (z + t) ≠ [] → (p : Int) ∣ fpr (cvl g T z cs) t
  | [], _, h => absurd rfl h
  | c :: cs, hc, h => by
    obtain ⟨oc, dc⟩ := hc c List.mem_cons_self
    obtain ⟨hp, h1, h2⟩ := ordOk_spec hT ho
    rw [fpr_cons]
    by_cases e : (z + t) % c.1 = c.2
    · have e2 := (cv_ring oc hT dc z t).mpr e
      obtain ⟨q, hq⟩ := Nat.dvd_of_mod_eq_zero e2
      rw [hq]
      refine Int.dvd_trans ?_ (Int.dvd_mul_right _ _)
      have e3 : g ^ (T * q) % p = 1 := by
        rw [Nat.pow_mul, Nat.pow_mod, h1, Nat.one_pow, Nat.mod_eq_of_lt hp]
      have e4 := Nat.div_add_mod (g ^ (T * q)) p
      rw [e3] at e4
      refine ⟨-((g ^ (T * q) / p : Nat) : Int), ?_⟩
      rw [Int.mul_neg, ← Int.natCast_mul]
      omega
    · refine Int.dvd_trans (fpr_z hT ho z t (fun d hd => hc d (List.mem_cons_of_mem _ hd)) ?_) (Int.dvd_mul_left _ _)
      unfold rgF at h ⊢
      rw [List.filter_cons, if_neg (by rw [decide_eq_true_iff]; exact e)] at h
      exact h
theorem fpr_nz {p g T : Nat} (hT : 1 ≤ T) (ho : ordOk p g T = true) (z : Int) (t : Nat) : ∀ {cs : List (Int × Int)}, (∀ c ∈ cs, CkOk 1000 c ∧ c.1 ∣ (T : Int)) → rgF cs (z + t) = [] → (p : Int) ∣ fpr (cvl g T z cs) t → (p : Int) ∣ 1
  | [], _, _, h => h
  | c :: cs, hc, hr, h => by
    obtain ⟨oc, dc⟩ := hc c List.mem_cons_self
    obtain ⟨hp, h1, h2⟩ := ordOk_spec hT ho
    rw [fpr_cons] at h
    unfold rgF at hr
    rw [List.filter_cons] at hr
    by_cases e : (z + t) % c.1 = c.2
    · rw [if_pos (decide_eq_true e)] at hr
      cases hr
    · rw [if_neg (by rw [decide_eq_true_iff]; exact e)] at hr
      exact fpr_nz hT ho z t (fun d hd => hc d (List.mem_cons_of_mem _ hd)) hr (cop_of hp (h2 _ fun w => e ((cv_ring oc hT dc z t).mp w)) h)
/-- so many, one behind the other, are all -/
theorem cve {p g T : Nat} (hT : 1 ≤ T) (ho : ordOk p g T = true) {cs : List (Int × Int)} (hc : ∀ c ∈ cs, CkOk 1000 c ∧ c.1 ∣ (T : Int)) {z : Int} (h : ∀ t : Nat, t < 2 ^ cs.length → rgF cs (z + t) ≠ []) (x : Int) : rgF cs x ≠ [] := by
  intro hx
  obtain ⟨hp, h1, h2⟩ := ordOk_spec hT ho
  have hl : (zpr (cvl g T z cs)).length = 2 ^ cs.length := by
    rw [zpr_len]
    unfold cvl
    rw [List.length_map]
  have all := anh_nought (N := (p : Int)) (zs := zpr (cvl g T z cs)) (f := fpr (cvl g T z cs)) (fun t => by rw [anh_fpr]; exact Int.dvd_zero _) fun t ht => fpr_z hT ho z t hc (h t (by omega))
  have hm : ∀ c ∈ cs, c.1 ∣ (T : Int) := fun c k => (hc c k).2
  have e0 := Int.emod_nonneg (x - z) (show (T : Int) ≠ 0 by omega)
  have e : rgF cs (z + (((x - z) % (T : Int)).toNat : Nat)) = [] := by
    rw [Int.toNat_of_nonneg e0, ← rgF_mod hm, Int.add_emod, Int.emod_emod_of_dvd _ (Int.dvd_refl _), ← Int.add_emod, show z + (x - z) = x by omega, rgF_mod hm]
    exact hx
  have := fpr_nz hT ho z _ hc e (all _)
  have := Int.le_of_dvd (by decide) this
  omega
theorem cv_div : ∀ s : Nat, 1 ≤ s → s ≤ 12 → s ∣ 27720 := fun s h1 h2 => by
  have : s = 1 ∨ s = 2 ∨ s = 3 ∨ s = 4 ∨ s = 5 ∨ s = 6 ∨ s = 7 ∨ s = 8 ∨ s = 9 ∨ s = 10 ∨ s = 11 ∨ s = 12 := by omega
  rcases this with rfl | rfl | rfl | rfl | rfl | rfl | rfl | rfl | rfl | rfl | rfl | rfl <;> decide
theorem cb_ord {cs : List (Int × Int)} (ok : ∀ c ∈ cs, CkOk 1000 c) (h : CB cs) : ∃ p g T : Nat, 1 ≤ T ∧ ordOk p g T = true ∧ ∀ c ∈ cs, CkOk 1000 c ∧ c.1 ∣ (T : Int) := by
  rcases h with h | ⟨P, h1, h2, h⟩
  · refine ⟨55441, 1444, 27720, by decide, cv_27720, fun c hc => ⟨ok c hc, ?_⟩⟩
    have o := (ok c hc).1
    have l := h c hc
    obtain ⟨s, es⟩ := Int.eq_ofNat_of_zero_le (show 0 ≤ c.1 by omega)
    rw [es]
    exact Int.natCast_dvd_natCast.mpr (cv_div s (by omega) (by omega))
  · obtain ⟨p, g, e⟩ := cv_at h1 h2
    exact ⟨p, g, P, h1, e, fun c hc => ⟨ok c hc, h c hc⟩⟩
theorem cb_all {cs : List (Int × Int)} (ok : ∀ c ∈ cs, CkOk 1000 c) (hb : CB cs) {z : Int} (h : ∀ t : Nat, t < 2 ^ cs.length → rgF cs (z + t) ≠ []) (x : Int) : rgF cs x ≠ [] := by
  obtain ⟨p, g, T, hT, ho, hc⟩ := cb_ord ok hb
  exact cve hT ho hc h x
end Dl
end L2

/-! k52: the whole of far counts. -/
namespace L2
namespace Dl
open PySem PySem.Spec PyProof.Rows
local macro_rules | `(tactic| dsimp? [$xs,*] $[$l]?) => `(tactic| simp only [wSeq, wNext, wBreak, wCont, wDrop, wRet, wRetN, wIfS, wSet, wAsgT, e_aug, e_setIx, e_par, e_gN, getS_0, getS_s, setS_0, setS_s, e_var, varK_v, varK_o, varK_u, wC, wBin, rdK_v, rdK_t, rdK_s, rdS_v, rdS_o, rdS_u, fzK_v, fzK_t, fzK_s, fzS_v, fzS_o, fzS_l, fzS_u, e_fz, asg_v, asg_t, asg_s, e_tb, tbK_b, wAnd, wOr, wNot, e_notV, e_andV, e_orV, wBV, wIf, e_neg, intK_i, e_oso, wONo, e_rng1, e_rng2, wFNil, wFCons, wANil, wACons, wTup, wLst, e_callB, rdAllK_n, rdAllK_c, wIsi, e_call, wMNil, wMCons, e_ld, lnsOf, avsK_n, avsK_f, avsK_l, lnS_o, lnS_v, lnS_u, poK_n, poK_c, poS_o, inS_0, inS_s, rsK_v, rsK_o, wSl, e_ownF, e_own0, ownB_o, oS_o, oS_v, oS_u, agS_i, muApp, oAdd_i, oAdd_l, oAdd_t, oAdd_s, oSub_i, oMul_i, oFdiv_i, oMod_i, oPow_i, oShl_i, oShr_i, oOr_i, oAndB_i, oLt_i, oLe_i, oGt_i, oGe_i, oEq_i, oNe_i, oEq, oNe, oIx_l, oIx_t, oLen_l, oLen_t, oInt_i, oInt_b, oMax_i, oMin_i, oList_l, oList_t, oTuple_l, oTuple_t, oSorted_l, oSorted_t, oIs_n, oIsN_n, oIs_b, oIsN_b, isNone_n, isNone_t, isNone_l, isNone_i, isNone_s, isNone_b, oSl_l, oSl_t, oIn, gT_t, gC_c, gNil', e_iseq, sqK_l, sqK_t, e_isq, sq2K_l, sq2K_t, e_sset, ssK_l, ssK_t, e_chain, e_lr1, e_lr2, wRev, rvD_l, rvD_t, e_in1, e_in2, negB_f, negB_t, wIZip, zpK_l, zpK_t, zpK_m, e_extend, extR_t, wYes, startEv, kenD_nx, kenD_rt, kenD_bk, kenD_ct, kenD_ex, outK_n, outK_c, otS_o, rvK_v, rvK_t, rvK_s, rvS_v, rvS_o, slOf, lsFrom, wipeE, restE, List.map_cons, List.map_nil, List.length_cons, List.length_nil, List.replicate, List.append_nil, List.cons_append, List.nil_append, List.getElem?_cons_zero, List.getElem?_cons_succ, List.getElem?_nil, List.set_cons_zero, List.set_cons_succ, List.set_nil, Option.getD_some, Option.getD_none, Option.map_some, Option.map_none, Option.some.injEq, Rs.val.injEq, Rs.tmp.injEq, Rs.slot.injEq, Sl.own.injEq, Sl.val.injEq, PyData.int.injEq, PyData.bool.injEq, PyData.str.injEq, PyData.list.injEq, PyData.tuple.injEq, Prod.mk.injEq, Nat.sub_self, Nat.zero_add, Nat.reduceAdd, Nat.reduceSub, Nat.add_zero, isTy_int_int, isTy_bool_int, isTy_int_bool, isTy_bool_bool, isTy_int_tup, isTy_int_lst, isTy_int_non, isTy_int_str, isTy_tup_tup, isTy_tup_lst, isTy_tup_int, isTy_tup_bool, isTy_tup_non, isTy_tup_str, isTy_lst_lst, isTy_lst_tup, isTy_lst_int, exists_eq_left', exists_eq_left, exists_and_left, exists_eq_right, exists_eq, exists_eq', exists_const, true_and, and_true, and_self, Bool.not_true, Bool.not_false, if_true, if_false, Bool.false_eq_true, reduceIte, reduceCtorEq, List.nodup_nil, decide_eq_true_eq, atI_0, atI_1, atI_2, atI_3, atI_4, atI_5, atI_6, atI_7, atI_8, atI_9, atI_10, atI_11, ixN_3_0, ixN_3_1, ixN_3_2, sh_int, sh_bool, sh_non, and_assoc, nd1, nd_true, eq_self, decide_true, decide_false, Int.cast_ofNat_Int, not_true_eq_false, not_false_eq_true, eqv_ii, eqv_bb, wRaise0, e_raiseG, grK_i, e_raise1, onK_i, e_callX, xa_1, xa_2, xa_3, xa_4, xa_5, xa_6, xa_7, e_many, e_most, e_number, e_row, isLst_l, lsK_l, e_rd, e_br, brS_o, brS_v, arS_o, arS_v, avbK_n, avbK_f, avbK_l, scK_b, scK_i, scK_n, scK_s, e_callS, tmK_t, e_rep, enK_l, e_ienum, wTry, eqv_ss, tpK_v, txK_1, tutK_t, e_repT, e_callT, enTK_t, e_ienumT, r3K_i, e_rng3, e_newD, e_putD, e_lenD, e_listD, dcS_d, dcB_d, pvK_b, pvK_i, tkK_m, tkK_2, e_ssetI, oMinL_c, e_lset, e_lstZ, zlK_c, e_ins, e_callF, $xs,*] $[$l]?)
theorem cntF_sum (cs : List (Int × Int)) {b : Int} (h : 0 ≤ b) : (cntF cs b).sum = b := by
  obtain ⟨b, rfl⟩ := Int.eq_ofNat_of_zero_le h
  rw [← tal_cnt, (talF_sum cs (rgI (b : Int)) (List.replicate (cs.length + 1) 0) List.length_replicate).1, (rep_sum0 (cs.length + 1) 0).1, rgI_len]
  omega
theorem cntF_more (cs : List (Int × Int)) {b : Int} (h : 0 ≤ b) : cntF cs (b + 1) = (cntF cs b).set (rgF cs b).length ((cntF cs b).getD (rgF cs b).length 0 + 1) := by
  obtain ⟨b, rfl⟩ := Int.eq_ofNat_of_zero_le h
  exact (tal_step cs b).symm
theorem cntF_two {cs : List (Int × Int)} {M : Int} (hM : 0 < M) (h : ∀ c ∈ cs, c.1 ∣ M) : cntF cs (2 * M) = (cntF cs M).map fun x => 2 * x := by
  unfold cntF
  rw [List.map_map]
  refine List.map_congr_left fun k _ => ?_
  have := cntF_per (k := k) hM h (show 0 ≤ 2 * M by omega)
  rw [Int.mul_ediv_cancel _ (show M ≠ 0 by omega), Int.mul_emod_left] at this
  rw [this]
  show _ = 2 * cnt cs k M.toNat
  show 2 * cnt cs k M.toNat + cnt cs k 0 = _
  show 2 * cnt cs k M.toNat + 0 = _
  omega
/-- where the n-th stands -/
theorem msd_ub {cs : List (Int × Int)} {M : Nat} (h : ∀ c ∈ cs, c.1 ∣ (M : Int)) (hpos : 0 < msd cs M) {p : Nat} {n : Nat} (e : msd cs p = n) : p ≤ (n + 1) * M := by
  refine Nat.not_lt.mp fun z => ?_
  have a := msd_mono cs (Nat.le_of_lt z)
  have b := msd_per h (n + 1) 0
  rw [Nat.add_zero] at b
  have c : msd cs 0 = 0 := rfl
  rw [b, c, e] at a
  have d : ((n + 1 : Nat) : Int) * 1 ≤ ((n + 1 : Nat) : Int) * msd cs M := Int.mul_le_mul_of_nonneg_left (by omega) (by omega)
  omega
/-- none between -/
theorem msd_gap {cs : List (Int × Int)} {a : Nat} : ∀ {b : Nat}, a ≤ b → (∀ x : Nat, a ≤ x → x < b → rgF cs (x : Int) ≠ []) → msd cs b = msd cs a
  | 0, h, _ => by rw [show a = 0 by omega]
  | b + 1, h, k => by
    by_cases e : a = b + 1
    · rw [e]
    · rw [msd_s, if_neg (k b (by omega) (by omega)), Int.add_zero]
      exact msd_gap (by omega) fun x h1 h2 => k x h1 (by omega)
def sp__law_bounds_right : Spc := fun avs Kr Kx => match avs with
  | [.val (.tuple ds), .val (.int b)] => ∃ cs, ds = cks cs ∧ GC cs ∧ cs.length ≤ 10 ∧ 0 ≤ b ∧ b < 2 ^ 190 ∧ Kr [] (.val (.bool true))
  | _ => False
/-- _law_bounds_right: 0 clocks, 1 bound, 2 found, 3 more, 4 times -/
def w__law_bounds_right : WS :=
  (wSeq (wSet 2 (wCall 2 sp_rung_below (wMCons (wVar 0) (wMCons (wVar 1) wMNil))))
    (wSeq (wSet 3 (wCall 2 sp_rung_below (wMCons (wVar 0) (wMCons (wBin oAdd (wVar 1) (wC (.int 1))) wMNil))))
    (wSeq (wSet 4 (wCall 2 sp_times_at (wMCons (wVar 0) (wMCons (wVar 1) wMNil))))
    (wSeq (wIfS (wOr (wTB (wBin oNe (wCallB oSum (wACons (wVar 2) wANil)) (wVar 1))) (wTB (wBin oNe (wBin oIx (wVar 3) (wVar 4)) (wBin oAdd (wBin oIx (wVar 2) (wVar 4)) (wC (.int 1)))))) (wRet (wC (.bool false))) wNext)
    (wRet (wBin oEq (wBin oAdd (wSl (wVar 2) wONo (wOSo (wVar 4))) (wSl (wVar 2) (wOSo (wBin oAdd (wVar 4) (wC (.int 1)))) wONo)) (wBin oAdd (wSl (wVar 3) wONo (wOSo (wVar 4))) (wSl (wVar 3) (wOSo (wBin oAdd (wVar 4) (wC (.int 1)))) wONo))))))))

theorem vc__law_bounds_right : ∀ avs Kr Kx, avs.length = 2 → sp__law_bounds_right avs Kr Kx → lsFrom 0 avs = [] ∧ w__law_bounds_right (startEv 5 avs) (kenD [] Kr Kx) := by
  intro avs Kr Kx hl h
  unfold sp__law_bounds_right at h
  split at h
  · rename_i ds b
    obtain ⟨cs, rfl, hc, hl, b0, b1, q⟩ := h
    refine ⟨rfl, ?_⟩
    unfold w__law_bounds_right
    refine seq_cut fun R hR => ?_
    dsimp? [sp_rung_below]
    refine ⟨cs, rfl, hc, ⟨b0, by omega⟩, fun _ => hR _ ?_, fun h => by omega⟩
    refine seq_cut fun R hR => ?_
    dsimp? [sp_rung_below]
    refine ⟨cs, rfl, hc, ⟨by omega, by omega⟩, fun _ => hR _ ?_, fun h => by omega⟩
    refine seq_cut fun R hR => ?_
    dsimp? [sp_times_at]
    refine ⟨cs, rfl, hc.one, by have := hc.len; omega, hR _ ?_⟩
    have hr := rg_le cs b
    have fl := cntF_len cs b
    have sm := cntF_sum cs b0
    rw [cntF_more cs b0]
    generalize (rgF cs b).length = t at *
    generalize cntF cs b = f at *
    have a1 : atI (f.map PyData.int) (t : Int) = some (.int (f.getD t 0)) := atI_nat (by
      rw [List.getElem?_map, List.getElem?_eq_getElem (by omega), List.getD_eq_getElem?_getD, List.getElem?_eq_getElem (by omega)]
      rfl)
    have a2 : atI ((f.set t (f.getD t 0 + 1)).map PyData.int) (t : Int) = some (.int (f.getD t 0 + 1)) := atI_nat (by
      rw [List.getElem?_map, List.getElem?_set_self (by omega)]
      rfl)
    refine seq_cut fun R hR => ?_
    dsimp? [oSum]
    refine ⟨f, rfl, ?_⟩
    rw [if_neg (fun h => h sm)]
    refine ⟨_, a2, _, a1, ?_⟩
    dsimp? []
    refine hR _ ?_
    dsimp? []
    have c1 : ∀ l : List Int, cutD (l.map PyData.int) none (some (t : Int)) = (l.take t).map .int := fun l => by rw [cut_toN, List.map_take]
    have c2 : ∀ l : List Int, t + 1 ≤ l.length → cutD (l.map PyData.int) (some ((t : Int) + 1)) none = (l.drop (t + 1)).map .int := fun l hl => by
      rw [show (t : Int) + 1 = ((t + 1 : Nat) : Int) from rfl, cut_from _ (by rw [List.length_map]; exact hl), List.map_drop]
    rw [c1, c1, c2 _ (by omega), c2 _ (by rw [List.length_set]; omega), List.take_set_of_le (Nat.le_refl _), List.drop_set_of_lt (by omega), ← List.map_append, eqv_lin, decide_eq_true rfl]
    exact ⟨by rw [List.length_map, List.length_map, List.length_take, List.length_drop, sizeLine_eq]; omega, by rw [List.length_map, List.length_map, List.length_take, List.length_drop, sizeLine_eq]; omega, sh_lin _, sh_lin _, q⟩
  · exact h.elim
def sp__law_missed_right_k52 : Spc := fun avs Kr Kx => match avs with
  | [.val (.tuple ds), .val (.int n)] => ∃ cs, ds = cks cs ∧ GC cs ∧ cs.length ≤ 10 ∧ rnd 1 cs < 2 ^ 40 ∧ 0 < msd cs (rnd 1 cs).toNat ∧ 0 ≤ n ∧ n < 2 ^ 110 ∧ Kr [] (.val (.bool true))
  | _ => False
def w__law_missed_right_k52_C1 : WE :=
  wLc [4] (wIRngL (wBin oAdd (wVar 2) (wC (.int 1))) (wCallB oMin (wACons (wVar 3) (wACons (wBin oAdd (wVar 2) (wC (.int 50))) wANil)))) (gN 4) wYes (wBin oNe (wCall 2 sp_rings_at (wMCons (wVar 0) (wMCons (wVar 4) wMNil))) (wLst wFNil))
/-- _law_missed_right: 0 clocks, 1 n, 2 number, 3 after, 4 one -/
def w__law_missed_right_k52 : WS :=
  (wSeq (wSet 2 (wCall 2 sp_nth_missed (wMCons (wVar 0) (wMCons (wVar 1) wMNil))))
    (wSeq (wIfS (wOr (wTB (wBin oNe (wCall 2 sp_missed_ahead (wMCons (wVar 0) (wMCons (wVar 2) wMNil))) (wVar 1))) (wTB (wBin oNe (wCall 2 sp_rings_at (wMCons (wVar 0) (wMCons (wVar 2) wMNil))) (wLst wFNil)))) (wRet (wC (.bool false))) wNext)
    (wSeq (wIfS (wOr (wAnd (wTB (wBin oLe (wVar 2) (wBin oPow (wC (.int 10)) (wC (.int 40))))) (wTB (wBin oNe (wBin oIx (wCall 2 sp_rung_below (wMCons (wVar 0) (wMCons (wVar 2) wMNil))) (wC (.int 0))) (wVar 1)))) (wTB (wBin oNe (wCall 2 sp_next_missed (wMCons (wVar 0) (wMCons (wVar 2) wMNil))) (wVar 2)))) (wRet (wC (.bool false))) wNext)
    (wSeq (wSet 3 (wCall 2 sp_next_missed (wMCons (wVar 0) (wMCons (wBin oAdd (wVar 2) (wC (.int 1))) wMNil))))
    (wSeq (wIfS (wOr (wTB (wBin oNe (wVar 3) (wCall 2 sp_nth_missed (wMCons (wVar 0) (wMCons (wBin oAdd (wVar 1) (wC (.int 1))) wMNil))))) (wTB (wBin oNe (wCall 2 sp_last_missed (wMCons (wVar 0) (wMCons (wBin oSub (wVar 3) (wC (.int 1))) wMNil))) (wVar 2)))) (wRet (wC (.bool false))) wNext)
    (wRet (wCallB oAll (wACons w__law_missed_right_k52_C1 wANil))))))))

theorem vc__law_missed_right_k52 : ∀ avs Kr Kx, avs.length = 2 → sp__law_missed_right_k52 avs Kr Kx → lsFrom 0 avs = [] ∧ w__law_missed_right_k52 (startEv 5 avs) (kenD [] Kr Kx) := by
  intro avs Kr Kx hl h
  unfold sp__law_missed_right_k52 at h
  split at h
  · rename_i ds n
    obtain ⟨cs, rfl, hc, hl, rb, hpos, n0, n1, q⟩ := h
    refine ⟨rfl, ?_⟩
    have rp := hc.rp
    have hlen := hc.len
    have dv := (rnd_spec cs 1 (by decide) hc.one).2.2.1
    have e40 : (10 : Int) ^ Int.toNat 40 = 10000000000000000000000000000000000000000 := by decide +kernel
    have cp40 : CPow 10 40 := ⟨by decide, by decide, by decide +kernel⟩
    obtain ⟨n, rfl⟩ := Int.eq_ofNat_of_zero_le n0
    unfold w__law_missed_right_k52
    refine seq_cut fun R hR => ?_
    dsimp? [sp_nth_missed]
    refine ⟨cs, rfl, hc, by omega, by omega, fun h => by omega, fun _ => ⟨rb, fun h => by omega, fun _ p hp e => hR _ ?_⟩⟩
    have hpb : p < 2 ^ 160 := by
      have dv2 : ∀ c ∈ cs, c.1 ∣ (((rnd 1 cs).toNat : Nat) : Int) := fun c h => by rw [Int.toNat_of_nonneg (by omega)]; exact dv c h
      have h1 := msd_ub dv2 hpos e
      have h2 : (n + 1) * (rnd 1 cs).toNat ≤ 2 ^ 111 * 2 ^ 40 := Nat.mul_le_mul (by omega) (by omega)
      omega
    have hp1 : msd cs (p + 1) = ((n + 1 : Nat) : Int) := by
      rw [msd_s, if_pos hp, e]
      rfl
    refine seq_cut fun R hR => ?_
    dsimp? [sp_missed_ahead, sp_rings_at]
    refine ⟨cs, rfl, hc, fun h => by omega, fun _ => ⟨fun h => (by cases h), fun n' e' => ?_⟩⟩
    have e' : (p : Int) = n' := e'
    subst e'
    refine ⟨fun h => ?_, fun _ _ => ⟨by omega, ?_⟩⟩
    · rcases h with h | h
      · omega
      · exact absurd hp h
    rw [Int.toNat_natCast, e]
    rw [if_neg (fun h => h rfl)]
    refine ⟨cs, rfl, hc.one, by omega, by decide, sh_lck _, sh_lck [], ?_⟩
    rw [show PyData.eqv (.list (cks (rgF cs (p : Int)))) (.list []) = decide (rgF cs (p : Int) = []) from eqv_lcks (rgF cs (p : Int)) [], decide_eq_true hp, if_neg (by decide)]
    refine hR _ ?_
    have nxt : ∀ x : Nat, (p : Int) ≤ x → (x : Int) ≤ p → True := fun _ _ _ => trivial
    refine seq_cut fun R hR => ?_
    dsimp? [sp_rung_below, sp_next_missed]
    rw [e40]
    have nx : ∃ cs_2, cks cs = cks cs_2 ∧ GC cs_2 ∧ ((p : Int)).natAbs < 2 ^ 170 ∧ (10 < cs_2.length → False) ∧ (cs_2.length ≤ 10 → rnd 1 cs_2 < 2 ^ 40 ∧ (msd cs_2 (rnd 1 cs_2).toNat = 0 → if (!PyData.none.eqv (PyData.int (p : Int))) = true then Kr [] (Rv.val (PyData.bool false)) else R [Sl.val (PyData.tuple (cks cs)), Sl.val (PyData.int (n : Int)), Sl.val (PyData.int (p : Int)), Sl.un, Sl.un]) ∧
        (0 < msd cs_2 (rnd 1 cs_2).toNat → ∀ (p_1 : Int), (p : Int) ≤ p_1 → rgF cs_2 p_1 = [] → (∀ (x : Int), (p : Int) ≤ x → x < p_1 → rgF cs_2 x ≠ []) → if ¬p_1 = (p : Int) then Kr [] (Rv.val (PyData.bool false)) else R [Sl.val (PyData.tuple (cks cs)), Sl.val (PyData.int (n : Int)), Sl.val (PyData.int (p : Int)), Sl.un, Sl.un])) := by
      refine ⟨cs, rfl, hc, by omega, fun h => by omega, fun _ => ⟨rb, fun h => by omega, fun _ p1 k1 k2 k3 => ?_⟩⟩
      have ep : p1 = (p : Int) := by
        rcases Int.lt_or_eq_of_le k1 with z | z
        · exact absurd hp (k3 p (Int.le_refl _) z)
        · exact z.symm
      rw [if_neg (fun h => h ep)]
      refine hR _ ?_
      refine seq_cut fun R hR => ?_
      dsimp? [sp_next_missed]
      refine ⟨cs, rfl, hc, by omega, fun h => by omega, fun _ => ⟨rb, fun h => by omega, fun _ q1 k1 k2 k3 => hR _ ?_⟩⟩
      obtain ⟨q1, rfl⟩ := Int.eq_ofNat_of_zero_le (show 0 ≤ q1 by omega)
      have hq : msd cs q1 = ((n + 1 : Nat) : Int) := by
        rw [msd_gap (a := p + 1) (by omega) fun x h1 h2 => k3 x (by omega) (by omega), hp1]
      have hqb : q1 < 2 ^ 160 := by
        have dv2 : ∀ c ∈ cs, c.1 ∣ (((rnd 1 cs).toNat : Nat) : Int) := fun c h => by rw [Int.toNat_of_nonneg (by omega)]; exact dv c h
        have h1 := msd_ub dv2 hpos hq
        have h2 : (n + 1 + 1) * (rnd 1 cs).toNat ≤ 2 ^ 111 * 2 ^ 40 := Nat.mul_le_mul (by omega) (by omega)
        omega
      refine seq_cut fun R hR => ?_
      dsimp? [sp_nth_missed, sp_last_missed]
      refine ⟨cs, rfl, hc, by omega, by omega, fun h => by omega, fun _ => ⟨rb, fun h => by omega, fun _ p2 hp2 e2 => ?_⟩⟩
      have eq2 : q1 = p2 := msd_uniq k2 hp2 (by rw [hq, e2]; rfl)
      rw [if_neg (fun h => h (by rw [eq2]))]
      refine ⟨cs, rfl, hc, by omega, fun h => by omega, fun _ => ⟨rb, fun h => by omega, fun _ p3 l1 l2 l3 => ?_⟩⟩
      have ep3 : p3 = (p : Int) := by
        rcases Int.lt_trichotomy p3 (p : Int) with z | z | z
        · exact absurd hp (l3 p z (by omega))
        · exact z
        · exact absurd l2 (k3 p3 (by omega) (by omega))
      rw [if_neg (fun h => h ep3)]
      refine hR _ ?_
      dsimp? [w__law_missed_right_k52_C1, wLc, wIRngL]
      refine lc_map (fun (m : Nat) => PyData.int ((p : Int) + 1 + (m : Int))) (fun _ => .bool true) (List.range _) (fun m hm A hA => ?_) (small100000 ?_) ?_
      · have hm := List.mem_range.mp hm
        have hne : rgF cs ((p : Int) + 1 + (m : Int)) ≠ [] := k3 _ (by omega) (by split at hm <;> omega)
        dsimp? [sp_rings_at]
        refine ⟨cs, rfl, hc.one, by omega, by decide, sh_lck _, sh_lck [], ?_⟩
        rw [show PyData.eqv (.list (cks (rgF cs ((p : Int) + 1 + (m : Int))))) (.list []) = decide (rgF cs ((p : Int) + 1 + (m : Int)) = []) from eqv_lcks _ [], decide_eq_false hne]
        exact hA
      · rw [List.length_range]
        split <;> omega
      · dsimp? [oAll]
        exact ⟨(List.range _).map fun _ => true, by rw [List.map_map]; rfl, by rw [all_map_id, List.all_eq_true.mpr fun _ _ => rfl]; exact q⟩
    refine ⟨cp40, ?_⟩
    split
    · rename_i h40
      refine ⟨cs, rfl, hc, ⟨by omega, by omega⟩, fun _ => ⟨.int (cnt cs 0 p), atI_nat (by rw [List.getElem?_map, cntF_at (k := 0) (by omega)]; rfl), ?_⟩, fun h => by omega⟩
      dsimp? []
      have e0 : cnt cs 0 p = n := e
      rw [if_neg (fun h => h e0)]
      exact nx
    · exact nx
  · exact h.elim
theorem msd_ex {cs : List (Int × Int)} : ∀ {N : Nat}, 0 < msd cs N → ∃ x : Nat, x < N ∧ rgF cs (x : Int) = []
  | 0, h => absurd h (Int.lt_irrefl 0)
  | N + 1, h => by
    rw [msd_s] at h
    by_cases c : rgF cs (N : Int) = []
    · exact ⟨N, by omega, c⟩
    · rw [if_neg c] at h
      obtain ⟨x, h1, h2⟩ := msd_ex (cs := cs) (N := N) (by omega)
      exact ⟨x, by omega, h2⟩
theorem msd_pos {cs : List (Int × Int)} (hc : GC cs) {x : Int} (h : rgF cs x = []) : 0 < msd cs (rnd 1 cs).toNat := by
  have rp := hc.rp
  have dv := (rnd_spec cs 1 (by decide) hc.one).2.2.1
  have m0 := Int.emod_nonneg x (show rnd 1 cs ≠ 0 by omega)
  have m1 := Int.emod_lt_of_pos x rp
  have hx : rgF cs (((x % rnd 1 cs).toNat : Nat) : Int) = [] := by
    rw [Int.toNat_of_nonneg m0, rgF_mod dv]
    exact h
  have := msd_lt hx (show (x % rnd 1 cs).toNat < (rnd 1 cs).toNat by omega)
  have b := cnt_bd cs 0 (x % rnd 1 cs).toNat
  have b : 0 ≤ msd cs (x % rnd 1 cs).toNat := b.1
  omega
theorem cb_len3 {cs : List (Int × Int)} (gc : GC cs) : GC (cs.take 3) := ⟨fun c h => gc.ok c (List.mem_of_mem_take h), by have := gc.len; rw [List.length_take]; omega⟩
def sp_law_k52 : Spc := spLaw
def w_law_k52_C1 : WE :=
  wLc [13] (wISeq (wVar 5)) (gN 13) wYes (wBin oMul (wC (.int 2)) (wVar 13))
def w_law_k52_B1 : WS :=
  (wIfS (wNot (wTB (wCall 2 sp__law_bounds_right (wMCons (wVar 3) (wMCons (wVar 7) wMNil))))) (wRet (wC (.bool false))) wNext)
def w_law_k52_L1 : WS :=
  wFor (wISeq (wLst (wFCons (wC (.int 0)) (wFCons (wCall 2 sp__law_draw (wLd 2 (wMCons (wC (.int 100)) wMNil))) (wFCons (wCall 2 sp__law_draw (wLd 2 (wMCons (wBin oPow (wC (.int 10)) (wC (.int 39))) wMNil))) wFNil))))) (gN 7) w_law_k52_B1
def w_law_k52_C2 : WE :=
  wLc [14] (wIRng1 (wVar 10)) (gN 14) wYes (wBin oNe (wCall 2 sp_rings_at (wMCons (wVar 3) (wMCons (wBin oAdd (wVar 9) (wVar 14)) wMNil))) (wLst wFNil))
def w_law_k52_R1 : WS :=
  (wSeq (wSet 8 (wBin oIs (wCall 2 sp_next_missed (wMCons (wVar 3) (wMCons (wC (.int 0)) wMNil))) (wC .none)))
    (wSeq (wSet 9 (wBin oSub (wCall 2 sp__law_draw (wLd 2 (wMCons (wBin oPow (wC (.int 10)) (wC (.int 20))) wMNil))) (wCall 2 sp__law_draw (wLd 2 (wMCons (wBin oPow (wC (.int 10)) (wC (.int 20))) wMNil)))))
    (wSeq (wSet 10 (wBin oShl (wC (.int 1)) (wCallB oLen (wACons (wVar 3) wANil))))
    (wSeq (wSet 11 w_law_k52_C2)
    (wSeq (wIfS (wTB (wBin oNe (wCallB oAll (wACons (wVar 11) wANil)) (wVar 8))) (wRet (wC (.bool false))) wNext)
    (wSeq (wIfS (wAnd (wTB (wVar 8)) (wOr (wTB (wBin oIsNot (wCall 2 sp_last_missed (wMCons (wVar 3) (wMCons (wVar 9) wMNil))) (wC .none))) (wTB (wBin oNe (wBin oIx (wCall 2 sp_rung_below (wMCons (wVar 3) (wMCons (wVar 4) wMNil))) (wC (.int 0))) (wC (.int 0)))))) (wRet (wC (.bool false))) wNext)
    (wSeq (wSet 12 (wCall 2 sp__law_draw (wLd 2 (wMCons (wBin oPow (wC (.int 10)) (wC (.int 30))) wMNil))))
    (wIfS (wAnd (wNot (wTB (wVar 8))) (wNot (wAnd (wTB (wCall 2 sp__law_missed_right_k52 (wMCons (wVar 3) (wMCons (wC (.int 0)) wMNil)))) (wTB (wCall 2 sp__law_missed_right_k52 (wMCons (wVar 3) (wMCons (wVar 12) wMNil))))))) (wRet (wC (.bool false))) wNext))))))))
def w_law_k52_R2 : WS :=
  (wSeq w_law_k52_L1
    w_law_k52_R1)
def w_law_k52_R3 : WS :=
  (wSeq (wSet 4 (wCall 1 sp_round_of (wMCons (wVar 3) wMNil)))
    (wSeq (wIfS (wTB (wBin oLe (wVar 4) (wC (.int 10000)))) (wSeq (wSet 5 (wCall 1 sp_tally_of (wMCons (wVar 3) wMNil)))
    (wSeq (wSet 6 w_law_k52_C1)
    (wIfS (wOr (wTB (wBin oNe (wCall 2 sp_rung_below (wMCons (wVar 3) (wMCons (wVar 4) wMNil))) (wVar 5))) (wTB (wBin oNe (wCall 2 sp_rung_below (wMCons (wVar 3) (wMCons (wBin oMul (wC (.int 2)) (wVar 4)) wMNil))) (wVar 6)))) (wRet (wC (.bool false))) wNext))) wNext)
    w_law_k52_R2))
def w_law_k52_B2 : WS :=
  (wSeq (wSet 2 (wCall 1 sp__law_pen_of (wMCons (wVar 1) wMNil)))
    (wSeq (wSet 3 (wCall 2 sp__law_clocks_by (wLd 2 (wMCons (wC (.int 7)) wMNil))))
    (wSeq (wIfS (wTB (wBin oGt (wCall 1 sp__law_round_k03 (wMCons (wVar 3) wMNil)) (wC (.int 1000)))) (wSet 3 (wSl (wVar 3) wONo (wOSo (wC (.int 3))))) wNext)
    w_law_k52_R3)))
def w_law_k52_L2 : WS :=
  wFor (wISeq (wBin oAdd (wLst (wFCons (wCall 2 sp__law_cell_at (wMCons (wVar 0) (wMCons (wC (.int 0)) wMNil))) wFNil)) (wSl (wVar 0) (wOSo (wC (.int 1))) (wOSo (wC (.int 3)))))) (gN 1) w_law_k52_B2
def w_law_k52_R4 : WS :=
  (wRet (wC (.bool true)))
/-- law: 0 script, 1 cell, 2 pen, 3 clocks, 4 size, 5 tally, 6 twice, 7 bound, 8 none, 9 start, 10 many, 11 rung, 12 far, 13 one, 14 turn -/
def w_law_k52 : WS :=
  (wSeq w_law_k52_L2
    w_law_k52_R4)

theorem vc_law_k52 : ∀ avs Kr Kx, avs.length = 1 → sp_law_k52 avs Kr Kx → lsFrom 0 avs = [] ∧ w_law_k52 (startEv 15 avs) (kenD [] Kr Kx) := by
  rintro avs Kr Kx hl ⟨ns, rfl, hn, q⟩
  refine ⟨rfl, ?_⟩
  have e39 : (10 : Int) ^ Int.toNat 39 = 1000000000000000000000000000000000000000 := by decide +kernel
  have e30 : (10 : Int) ^ Int.toNat 30 = 1000000000000000000000000000000 := by decide +kernel
  have e20 : (10 : Int) ^ Int.toNat 20 = 100000000000000000000 := by decide +kernel
  have cp39 : CPow 10 39 := ⟨by decide, by decide, by decide +kernel⟩
  have cp30 : CPow 10 30 := ⟨by decide, by decide, by decide +kernel⟩
  have cp20 : CPow 10 20 := ⟨by decide, by decide, by decide +kernel⟩
  unfold w_law_k52
  refine seq_cut fun RO hRO => ?_
  dsimp? [w_law_k52_L2, wFor, sp__law_cell_at]
  refine ⟨⟨ns, rfl⟩, by decide, fun n => ⟨by decide, cells_len hn, ?_⟩⟩
  refine each_ints (fun e => ∃ x1 x2 x3 x4 x5 x6 x7 x8 x9 x10 x11 x12, e = [Sl.val (PyData.list (ns.map PyData.int)), x1, x2, x3, x4, x5, x6, x7, x8, x9, x10, x11, x12, .un, .un]) ?_ ?_ _ _ cells_ints ⟨_, _, _, _, _, _, _, _, _, _, _, _, rfl⟩
  · rintro e ⟨x1, x2, x3, x4, x5, x6, x7, x8, x9, x10, x11, x12, rfl⟩
    refine hRO _ ?_
    dsimp? [w_law_k52_R4]
    exact q
  rintro m e RI ⟨x1, x2, x3, x4, x5, x6, x7, x8, x9, x10, x11, x12, rfl⟩ ih
  unfold w_law_k52_B2
  refine seq_cut fun R2 hR2 => ?_
  dsimp? [sp__law_pen_of]
  refine fun pen hp => hR2 _ ?_
  refine seq_cut fun R3 hR3 => ?_
  dsimp? [sp__law_clocks_by]
  refine ⟨hp, by decide, by decide, fun p1 cs hp1 h1 h2 h3 h4 hcb => hR3 _ ?_⟩
  have gc : GC cs := ⟨h1, by omega⟩
  have hcb := hcb (by decide)
  have main : ∀ cs : List (Int × Int), GC cs → cs.length ≤ 7 → CB cs → rnd 1 cs < 2 ^ 40 → w_law_k52_R3 [Sl.val (PyData.list (ns.map PyData.int)), .val (.int m), .own false p1, .val (.tuple (cks cs)), x4, x5, x6, x7, x8, x9, x10, x11, x12, .un, .un] { nx := RI, rt := (kenD [] Kr Kx).rt, bk := RO, ct := RI, ex := (kenD [] Kr Kx).ex } := by
    intro cs gc hl7 hcb hrb
    have rp := gc.rp
    have dv := (rnd_spec cs 1 (by decide) gc.one).2.2.1
    have mb := cnt_bd cs 0 (rnd 1 cs).toNat
    unfold w_law_k52_R3
    refine seq_cut fun R4 hR4 => ?_
    dsimp? [sp_round_of]
    refine gc.rok (hR4 _ ?_)
    refine seq_cut fun R5 hR5 => ?_
    have tail : ∀ x5 x6, R5 [Sl.val (PyData.list (ns.map PyData.int)), .val (.int m), .own false p1, .val (.tuple (cks cs)), .val (.int (rnd 1 cs)), x5, x6, x7, x8, x9, x10, x11, x12, .un, .un] := by
      intro x5 x6
      refine hR5 _ ?_
      unfold w_law_k52_R2
      refine seq_cut fun R6 hR6 => ?_
      dsimp? [w_law_k52_L1, wFor, sp__law_draw]
      rw [e39]
      refine ⟨hp1, by decide, by decide, fun p2 r hp2 r0 r1 => ⟨cp39, hp2, by decide, by decide +kernel, fun p3 r' hp3 r0' r1' => ⟨by decide, ?_⟩⟩⟩
      refine each_all PyData.int [0, r, r'] (fun e => ∃ x7, e = [Sl.val (PyData.list (ns.map PyData.int)), .val (.int m), .own false p3, .val (.tuple (cks cs)), .val (.int (rnd 1 cs)), x5, x6, x7, x8, x9, x10, x11, x12, .un, .un]) ?_ ?_ _ ⟨_, rfl⟩
      rotate_left
      · rintro b hb e R7 ⟨x7, rfl⟩ ih7
        have hb : 0 ≤ b ∧ b < 2 ^ 190 := by
          simp only [List.mem_cons, List.not_mem_nil, or_false] at hb
          rcases hb with rfl | rfl | rfl <;> constructor <;> omega
        dsimp? [w_law_k52_B1, sp__law_bounds_right]
        exact ⟨cs, rfl, gc, by omega, hb.1, hb.2, ih7 _ ⟨_, rfl⟩⟩
      rintro e ⟨x7, rfl⟩
      refine hR6 _ ?_
      unfold w_law_k52_R1
      refine seq_cut fun R7 hR7 => ?_
      dsimp? [sp_next_missed]
      have key : ∀ nb : Bool, (nb = true ↔ msd cs (rnd 1 cs).toNat = 0) → R7 [Sl.val (PyData.list (ns.map PyData.int)), .val (.int m), .own false p3, .val (.tuple (cks cs)), .val (.int (rnd 1 cs)), x5, x6, x7, .val (.bool nb), x9, x10, x11, x12, .un, .un] := by
        intro nb hnb
        refine hR7 _ ?_
        refine seq_cut fun R8 hR8 => ?_
        dsimp? [sp__law_draw]
        rw [e20]
        refine ⟨cp20, hp3, by decide, by decide +kernel, fun p4 s1 hp4 s10 s11 => ⟨cp20, hp4, by decide, by decide +kernel, fun p5 s2 hp5 s20 s21 => hR8 _ ?_⟩⟩
        generalize hst : s1 - s2 = start
        have sb : start.natAbs < 2 ^ 100 := by omega
        refine seq_cut fun R9 hR9 => ?_
        dsimp? []
        have lc : (cks cs).length = cs.length := List.length_map _
        have p7 := Nat.pow_le_pow_right (show 0 < 2 by decide) hl7
        rw [lc, Int.toNat_natCast, show (1 : Int) * 2 ^ cs.length = ((2 ^ cs.length : Nat) : Int) by rw [Int.one_mul, Int.natCast_pow]; rfl]
        generalize eP : 2 ^ cs.length = P at *
        refine ⟨cshl_one (by omega) (by omega), hR9 _ ?_⟩
        refine seq_cut fun R10 hR10 => ?_
        dsimp? [w_law_k52_C2, wLc]
        rw [Int.toNat_natCast]
        refine ⟨by omega, by omega, ?_⟩
        refine lc_map (fun (t : Nat) => PyData.int (t : Int)) (fun t => .bool (decide (rgF cs (start + (t : Int)) ≠ []))) (List.range P) (fun t ht A hA => ?_) (small100000 (by rw [List.length_range]; omega)) ?_
        · dsimp? [sp_rings_at]
          refine ⟨cs, rfl, gc.one, by omega, by decide, sh_lck _, sh_lck [], ?_⟩
          rw [show PyData.eqv (.list (cks (rgF cs (start + (t : Int))))) (.list []) = decide (rgF cs (start + (t : Int)) = []) from eqv_lcks _ [], ← decide_not]
          exact hA
        dsimp? []
        refine hR10 _ ?_
        have hall : ((List.range P).map fun (t : Nat) => decide (rgF cs (start + (t : Int)) ≠ [])).all id = nb := by
          rw [all_map_id]
          cases nb with
          | true =>
            refine List.all_eq_true.mpr fun t ht => decide_eq_true fun h => ?_
            have h0 := hnb.mp rfl
            have := msd_pos gc h
            omega
          | false =>
            cases c : (List.range P).all fun (t : Nat) => decide (rgF cs (start + (t : Int)) ≠ []) with
            | false => rfl
            | true =>
              have c := List.all_eq_true.mp c
              have hh : ∀ x, rgF cs x ≠ [] := cb_all gc.ok hcb (z := start) fun t ht => by
                rw [eP] at ht
                exact of_decide_eq_true (c t (List.mem_range.mpr ht))
              refine (hnb.mpr ?_).symm
              rcases Int.lt_or_eq_of_le (show 0 ≤ msd cs (rnd 1 cs).toNat from mb.1) with z | z
              · obtain ⟨x, _, h⟩ := msd_ex z
                exact absurd h (hh x)
              · exact z.symm
        refine seq_cut fun R11 hR11 => ?_
        dsimp? [oAll]
        refine ⟨(List.range P).map fun (t : Nat) => decide (rgF cs (start + (t : Int)) ≠ []), by rw [List.map_map]; rfl, ?_⟩
        rw [hall, if_neg (by cases nb <;> decide)]
        refine hR11 _ ?_
        refine seq_cut fun R12 hR12 => ?_
        have next : R12 [Sl.val (PyData.list (ns.map PyData.int)), .val (.int m), .own false p5, .val (.tuple (cks cs)), .val (.int (rnd 1 cs)), x5, x6, x7, .val (.bool nb), .val (.int start), .val (.int (P : Nat)), .own false ((List.range P).map fun (t : Nat) => PyData.bool (decide (rgF cs (start + (t : Int)) ≠ []))), x12, .un, .un] := by
          refine hR12 _ ?_
          refine seq_cut fun R13 hR13 => ?_
          dsimp? [sp__law_draw]
          rw [e30]
          refine ⟨cp30, hp5, by decide, by decide +kernel, fun p6 far hp6 f0 f1 => hR13 _ ?_⟩
          cases nb with
          | true =>
            dsimp? []
            exact ih _ ⟨_, _, _, _, _, _, _, _, _, _, _, _, rfl⟩
          | false =>
            have hpos : 0 < msd cs (rnd 1 cs).toNat := by
              rcases Int.lt_or_eq_of_le (show 0 ≤ msd cs (rnd 1 cs).toNat from mb.1) with z | z
              · exact z
              · exact (Bool.false_ne_true (hnb.mpr z.symm)).elim
            dsimp? [sp__law_missed_right_k52]
            exact ⟨cs, rfl, gc, by omega, hrb, hpos, by decide, by decide, cs, rfl, gc, by omega, hrb, hpos, f0, by omega, ih _ ⟨_, _, _, _, _, _, _, _, _, _, _, _, rfl⟩⟩
        cases nb with
        | false =>
          dsimp? []
          exact next
        | true =>
          have h0 := hnb.mp rfl
          dsimp? [sp_last_missed, sp_rung_below]
          refine ⟨cs, rfl, gc, by omega, fun h => by omega, fun _ => ⟨hrb, fun _ => ?_, fun hp => by omega⟩⟩
          refine ⟨cs, rfl, gc, ⟨by omega, by omega⟩, fun _ => ⟨.int (cnt cs 0 (rnd 1 cs).toNat), atI_nat (j := 0) (by rw [List.getElem?_map, cntF_at (k := 0) (by omega)]; rfl), ?_⟩, fun h => by omega⟩
          have h0 : cnt cs 0 (rnd 1 cs).toNat = 0 := h0
          dsimp? []
          rw [if_neg (fun h => h h0)]
          exact next
      refine ⟨cs, rfl, gc, by decide, fun h => by omega, fun _ => ⟨hrb, fun h0 => key true ⟨fun _ => h0, fun _ => rfl⟩, fun hp p p0 p1 p2 => key false ⟨fun h => (by cases h), fun h => by omega⟩⟩⟩
    dsimp? []
    split
    · rename_i hs
      dsimp? [sp_tally_of]
      refine ⟨cs, rfl, gc, fun _ => ?_, fun h => by omega⟩
      have et : tal0 cs = cntF cs (rnd 1 cs) := by
        have := tal_cnt cs (rnd 1 cs).toNat
        rw [Int.toNat_of_nonneg (by omega)] at this
        exact this
      rw [et]
      dsimp? [w_law_k52_C1, wLc]
      refine lc_map PyData.int (fun x => PyData.int (2 * x)) (cntF cs (rnd 1 cs)) (fun x hx A hA => ?_) (small100000 (by rw [cntF_len]; omega)) ?_
      · have hb : 0 ≤ x ∧ x ≤ 10000 := by
          obtain ⟨k, hk, rfl⟩ := List.mem_map.mp hx
          have := cnt_bd cs k (rnd 1 cs).toNat
          omega
        dsimp? []
        exact ⟨mulx_ok (a := 30) (b := 30) (by decide) (by omega) (by decide), hA⟩
      dsimp? [sp_rung_below]
      refine ⟨cs, rfl, gc, ⟨by omega, by omega⟩, fun _ => ⟨sh_lin _, sh_lin _, ?_⟩, fun h => by omega⟩
      rw [eqv_lin, decide_eq_true rfl, if_neg (by decide)]
      refine ⟨mulx_ok (a := 30) (b := 60) (by decide) (by omega) (by decide), cs, rfl, gc, ⟨by omega, by omega⟩, fun _ => ⟨sh_lin _, ?_⟩, fun h => by omega⟩
      have e2 : ((cntF cs (rnd 1 cs)).map fun x => PyData.int (2 * x)) = (cntF cs (2 * rnd 1 cs)).map .int := by rw [cntF_two rp dv, List.map_map]; rfl
      rw [e2]
      refine ⟨sh_lin _, ?_⟩
      rw [eqv_lin, decide_eq_true rfl, if_neg (by decide)]
      exact tail _ _
    · exact tail _ _
  refine seq_cut fun R4 hR4 => ?_
  dsimp? [sp__law_round_k03]
  refine gc.rok ?_
  split
  · rw [show (3 : Int) = ((3 : Nat) : Int) from rfl, cutD_cks, cutD_to]
    refine hR4 _ (main _ (cb_len3 gc) (by rw [List.length_take]; omega) (hcb.sub fun c h => List.mem_of_mem_take h) ?_)
    have g3 := cb_len3 gc
    have r := rnd_le (cs := cs.take 3) (f := 1) (by decide) g3.one
    have p := prodS_le (m := 1000) (by decide) fun c h => ⟨g3.one c h, (g3.ok c h).2.1⟩
    have l3 : (cs.take 3).length ≤ 3 := by rw [List.length_take]; omega
    have p2 : (1000 : Int) ^ (cs.take 3).length ≤ 1000 ^ 3 := by
      have : (1000 : Nat) ^ (cs.take 3).length ≤ 1000 ^ 3 := Nat.pow_le_pow_right (by decide) l3
      exact_mod_cast this
    omega
  · exact hR4 _ (main cs gc (by omega) hcb (by omega))
end Dl
end L2

namespace L2
namespace Dl
namespace K52
open PySem PySem.Spec PyProof.Rows L2H
def topS (i : Nat) : Stmt := PySem.Challenge.pw_coverclocks_k52_whole_far_counts.main.body.getD i (.Pass ⟨0, 0, 0, 0⟩)
abbrev s_is_whole : Stmt := topS 6
abbrev N_is_whole : List Str := ["thing"]
theorem sc_is_whole : FnScope N_is_whole ["thing"] (defScope s_is_whole) := ⟨rfl, rfl, rfl, by decide +kernel, rfl, by decide +kernel, by decide +kernel⟩
abbrev s_rings : Stmt := topS 7
abbrev N_rings : List Str := ["clock", "number"]
theorem sc_rings : FnScope N_rings ["clock", "number"] (defScope s_rings) := ⟨rfl, rfl, rfl, by decide +kernel, rfl, by decide +kernel, by decide +kernel⟩
abbrev s_rings_at : Stmt := topS 8
abbrev N_rings_at : List Str := ["clocks", "number", "clock"]
theorem sc_rings_at : FnScope N_rings_at ["clocks", "number"] (defScope s_rings_at) := ⟨rfl, rfl, rfl, by decide +kernel, rfl, by decide +kernel, by decide +kernel⟩
abbrev s_divisor_of : Stmt := topS 9
abbrev N_divisor_of : List Str := ["one", "other"]
theorem sc_divisor_of : FnScope N_divisor_of ["one", "other"] (defScope s_divisor_of) := ⟨rfl, rfl, rfl, by decide +kernel, rfl, by decide +kernel, by decide +kernel⟩
abbrev s_round_of : Stmt := topS 10
abbrev N_round_of : List Str := ["clocks", "found", "step", "rest"]
theorem sc_round_of : FnScope N_round_of ["clocks"] (defScope s_round_of) := ⟨rfl, rfl, rfl, by decide +kernel, rfl, by decide +kernel, by decide +kernel⟩
abbrev s_check_round : Stmt := topS 11
abbrev N_check_round : List Str := ["clocks"]
theorem sc_check_round : FnScope N_check_round ["clocks"] (defScope s_check_round) := ⟨rfl, rfl, rfl, by decide +kernel, rfl, by decide +kernel, by decide +kernel⟩
abbrev s_back_of : Stmt := topS 12
abbrev N_back_of : List Str := ["one", "other", "before", "now", "left", "right", "often"]
theorem sc_back_of : FnScope N_back_of ["one", "other"] (defScope s_back_of) := ⟨rfl, rfl, rfl, by decide +kernel, rfl, by decide +kernel, by decide +kernel⟩
abbrev s_meet_of : Stmt := topS 13
abbrev N_meet_of : List Str := ["one", "other", "share", "step", "turns"]
theorem sc_meet_of : FnScope N_meet_of ["one", "other"] (defScope s_meet_of) := ⟨rfl, rfl, rfl, by decide +kernel, rfl, by decide +kernel, by decide +kernel⟩
abbrev s_check_few : Stmt := topS 16
abbrev N_check_few : List Str := ["clocks"]
theorem sc_check_few : FnScope N_check_few ["clocks"] (defScope s_check_few) := ⟨rfl, rfl, rfl, by decide +kernel, rfl, by decide +kernel, by decide +kernel⟩
abbrev s_met_lists : Stmt := topS 17
abbrev N_met_lists : List Str := ["clocks", "found", "clock", "size", "mets", "met"]
theorem sc_met_lists : FnScope N_met_lists ["clocks"] (defScope s_met_lists) := ⟨rfl, rfl, rfl, by decide +kernel, rfl, by decide +kernel, by decide +kernel⟩
abbrev s_rung_times : Stmt := topS 18
abbrev N_rung_times : List Str := ["clock", "bound"]
theorem sc_rung_times : FnScope N_rung_times ["clock", "bound"] (defScope s_rung_times) := ⟨rfl, rfl, rfl, by decide +kernel, rfl, by decide +kernel, by decide +kernel⟩
abbrev s_choose : Stmt := topS 19
abbrev N_choose : List Str := ["many", "few", "found", "turn"]
theorem sc_choose : FnScope N_choose ["many", "few"] (defScope s_choose) := ⟨rfl, rfl, rfl, by decide +kernel, rfl, by decide +kernel, by decide +kernel⟩
abbrev s_counts_below : Stmt := topS 20
abbrev N_counts_below : List Str := ["lists", "bound", "sums", "found", "k", "total", "j", "mets", "met"]
theorem sc_counts_below : FnScope N_counts_below ["lists", "bound"] (defScope s_counts_below) := ⟨rfl, rfl, rfl, by decide +kernel, rfl, by decide +kernel, by decide +kernel⟩
abbrev s_rung_below : Stmt := topS 21
abbrev N_rung_below : List Str := ["clocks", "bound"]
theorem sc_rung_below : FnScope N_rung_below ["clocks", "bound"] (defScope s_rung_below) := ⟨rfl, rfl, rfl, by decide +kernel, rfl, by decide +kernel, by decide +kernel⟩
abbrev s_missed_below : Stmt := topS 22
abbrev N_missed_below : List Str := ["lists", "bound", "total", "size", "mets", "met"]
theorem sc_missed_below : FnScope N_missed_below ["lists", "bound"] (defScope s_missed_below) := ⟨rfl, rfl, rfl, by decide +kernel, rfl, by decide +kernel, by decide +kernel⟩
abbrev s_nth_of : Stmt := topS 23
abbrev N_nth_of : List Str := ["clocks", "lists", "n", "size", "each", "turns", "left", "low", "high", "middle"]
theorem sc_nth_of : FnScope N_nth_of ["clocks", "lists", "n"] (defScope s_nth_of) := ⟨rfl, rfl, rfl, by decide +kernel, rfl, by decide +kernel, by decide +kernel⟩
abbrev s_nth_missed : Stmt := topS 24
abbrev N_nth_missed : List Str := ["clocks", "n", "lists"]
theorem sc_nth_missed : FnScope N_nth_missed ["clocks", "n"] (defScope s_nth_missed) := ⟨rfl, rfl, rfl, by decide +kernel, rfl, by decide +kernel, by decide +kernel⟩
abbrev s_missed_ahead : Stmt := topS 25
abbrev N_missed_ahead : List Str := ["clocks", "number"]
theorem sc_missed_ahead : FnScope N_missed_ahead ["clocks", "number"] (defScope s_missed_ahead) := ⟨rfl, rfl, rfl, by decide +kernel, rfl, by decide +kernel, by decide +kernel⟩
abbrev s_next_missed : Stmt := topS 26
abbrev N_next_missed : List Str := ["clocks", "number", "lists", "size", "turns", "place"]
theorem sc_next_missed : FnScope N_next_missed ["clocks", "number"] (defScope s_next_missed) := ⟨rfl, rfl, rfl, by decide +kernel, rfl, by decide +kernel, by decide +kernel⟩
abbrev s_last_missed : Stmt := topS 27
abbrev N_last_missed : List Str := ["clocks", "number", "lists", "size", "each", "turns", "ahead"]
theorem sc_last_missed : FnScope N_last_missed ["clocks", "number"] (defScope s_last_missed) := ⟨rfl, rfl, rfl, by decide +kernel, rfl, by decide +kernel, by decide +kernel⟩
abbrev s_times_at : Stmt := topS 29
abbrev N_times_at : List Str := ["clocks", "number"]
theorem sc_times_at : FnScope N_times_at ["clocks", "number"] (defScope s_times_at) := ⟨rfl, rfl, rfl, by decide +kernel, rfl, by decide +kernel, by decide +kernel⟩
abbrev s_tally_of : Stmt := topS 30
abbrev N_tally_of : List Str := ["clocks", "found", "number", "times"]
theorem sc_tally_of : FnScope N_tally_of ["clocks"] (defScope s_tally_of) := ⟨rfl, rfl, rfl, by decide +kernel, rfl, by decide +kernel, by decide +kernel⟩
abbrev s__law_cell_at : Stmt := topS 32
abbrev N__law_cell_at : List Str := ["script", "k"]
theorem sc__law_cell_at : FnScope N__law_cell_at ["script", "k"] (defScope s__law_cell_at) := ⟨rfl, rfl, rfl, by decide +kernel, rfl, by decide +kernel, by decide +kernel⟩
abbrev s__law_next : Stmt := topS 33
abbrev N__law_next : List Str := ["seed"]
theorem sc__law_next : FnScope N__law_next ["seed"] (defScope s__law_next) := ⟨rfl, rfl, rfl, by decide +kernel, rfl, by decide +kernel, by decide +kernel⟩
abbrev s__law_pen_of : Stmt := topS 34
abbrev N__law_pen_of : List Str := ["cell", "left"]
theorem sc__law_pen_of : FnScope N__law_pen_of ["cell"] (defScope s__law_pen_of) := ⟨rfl, rfl, rfl, by decide +kernel, rfl, by decide +kernel, by decide +kernel⟩
abbrev s__law_draw : Stmt := topS 35
abbrev N__law_draw : List Str := ["pen", "many", "found"]
theorem sc__law_draw : FnScope N__law_draw ["pen", "many"] (defScope s__law_draw) := ⟨rfl, rfl, rfl, by decide +kernel, rfl, by decide +kernel, by decide +kernel⟩
abbrev s__law_clock_by : Stmt := topS 36
abbrev N__law_clock_by : List Str := ["pen", "most", "step"]
theorem sc__law_clock_by : FnScope N__law_clock_by ["pen", "most"] (defScope s__law_clock_by) := ⟨rfl, rfl, rfl, by decide +kernel, rfl, by decide +kernel, by decide +kernel⟩
abbrev s__law_parts_by : Stmt := topS 37
abbrev N__law_parts_by : List Str := ["pen", "least", "most", "clocks", "k", "step", "rest", "part"]
theorem sc__law_parts_by : FnScope N__law_parts_by ["pen", "least", "most"] (defScope s__law_parts_by) := ⟨rfl, rfl, rfl, by decide +kernel, rfl, by decide +kernel, by decide +kernel⟩
abbrev s__law_clocks_by : Stmt := topS 38
abbrev N__law_clocks_by : List Str := ["pen", "most", "way", "found", "steps", "turn", "step"]
theorem sc__law_clocks_by : FnScope N__law_clocks_by ["pen", "most"] (defScope s__law_clocks_by) := ⟨rfl, rfl, rfl, by decide +kernel, rfl, by decide +kernel, by decide +kernel⟩
abbrev s__law_common : Stmt := topS 40
abbrev N__law_common : List Str := ["one", "other"]
theorem sc__law_common : FnScope N__law_common ["one", "other"] (defScope s__law_common) := ⟨rfl, rfl, rfl, by decide +kernel, rfl, by decide +kernel, by decide +kernel⟩
abbrev s__law_round : Stmt := topS 41
abbrev N__law_round : List Str := ["clocks", "found", "step", "rest"]
theorem sc__law_round : FnScope N__law_round ["clocks"] (defScope s__law_round) := ⟨rfl, rfl, rfl, by decide +kernel, rfl, by decide +kernel, by decide +kernel⟩
abbrev s__law_bounds_right : Stmt := topS 42
abbrev N__law_bounds_right : List Str := ["clocks", "bound", "found", "more", "times"]
theorem sc__law_bounds_right : FnScope N__law_bounds_right ["clocks", "bound"] (defScope s__law_bounds_right) := ⟨rfl, rfl, rfl, by decide +kernel, rfl, by decide +kernel, by decide +kernel⟩
abbrev s__law_missed_right : Stmt := topS 43
abbrev N__law_missed_right : List Str := ["clocks", "n", "number", "after", "one"]
theorem sc__law_missed_right : FnScope N__law_missed_right ["clocks", "n"] (defScope s__law_missed_right) := ⟨rfl, rfl, rfl, by decide +kernel, rfl, by decide +kernel, by decide +kernel⟩
abbrev s_law : Stmt := topS 44
abbrev N_law : List Str := ["script", "cell", "pen", "clocks", "size", "tally", "twice", "bound", "none", "start", "many", "rung", "far", "one", "turn"]
theorem sc_law : FnScope N_law ["script"] (defScope s_law) := ⟨rfl, rfl, rfl, by decide +kernel, rfl, by decide +kernel, by decide +kernel⟩
structure Zs (mg : Str → Option Value) : Prop where
  all_ : mg "all" = none
  bool : mg "bool" = none
  enumerate : mg "enumerate" = none
  int_ : mg "int" = none
  isinstance : mg "isinstance" = none
  len : mg "len" = none
  max_ : mg "max" = none
  min_ : mg "min" = none
  range_ : mg "range" = none
  set_ : mg "set" = none
  sorted : mg "sorted" = none
  sum_ : mg "sum" = none
  tuple : mg "tuple" = none
section
variable {P : Program} {w : World} {K : PySem.W.Frag} {mg : Str → Option Value} {base : Heap}
theorem ok_is_whole {f : Addr} {fd : FuncData} (F : Fun K "is_whole" "is_whole" s_is_whole f fd) (Z : Zs mg)  : FnOk P w K mg base (L2N.CX P w) 1 f fd ["thing"] (low K mg 1 sp_is_whole) := by
  refine def_ok (N := N_is_whole) (ps := ["thing"]) F sc_is_whole (ls := []) (wb := w_is_whole) (fun cdv A outer s H E B hr hB hL tk hp => ?_) vc_is_whole
  have nd := sc_is_whole.nd
  have hu := hr.u65
  have hu7 := hr.u67
  exact (dss_one (ds_ret (de_and (de_isi (dv 0) (by rfl) Z.isinstance (by rfl) Z.int_ bt_int (by decide)) (de_one (de_not (de_isi (dv 0) (by rfl) Z.isinstance (by rfl) Z.bool bt_bool (by decide)))))))
theorem ok_rings {f : Addr} {fd : FuncData} (F : Fun K "rings" "rings" s_rings f fd) (Z : Zs mg)  : FnOk P w K mg base (L2N.CX P w) 1 f fd ["clock", "number"] (low K mg 2 sp_rings) := by
  refine def_ok (N := N_rings) (ps := ["clock", "number"]) F sc_rings (ls := []) (wb := w_rings) (fun cdv A outer s H E B hr hB hL tk hp => ?_) vc_rings
  have nd := sc_rings.nd
  have hu := hr.u65
  have hu7 := hr.u67
  exact (dss_one (ds_ret (de_cmp (dop_eq hu) (de_op dop_mod (dv 1) (de_ix (dv 0) de_int)) (de_ix (dv 0) de_int))))
theorem ok_rings_at {f : Addr} {fd : FuncData} (F : Fun K "rings_at" "rings_at" s_rings_at f fd) (Z : Zs mg) (c_rings : Cal P w K mg base 1 "rings" 2 sp_rings) : FnOk P w K mg base (L2N.CX P w) 2 f fd ["clocks", "number"] (low K mg 2 sp_rings_at) := by
  refine def_ok (N := N_rings_at) (ps := ["clocks", "number"]) F sc_rings_at (ls := []) (wb := w_rings_at) (fun cdv A outer s H E B hr hB hL tk hp => ?_) vc_rings_at
  have nd := sc_rings_at.nd
  have hu := hr.u65
  have hu7 := hr.u67
  exact (dss_one (ds_ret (de_lc (own := [("clock", 2)]) (di_seq (dv 0)) (blkOk_by (N := N_rings_at) (sc := defScope s_rings_at) (by decide +kernel)) (by decide) (nls hL (by decide)) nd (fun _ _ _ _ _ => (dg_name 2 (nl hL (by decide)) nd)) (fun _ _ _ _ _ => (dts_one (dt_val (de_call c_rings hr hB tk0 (dm_cons (dv 2) (dm_cons (dv 1) dm_nil)))))) (fun _ _ _ _ _ => (dv 2)))))
theorem ok_divisor_of {f : Addr} {fd : FuncData} (F : Fun K "divisor_of" "divisor_of" s_divisor_of f fd) (Z : Zs mg)  : FnOk P w K mg base (L2N.CX P w) 1 f fd ["one", "other"] (low K mg 2 sp_divisor_of) := by
  refine def_ok (N := N_divisor_of) (ps := ["one", "other"]) F sc_divisor_of (ls := []) (wb := w_divisor_of) (fun cdv A outer s H E B hr hB hL tk hp => ?_) vc_divisor_of
  have nd := sc_divisor_of.nd
  have hu := hr.u65
  have hu7 := hr.u67
  exact (dss_cons (ds_while hp (dt_cmp (dop_gt hu) (dv 1) de_int) (dss_one (ds_par 0 1 (df_cons (dv 1) (df_cons (de_op dop_mod (dv 0) (dv 1)) df_nil)) (nl hL (by decide)) (nl hL (by decide)) nd)))
      (dss_one (ds_ret (dv 0))))
theorem ok_round_of {f : Addr} {fd : FuncData} (F : Fun K "round_of" "round_of" s_round_of f fd) (Z : Zs mg) (c_divisor_of : Cal P w K mg base 1 "divisor_of" 2 sp_divisor_of) : FnOk P w K mg base (L2N.CX P w) 2 f fd ["clocks"] (low K mg 1 sp_round_of) := by
  refine def_ok (N := N_round_of) (ps := ["clocks"]) F sc_round_of (ls := []) (wb := w_round_of) (fun cdv A outer s H E B hr hB hL tk hp => ?_) vc_round_of
  have nd := sc_round_of.nd
  have hu := hr.u65
  have hu7 := hr.u67
  exact (dss_cons (ds_set 1 de_int (nl hL (by decide)) nd)
      (dss_cons (ds_for hp (di_seq (dv 0)) (dg_tup rfl (dgs_cons (dg_name 2 (nl hL (by decide)) nd) (dgs_cons (dg_name 3 (nl hL (by decide)) nd) dgs_nil))) (dss_one (ds_set 1 (de_op dop_fdiv (de_op dop_mul (dv 1) (dv 2)) (de_call c_divisor_of hr hB tk (dm_cons (dv 1) (dm_cons (dv 2) dm_nil)))) (nl hL (by decide)) nd)))
      (dss_one (ds_ret (dv 1)))))
theorem ok_check_round {f : Addr} {fd : FuncData} (F : Fun K "check_round" "check_round" s_check_round f fd) (Z : Zs mg) (c_round_of : Cal P w K mg base 2 "round_of" 1 sp_round_of) (g_MOST_ROUND : ∃ t, mg "MOST_ROUND" = some (.int 10000 t)) : FnOk P w K mg base (L2N.CX P w) 3 f fd ["clocks"] (low K mg 1 sp_check_round) := by
  refine def_ok (N := N_check_round) (ps := ["clocks"]) F sc_check_round (ls := []) (wb := w_check_round) (fun cdv A outer s H E B hr hB hL tk hp => ?_) vc_check_round
  have nd := sc_check_round.nd
  have hu := hr.u65
  have hu7 := hr.u67
  exact (dss_one (ds_if (dt_cmp (dop_gt hu) (de_call c_round_of hr hB tk (dm_cons (dv 0) dm_nil)) (de_gint g_MOST_ROUND)) (dss_one ds_never) dss_nil))
theorem ok_back_of {f : Addr} {fd : FuncData} (F : Fun K "back_of" "back_of" s_back_of f fd) (Z : Zs mg)  : FnOk P w K mg base (L2N.CX P w) 1 f fd ["one", "other"] (low K mg 2 sp_back_of) := by
  refine def_ok (N := N_back_of) (ps := ["one", "other"]) F sc_back_of (ls := []) (wb := w_back_of) (fun cdv A outer s H E B hr hB hL tk hp => ?_) vc_back_of
  have nd := sc_back_of.nd
  have hu := hr.u65
  have hu7 := hr.u67
  exact (dss_cons (ds_asgT (de_tup (df_cons de_int (df_cons de_int df_nil))) (dg_tup rfl (dgs_cons (dg_name 2 (nl hL (by decide)) nd) (dgs_cons (dg_name 3 (nl hL (by decide)) nd) dgs_nil))))
      (dss_cons (ds_par 4 5 (df_cons (dv 1) (df_cons (de_op dop_mod (dv 0) (dv 1)) df_nil)) (nl hL (by decide)) (nl hL (by decide)) nd)
      (dss_cons (ds_while hp (dt_cmp (dop_gt hu) (dv 5) de_int) (dss_cons (ds_set 6 (de_op dop_fdiv (dv 4) (dv 5)) (nl hL (by decide)) nd)
      (dss_cons (ds_par 2 3 (df_cons (dv 3) (df_cons (de_op dop_sub (dv 2) (de_op dop_mul (dv 6) (dv 3))) df_nil)) (nl hL (by decide)) (nl hL (by decide)) nd)
      (dss_one (ds_par 4 5 (df_cons (dv 5) (df_cons (de_op dop_sub (dv 4) (de_op dop_mul (dv 6) (dv 5))) df_nil)) (nl hL (by decide)) (nl hL (by decide)) nd)))))
      (dss_one (ds_ret (de_op dop_mod (dv 2) (dv 1)))))))
theorem ok_meet_of {f : Addr} {fd : FuncData} (F : Fun K "meet_of" "meet_of" s_meet_of f fd) (Z : Zs mg) (c_divisor_of : Cal P w K mg base 1 "divisor_of" 2 sp_divisor_of) (c_back_of : Cal P w K mg base 1 "back_of" 2 sp_back_of) : FnOk P w K mg base (L2N.CX P w) 2 f fd ["one", "other"] (low K mg 2 sp_meet_of) := by
  refine def_ok (N := N_meet_of) (ps := ["one", "other"]) F sc_meet_of (ls := []) (wb := w_meet_of) (fun cdv A outer s H E B hr hB hL tk hp => ?_) vc_meet_of
  have nd := sc_meet_of.nd
  have hu := hr.u65
  have hu7 := hr.u67
  exact (dss_cons (ds_set 2 (de_call c_divisor_of hr hB tk (dm_cons (de_ix (dv 0) de_int) (dm_cons (de_ix (dv 1) de_int) dm_nil))) (nl hL (by decide)) nd)
      (dss_cons (ds_if (dt_cmp (dop_ne hu) (de_op dop_mod (de_op dop_sub (de_ix (dv 1) de_int) (de_ix (dv 0) de_int)) (dv 2)) de_int) (dss_one (ds_ret de_non)) dss_nil)
      (dss_cons (ds_set 3 (de_op dop_mul (de_op dop_fdiv (de_ix (dv 0) de_int) (dv 2)) (de_ix (dv 1) de_int)) (nl hL (by decide)) nd)
      (dss_cons (ds_set 4 (de_op dop_mul (de_op dop_fdiv (de_op dop_sub (de_ix (dv 1) de_int) (de_ix (dv 0) de_int)) (dv 2)) (de_call c_back_of hr hB tk (dm_cons (de_op dop_fdiv (de_ix (dv 0) de_int) (dv 2)) (dm_cons (de_op dop_fdiv (de_ix (dv 1) de_int) (dv 2)) dm_nil)))) (nl hL (by decide)) nd)
      (dss_one (ds_ret (de_tup (df_cons (dv 3) (df_cons (de_op dop_mod (de_op dop_add (de_ix (dv 0) de_int) (de_op dop_mul (de_ix (dv 0) de_int) (dv 4))) (dv 3)) df_nil)))))))))
theorem ok_check_few {f : Addr} {fd : FuncData} (F : Fun K "check_few" "check_few" s_check_few f fd) (Z : Zs mg) (g_MOST_FAR : ∃ t, mg "MOST_FAR" = some (.int 10 t)) : FnOk P w K mg base (L2N.CX P w) 1 f fd ["clocks"] (low K mg 1 sp_check_few) := by
  refine def_ok (N := N_check_few) (ps := ["clocks"]) F sc_check_few (ls := []) (wb := w_check_few) (fun cdv A outer s H E B hr hB hL tk hp => ?_) vc_check_few
  have nd := sc_check_few.nd
  have hu := hr.u65
  have hu7 := hr.u67
  exact (dss_one (ds_if (dt_cmp (dop_gt hu) (de_callB dcl_len (da_cons (dv 0) da_nil) (by rfl) Z.len bt_len) (de_gint g_MOST_FAR)) (dss_one ds_never) dss_nil))
theorem ok_met_lists {f : Addr} {fd : FuncData} (F : Fun K "met_lists" "met_lists" s_met_lists f fd) (Z : Zs mg) (c_meet_of : Cal P w K mg base 2 "meet_of" 2 sp_meet_of) : FnOk P w K mg base (L2N.CX P w) 3 f fd ["clocks"] (low K mg 1 sp_met_lists) := by
  refine def_ok (N := N_met_lists) (ps := ["clocks"]) F sc_met_lists (ls := []) (wb := w_met_lists) (fun cdv A outer s H E B hr hB hL tk hp => ?_) vc_met_lists
  have nd := sc_met_lists.nd
  have hu := hr.u65
  have hu7 := hr.u67
  exact (dss_nest hL hB hp nd (de_tup (df_cons de_int (df_cons de_int df_nil))) (di_seq (dv 0)) (own := [("clock", 2)]) (blkOk_by (N := N_met_lists) (sc := defScope s_met_lists) (by decide +kernel)) (by decide) (fun _ _ _ _ _ => pg_name nd rfl (by first | exact Or.inl rfl | exact Or.inr rfl))
  (fun B hB hL => (di_seq (dv 0)))
  (fun B hB hL => (di_rng3 (df_cons (de_op dop_sub (de_callB dcl_len (da_cons (dv 0) da_nil) (by rfl) Z.len bt_len) de_int) (df_cons (de_neg de_int) (df_cons (de_neg de_int) df_nil))) (by rfl) Z.range_))
  (fun B hB hL => (ds_setLc 4 (own := [("met", 5)]) (di_seq (de_ix (dv 1) (dv 3))) (blkOk_by (N := N_met_lists) (sc := defScope s_met_lists) (by decide +kernel)) (by decide) (nls hL (by decide)) (nl hL (by decide)) nd (fun _ _ _ _ _ => (dg_name 5 (nl hL (by decide)) nd)) (fun _ _ _ _ _ => dts_nil) (fun _ _ _ _ _ => (de_call c_meet_of hr hB tk0 (dm_cons (dv 5) (dm_cons (dv 2) dm_nil))))))
  (fun B hB hL => (de_lc (own := [("met", 5)]) (di_seq (dv 4)) (blkOk_by (N := N_met_lists) (sc := defScope s_met_lists) (by decide +kernel)) (by decide) (nls hL (by decide)) nd (fun _ _ _ _ _ => (dg_name 5 (nl hL (by decide)) nd)) (fun _ _ _ _ _ => (dts_one (dt_cmp dop_isNot (dv 5) de_non))) (fun _ _ _ _ _ => (dv 5))))
  (dss_one (ds_ret (dv 1))))
theorem ok_rung_times {f : Addr} {fd : FuncData} (F : Fun K "rung_times" "rung_times" s_rung_times f fd) (Z : Zs mg)  : FnOk P w K mg base (L2N.CX P w) 1 f fd ["clock", "bound"] (low K mg 2 sp_rung_times) := by
  refine def_ok (N := N_rung_times) (ps := ["clock", "bound"]) F sc_rung_times (ls := []) (wb := w_rung_times) (fun cdv A outer s H E B hr hB hL tk hp => ?_) vc_rung_times
  have nd := sc_rung_times.nd
  have hu := hr.u65
  have hu7 := hr.u67
  exact (dss_cons (ds_if (dt_cmp (dop_le hu) (dv 1) (de_ix (dv 0) de_int)) (dss_one (ds_ret de_int)) dss_nil)
      (dss_one (ds_ret (de_op dop_add (de_op dop_fdiv (de_op dop_sub (de_op dop_sub (dv 1) de_int) (de_ix (dv 0) de_int)) (de_ix (dv 0) de_int)) de_int))))
theorem ok_choose {f : Addr} {fd : FuncData} (F : Fun K "choose" "choose" s_choose f fd) (Z : Zs mg)  : FnOk P w K mg base (L2N.CX P w) 1 f fd ["many", "few"] (low K mg 2 sp_choose) := by
  refine def_ok (N := N_choose) (ps := ["many", "few"]) F sc_choose (ls := []) (wb := w_choose) (fun cdv A outer s H E B hr hB hL tk hp => ?_) vc_choose
  have nd := sc_choose.nd
  have hu := hr.u65
  have hu7 := hr.u67
  exact (dss_cons (ds_set 2 de_int (nl hL (by decide)) nd)
      (dss_cons (ds_for hp (di_rng1 (dv 1) (by rfl) Z.range_) (dg_name 3 (nl hL (by decide)) nd) (dss_one (ds_set 2 (de_op dop_fdiv (de_op dop_mul (dv 2) (de_op dop_sub (dv 0) (dv 3))) (de_op dop_add (dv 3) de_int)) (nl hL (by decide)) nd)))
      (dss_one (ds_ret (dv 2)))))
theorem ok_counts_below {f : Addr} {fd : FuncData} (F : Fun K "counts_below" "counts_below" s_counts_below f fd) (Z : Zs mg) (c_rung_times : Cal P w K mg base 1 "rung_times" 2 sp_rung_times) (c_choose : Cal P w K mg base 1 "choose" 2 sp_choose) : FnOk P w K mg base (L2N.CX P w) 2 f fd ["lists", "bound"] (low K mg 2 sp_counts_below) := by
  refine def_ok (N := N_counts_below) (ps := ["lists", "bound"]) F sc_counts_below (ls := []) (wb := w_counts_below) (fun cdv A outer s H E B hr hB hL tk hp => ?_) vc_counts_below
  have nd := sc_counts_below.nd
  have hu := hr.u65
  have hu7 := hr.u67
  exact (dss_cons (ds_setLc 2 (own := [("mets", 7)]) (di_seq (dv 0)) (blkOk_by (N := N_counts_below) (sc := defScope s_counts_below) (by decide +kernel)) (by decide) (nls hL (by decide)) (nl hL (by decide)) nd (fun _ _ _ _ _ => (dg_name 7 (nl hL (by decide)) nd)) (fun _ _ _ _ _ => dts_nil) (fun _ _ _ _ _ => (de_callB (dcl_sum rfl) (da_cons (de_lc (own := [("met", 8)]) (di_seq (dv 7)) (blkOk_by (N := N_counts_below) (sc := relS _ (defScope s_counts_below)) (by decide +kernel)) (by decide) (nls hL (by decide)) nd (fun _ _ _ _ _ => (dg_name 8 (nl hL (by decide)) nd)) (fun _ _ _ _ _ => dts_nil) (fun _ _ _ _ _ => (de_call c_rung_times hr hB tk0 (dm_cons (dv 8) (dm_cons (dv 1) dm_nil))))) da_nil) (by rfl) Z.sum_ bt_sum)))
      (dss_cons (ds_set 3 (de_lst df_nil) (nl hL (by decide)) nd)
      (dss_cons (ds_for hp (di_rng1 (de_callB dcl_len (da_cons (dv 2) da_nil) (by rfl) Z.len bt_len) (by rfl) Z.range_) (dg_name 4 (nl hL (by decide)) nd) (dss_cons (ds_set 5 de_int (nl hL (by decide)) nd)
      (dss_cons (ds_for hp (di_rng2 (dv 4) (de_callB dcl_len (da_cons (dv 2) da_nil) (by rfl) Z.len bt_len) (by rfl) Z.range_) (dg_name 6 (nl hL (by decide)) nd) (dss_one (ds_aug 5 ip_add (de_op dop_mul (de_op dop_mul (de_op dop_sub de_int (de_op dop_mul de_int (de_op dop_mod (de_op dop_sub (dv 6) (dv 4)) de_int))) (de_call c_choose hr hB tk (dm_cons (dv 6) (dm_cons (dv 4) dm_nil)))) (de_ix (dv 2) (dv 6))) (nl hL (by decide)) nd)))
      (dss_one (ds_expr (de_append 3 (dv 5)))))))
      (dss_one (ds_ret (dv 3))))))
theorem ok_rung_below {f : Addr} {fd : FuncData} (F : Fun K "rung_below" "rung_below" s_rung_below f fd) (Z : Zs mg) (c_check_few : Cal P w K mg base 3 "check_few" 1 sp_check_few) (c_met_lists : Cal P w K mg base 3 "met_lists" 1 sp_met_lists) (c_counts_below : Cal P w K mg base 3 "counts_below" 2 sp_counts_below) : FnOk P w K mg base (L2N.CX P w) 4 f fd ["clocks", "bound"] (low K mg 2 sp_rung_below) := by
  refine def_ok (N := N_rung_below) (ps := ["clocks", "bound"]) F sc_rung_below (ls := []) (wb := w_rung_below) (fun cdv A outer s H E B hr hB hL tk hp => ?_) vc_rung_below
  have nd := sc_rung_below.nd
  have hu := hr.u65
  have hu7 := hr.u67
  exact (dss_cons (ds_expr (de_call c_check_few hr hB tk (dm_cons (dv 0) dm_nil)))
      (dss_one (ds_ret (de_call c_counts_below hr hB tk (dm_cons (de_call c_met_lists hr hB tk (dm_cons (dv 0) dm_nil)) (dm_cons (dv 1) dm_nil))))))
theorem ok_missed_below {f : Addr} {fd : FuncData} (F : Fun K "missed_below" "missed_below" s_missed_below f fd) (Z : Zs mg) (c_rung_times : Cal P w K mg base 1 "rung_times" 2 sp_rung_times) : FnOk P w K mg base (L2N.CX P w) 2 f fd ["lists", "bound"] (low K mg 2 sp_missed_below) := by
  refine def_ok (N := N_missed_below) (ps := ["lists", "bound"]) F sc_missed_below (ls := []) (wb := w_missed_below) (fun cdv A outer s H E B hr hB hL tk hp => ?_) vc_missed_below
  have nd := sc_missed_below.nd
  have hu := hr.u65
  have hu7 := hr.u67
  exact (dss_cons (ds_set 2 de_int (nl hL (by decide)) nd)
      (dss_cons (ds_for hp (di_enum (df_cons (dv 0) df_nil) (by rfl) Z.enumerate) (dg_tup rfl (dgs_cons (dg_name 3 (nl hL (by decide)) nd) (dgs_cons (dg_name 4 (nl hL (by decide)) nd) dgs_nil))) (dss_one (ds_aug 2 ip_add (de_op dop_mul (de_op dop_sub de_int (de_op dop_mul de_int (de_op dop_mod (dv 3) de_int))) (de_callB (dcl_sum rfl) (da_cons (de_lc (own := [("met", 5)]) (di_seq (dv 4)) (blkOk_by (N := N_missed_below) (sc := defScope s_missed_below) (by decide +kernel)) (by decide) (nls hL (by decide)) nd (fun _ _ _ _ _ => (dg_name 5 (nl hL (by decide)) nd)) (fun _ _ _ _ _ => dts_nil) (fun _ _ _ _ _ => (de_call c_rung_times hr hB tk0 (dm_cons (dv 5) (dm_cons (dv 1) dm_nil))))) da_nil) (by rfl) Z.sum_ bt_sum)) (nl hL (by decide)) nd)))
      (dss_one (ds_ret (dv 2)))))
theorem ok_nth_of {f : Addr} {fd : FuncData} (F : Fun K "nth_of" "nth_of" s_nth_of f fd) (Z : Zs mg) (c_round_of : Cal P w K mg base 2 "round_of" 1 sp_round_of) (c_missed_below : Cal P w K mg base 2 "missed_below" 2 sp_missed_below) : FnOk P w K mg base (L2N.CX P w) 3 f fd ["clocks", "lists", "n"] (low K mg 3 sp_nth_of) := by
  refine def_ok (N := N_nth_of) (ps := ["clocks", "lists", "n"]) F sc_nth_of (ls := []) (wb := w_nth_of) (fun cdv A outer s H E B hr hB hL tk hp => ?_) vc_nth_of
  have nd := sc_nth_of.nd
  have hu := hr.u65
  have hu7 := hr.u67
  exact (dss_cons (ds_set 3 (de_call c_round_of hr hB tk (dm_cons (dv 0) dm_nil)) (nl hL (by decide)) nd)
      (dss_cons (ds_set 4 (de_call c_missed_below hr hB tk (dm_cons (dv 1) (dm_cons (dv 3) dm_nil))) (nl hL (by decide)) nd)
      (dss_cons (ds_set 5 (de_op dop_fdiv (dv 2) (dv 4)) (nl hL (by decide)) nd)
      (dss_cons (ds_set 6 (de_op dop_mod (dv 2) (dv 4)) (nl hL (by decide)) nd)
      (dss_cons (ds_set 7 de_int (nl hL (by decide)) nd)
      (dss_cons (ds_set 8 (dv 3) (nl hL (by decide)) nd)
      (dss_cons (ds_while hp (dt_cmp (dop_gt hu) (de_op dop_sub (dv 8) (dv 7)) de_int) (dss_cons (ds_set 9 (de_op dop_fdiv (de_op dop_add (dv 7) (dv 8)) de_int) (nl hL (by decide)) nd)
      (dss_one (ds_if (dt_cmp (dop_gt hu) (de_call c_missed_below hr hB tk (dm_cons (dv 1) (dm_cons (dv 9) dm_nil))) (dv 6)) (dss_one (ds_set 8 (dv 9) (nl hL (by decide)) nd)) (dss_one (ds_set 7 (dv 9) (nl hL (by decide)) nd))))))
      (dss_one (ds_ret (de_op dop_add (de_op dop_mul (dv 5) (dv 3)) (dv 7)))))))))))
theorem ok_nth_missed {f : Addr} {fd : FuncData} (F : Fun K "nth_missed" "nth_missed" s_nth_missed f fd) (Z : Zs mg) (c_check_few : Cal P w K mg base 3 "check_few" 1 sp_check_few) (c_met_lists : Cal P w K mg base 3 "met_lists" 1 sp_met_lists) (c_round_of : Cal P w K mg base 3 "round_of" 1 sp_round_of) (c_missed_below : Cal P w K mg base 3 "missed_below" 2 sp_missed_below) (c_nth_of : Cal P w K mg base 3 "nth_of" 3 sp_nth_of) : FnOk P w K mg base (L2N.CX P w) 4 f fd ["clocks", "n"] (low K mg 2 sp_nth_missed) := by
  refine def_ok (N := N_nth_missed) (ps := ["clocks", "n"]) F sc_nth_missed (ls := []) (wb := w_nth_missed) (fun cdv A outer s H E B hr hB hL tk hp => ?_) vc_nth_missed
  have nd := sc_nth_missed.nd
  have hu := hr.u65
  have hu7 := hr.u67
  exact (dss_cons (ds_expr (de_call c_check_few hr hB tk (dm_cons (dv 0) dm_nil)))
      (dss_cons (ds_set 2 (de_call c_met_lists hr hB tk (dm_cons (dv 0) dm_nil)) (nl hL (by decide)) nd)
      (dss_cons (ds_if (dt_cmp (dop_eq hu) (de_call c_missed_below hr hB tk (dm_cons (dv 2) (dm_cons (de_call c_round_of hr hB tk (dm_cons (dv 0) dm_nil)) dm_nil))) de_int) (dss_one ds_never) dss_nil)
      (dss_one (ds_ret (de_call c_nth_of hr hB tk (dm_cons (dv 0) (dm_cons (dv 2) (dm_cons (dv 1) dm_nil)))))))))
theorem ok_missed_ahead {f : Addr} {fd : FuncData} (F : Fun K "missed_ahead" "missed_ahead" s_missed_ahead f fd) (Z : Zs mg) (c_check_few : Cal P w K mg base 3 "check_few" 1 sp_check_few) (c_is_whole : Cal P w K mg base 3 "is_whole" 1 sp_is_whole) (c_rings_at : Cal P w K mg base 3 "rings_at" 2 sp_rings_at) (c_met_lists : Cal P w K mg base 3 "met_lists" 1 sp_met_lists) (c_missed_below : Cal P w K mg base 3 "missed_below" 2 sp_missed_below) : FnOk P w K mg base (L2N.CX P w) 4 f fd ["clocks", "number"] (low K mg 2 sp_missed_ahead) := by
  refine def_ok (N := N_missed_ahead) (ps := ["clocks", "number"]) F sc_missed_ahead (ls := []) (wb := w_missed_ahead) (fun cdv A outer s H E B hr hB hL tk hp => ?_) vc_missed_ahead
  have nd := sc_missed_ahead.nd
  have hu := hr.u65
  have hu7 := hr.u67
  exact (dss_cons (ds_expr (de_call c_check_few hr hB tk (dm_cons (dv 0) dm_nil)))
      (dss_cons (ds_if ((dw_or (dt_not (dt_val (de_call c_is_whole hr hB tk (dm_cons (dv 1) dm_nil)))) (dw_or (dt_cmp (dop_lt hu) (dv 1) de_int) (dw_or1 (dt_cmp (dop_ne hu) (de_call c_rings_at hr hB tk (dm_cons (dv 0) (dm_cons (dv 1) dm_nil))) (de_lst df_nil)))))).dt (dss_one ds_never) dss_nil)
      (dss_one (ds_ret (de_call c_missed_below hr hB tk (dm_cons (de_call c_met_lists hr hB tk (dm_cons (dv 0) dm_nil)) (dm_cons (dv 1) dm_nil)))))))
theorem ok_next_missed {f : Addr} {fd : FuncData} (F : Fun K "next_missed" "next_missed" s_next_missed f fd) (Z : Zs mg) (c_check_few : Cal P w K mg base 3 "check_few" 1 sp_check_few) (c_met_lists : Cal P w K mg base 3 "met_lists" 1 sp_met_lists) (c_round_of : Cal P w K mg base 3 "round_of" 1 sp_round_of) (c_missed_below : Cal P w K mg base 3 "missed_below" 2 sp_missed_below) (c_nth_of : Cal P w K mg base 3 "nth_of" 3 sp_nth_of) : FnOk P w K mg base (L2N.CX P w) 4 f fd ["clocks", "number"] (low K mg 2 sp_next_missed) := by
  refine def_ok (N := N_next_missed) (ps := ["clocks", "number"]) F sc_next_missed (ls := []) (wb := w_next_missed) (fun cdv A outer s H E B hr hB hL tk hp => ?_) vc_next_missed
  have nd := sc_next_missed.nd
  have hu := hr.u65
  have hu7 := hr.u67
  exact (dss_cons (ds_expr (de_call c_check_few hr hB tk (dm_cons (dv 0) dm_nil)))
      (dss_cons (ds_set 2 (de_call c_met_lists hr hB tk (dm_cons (dv 0) dm_nil)) (nl hL (by decide)) nd)
      (dss_cons (ds_set 3 (de_call c_round_of hr hB tk (dm_cons (dv 0) dm_nil)) (nl hL (by decide)) nd)
      (dss_cons (ds_if (dt_cmp (dop_eq hu) (de_call c_missed_below hr hB tk (dm_cons (dv 2) (dm_cons (dv 3) dm_nil))) de_int) (dss_one (ds_ret de_non)) dss_nil)
      (dss_cons (ds_set 4 (de_op dop_fdiv (dv 1) (dv 3)) (nl hL (by decide)) nd)
      (dss_cons (ds_set 5 (de_op dop_sub (dv 1) (de_op dop_mul (dv 4) (dv 3))) (nl hL (by decide)) nd)
      (dss_one (ds_ret (de_op dop_add (de_op dop_mul (dv 4) (dv 3)) (de_call c_nth_of hr hB tk (dm_cons (dv 0) (dm_cons (dv 2) (dm_cons (de_call c_missed_below hr hB tk (dm_cons (dv 2) (dm_cons (dv 5) dm_nil))) dm_nil)))))))))))))
theorem ok_last_missed {f : Addr} {fd : FuncData} (F : Fun K "last_missed" "last_missed" s_last_missed f fd) (Z : Zs mg) (c_check_few : Cal P w K mg base 3 "check_few" 1 sp_check_few) (c_met_lists : Cal P w K mg base 3 "met_lists" 1 sp_met_lists) (c_round_of : Cal P w K mg base 3 "round_of" 1 sp_round_of) (c_missed_below : Cal P w K mg base 3 "missed_below" 2 sp_missed_below) (c_nth_of : Cal P w K mg base 3 "nth_of" 3 sp_nth_of) : FnOk P w K mg base (L2N.CX P w) 4 f fd ["clocks", "number"] (low K mg 2 sp_last_missed) := by
  refine def_ok (N := N_last_missed) (ps := ["clocks", "number"]) F sc_last_missed (ls := []) (wb := w_last_missed) (fun cdv A outer s H E B hr hB hL tk hp => ?_) vc_last_missed
  have nd := sc_last_missed.nd
  have hu := hr.u65
  have hu7 := hr.u67
  exact (dss_cons (ds_expr (de_call c_check_few hr hB tk (dm_cons (dv 0) dm_nil)))
      (dss_cons (ds_set 2 (de_call c_met_lists hr hB tk (dm_cons (dv 0) dm_nil)) (nl hL (by decide)) nd)
      (dss_cons (ds_set 3 (de_call c_round_of hr hB tk (dm_cons (dv 0) dm_nil)) (nl hL (by decide)) nd)
      (dss_cons (ds_set 4 (de_call c_missed_below hr hB tk (dm_cons (dv 2) (dm_cons (dv 3) dm_nil))) (nl hL (by decide)) nd)
      (dss_cons (ds_if (dt_cmp (dop_eq hu) (dv 4) de_int) (dss_one (ds_ret de_non)) dss_nil)
      (dss_cons (ds_set 5 (de_op dop_fdiv (dv 1) (dv 3)) (nl hL (by decide)) nd)
      (dss_cons (ds_set 6 (de_call c_missed_below hr hB tk (dm_cons (dv 2) (dm_cons (de_op dop_add (de_op dop_sub (dv 1) (de_op dop_mul (dv 5) (dv 3))) de_int) dm_nil))) (nl hL (by decide)) nd)
      (dss_cons (ds_if (dt_cmp (dop_eq hu) (dv 6) de_int) (dss_one (ds_ret (de_op dop_add (de_op dop_mul (de_op dop_sub (dv 5) de_int) (dv 3)) (de_call c_nth_of hr hB tk (dm_cons (dv 0) (dm_cons (dv 2) (dm_cons (de_op dop_sub (dv 4) de_int) dm_nil))))))) dss_nil)
      (dss_one (ds_ret (de_op dop_add (de_op dop_mul (dv 5) (dv 3)) (de_call c_nth_of hr hB tk (dm_cons (dv 0) (dm_cons (dv 2) (dm_cons (de_op dop_sub (dv 6) de_int) dm_nil)))))))))))))))
theorem ok_times_at {f : Addr} {fd : FuncData} (F : Fun K "times_at" "times_at" s_times_at f fd) (Z : Zs mg) (c_rings_at : Cal P w K mg base 2 "rings_at" 2 sp_rings_at) : FnOk P w K mg base (L2N.CX P w) 3 f fd ["clocks", "number"] (low K mg 2 sp_times_at) := by
  refine def_ok (N := N_times_at) (ps := ["clocks", "number"]) F sc_times_at (ls := []) (wb := w_times_at) (fun cdv A outer s H E B hr hB hL tk hp => ?_) vc_times_at
  have nd := sc_times_at.nd
  have hu := hr.u65
  have hu7 := hr.u67
  exact (dss_one (ds_ret (de_callB dcl_len (da_cons (de_call c_rings_at hr hB tk (dm_cons (dv 0) (dm_cons (dv 1) dm_nil))) da_nil) (by rfl) Z.len bt_len)))
theorem ok_tally_of {f : Addr} {fd : FuncData} (F : Fun K "tally_of" "tally_of" s_tally_of f fd) (Z : Zs mg) (c_check_round : Cal P w K mg base 3 "check_round" 1 sp_check_round) (c_round_of : Cal P w K mg base 3 "round_of" 1 sp_round_of) (c_times_at : Cal P w K mg base 3 "times_at" 2 sp_times_at) : FnOk P w K mg base (L2N.CX P w) 4 f fd ["clocks"] (low K mg 1 sp_tally_of) := by
  refine def_ok (N := N_tally_of) (ps := ["clocks"]) F sc_tally_of (ls := []) (wb := w_tally_of) (fun cdv A outer s H E B hr hB hL tk hp => ?_) vc_tally_of
  have nd := sc_tally_of.nd
  have hu := hr.u65
  have hu7 := hr.u67
  exact (dss_cons (ds_expr (de_call c_check_round hr hB tk (dm_cons (dv 0) dm_nil)))
      (dss_cons (ds_set 1 (de_rep (de_lst (df_cons de_int df_nil)) (de_op dop_add (de_callB dcl_len (da_cons (dv 0) da_nil) (by rfl) Z.len bt_len) de_int)) (nl hL (by decide)) nd)
      (dss_cons (ds_for hp (di_rng1 (de_call c_round_of hr hB tk (dm_cons (dv 0) dm_nil)) (by rfl) Z.range_) (dg_name 2 (nl hL (by decide)) nd) (dss_cons (ds_set 3 (de_call c_times_at hr hB tk (dm_cons (dv 0) (dm_cons (dv 2) dm_nil))) (nl hL (by decide)) nd)
      (dss_one (ds_setIx 1 (de_op dop_add (de_ix (dv 1) (dv 3)) de_int) (dv 3)))))
      (dss_one (ds_ret (dv 1))))))
theorem ok__law_cell_at {f : Addr} {fd : FuncData} (F : Fun K "_law_cell_at" "_law_cell_at" s__law_cell_at f fd) (Z : Zs mg)  : FnOk P w K mg base (L2N.CX P w) 1 f fd ["script", "k"] (low K mg 2 sp__law_cell_at) := by
  refine def_ok (N := N__law_cell_at) (ps := ["script", "k"]) F sc__law_cell_at (ls := []) (wb := w__law_cell_at) (fun cdv A outer s H E B hr hB hL tk hp => ?_) vc__law_cell_at
  have nd := sc__law_cell_at.nd
  have hu := hr.u65
  have hu7 := hr.u67
  exact (dss_cons (ds_if (dt_cmp (dop_lt hu) (dv 1) (de_callB dcl_len (da_cons (dv 0) da_nil) (by rfl) Z.len bt_len)) (dss_one (ds_ret (de_ix (dv 0) (dv 1)))) dss_nil)
      (dss_one (ds_ret de_int)))
theorem ok__law_next {f : Addr} {fd : FuncData} (F : Fun K "_law_next" "_law_next" s__law_next f fd) (Z : Zs mg)  : FnOk P w K mg base (L2N.CX P w) 1 f fd ["seed"] (low K mg 1 sp__law_next) := by
  refine def_ok (N := N__law_next) (ps := ["seed"]) F sc__law_next (ls := []) (wb := w__law_next) (fun cdv A outer s H E B hr hB hL tk hp => ?_) vc__law_next
  have nd := sc__law_next.nd
  have hu := hr.u65
  have hu7 := hr.u67
  exact (dss_cons (ds_set 0 (de_op dop_mod (de_op dop_add (dv 0) de_int) de_int) (nl hL (by decide)) nd)
      (dss_one (ds_ret (de_op dop_mod (de_op dop_add (de_op dop_add (de_op dop_mul (dv 0) (dv 0)) (de_op dop_mul de_int (dv 0))) de_int) de_int))))
theorem ok__law_pen_of {f : Addr} {fd : FuncData} (F : Fun K "_law_pen_of" "_law_pen_of" s__law_pen_of f fd) (Z : Zs mg)  : FnOk P w K mg base (L2N.CX P w) 1 f fd ["cell"] (low K mg 1 sp__law_pen_of) := by
  refine def_ok (N := N__law_pen_of) (ps := ["cell"]) F sc__law_pen_of (ls := []) (wb := w__law_pen_of) (fun cdv A outer s H E B hr hB hL tk hp => ?_) vc__law_pen_of
  have nd := sc__law_pen_of.nd
  have hu := hr.u65
  have hu7 := hr.u67
  exact (dss_cons (ds_set 1 (de_callB (dcl_max rfl) (da_cons (dv 0) (da_cons (de_op dop_sub de_int (dv 0)) da_nil)) (by rfl) Z.max_ bt_max) (nl hL (by decide)) nd)
      (dss_one (ds_ret (de_lst (df_cons (dv 1) (df_cons (de_callTy dcl_int (da_cons (de_cmp (dop_ge hu) (dv 1) (de_op dop_pow de_int de_int)) da_nil) (by rfl) Z.int_ bt_int) (df_cons (de_op dop_mod (dv 1) de_int) df_nil)))))))
theorem ok__law_draw {f : Addr} {fd : FuncData} (F : Fun K "_law_draw" "_law_draw" s__law_draw f fd) (Z : Zs mg) (c__law_next : Cal P w K mg base 1 "_law_next" 1 sp__law_next) : FnOk P w K mg base (L2N.CX P w) 2 f fd ["pen", "many"] (low K mg 2 sp__law_draw) := by
  refine def_ok (N := N__law_draw) (ps := ["pen", "many"]) F sc__law_draw (ls := [0]) (wb := w__law_draw) (fun cdv A outer s H E B hr hB hL tk hp => ?_) vc__law_draw
  have nd := sc__law_draw.nd
  have hu := hr.u65
  have hu7 := hr.u67
  exact (dss_cons (ds_if (dt_cmp (dop_eq hu) (de_ix (dv 0) de_int) de_int) (dss_cons (ds_set 2 (de_op dop_mod (de_ix (dv 0) de_int) (dv 1)) (nl hL (by decide)) nd)
      (dss_cons (ds_setIx 0 (de_op dop_fdiv (de_ix (dv 0) de_int) (dv 1)) de_int)
      (dss_one (ds_ret (dv 2))))) dss_nil)
      (dss_cons (ds_setIx 0 (de_call c__law_next hr hB tk (dm_cons (de_op dop_add (de_call c__law_next hr hB tk (dm_cons (de_ix (dv 0) de_int) dm_nil)) de_int) dm_nil)) de_int)
      (dss_one (ds_ret (de_op dop_mod (de_op dop_fdiv (de_ix (dv 0) de_int) de_int) (dv 1))))))
theorem ok__law_clock_by {f : Addr} {fd : FuncData} (F : Fun K "_law_clock_by" "_law_clock_by" s__law_clock_by f fd) (Z : Zs mg) (c__law_draw : Cal P w K mg base 2 "_law_draw" 2 sp__law_draw) : FnOk P w K mg base (L2N.CX P w) 3 f fd ["pen", "most"] (low K mg 2 sp__law_clock_by) := by
  refine def_ok (N := N__law_clock_by) (ps := ["pen", "most"]) F sc__law_clock_by (ls := [0]) (wb := w__law_clock_by) (fun cdv A outer s H E B hr hB hL tk hp => ?_) vc__law_clock_by
  have nd := sc__law_clock_by.nd
  have hu := hr.u65
  have hu7 := hr.u67
  exact (dss_cons (ds_set 2 (de_op dop_add de_int (de_call c__law_draw hr hB tk (dm_lend 0 (dm_cons (dv 1) dm_nil)))) (nl hL (by decide)) nd)
      (dss_one (ds_ret (de_tup (df_cons (dv 2) (df_cons (de_call c__law_draw hr hB tk (dm_lend 0 (dm_cons (dv 2) dm_nil))) df_nil))))))
theorem ok__law_parts_by {f : Addr} {fd : FuncData} (F : Fun K "_law_parts_by" "_law_parts_by" s__law_parts_by f fd) (Z : Zs mg) (c__law_draw : Cal P w K mg base 2 "_law_draw" 2 sp__law_draw) : FnOk P w K mg base (L2N.CX P w) 3 f fd ["pen", "least", "most"] (low K mg 3 sp__law_parts_by) := by
  refine def_ok (N := N__law_parts_by) (ps := ["pen", "least", "most"]) F sc__law_parts_by (ls := [0]) (wb := w__law_parts_by) (fun cdv A outer s H E B hr hB hL tk hp => ?_) vc__law_parts_by
  have nd := sc__law_parts_by.nd
  have hu := hr.u65
  have hu7 := hr.u67
  exact (dss_cons (ds_set 3 (de_lst (df_cons (de_tup (df_cons de_int (df_cons de_int df_nil))) df_nil)) (nl hL (by decide)) nd)
      (dss_cons (ds_while hp ((dw_or (dt_cmp (dop_lt hu) (de_callB dcl_len (da_cons (dv 3) da_nil) (by rfl) Z.len bt_len) (dv 1)) (dw_or1 ((dw_and (dt_cmp (dop_gt hu) (de_call c__law_draw hr hB tk (dm_lend 0 (dm_cons de_int dm_nil))) de_int) (dw_and1 (dt_cmp (dop_lt hu) (de_callB dcl_len (da_cons (dv 3) da_nil) (by rfl) Z.len bt_len) (dv 2))))).dt))).dt (dss_cons (ds_set 4 (de_ix (de_lst (df_cons de_int (df_cons de_int (df_cons de_int (df_cons de_int (df_cons de_int (df_cons de_int df_nil))))))) (de_call c__law_draw hr hB tk (dm_lend 0 (dm_cons de_int dm_nil)))) (nl hL (by decide)) nd)
      (dss_cons (ds_set 4 (de_callB (dcl_min rfl) (da_cons (dv 4) (da_cons (de_callB (dcl_max rfl) (da_cons de_int (da_cons (de_op dop_add (de_op dop_sub (dv 2) (de_callB dcl_len (da_cons (dv 3) da_nil) (by rfl) Z.len bt_len)) de_int) da_nil)) (by rfl) Z.max_ bt_max) da_nil)) (by rfl) Z.min_ bt_min) (nl hL (by decide)) nd)
      (dss_cons (ds_asgT (de_popAt 3 (de_call c__law_draw hr hB tk (dm_lend 0 (dm_cons (de_callB dcl_len (da_cons (dv 3) da_nil) (by rfl) Z.len bt_len) dm_nil)))) (dg_tup rfl (dgs_cons (dg_name 5 (nl hL (by decide)) nd) (dgs_cons (dg_name 6 (nl hL (by decide)) nd) dgs_nil))))
      (dss_cons (ds_if (dt_cmp (dop_gt hu) (de_op dop_mul (dv 5) (dv 4)) de_int) (dss_one (ds_ret (de_callB (dcl_sorted hu7) (da_cons (de_op dop_add (dv 3) (de_lst (df_cons (de_tup (df_cons (dv 5) (df_cons (dv 6) df_nil))) df_nil))) da_nil) (by rfl) Z.sorted bt_sorted))) dss_nil)
      (dss_one (ds_set 3 (de_op dop_add (dv 3) (de_lc (own := [("part", 7)]) (di_rng1 (dv 4) (by rfl) Z.range_) (blkOk_by (N := N__law_parts_by) (sc := defScope s__law_parts_by) (by decide +kernel)) (by decide) (nls hL (by decide)) nd (fun _ _ _ _ _ => (dg_name 7 (nl hL (by decide)) nd)) (fun _ _ _ _ _ => dts_nil) (fun _ _ _ _ _ => (de_tup (df_cons (de_op dop_mul (dv 5) (dv 4)) (df_cons (de_op dop_add (dv 6) (de_op dop_mul (dv 5) (dv 7))) df_nil)))))) (nl hL (by decide)) nd)))))))
      (dss_one (ds_ret (de_callB (dcl_sorted hu7) (da_cons (dv 3) da_nil) (by rfl) Z.sorted bt_sorted)))))
theorem ok__law_clocks_by {f : Addr} {fd : FuncData} (F : Fun K "_law_clocks_by" "_law_clocks_by" s__law_clocks_by f fd) (Z : Zs mg) (c__law_draw : Cal P w K mg base 3 "_law_draw" 2 sp__law_draw) (c__law_clock_by : Cal P w K mg base 3 "_law_clock_by" 2 sp__law_clock_by) (c__law_parts_by : Cal P w K mg base 3 "_law_parts_by" 3 sp__law_parts_by) : FnOk P w K mg base (L2N.CX P w) 4 f fd ["pen", "most"] (low K mg 2 sp__law_clocks_by) := by
  refine def_ok (N := N__law_clocks_by) (ps := ["pen", "most"]) F sc__law_clocks_by (ls := [0]) (wb := w__law_clocks_by) (fun cdv A outer s H E B hr hB hL tk hp => ?_) vc__law_clocks_by
  have nd := sc__law_clocks_by.nd
  have hu := hr.u65
  have hu7 := hr.u67
  exact (dss_cons (ds_set 2 (de_call c__law_draw hr hB tk (dm_lend 0 (dm_cons de_int dm_nil))) (nl hL (by decide)) nd)
      (dss_cons (ds_if (dt_cmp (dop_eq hu) (dv 2) de_int) (dss_one (ds_setLc 3 (own := [("turn", 5)]) (di_rng1 (de_call c__law_draw hr hB tk (dm_lend 0 (dm_cons (de_op dop_add (dv 1) de_int) dm_nil))) (by rfl) Z.range_) (blkOk_by (N := N__law_clocks_by) (sc := defScope s__law_clocks_by) (by decide +kernel)) (by decide) (nls hL (by decide)) (nl hL (by decide)) nd (fun _ _ _ _ _ => (dg_name 5 (nl hL (by decide)) nd)) (fun _ _ _ _ _ => dts_nil) (fun _ _ _ _ _ => (de_call c__law_clock_by hr hB tk0 (dm_lend 0 (dm_cons de_int dm_nil)))))) (dss_one (ds_if (dt_cmp (dop_eq hu) (dv 2) de_int) (dss_cons (ds_set 4 (de_lst (df_cons de_int (df_cons de_int (df_cons de_int (df_cons de_int (df_cons de_int (df_cons de_int (df_cons de_int df_nil)))))))) (nl hL (by decide)) nd)
      (dss_cons (ds_set 3 (de_lst df_nil) (nl hL (by decide)) nd)
      (dss_one (ds_for hp (di_rng1 (de_call c__law_draw hr hB tk (dm_lend 0 (dm_cons (de_op dop_add (dv 1) de_int) dm_nil))) (by rfl) Z.range_) (dg_name 5 (nl hL (by decide)) nd) (dss_cons (ds_set 6 (de_ix (dv 4) (de_call c__law_draw hr hB tk (dm_lend 0 (dm_cons de_int dm_nil)))) (nl hL (by decide)) nd)
      (dss_one (ds_expr (de_append 3 (de_tup (df_cons (dv 6) (df_cons (de_call c__law_draw hr hB tk (dm_lend 0 (dm_cons (dv 6) dm_nil))) df_nil))))))))))) (dss_cons (ds_set 3 (de_call c__law_parts_by hr hB tk (dm_lend 0 (dm_cons de_int (dm_cons (de_callB (dcl_max rfl) (da_cons de_int (da_cons (de_op dop_sub (dv 1) de_int) da_nil)) (by rfl) Z.max_ bt_max) dm_nil)))) (nl hL (by decide)) nd)
      (dss_cons (ds_if (dt_cmp (dop_eq hu) (dv 2) de_int) (dss_one (ds_set 3 (de_op dop_add (dv 3) (de_lst (df_cons (de_call c__law_clock_by hr hB tk (dm_lend 0 (dm_cons de_int dm_nil))) df_nil))) (nl hL (by decide)) nd)) dss_nil)
      (dss_one (ds_if (dt_cmp (dop_eq hu) (dv 2) de_int) (dss_one (ds_expr (de_popAt 3 (de_call c__law_draw hr hB tk (dm_lend 0 (dm_cons (de_callB dcl_len (da_cons (dv 3) da_nil) (by rfl) Z.len bt_len) dm_nil)))))) dss_nil)))))))
      (dss_one (ds_ret (de_sl (de_callTy dcl_tuple (da_cons (de_sortSet hu rfl (by rfl) Z.sorted (by rfl) Z.set_ (dv 3)) da_nil) (by rfl) Z.tuple bt_tuple) do_none (do_some (dv 1)))))))
theorem ok__law_common {f : Addr} {fd : FuncData} (F : Fun K "_law_common" "_law_common" s__law_common f fd) (Z : Zs mg)  : FnOk P w K mg base (L2N.CX P w) 1 f fd ["one", "other"] (low K mg 2 sp__law_common) := by
  refine def_ok (N := N__law_common) (ps := ["one", "other"]) F sc__law_common (ls := []) (wb := w__law_common) (fun cdv A outer s H E B hr hB hL tk hp => ?_) vc__law_common
  have nd := sc__law_common.nd
  have hu := hr.u65
  have hu7 := hr.u67
  exact (dss_cons (ds_while hp (dt_cmp (dop_gt hu) (dv 1) de_int) (dss_one (ds_par 0 1 (df_cons (dv 1) (df_cons (de_op dop_mod (dv 0) (dv 1)) df_nil)) (nl hL (by decide)) (nl hL (by decide)) nd)))
      (dss_one (ds_ret (dv 0))))
theorem ok__law_round {f : Addr} {fd : FuncData} (F : Fun K "_law_round" "_law_round" s__law_round f fd) (Z : Zs mg) (c__law_common : Cal P w K mg base 1 "_law_common" 2 sp__law_common) : FnOk P w K mg base (L2N.CX P w) 2 f fd ["clocks"] (low K mg 1 sp__law_round_k03) := by
  refine def_ok (N := N__law_round) (ps := ["clocks"]) F sc__law_round (ls := []) (wb := w__law_round_k03) (fun cdv A outer s H E B hr hB hL tk hp => ?_) vc__law_round_k03
  have nd := sc__law_round.nd
  have hu := hr.u65
  have hu7 := hr.u67
  exact (dss_cons (ds_set 1 de_int (nl hL (by decide)) nd)
      (dss_cons (ds_for hp (di_seq (dv 0)) (dg_tup rfl (dgs_cons (dg_name 2 (nl hL (by decide)) nd) (dgs_cons (dg_name 3 (nl hL (by decide)) nd) dgs_nil))) (dss_one (ds_set 1 (de_op dop_mul (de_op dop_fdiv (dv 1) (de_call c__law_common hr hB tk (dm_cons (dv 1) (dm_cons (dv 2) dm_nil)))) (dv 2)) (nl hL (by decide)) nd)))
      (dss_one (ds_ret (dv 1)))))
theorem ok__law_bounds_right {f : Addr} {fd : FuncData} (F : Fun K "_law_bounds_right" "_law_bounds_right" s__law_bounds_right f fd) (Z : Zs mg) (c_rung_below : Cal P w K mg base 4 "rung_below" 2 sp_rung_below) (c_times_at : Cal P w K mg base 4 "times_at" 2 sp_times_at) : FnOk P w K mg base (L2N.CX P w) 5 f fd ["clocks", "bound"] (low K mg 2 sp__law_bounds_right) := by
  refine def_ok (N := N__law_bounds_right) (ps := ["clocks", "bound"]) F sc__law_bounds_right (ls := []) (wb := w__law_bounds_right) (fun cdv A outer s H E B hr hB hL tk hp => ?_) vc__law_bounds_right
  have nd := sc__law_bounds_right.nd
  have hu := hr.u65
  have hu7 := hr.u67
  exact (dss_cons (ds_set 2 (de_call c_rung_below hr hB tk (dm_cons (dv 0) (dm_cons (dv 1) dm_nil))) (nl hL (by decide)) nd)
      (dss_cons (ds_set 3 (de_call c_rung_below hr hB tk (dm_cons (dv 0) (dm_cons (de_op dop_add (dv 1) de_int) dm_nil))) (nl hL (by decide)) nd)
      (dss_cons (ds_set 4 (de_call c_times_at hr hB tk (dm_cons (dv 0) (dm_cons (dv 1) dm_nil))) (nl hL (by decide)) nd)
      (dss_cons (ds_if ((dw_or (dt_cmp (dop_ne hu) (de_callB (dcl_sum rfl) (da_cons (dv 2) da_nil) (by rfl) Z.sum_ bt_sum) (dv 1)) (dw_or1 (dt_cmp (dop_ne hu) (de_ix (dv 3) (dv 4)) (de_op dop_add (de_ix (dv 2) (dv 4)) de_int))))).dt (dss_one (ds_ret de_bl)) dss_nil)
      (dss_one (ds_ret (de_cmp (dop_eq hu) (de_op dop_add (de_sl (dv 2) do_none (do_some (dv 4))) (de_sl (dv 2) (do_some (de_op dop_add (dv 4) de_int)) do_none)) (de_op dop_add (de_sl (dv 3) do_none (do_some (dv 4))) (de_sl (dv 3) (do_some (de_op dop_add (dv 4) de_int)) do_none)))))))))
theorem ok__law_missed_right {f : Addr} {fd : FuncData} (F : Fun K "_law_missed_right" "_law_missed_right" s__law_missed_right f fd) (Z : Zs mg) (c_nth_missed : Cal P w K mg base 4 "nth_missed" 2 sp_nth_missed) (c_missed_ahead : Cal P w K mg base 4 "missed_ahead" 2 sp_missed_ahead) (c_rings_at : Cal P w K mg base 4 "rings_at" 2 sp_rings_at) (c_rung_below : Cal P w K mg base 4 "rung_below" 2 sp_rung_below) (c_next_missed : Cal P w K mg base 4 "next_missed" 2 sp_next_missed) (c_last_missed : Cal P w K mg base 4 "last_missed" 2 sp_last_missed) : FnOk P w K mg base (L2N.CX P w) 5 f fd ["clocks", "n"] (low K mg 2 sp__law_missed_right_k52) := by
  refine def_ok (N := N__law_missed_right) (ps := ["clocks", "n"]) F sc__law_missed_right (ls := []) (wb := w__law_missed_right_k52) (fun cdv A outer s H E B hr hB hL tk hp => ?_) vc__law_missed_right_k52
  have nd := sc__law_missed_right.nd
  have hu := hr.u65
  have hu7 := hr.u67
  exact (dss_cons (ds_set 2 (de_call c_nth_missed hr hB tk (dm_cons (dv 0) (dm_cons (dv 1) dm_nil))) (nl hL (by decide)) nd)
      (dss_cons (ds_if ((dw_or (dt_cmp (dop_ne hu) (de_call c_missed_ahead hr hB tk (dm_cons (dv 0) (dm_cons (dv 2) dm_nil))) (dv 1)) (dw_or1 (dt_cmp (dop_ne hu) (de_call c_rings_at hr hB tk (dm_cons (dv 0) (dm_cons (dv 2) dm_nil))) (de_lst df_nil))))).dt (dss_one (ds_ret de_bl)) dss_nil)
      (dss_cons (ds_if ((dw_or ((dw_and (dt_cmp (dop_le hu) (dv 2) (de_op dop_pow de_int de_int)) (dw_and1 (dt_cmp (dop_ne hu) (de_ix (de_call c_rung_below hr hB tk (dm_cons (dv 0) (dm_cons (dv 2) dm_nil))) de_int) (dv 1))))).dt (dw_or1 (dt_cmp (dop_ne hu) (de_call c_next_missed hr hB tk (dm_cons (dv 0) (dm_cons (dv 2) dm_nil))) (dv 2))))).dt (dss_one (ds_ret de_bl)) dss_nil)
      (dss_cons (ds_set 3 (de_call c_next_missed hr hB tk (dm_cons (dv 0) (dm_cons (de_op dop_add (dv 2) de_int) dm_nil))) (nl hL (by decide)) nd)
      (dss_cons (ds_if ((dw_or (dt_cmp (dop_ne hu) (dv 3) (de_call c_nth_missed hr hB tk (dm_cons (dv 0) (dm_cons (de_op dop_add (dv 1) de_int) dm_nil)))) (dw_or1 (dt_cmp (dop_ne hu) (de_call c_last_missed hr hB tk (dm_cons (dv 0) (dm_cons (de_op dop_sub (dv 3) de_int) dm_nil))) (dv 2))))).dt (dss_one (ds_ret de_bl)) dss_nil)
      (dss_one (ds_ret (de_callB (dcl_all rfl) (da_cons (de_lc (own := [("one", 4)]) (di_rngL (de_op dop_add (dv 2) de_int) (de_callB (dcl_min rfl) (da_cons (dv 3) (da_cons (de_op dop_add (dv 2) de_int) da_nil)) (by rfl) Z.min_ bt_min) (by rfl) Z.range_) (blkOk_by (N := N__law_missed_right) (sc := defScope s__law_missed_right) (by decide +kernel)) (by decide) (nls hL (by decide)) nd (fun _ _ _ _ _ => (dg_name 4 (nl hL (by decide)) nd)) (fun _ _ _ _ _ => dts_nil) (fun _ _ _ _ _ => (de_cmp (dop_ne hu) (de_call c_rings_at hr hB tk0 (dm_cons (dv 0) (dm_cons (dv 4) dm_nil))) (de_lst df_nil)))) da_nil) (by rfl) Z.all_ bt_all))))))))
theorem ok_law {f : Addr} {fd : FuncData} (F : Fun K "law" "law" s_law f fd) (Z : Zs mg) (c__law_cell_at : Cal P w K mg base 5 "_law_cell_at" 2 sp__law_cell_at) (c__law_pen_of : Cal P w K mg base 5 "_law_pen_of" 1 sp__law_pen_of) (c__law_clocks_by : Cal P w K mg base 5 "_law_clocks_by" 2 sp__law_clocks_by) (c__law_round : Cal P w K mg base 5 "_law_round" 1 sp__law_round_k03) (c_round_of : Cal P w K mg base 5 "round_of" 1 sp_round_of) (c_tally_of : Cal P w K mg base 5 "tally_of" 1 sp_tally_of) (c_rung_below : Cal P w K mg base 5 "rung_below" 2 sp_rung_below) (c__law_draw : Cal P w K mg base 5 "_law_draw" 2 sp__law_draw) (c__law_bounds_right : Cal P w K mg base 5 "_law_bounds_right" 2 sp__law_bounds_right) (c_next_missed : Cal P w K mg base 5 "next_missed" 2 sp_next_missed) (c_rings_at : Cal P w K mg base 5 "rings_at" 2 sp_rings_at) (c_last_missed : Cal P w K mg base 5 "last_missed" 2 sp_last_missed) (c__law_missed_right : Cal P w K mg base 5 "_law_missed_right" 2 sp__law_missed_right_k52) : FnOk P w K mg base (L2N.CX P w) 6 f fd ["script"] (low K mg 1 sp_law_k52) := by
  refine def_ok (N := N_law) (ps := ["script"]) F sc_law (ls := []) (wb := w_law_k52) (fun cdv A outer s H E B hr hB hL tk hp => ?_) vc_law_k52
  have nd := sc_law.nd
  have hu := hr.u65
  have hu7 := hr.u67
  exact (dss_cons (ds_for hp (di_seq (de_op dop_add (de_lst (df_cons (de_call c__law_cell_at hr hB tk (dm_cons (dv 0) (dm_cons de_int dm_nil))) df_nil)) (de_sl (dv 0) (do_some de_int) (do_some de_int)))) (dg_name 1 (nl hL (by decide)) nd) (dss_cons (ds_set 2 (de_call c__law_pen_of hr hB tk (dm_cons (dv 1) dm_nil)) (nl hL (by decide)) nd)
      (dss_cons (ds_set 3 (de_call c__law_clocks_by hr hB tk (dm_lend 2 (dm_cons de_int dm_nil))) (nl hL (by decide)) nd)
      (dss_cons (ds_if (dt_cmp (dop_gt hu) (de_call c__law_round hr hB tk (dm_cons (dv 3) dm_nil)) de_int) (dss_one (ds_set 3 (de_sl (dv 3) do_none (do_some de_int)) (nl hL (by decide)) nd)) dss_nil)
      (dss_cons (ds_set 4 (de_call c_round_of hr hB tk (dm_cons (dv 3) dm_nil)) (nl hL (by decide)) nd)
      (dss_cons (ds_if (dt_cmp (dop_le hu) (dv 4) de_int) (dss_cons (ds_set 5 (de_call c_tally_of hr hB tk (dm_cons (dv 3) dm_nil)) (nl hL (by decide)) nd)
      (dss_cons (ds_setLc 6 (own := [("one", 13)]) (di_seq (dv 5)) (blkOk_by (N := N_law) (sc := defScope s_law) (by decide +kernel)) (by decide) (nls hL (by decide)) (nl hL (by decide)) nd (fun _ _ _ _ _ => (dg_name 13 (nl hL (by decide)) nd)) (fun _ _ _ _ _ => dts_nil) (fun _ _ _ _ _ => (de_op dop_mul de_int (dv 13))))
      (dss_one (ds_if ((dw_or (dt_cmp (dop_ne hu) (de_call c_rung_below hr hB tk (dm_cons (dv 3) (dm_cons (dv 4) dm_nil))) (dv 5)) (dw_or1 (dt_cmp (dop_ne hu) (de_call c_rung_below hr hB tk (dm_cons (dv 3) (dm_cons (de_op dop_mul de_int (dv 4)) dm_nil))) (dv 6))))).dt (dss_one (ds_ret de_bl)) dss_nil)))) dss_nil)
      (dss_cons (ds_for hp (di_seq (de_lst (df_cons de_int (df_cons (de_call c__law_draw hr hB tk (dm_lend 2 (dm_cons de_int dm_nil))) (df_cons (de_call c__law_draw hr hB tk (dm_lend 2 (dm_cons (de_op dop_pow de_int de_int) dm_nil))) df_nil))))) (dg_name 7 (nl hL (by decide)) nd) (dss_one (ds_if (dt_not (dt_val (de_call c__law_bounds_right hr hB tk (dm_cons (dv 3) (dm_cons (dv 7) dm_nil))))) (dss_one (ds_ret de_bl)) dss_nil)))
      (dss_cons (ds_set 8 (de_cmp dop_is (de_call c_next_missed hr hB tk (dm_cons (dv 3) (dm_cons de_int dm_nil))) de_non) (nl hL (by decide)) nd)
      (dss_cons (ds_set 9 (de_op dop_sub (de_call c__law_draw hr hB tk (dm_lend 2 (dm_cons (de_op dop_pow de_int de_int) dm_nil))) (de_call c__law_draw hr hB tk (dm_lend 2 (dm_cons (de_op dop_pow de_int de_int) dm_nil)))) (nl hL (by decide)) nd)
      (dss_cons (ds_set 10 (de_op dop_shl de_int (de_callB dcl_len (da_cons (dv 3) da_nil) (by rfl) Z.len bt_len)) (nl hL (by decide)) nd)
      (dss_cons (ds_setLc 11 (own := [("turn", 14)]) (di_rng1 (dv 10) (by rfl) Z.range_) (blkOk_by (N := N_law) (sc := defScope s_law) (by decide +kernel)) (by decide) (nls hL (by decide)) (nl hL (by decide)) nd (fun _ _ _ _ _ => (dg_name 14 (nl hL (by decide)) nd)) (fun _ _ _ _ _ => dts_nil) (fun _ _ _ _ _ => (de_cmp (dop_ne hu) (de_call c_rings_at hr hB tk0 (dm_cons (dv 3) (dm_cons (de_op dop_add (dv 9) (dv 14)) dm_nil))) (de_lst df_nil))))
      (dss_cons (ds_if (dt_cmp (dop_ne hu) (de_callB (dcl_all rfl) (da_cons (dv 11) da_nil) (by rfl) Z.all_ bt_all) (dv 8)) (dss_one (ds_ret de_bl)) dss_nil)
      (dss_cons (ds_if ((dw_and (dt_val (dv 8)) (dw_and1 ((dw_or (dt_cmp dop_isNot (de_call c_last_missed hr hB tk (dm_cons (dv 3) (dm_cons (dv 9) dm_nil))) de_non) (dw_or1 (dt_cmp (dop_ne hu) (de_ix (de_call c_rung_below hr hB tk (dm_cons (dv 3) (dm_cons (dv 4) dm_nil))) de_int) de_int)))).dt))).dt (dss_one (ds_ret de_bl)) dss_nil)
      (dss_cons (ds_set 12 (de_call c__law_draw hr hB tk (dm_lend 2 (dm_cons (de_op dop_pow de_int de_int) dm_nil))) (nl hL (by decide)) nd)
      (dss_one (ds_if ((dw_and (dt_not (dt_val (dv 8))) (dw_and1 (dt_not ((dw_and (dt_val (de_call c__law_missed_right hr hB tk (dm_cons (dv 3) (dm_cons de_int dm_nil)))) (dw_and1 (dt_val (de_call c__law_missed_right hr hB tk (dm_cons (dv 3) (dm_cons (dv 12) dm_nil))))))).dt)))).dt (dss_one (ds_ret de_bl)) dss_nil))))))))))))))))
      (dss_one (ds_ret de_bl)))
end
theorem all_mk {l : PySem.W.OpenLaw} {w : World} {K : PySem.W.Frag} {h : Heap} {mg : Str → Option Value} {fa f1 f2 f3 f4 f5 f6 f7 f8 f9 f10 f11 f12 f13 f14 f15 f16 f17 f18 f19 f20 f21 f22 f23 f24 f25 f26 f27 f28 f29 f30 f31 f32 f33 f34 : Addr} (X : K.In h) (G : h.Ns mainGlobals mg) (hfa : mg "law" = some (.ref fa))
    {od1 an1 od2 an2 od3 an3 od4 an4 od5 an5 od6 an6 od7 an7 od8 an8 od9 an9 od10 an10 od11 an11 od12 an12 od13 an13 od14 an14 od15 an15 od16 an16 od17 an17 od18 an18 od19 an19 od20 an20 od21 an21 od22 an22 od23 an23 od24 an24 od25 an25 od26 an26 od27 an27 od28 an28 od29 an29 od30 an30 od31 an31 od32 an32 od33 an33 od34 an34 : Option Addr} {sl1 sl2 sl3 sl4 sl5 sl6 sl7 sl8 sl9 sl10 sl11 sl12 sl13 sl14 sl15 sl16 sl17 sl18 sl19 sl20 sl21 sl22 sl23 sl24 sl25 sl26 sl27 sl28 sl29 sl30 sl31 sl32 sl33 sl34 : Array (Option Value)} {oc1 kV1 dc1 pm1 cd1 ct1 oc2 kV2 dc2 pm2 cd2 ct2 oc3 kV3 dc3 pm3 cd3 ct3 oc4 kV4 dc4 pm4 cd4 ct4 oc5 kV5 dc5 pm5 cd5 ct5 oc6 kV6 dc6 pm6 cd6 ct6 oc7 kV7 dc7 pm7 cd7 ct7 oc8 kV8 dc8 pm8 cd8 ct8 oc9 kV9 dc9 pm9 cd9 ct9 oc10 kV10 dc10 pm10 cd10 ct10 oc11 kV11 dc11 pm11 cd11 ct11 oc12 kV12 dc12 pm12 cd12 ct12 oc13 kV13 dc13 pm13 cd13 ct13 oc14 kV14 dc14 pm14 cd14 ct14 oc15 kV15 dc15 pm15 cd15 ct15 oc16 kV16 dc16 pm16 cd16 ct16 oc17 kV17 dc17 pm17 cd17 ct17 oc18 kV18 dc18 pm18 cd18 ct18 oc19 kV19 dc19 pm19 cd19 ct19 oc20 kV20 dc20 pm20 cd20 ct20 oc21 kV21 dc21 pm21 cd21 ct21 oc22 kV22 dc22 pm22 cd22 ct22 oc23 kV23 dc23 pm23 cd23 ct23 oc24 kV24 dc24 pm24 cd24 ct24 oc25 kV25 dc25 pm25 cd25 ct25 oc26 kV26 dc26 pm26 cd26 ct26 oc27 kV27 dc27 pm27 cd27 ct27 oc28 kV28 dc28 pm28 cd28 ct28 oc29 kV29 dc29 pm29 cd29 ct29 oc30 kV30 dc30 pm30 cd30 ct30 oc31 kV31 dc31 pm31 cd31 ct31 oc32 kV32 dc32 pm32 cd32 ct32 oc33 kV33 dc33 pm33 cd33 ct33 oc34 kV34 dc34 pm34 cd34 ct34 : Value}
    (a1 : PySem.W.nsIn K mainGlobals "is_whole" = some (some (.ref f1))) (l1 : K.lookup f1 = some ⟨oc1, od1, .func (PySem.W.fnOf "is_whole" "is_whole" (defArgs s_is_whole) (defBody s_is_whole) (defScope s_is_whole) .none kV1 dc1 pm1 an1 cd1 ct1), sl1⟩) (c1 : PySem.W.codeIn K cd1 "is_whole" = true) (k1 : PySem.W.keepIn K (.ref f1) = true)
    (a2 : PySem.W.nsIn K mainGlobals "rings" = some (some (.ref f2))) (l2 : K.lookup f2 = some ⟨oc2, od2, .func (PySem.W.fnOf "rings" "rings" (defArgs s_rings) (defBody s_rings) (defScope s_rings) .none kV2 dc2 pm2 an2 cd2 ct2), sl2⟩) (c2 : PySem.W.codeIn K cd2 "rings" = true) (k2 : PySem.W.keepIn K (.ref f2) = true)
    (a3 : PySem.W.nsIn K mainGlobals "rings_at" = some (some (.ref f3))) (l3 : K.lookup f3 = some ⟨oc3, od3, .func (PySem.W.fnOf "rings_at" "rings_at" (defArgs s_rings_at) (defBody s_rings_at) (defScope s_rings_at) .none kV3 dc3 pm3 an3 cd3 ct3), sl3⟩) (c3 : PySem.W.codeIn K cd3 "rings_at" = true) (k3 : PySem.W.keepIn K (.ref f3) = true)
    (a4 : PySem.W.nsIn K mainGlobals "divisor_of" = some (some (.ref f4))) (l4 : K.lookup f4 = some ⟨oc4, od4, .func (PySem.W.fnOf "divisor_of" "divisor_of" (defArgs s_divisor_of) (defBody s_divisor_of) (defScope s_divisor_of) .none kV4 dc4 pm4 an4 cd4 ct4), sl4⟩) (c4 : PySem.W.codeIn K cd4 "divisor_of" = true) (k4 : PySem.W.keepIn K (.ref f4) = true)
    (a5 : PySem.W.nsIn K mainGlobals "round_of" = some (some (.ref f5))) (l5 : K.lookup f5 = some ⟨oc5, od5, .func (PySem.W.fnOf "round_of" "round_of" (defArgs s_round_of) (defBody s_round_of) (defScope s_round_of) .none kV5 dc5 pm5 an5 cd5 ct5), sl5⟩) (c5 : PySem.W.codeIn K cd5 "round_of" = true) (k5 : PySem.W.keepIn K (.ref f5) = true)
    (a6 : PySem.W.nsIn K mainGlobals "check_round" = some (some (.ref f6))) (l6 : K.lookup f6 = some ⟨oc6, od6, .func (PySem.W.fnOf "check_round" "check_round" (defArgs s_check_round) (defBody s_check_round) (defScope s_check_round) .none kV6 dc6 pm6 an6 cd6 ct6), sl6⟩) (c6 : PySem.W.codeIn K cd6 "check_round" = true) (k6 : PySem.W.keepIn K (.ref f6) = true)
    (a7 : PySem.W.nsIn K mainGlobals "back_of" = some (some (.ref f7))) (l7 : K.lookup f7 = some ⟨oc7, od7, .func (PySem.W.fnOf "back_of" "back_of" (defArgs s_back_of) (defBody s_back_of) (defScope s_back_of) .none kV7 dc7 pm7 an7 cd7 ct7), sl7⟩) (c7 : PySem.W.codeIn K cd7 "back_of" = true) (k7 : PySem.W.keepIn K (.ref f7) = true)
    (a8 : PySem.W.nsIn K mainGlobals "meet_of" = some (some (.ref f8))) (l8 : K.lookup f8 = some ⟨oc8, od8, .func (PySem.W.fnOf "meet_of" "meet_of" (defArgs s_meet_of) (defBody s_meet_of) (defScope s_meet_of) .none kV8 dc8 pm8 an8 cd8 ct8), sl8⟩) (c8 : PySem.W.codeIn K cd8 "meet_of" = true) (k8 : PySem.W.keepIn K (.ref f8) = true)
    (a9 : PySem.W.nsIn K mainGlobals "check_few" = some (some (.ref f9))) (l9 : K.lookup f9 = some ⟨oc9, od9, .func (PySem.W.fnOf "check_few" "check_few" (defArgs s_check_few) (defBody s_check_few) (defScope s_check_few) .none kV9 dc9 pm9 an9 cd9 ct9), sl9⟩) (c9 : PySem.W.codeIn K cd9 "check_few" = true) (k9 : PySem.W.keepIn K (.ref f9) = true)
    (a10 : PySem.W.nsIn K mainGlobals "met_lists" = some (some (.ref f10))) (l10 : K.lookup f10 = some ⟨oc10, od10, .func (PySem.W.fnOf "met_lists" "met_lists" (defArgs s_met_lists) (defBody s_met_lists) (defScope s_met_lists) .none kV10 dc10 pm10 an10 cd10 ct10), sl10⟩) (c10 : PySem.W.codeIn K cd10 "met_lists" = true) (k10 : PySem.W.keepIn K (.ref f10) = true)
    (a11 : PySem.W.nsIn K mainGlobals "rung_times" = some (some (.ref f11))) (l11 : K.lookup f11 = some ⟨oc11, od11, .func (PySem.W.fnOf "rung_times" "rung_times" (defArgs s_rung_times) (defBody s_rung_times) (defScope s_rung_times) .none kV11 dc11 pm11 an11 cd11 ct11), sl11⟩) (c11 : PySem.W.codeIn K cd11 "rung_times" = true) (k11 : PySem.W.keepIn K (.ref f11) = true)
    (a12 : PySem.W.nsIn K mainGlobals "choose" = some (some (.ref f12))) (l12 : K.lookup f12 = some ⟨oc12, od12, .func (PySem.W.fnOf "choose" "choose" (defArgs s_choose) (defBody s_choose) (defScope s_choose) .none kV12 dc12 pm12 an12 cd12 ct12), sl12⟩) (c12 : PySem.W.codeIn K cd12 "choose" = true) (k12 : PySem.W.keepIn K (.ref f12) = true)
    (a13 : PySem.W.nsIn K mainGlobals "counts_below" = some (some (.ref f13))) (l13 : K.lookup f13 = some ⟨oc13, od13, .func (PySem.W.fnOf "counts_below" "counts_below" (defArgs s_counts_below) (defBody s_counts_below) (defScope s_counts_below) .none kV13 dc13 pm13 an13 cd13 ct13), sl13⟩) (c13 : PySem.W.codeIn K cd13 "counts_below" = true) (k13 : PySem.W.keepIn K (.ref f13) = true)
    (a14 : PySem.W.nsIn K mainGlobals "rung_below" = some (some (.ref f14))) (l14 : K.lookup f14 = some ⟨oc14, od14, .func (PySem.W.fnOf "rung_below" "rung_below" (defArgs s_rung_below) (defBody s_rung_below) (defScope s_rung_below) .none kV14 dc14 pm14 an14 cd14 ct14), sl14⟩) (c14 : PySem.W.codeIn K cd14 "rung_below" = true) (k14 : PySem.W.keepIn K (.ref f14) = true)
    (a15 : PySem.W.nsIn K mainGlobals "missed_below" = some (some (.ref f15))) (l15 : K.lookup f15 = some ⟨oc15, od15, .func (PySem.W.fnOf "missed_below" "missed_below" (defArgs s_missed_below) (defBody s_missed_below) (defScope s_missed_below) .none kV15 dc15 pm15 an15 cd15 ct15), sl15⟩) (c15 : PySem.W.codeIn K cd15 "missed_below" = true) (k15 : PySem.W.keepIn K (.ref f15) = true)
    (a16 : PySem.W.nsIn K mainGlobals "nth_of" = some (some (.ref f16))) (l16 : K.lookup f16 = some ⟨oc16, od16, .func (PySem.W.fnOf "nth_of" "nth_of" (defArgs s_nth_of) (defBody s_nth_of) (defScope s_nth_of) .none kV16 dc16 pm16 an16 cd16 ct16), sl16⟩) (c16 : PySem.W.codeIn K cd16 "nth_of" = true) (k16 : PySem.W.keepIn K (.ref f16) = true)
    (a17 : PySem.W.nsIn K mainGlobals "nth_missed" = some (some (.ref f17))) (l17 : K.lookup f17 = some ⟨oc17, od17, .func (PySem.W.fnOf "nth_missed" "nth_missed" (defArgs s_nth_missed) (defBody s_nth_missed) (defScope s_nth_missed) .none kV17 dc17 pm17 an17 cd17 ct17), sl17⟩) (c17 : PySem.W.codeIn K cd17 "nth_missed" = true) (k17 : PySem.W.keepIn K (.ref f17) = true)
    (a18 : PySem.W.nsIn K mainGlobals "missed_ahead" = some (some (.ref f18))) (l18 : K.lookup f18 = some ⟨oc18, od18, .func (PySem.W.fnOf "missed_ahead" "missed_ahead" (defArgs s_missed_ahead) (defBody s_missed_ahead) (defScope s_missed_ahead) .none kV18 dc18 pm18 an18 cd18 ct18), sl18⟩) (c18 : PySem.W.codeIn K cd18 "missed_ahead" = true) (k18 : PySem.W.keepIn K (.ref f18) = true)
    (a19 : PySem.W.nsIn K mainGlobals "next_missed" = some (some (.ref f19))) (l19 : K.lookup f19 = some ⟨oc19, od19, .func (PySem.W.fnOf "next_missed" "next_missed" (defArgs s_next_missed) (defBody s_next_missed) (defScope s_next_missed) .none kV19 dc19 pm19 an19 cd19 ct19), sl19⟩) (c19 : PySem.W.codeIn K cd19 "next_missed" = true) (k19 : PySem.W.keepIn K (.ref f19) = true)
    (a20 : PySem.W.nsIn K mainGlobals "last_missed" = some (some (.ref f20))) (l20 : K.lookup f20 = some ⟨oc20, od20, .func (PySem.W.fnOf "last_missed" "last_missed" (defArgs s_last_missed) (defBody s_last_missed) (defScope s_last_missed) .none kV20 dc20 pm20 an20 cd20 ct20), sl20⟩) (c20 : PySem.W.codeIn K cd20 "last_missed" = true) (k20 : PySem.W.keepIn K (.ref f20) = true)
    (a21 : PySem.W.nsIn K mainGlobals "times_at" = some (some (.ref f21))) (l21 : K.lookup f21 = some ⟨oc21, od21, .func (PySem.W.fnOf "times_at" "times_at" (defArgs s_times_at) (defBody s_times_at) (defScope s_times_at) .none kV21 dc21 pm21 an21 cd21 ct21), sl21⟩) (c21 : PySem.W.codeIn K cd21 "times_at" = true) (k21 : PySem.W.keepIn K (.ref f21) = true)
    (a22 : PySem.W.nsIn K mainGlobals "tally_of" = some (some (.ref f22))) (l22 : K.lookup f22 = some ⟨oc22, od22, .func (PySem.W.fnOf "tally_of" "tally_of" (defArgs s_tally_of) (defBody s_tally_of) (defScope s_tally_of) .none kV22 dc22 pm22 an22 cd22 ct22), sl22⟩) (c22 : PySem.W.codeIn K cd22 "tally_of" = true) (k22 : PySem.W.keepIn K (.ref f22) = true)
    (a23 : PySem.W.nsIn K mainGlobals "_law_cell_at" = some (some (.ref f23))) (l23 : K.lookup f23 = some ⟨oc23, od23, .func (PySem.W.fnOf "_law_cell_at" "_law_cell_at" (defArgs s__law_cell_at) (defBody s__law_cell_at) (defScope s__law_cell_at) .none kV23 dc23 pm23 an23 cd23 ct23), sl23⟩) (c23 : PySem.W.codeIn K cd23 "_law_cell_at" = true) (k23 : PySem.W.keepIn K (.ref f23) = true)
    (a24 : PySem.W.nsIn K mainGlobals "_law_next" = some (some (.ref f24))) (l24 : K.lookup f24 = some ⟨oc24, od24, .func (PySem.W.fnOf "_law_next" "_law_next" (defArgs s__law_next) (defBody s__law_next) (defScope s__law_next) .none kV24 dc24 pm24 an24 cd24 ct24), sl24⟩) (c24 : PySem.W.codeIn K cd24 "_law_next" = true) (k24 : PySem.W.keepIn K (.ref f24) = true)
    (a25 : PySem.W.nsIn K mainGlobals "_law_pen_of" = some (some (.ref f25))) (l25 : K.lookup f25 = some ⟨oc25, od25, .func (PySem.W.fnOf "_law_pen_of" "_law_pen_of" (defArgs s__law_pen_of) (defBody s__law_pen_of) (defScope s__law_pen_of) .none kV25 dc25 pm25 an25 cd25 ct25), sl25⟩) (c25 : PySem.W.codeIn K cd25 "_law_pen_of" = true) (k25 : PySem.W.keepIn K (.ref f25) = true)
    (a26 : PySem.W.nsIn K mainGlobals "_law_draw" = some (some (.ref f26))) (l26 : K.lookup f26 = some ⟨oc26, od26, .func (PySem.W.fnOf "_law_draw" "_law_draw" (defArgs s__law_draw) (defBody s__law_draw) (defScope s__law_draw) .none kV26 dc26 pm26 an26 cd26 ct26), sl26⟩) (c26 : PySem.W.codeIn K cd26 "_law_draw" = true) (k26 : PySem.W.keepIn K (.ref f26) = true)
    (a27 : PySem.W.nsIn K mainGlobals "_law_clock_by" = some (some (.ref f27))) (l27 : K.lookup f27 = some ⟨oc27, od27, .func (PySem.W.fnOf "_law_clock_by" "_law_clock_by" (defArgs s__law_clock_by) (defBody s__law_clock_by) (defScope s__law_clock_by) .none kV27 dc27 pm27 an27 cd27 ct27), sl27⟩) (c27 : PySem.W.codeIn K cd27 "_law_clock_by" = true) (k27 : PySem.W.keepIn K (.ref f27) = true)
    (a28 : PySem.W.nsIn K mainGlobals "_law_parts_by" = some (some (.ref f28))) (l28 : K.lookup f28 = some ⟨oc28, od28, .func (PySem.W.fnOf "_law_parts_by" "_law_parts_by" (defArgs s__law_parts_by) (defBody s__law_parts_by) (defScope s__law_parts_by) .none kV28 dc28 pm28 an28 cd28 ct28), sl28⟩) (c28 : PySem.W.codeIn K cd28 "_law_parts_by" = true) (k28 : PySem.W.keepIn K (.ref f28) = true)
    (a29 : PySem.W.nsIn K mainGlobals "_law_clocks_by" = some (some (.ref f29))) (l29 : K.lookup f29 = some ⟨oc29, od29, .func (PySem.W.fnOf "_law_clocks_by" "_law_clocks_by" (defArgs s__law_clocks_by) (defBody s__law_clocks_by) (defScope s__law_clocks_by) .none kV29 dc29 pm29 an29 cd29 ct29), sl29⟩) (c29 : PySem.W.codeIn K cd29 "_law_clocks_by" = true) (k29 : PySem.W.keepIn K (.ref f29) = true)
    (a30 : PySem.W.nsIn K mainGlobals "_law_common" = some (some (.ref f30))) (l30 : K.lookup f30 = some ⟨oc30, od30, .func (PySem.W.fnOf "_law_common" "_law_common" (defArgs s__law_common) (defBody s__law_common) (defScope s__law_common) .none kV30 dc30 pm30 an30 cd30 ct30), sl30⟩) (c30 : PySem.W.codeIn K cd30 "_law_common" = true) (k30 : PySem.W.keepIn K (.ref f30) = true)
    (a31 : PySem.W.nsIn K mainGlobals "_law_round" = some (some (.ref f31))) (l31 : K.lookup f31 = some ⟨oc31, od31, .func (PySem.W.fnOf "_law_round" "_law_round" (defArgs s__law_round) (defBody s__law_round) (defScope s__law_round) .none kV31 dc31 pm31 an31 cd31 ct31), sl31⟩) (c31 : PySem.W.codeIn K cd31 "_law_round" = true) (k31 : PySem.W.keepIn K (.ref f31) = true)
    (a32 : PySem.W.nsIn K mainGlobals "_law_bounds_right" = some (some (.ref f32))) (l32 : K.lookup f32 = some ⟨oc32, od32, .func (PySem.W.fnOf "_law_bounds_right" "_law_bounds_right" (defArgs s__law_bounds_right) (defBody s__law_bounds_right) (defScope s__law_bounds_right) .none kV32 dc32 pm32 an32 cd32 ct32), sl32⟩) (c32 : PySem.W.codeIn K cd32 "_law_bounds_right" = true) (k32 : PySem.W.keepIn K (.ref f32) = true)
    (a33 : PySem.W.nsIn K mainGlobals "_law_missed_right" = some (some (.ref f33))) (l33 : K.lookup f33 = some ⟨oc33, od33, .func (PySem.W.fnOf "_law_missed_right" "_law_missed_right" (defArgs s__law_missed_right) (defBody s__law_missed_right) (defScope s__law_missed_right) .none kV33 dc33 pm33 an33 cd33 ct33), sl33⟩) (c33 : PySem.W.codeIn K cd33 "_law_missed_right" = true) (k33 : PySem.W.keepIn K (.ref f33) = true)
    (a34 : PySem.W.nsIn K mainGlobals "law" = some (some (.ref f34))) (l34 : K.lookup f34 = some ⟨oc34, od34, .func (PySem.W.fnOf "law" "law" (defArgs s_law) (defBody s_law) (defScope s_law) .none kV34 dc34 pm34 an34 cd34 ct34), sl34⟩) (c34 : PySem.W.codeIn K cd34 "law" = true) (k34 : PySem.W.keepIn K (.ref f34) = true)
    (z1 : PySem.W.nsIn K mainGlobals "all" = some none)
    (z2 : PySem.W.nsIn K mainGlobals "bool" = some none)
    (z3 : PySem.W.nsIn K mainGlobals "enumerate" = some none)
    (z4 : PySem.W.nsIn K mainGlobals "int" = some none)
    (z5 : PySem.W.nsIn K mainGlobals "isinstance" = some none)
    (z6 : PySem.W.nsIn K mainGlobals "len" = some none)
    (z7 : PySem.W.nsIn K mainGlobals "max" = some none)
    (z8 : PySem.W.nsIn K mainGlobals "min" = some none)
    (z9 : PySem.W.nsIn K mainGlobals "range" = some none)
    (z10 : PySem.W.nsIn K mainGlobals "set" = some none)
    (z11 : PySem.W.nsIn K mainGlobals "sorted" = some none)
    (z12 : PySem.W.nsIn K mainGlobals "sum" = some none)
    (z13 : PySem.W.nsIn K mainGlobals "tuple" = some none)
    {tq1 : Tok} (q1 : PySem.W.nsIn K mainGlobals "MOST_FAR" = some (some (.int 10 tq1)))
    {tq2 : Tok} (q2 : PySem.W.nsIn K mainGlobals "MOST_ROUND" = some (some (.int 10000 tq2)))
    : ∃ fd : FuncData, (∀ (s : Shared) (v : Value), BindsTo s fd ⟨[v], []⟩ [("script", v)]) ∧ ∀ base : Heap, K.In base → base.Ns mainGlobals mg → FnOk l.prog w K mg base (L2N.CX l.prog w) 6 fa fd ["script"] (spTop K) := by
  have e := hfa.symm.trans (PySem.W.mg_of X G a34)
  cases e
  have Z : Zs mg := ⟨PySem.W.mg_none_of X G z1, PySem.W.mg_none_of X G z2, PySem.W.mg_none_of X G z3, PySem.W.mg_none_of X G z4, PySem.W.mg_none_of X G z5, PySem.W.mg_none_of X G z6, PySem.W.mg_none_of X G z7, PySem.W.mg_none_of X G z8, PySem.W.mg_none_of X G z9, PySem.W.mg_none_of X G z10, PySem.W.mg_none_of X G z11, PySem.W.mg_none_of X G z12, PySem.W.mg_none_of X G z13⟩
  have F1 := fun_mk (st := s_is_whole) l1 c1 k1
  have F2 := fun_mk (st := s_rings) l2 c2 k2
  have F3 := fun_mk (st := s_rings_at) l3 c3 k3
  have F4 := fun_mk (st := s_divisor_of) l4 c4 k4
  have F5 := fun_mk (st := s_round_of) l5 c5 k5
  have F6 := fun_mk (st := s_check_round) l6 c6 k6
  have F7 := fun_mk (st := s_back_of) l7 c7 k7
  have F8 := fun_mk (st := s_meet_of) l8 c8 k8
  have F9 := fun_mk (st := s_check_few) l9 c9 k9
  have F10 := fun_mk (st := s_met_lists) l10 c10 k10
  have F11 := fun_mk (st := s_rung_times) l11 c11 k11
  have F12 := fun_mk (st := s_choose) l12 c12 k12
  have F13 := fun_mk (st := s_counts_below) l13 c13 k13
  have F14 := fun_mk (st := s_rung_below) l14 c14 k14
  have F15 := fun_mk (st := s_missed_below) l15 c15 k15
  have F16 := fun_mk (st := s_nth_of) l16 c16 k16
  have F17 := fun_mk (st := s_nth_missed) l17 c17 k17
  have F18 := fun_mk (st := s_missed_ahead) l18 c18 k18
  have F19 := fun_mk (st := s_next_missed) l19 c19 k19
  have F20 := fun_mk (st := s_last_missed) l20 c20 k20
  have F21 := fun_mk (st := s_times_at) l21 c21 k21
  have F22 := fun_mk (st := s_tally_of) l22 c22 k22
  have F23 := fun_mk (st := s__law_cell_at) l23 c23 k23
  have F24 := fun_mk (st := s__law_next) l24 c24 k24
  have F25 := fun_mk (st := s__law_pen_of) l25 c25 k25
  have F26 := fun_mk (st := s__law_draw) l26 c26 k26
  have F27 := fun_mk (st := s__law_clock_by) l27 c27 k27
  have F28 := fun_mk (st := s__law_parts_by) l28 c28 k28
  have F29 := fun_mk (st := s__law_clocks_by) l29 c29 k29
  have F30 := fun_mk (st := s__law_common) l30 c30 k30
  have F31 := fun_mk (st := s__law_round) l31 c31 k31
  have F32 := fun_mk (st := s__law_bounds_right) l32 c32 k32
  have F33 := fun_mk (st := s__law_missed_right) l33 c33 k33
  have F34 := fun_mk (st := s_law) l34 c34 k34
  refine ⟨PySem.W.fnOf "law" "law" (defArgs s_law) (defBody s_law) (defScope s_law) .none kV34 dc34 pm34 an34 cd34 ct34, fun s v => .of_eq rfl, fun base _ _ => ?_⟩
  have b1 := F1.binds (ps := ["thing"]) fun _ _ _ _ _ _ us hl => match us, hl with | [_], _ => rfl
  have x_is_whole : Cal l.prog w K mg base 1 "is_whole" 1 sp_is_whole := cal_of F1 (PySem.W.mg_of X G a1) b1 (ok_is_whole F1 Z )
  have b2 := F2.binds (ps := ["clock", "number"]) fun _ _ _ _ _ _ us hl => match us, hl with | [_, _], _ => rfl
  have x_rings : Cal l.prog w K mg base 1 "rings" 2 sp_rings := cal_of F2 (PySem.W.mg_of X G a2) b2 (ok_rings F2 Z )
  have b3 := F3.binds (ps := ["clocks", "number"]) fun _ _ _ _ _ _ us hl => match us, hl with | [_, _], _ => rfl
  have x_rings_at : Cal l.prog w K mg base 2 "rings_at" 2 sp_rings_at := cal_of F3 (PySem.W.mg_of X G a3) b3 (ok_rings_at F3 Z (x_rings.mono (by decide)))
  have b4 := F4.binds (ps := ["one", "other"]) fun _ _ _ _ _ _ us hl => match us, hl with | [_, _], _ => rfl
  have x_divisor_of : Cal l.prog w K mg base 1 "divisor_of" 2 sp_divisor_of := cal_of F4 (PySem.W.mg_of X G a4) b4 (ok_divisor_of F4 Z )
  have b5 := F5.binds (ps := ["clocks"]) fun _ _ _ _ _ _ us hl => match us, hl with | [_], _ => rfl
  have x_round_of : Cal l.prog w K mg base 2 "round_of" 1 sp_round_of := cal_of F5 (PySem.W.mg_of X G a5) b5 (ok_round_of F5 Z (x_divisor_of.mono (by decide)))
  have b6 := F6.binds (ps := ["clocks"]) fun _ _ _ _ _ _ us hl => match us, hl with | [_], _ => rfl
  have x_check_round : Cal l.prog w K mg base 3 "check_round" 1 sp_check_round := cal_of F6 (PySem.W.mg_of X G a6) b6 (ok_check_round F6 Z (x_round_of.mono (by decide)) ⟨_, PySem.W.mg_of X G q2⟩)
  have b7 := F7.binds (ps := ["one", "other"]) fun _ _ _ _ _ _ us hl => match us, hl with | [_, _], _ => rfl
  have x_back_of : Cal l.prog w K mg base 1 "back_of" 2 sp_back_of := cal_of F7 (PySem.W.mg_of X G a7) b7 (ok_back_of F7 Z )
  have b8 := F8.binds (ps := ["one", "other"]) fun _ _ _ _ _ _ us hl => match us, hl with | [_, _], _ => rfl
  have x_meet_of : Cal l.prog w K mg base 2 "meet_of" 2 sp_meet_of := cal_of F8 (PySem.W.mg_of X G a8) b8 (ok_meet_of F8 Z (x_divisor_of.mono (by decide)) (x_back_of.mono (by decide)))
  have b9 := F9.binds (ps := ["clocks"]) fun _ _ _ _ _ _ us hl => match us, hl with | [_], _ => rfl
  have x_check_few : Cal l.prog w K mg base 1 "check_few" 1 sp_check_few := cal_of F9 (PySem.W.mg_of X G a9) b9 (ok_check_few F9 Z ⟨_, PySem.W.mg_of X G q1⟩)
  have b10 := F10.binds (ps := ["clocks"]) fun _ _ _ _ _ _ us hl => match us, hl with | [_], _ => rfl
  have x_met_lists : Cal l.prog w K mg base 3 "met_lists" 1 sp_met_lists := cal_of F10 (PySem.W.mg_of X G a10) b10 (ok_met_lists F10 Z (x_meet_of.mono (by decide)))
  have b11 := F11.binds (ps := ["clock", "bound"]) fun _ _ _ _ _ _ us hl => match us, hl with | [_, _], _ => rfl
  have x_rung_times : Cal l.prog w K mg base 1 "rung_times" 2 sp_rung_times := cal_of F11 (PySem.W.mg_of X G a11) b11 (ok_rung_times F11 Z )
  have b12 := F12.binds (ps := ["many", "few"]) fun _ _ _ _ _ _ us hl => match us, hl with | [_, _], _ => rfl
  have x_choose : Cal l.prog w K mg base 1 "choose" 2 sp_choose := cal_of F12 (PySem.W.mg_of X G a12) b12 (ok_choose F12 Z )
  have b13 := F13.binds (ps := ["lists", "bound"]) fun _ _ _ _ _ _ us hl => match us, hl with | [_, _], _ => rfl
  have x_counts_below : Cal l.prog w K mg base 2 "counts_below" 2 sp_counts_below := cal_of F13 (PySem.W.mg_of X G a13) b13 (ok_counts_below F13 Z (x_rung_times.mono (by decide)) (x_choose.mono (by decide)))
  have b14 := F14.binds (ps := ["clocks", "bound"]) fun _ _ _ _ _ _ us hl => match us, hl with | [_, _], _ => rfl
  have x_rung_below : Cal l.prog w K mg base 4 "rung_below" 2 sp_rung_below := cal_of F14 (PySem.W.mg_of X G a14) b14 (ok_rung_below F14 Z (x_check_few.mono (by decide)) (x_met_lists.mono (by decide)) (x_counts_below.mono (by decide)))
  have b15 := F15.binds (ps := ["lists", "bound"]) fun _ _ _ _ _ _ us hl => match us, hl with | [_, _], _ => rfl
  have x_missed_below : Cal l.prog w K mg base 2 "missed_below" 2 sp_missed_below := cal_of F15 (PySem.W.mg_of X G a15) b15 (ok_missed_below F15 Z (x_rung_times.mono (by decide)))
  have b16 := F16.binds (ps := ["clocks", "lists", "n"]) fun _ _ _ _ _ _ us hl => match us, hl with | [_, _, _], _ => rfl
  have x_nth_of : Cal l.prog w K mg base 3 "nth_of" 3 sp_nth_of := cal_of F16 (PySem.W.mg_of X G a16) b16 (ok_nth_of F16 Z (x_round_of.mono (by decide)) (x_missed_below.mono (by decide)))
  have b17 := F17.binds (ps := ["clocks", "n"]) fun _ _ _ _ _ _ us hl => match us, hl with | [_, _], _ => rfl
  have x_nth_missed : Cal l.prog w K mg base 4 "nth_missed" 2 sp_nth_missed := cal_of F17 (PySem.W.mg_of X G a17) b17 (ok_nth_missed F17 Z (x_check_few.mono (by decide)) (x_met_lists.mono (by decide)) (x_round_of.mono (by decide)) (x_missed_below.mono (by decide)) (x_nth_of.mono (by decide)))
  have b18 := F18.binds (ps := ["clocks", "number"]) fun _ _ _ _ _ _ us hl => match us, hl with | [_, _], _ => rfl
  have x_missed_ahead : Cal l.prog w K mg base 4 "missed_ahead" 2 sp_missed_ahead := cal_of F18 (PySem.W.mg_of X G a18) b18 (ok_missed_ahead F18 Z (x_check_few.mono (by decide)) (x_is_whole.mono (by decide)) (x_rings_at.mono (by decide)) (x_met_lists.mono (by decide)) (x_missed_below.mono (by decide)))
  have b19 := F19.binds (ps := ["clocks", "number"]) fun _ _ _ _ _ _ us hl => match us, hl with | [_, _], _ => rfl
  have x_next_missed : Cal l.prog w K mg base 4 "next_missed" 2 sp_next_missed := cal_of F19 (PySem.W.mg_of X G a19) b19 (ok_next_missed F19 Z (x_check_few.mono (by decide)) (x_met_lists.mono (by decide)) (x_round_of.mono (by decide)) (x_missed_below.mono (by decide)) (x_nth_of.mono (by decide)))
  have b20 := F20.binds (ps := ["clocks", "number"]) fun _ _ _ _ _ _ us hl => match us, hl with | [_, _], _ => rfl
  have x_last_missed : Cal l.prog w K mg base 4 "last_missed" 2 sp_last_missed := cal_of F20 (PySem.W.mg_of X G a20) b20 (ok_last_missed F20 Z (x_check_few.mono (by decide)) (x_met_lists.mono (by decide)) (x_round_of.mono (by decide)) (x_missed_below.mono (by decide)) (x_nth_of.mono (by decide)))
  have b21 := F21.binds (ps := ["clocks", "number"]) fun _ _ _ _ _ _ us hl => match us, hl with | [_, _], _ => rfl
  have x_times_at : Cal l.prog w K mg base 3 "times_at" 2 sp_times_at := cal_of F21 (PySem.W.mg_of X G a21) b21 (ok_times_at F21 Z (x_rings_at.mono (by decide)))
  have b22 := F22.binds (ps := ["clocks"]) fun _ _ _ _ _ _ us hl => match us, hl with | [_], _ => rfl
  have x_tally_of : Cal l.prog w K mg base 4 "tally_of" 1 sp_tally_of := cal_of F22 (PySem.W.mg_of X G a22) b22 (ok_tally_of F22 Z (x_check_round.mono (by decide)) (x_round_of.mono (by decide)) (x_times_at.mono (by decide)))
  have b23 := F23.binds (ps := ["script", "k"]) fun _ _ _ _ _ _ us hl => match us, hl with | [_, _], _ => rfl
  have x__law_cell_at : Cal l.prog w K mg base 1 "_law_cell_at" 2 sp__law_cell_at := cal_of F23 (PySem.W.mg_of X G a23) b23 (ok__law_cell_at F23 Z )
  have b24 := F24.binds (ps := ["seed"]) fun _ _ _ _ _ _ us hl => match us, hl with | [_], _ => rfl
  have x__law_next : Cal l.prog w K mg base 1 "_law_next" 1 sp__law_next := cal_of F24 (PySem.W.mg_of X G a24) b24 (ok__law_next F24 Z )
  have b25 := F25.binds (ps := ["cell"]) fun _ _ _ _ _ _ us hl => match us, hl with | [_], _ => rfl
  have x__law_pen_of : Cal l.prog w K mg base 1 "_law_pen_of" 1 sp__law_pen_of := cal_of F25 (PySem.W.mg_of X G a25) b25 (ok__law_pen_of F25 Z )
  have b26 := F26.binds (ps := ["pen", "many"]) fun _ _ _ _ _ _ us hl => match us, hl with | [_, _], _ => rfl
  have x__law_draw : Cal l.prog w K mg base 2 "_law_draw" 2 sp__law_draw := cal_of F26 (PySem.W.mg_of X G a26) b26 (ok__law_draw F26 Z (x__law_next.mono (by decide)))
  have b27 := F27.binds (ps := ["pen", "most"]) fun _ _ _ _ _ _ us hl => match us, hl with | [_, _], _ => rfl
  have x__law_clock_by : Cal l.prog w K mg base 3 "_law_clock_by" 2 sp__law_clock_by := cal_of F27 (PySem.W.mg_of X G a27) b27 (ok__law_clock_by F27 Z (x__law_draw.mono (by decide)))
  have b28 := F28.binds (ps := ["pen", "least", "most"]) fun _ _ _ _ _ _ us hl => match us, hl with | [_, _, _], _ => rfl
  have x__law_parts_by : Cal l.prog w K mg base 3 "_law_parts_by" 3 sp__law_parts_by := cal_of F28 (PySem.W.mg_of X G a28) b28 (ok__law_parts_by F28 Z (x__law_draw.mono (by decide)))
  have b29 := F29.binds (ps := ["pen", "most"]) fun _ _ _ _ _ _ us hl => match us, hl with | [_, _], _ => rfl
  have x__law_clocks_by : Cal l.prog w K mg base 4 "_law_clocks_by" 2 sp__law_clocks_by := cal_of F29 (PySem.W.mg_of X G a29) b29 (ok__law_clocks_by F29 Z (x__law_draw.mono (by decide)) (x__law_clock_by.mono (by decide)) (x__law_parts_by.mono (by decide)))
  have b30 := F30.binds (ps := ["one", "other"]) fun _ _ _ _ _ _ us hl => match us, hl with | [_, _], _ => rfl
  have x__law_common : Cal l.prog w K mg base 1 "_law_common" 2 sp__law_common := cal_of F30 (PySem.W.mg_of X G a30) b30 (ok__law_common F30 Z )
  have b31 := F31.binds (ps := ["clocks"]) fun _ _ _ _ _ _ us hl => match us, hl with | [_], _ => rfl
  have x__law_round : Cal l.prog w K mg base 2 "_law_round" 1 sp__law_round_k03 := cal_of F31 (PySem.W.mg_of X G a31) b31 (ok__law_round F31 Z (x__law_common.mono (by decide)))
  have b32 := F32.binds (ps := ["clocks", "bound"]) fun _ _ _ _ _ _ us hl => match us, hl with | [_, _], _ => rfl
  have x__law_bounds_right : Cal l.prog w K mg base 5 "_law_bounds_right" 2 sp__law_bounds_right := cal_of F32 (PySem.W.mg_of X G a32) b32 (ok__law_bounds_right F32 Z (x_rung_below.mono (by decide)) (x_times_at.mono (by decide)))
  have b33 := F33.binds (ps := ["clocks", "n"]) fun _ _ _ _ _ _ us hl => match us, hl with | [_, _], _ => rfl
  have x__law_missed_right : Cal l.prog w K mg base 5 "_law_missed_right" 2 sp__law_missed_right_k52 := cal_of F33 (PySem.W.mg_of X G a33) b33 (ok__law_missed_right F33 Z (x_nth_missed.mono (by decide)) (x_missed_ahead.mono (by decide)) (x_rings_at.mono (by decide)) (x_rung_below.mono (by decide)) (x_next_missed.mono (by decide)) (x_last_missed.mono (by decide)))
  exact top_ok (ok_law F34 Z (x__law_cell_at.mono (by decide)) (x__law_pen_of.mono (by decide)) (x__law_clocks_by.mono (by decide)) (x__law_round.mono (by decide)) (x_round_of.mono (by decide)) (x_tally_of.mono (by decide)) (x_rung_below.mono (by decide)) (x__law_draw.mono (by decide)) (x__law_bounds_right.mono (by decide)) (x_next_missed.mono (by decide)) (x_rings_at.mono (by decide)) (x_last_missed.mono (by decide)) (x__law_missed_right.mono (by decide)))
end K52
end Dl
end L2
open PySem PySem.W PyProof.Rows
set_option maxHeartbeats 0 in
theorem PySem.Challenge.cw_coverclocks_k52_whole_far_counts_holds : PySem.Challenge.rw_coverclocks_k52_whole_far_counts.Holds := by
  w_on; o_law; k_head; (case hw => w_witness2)
  k_fill
  refine L2.walk_of (l := PySem.Challenge.rw_coverclocks_k52_whole_far_counts) (n := 63) (k := 6) (x := "script") (CX := fun w => L2N.CX PySem.Challenge.rw_coverclocks_k52_whole_far_counts.prog w) (sp := fun w => L2.Dl.spTop _) rfl (by decide) rfl ⟨rfl, by decide, by decide⟩ (fun w h Y => PySem.W.kIn_of Y) ?F (fun _ _ a ns hl hO hS => ⟨a, ns, rfl, hl, hS, fun _ _ e => e⟩) (fun _ _ _ _ _ h => L2.Dl.noCX h)
  case F =>
    intro w mg fa h KX G hmg
    refine' L2.Dl.K52.all_mk KX G hmg ?a1 ?l1 ?c1 ?k1 ?a2 ?l2 ?c2 ?k2 ?a3 ?l3 ?c3 ?k3 ?a4 ?l4 ?c4 ?k4 ?a5 ?l5 ?c5 ?k5 ?a6 ?l6 ?c6 ?k6 ?a7 ?l7 ?c7 ?k7 ?a8 ?l8 ?c8 ?k8 ?a9 ?l9 ?c9 ?k9 ?a10 ?l10 ?c10 ?k10 ?a11 ?l11 ?c11 ?k11 ?a12 ?l12 ?c12 ?k12 ?a13 ?l13 ?c13 ?k13 ?a14 ?l14 ?c14 ?k14 ?a15 ?l15 ?c15 ?k15 ?a16 ?l16 ?c16 ?k16 ?a17 ?l17 ?c17 ?k17 ?a18 ?l18 ?c18 ?k18 ?a19 ?l19 ?c19 ?k19 ?a20 ?l20 ?c20 ?k20 ?a21 ?l21 ?c21 ?k21 ?a22 ?l22 ?c22 ?k22 ?a23 ?l23 ?c23 ?k23 ?a24 ?l24 ?c24 ?k24 ?a25 ?l25 ?c25 ?k25 ?a26 ?l26 ?c26 ?k26 ?a27 ?l27 ?c27 ?k27 ?a28 ?l28 ?c28 ?k28 ?a29 ?l29 ?c29 ?k29 ?a30 ?l30 ?c30 ?k30 ?a31 ?l31 ?c31 ?k31 ?a32 ?l32 ?c32 ?k32 ?a33 ?l33 ?c33 ?k33 ?a34 ?l34 ?c34 ?k34 ?z1 ?z2 ?z3 ?z4 ?z5 ?z6 ?z7 ?z8 ?z9 ?z10 ?z11 ?z12 ?z13 ?q1 ?q2
    (case a1 => k_is)
    (case l1 => k_is)
    (case c1 => k_is)
    (case k1 => k_is)
    (case a2 => k_is)
    (case l2 => k_is)
    (case c2 => k_is)
    (case k2 => k_is)
    (case a3 => k_is)
    (case l3 => k_is)
    (case c3 => k_is)
    (case k3 => k_is)
    (case a4 => k_is)
    (case l4 => k_is)
    (case c4 => k_is)
    (case k4 => k_is)
    (case a5 => k_is)
    (case l5 => k_is)
    (case c5 => k_is)
    (case k5 => k_is)
    (case a6 => k_is)
    (case l6 => k_is)
    (case c6 => k_is)
    (case k6 => k_is)
    (case a7 => k_is)
    (case l7 => k_is)
    (case c7 => k_is)
    (case k7 => k_is)
    (case a8 => k_is)
    (case l8 => k_is)
    (case c8 => k_is)
    (case k8 => k_is)
    (case a9 => k_is)
    (case l9 => k_is)
    (case c9 => k_is)
    (case k9 => k_is)
    (case a10 => k_is)
    (case l10 => k_is)
    (case c10 => k_is)
    (case k10 => k_is)
    (case a11 => k_is)
    (case l11 => k_is)
    (case c11 => k_is)
    (case k11 => k_is)
    (case a12 => k_is)
    (case l12 => k_is)
    (case c12 => k_is)
    (case k12 => k_is)
    (case a13 => k_is)
    (case l13 => k_is)
    (case c13 => k_is)
    (case k13 => k_is)
    (case a14 => k_is)
    (case l14 => k_is)
    (case c14 => k_is)
    (case k14 => k_is)
    (case a15 => k_is)
    (case l15 => k_is)
    (case c15 => k_is)
    (case k15 => k_is)
    (case a16 => k_is)
    (case l16 => k_is)
    (case c16 => k_is)
    (case k16 => k_is)
    (case a17 => k_is)
    (case l17 => k_is)
    (case c17 => k_is)
    (case k17 => k_is)
    (case a18 => k_is)
    (case l18 => k_is)
    (case c18 => k_is)
    (case k18 => k_is)
    (case a19 => k_is)
    (case l19 => k_is)
    (case c19 => k_is)
    (case k19 => k_is)
    (case a20 => k_is)
    (case l20 => k_is)
    (case c20 => k_is)
    (case k20 => k_is)
    (case a21 => k_is)
    (case l21 => k_is)
    (case c21 => k_is)
    (case k21 => k_is)
    (case a22 => k_is)
    (case l22 => k_is)
    (case c22 => k_is)
    (case k22 => k_is)
    (case a23 => k_is)
    (case l23 => k_is)
    (case c23 => k_is)
    (case k23 => k_is)
    (case a24 => k_is)
    (case l24 => k_is)
    (case c24 => k_is)
    (case k24 => k_is)
    (case a25 => k_is)
    (case l25 => k_is)
    (case c25 => k_is)
    (case k25 => k_is)
    (case a26 => k_is)
    (case l26 => k_is)
    (case c26 => k_is)
    (case k26 => k_is)
    (case a27 => k_is)
    (case l27 => k_is)
    (case c27 => k_is)
    (case k27 => k_is)
    (case a28 => k_is)
    (case l28 => k_is)
    (case c28 => k_is)
    (case k28 => k_is)
    (case a29 => k_is)
    (case l29 => k_is)
    (case c29 => k_is)
    (case k29 => k_is)
    (case a30 => k_is)
    (case l30 => k_is)
    (case c30 => k_is)
    (case k30 => k_is)
    (case a31 => k_is)
    (case l31 => k_is)
    (case c31 => k_is)
    (case k31 => k_is)
    (case a32 => k_is)
    (case l32 => k_is)
    (case c32 => k_is)
    (case k32 => k_is)
    (case a33 => k_is)
    (case l33 => k_is)
    (case c33 => k_is)
    (case k33 => k_is)
    (case a34 => k_is)
    (case l34 => k_is)
    (case c34 => k_is)
    (case k34 => k_is)
    (case z1 => k_is)
    (case z2 => k_is)
    (case z3 => k_is)
    (case z4 => k_is)
    (case z5 => k_is)
    (case z6 => k_is)
    (case z7 => k_is)
    (case z8 => k_is)
    (case z9 => k_is)
    (case z10 => k_is)
    (case z11 => k_is)
    (case z12 => k_is)
    (case z13 => k_is)
    (case q1 => k_is)
    (case q2 => k_is)
